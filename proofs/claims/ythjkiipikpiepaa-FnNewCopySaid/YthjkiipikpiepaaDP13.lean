import Derived.Test.YthjkiipikpiepaaDS
import Derived.Test.YthjkiipikpiepaaM8
import Derived.Test.YthjkiipikpiepaaDP19
import Derived.Test.YthjkiipikpiepaaDP18
set_option linter.unusedSimpArgs false
set_option linter.unusedVariables false
namespace Go.Proofs.Try
open Go.Ab Go.RowKit
/-- impl.compareMarks -/
def fs13 : FnS := fnS [.o, .o] [.mark, .mark] (fun _ (a, b, _) => (.i (cmpM a b), [], True))
abbrev T13 : Tab := lk [(18, fs18), (19, fs19)]
theorem tab13 : TabOK prog T13 := (TabOK.cons ok18 ent18 (TabOK.cons ok19 ent19 TabOK.nil))
set_option maxRecDepth 100000 in
set_option maxHeartbeats 1000000 in
theorem ok13 : FnOK prog 13 fs13 := by
  refine FnOK.mk cok func13 rfl rfl rfl ?_
  rintro fl ⟨(a : MarkD), (b : MarkD), _⟩ hpre F hnt0 _
  have hnt : F.nt = 17 := hnt0.trans ntmps13
  clear hpre
  refine W.to (⟨[(0, .agg [.i a.value, .i a.proc, .i a.number, .b a.gone]), (1, .agg [.i b.value, .i b.proc, .i b.number, .b b.gone])], [], [999]⟩) rfl ?_
  refine W.K cok tab13 hnt [] [2, 3] (⟨[(2, .ptr 2 0), (3, .ptr 3 0)], [(2, ⟨34, .fix [.i a.value, .i a.proc, .i a.number, .b a.gone]⟩), (3, ⟨34, .fix [.i b.value, .i b.proc, .i b.number, .b b.gone]⟩)], [3, 2, 999]⟩)
    (True ∧ (True ∧ (True ∧ True))) (by kernel_rfl)
    ⟨trivial, ⟨trivial, ⟨trivial, trivial⟩⟩⟩ ?_
  refine W.KA cok tab13 hnt [] [4] (⟨[(4, .i (orI ([(cmpI a.proc b.proc), (cmpI a.number b.number)])))], [(2, ⟨34, .fix [.i a.value, .i a.proc, .i a.number, .b a.gone]⟩), (3, ⟨34, .fix [.i b.value, .i b.proc, .i b.number, .b b.gone]⟩)], [15, 3, 2, 999]⟩)
    (True ∧ (True ∧ (True ∧ (True ∧ ((True ∧ ((True ∧ (True ∧ True)) ∧ True)) ∧ (True ∧ (True ∧ (True ∧ (True ∧ ((True ∧ ((True ∧ (True ∧ True)) ∧ True)) ∧ ((True ∧ (True ∧ True)) ∧ ((True ∧ ((True ∧ True) ∧ True)) ∧ (True ∧ True))))))))))))) (by kernel_rfl) (by kernel_rfl)
    ⟨trivial, ⟨trivial, ⟨trivial, ⟨trivial, ⟨⟨trivial, ⟨⟨trivial, ⟨trivial, trivial⟩⟩, trivial⟩⟩, ⟨trivial, ⟨trivial, ⟨trivial, ⟨trivial, ⟨⟨trivial, ⟨⟨trivial, ⟨trivial, trivial⟩⟩, trivial⟩⟩, ⟨⟨trivial, ⟨trivial, trivial⟩⟩, ⟨⟨trivial, ⟨⟨trivial, trivial⟩, trivial⟩⟩, ⟨trivial, trivial⟩⟩⟩⟩⟩⟩⟩⟩⟩⟩⟩⟩⟩ ?_
  refine W.ret ?_
  exact endQ_ret (.i (orI ([(cmpI a.proc b.proc), (cmpI a.number b.number)]))) (by kernel_rfl) (@cast ((.int .i64 (orI ([(cmpI a.proc b.proc), (cmpI a.number b.number)])) : Value) = .int .i64 (cmpM a b)) _ (by kernel_rfl) (congrArg (Value.int .i64) (by first | rfl | simp_all)))
theorem ent13 : Entr prog 13 := ⟨_, func13, rfl, by decide⟩

end Go.Proofs.Try
