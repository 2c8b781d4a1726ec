import Derived.Test.YthjkiipikpiepaaDS
import Derived.Test.YthjkiipikpiepaaM8
import Derived.Test.YthjkiipikpiepaaDP14
set_option linter.unusedSimpArgs false
set_option linter.unusedVariables false
namespace Go.Proofs.Try
open Go.Ab Go.RowKit
/-- impl.isMark -/
def fs12 : FnS := fnS [.o] [.mark] (fun _ (mm, _) => (.b (isMark mm), [], True))
abbrev T12 : Tab := lk [(14, fs14)]
theorem tab12 : TabOK prog T12 := (TabOK.cons ok14 ent14 TabOK.nil)
set_option maxRecDepth 100000 in
set_option maxHeartbeats 1000000 in
theorem ok12 : FnOK prog 12 fs12 := by
  refine FnOK.mk cok func12 rfl rfl rfl ?_
  rintro fl ⟨(mm : MarkD), _⟩ hpre F hnt0 _
  have hnt : F.nt = 16 := hnt0.trans ntmps12
  clear hpre
  refine W.to (⟨[(0, .agg [.i mm.value, .i mm.proc, .i mm.number, .b mm.gone])], [], [999]⟩) rfl ?_
  refine W.K cok tab12 hnt [] [1] (⟨[(1, .ptr 1 0)], [(1, ⟨34, .fix [.i mm.value, .i mm.proc, .i mm.number, .b mm.gone]⟩)], [1, 999]⟩)
    (True ∧ (True ∧ True)) (by kernel_rfl)
    ⟨trivial, ⟨trivial, trivial⟩⟩ ?_
  refine W.K cok tab12 hnt [] [2] (⟨[(2, .b (((within mm.value (0 : Int) (3 : Int)) && (within mm.proc (0 : Int) (2 : Int))) && (within mm.number (1 : Int) (20 : Int))))], [(1, ⟨34, .fix [.i mm.value, .i mm.proc, .i mm.number, .b mm.gone]⟩)], [1, 999]⟩)
    (True ∧ (True ∧ ((True ∧ ((True ∧ (True ∧ (True ∧ True))) ∧ True)) ∧ (True ∧ (((within mm.value (0 : Int) (3 : Int)) = true → True) ∧ (((within mm.value (0 : Int) (3 : Int)) = true → (((within mm.value (0 : Int) (3 : Int)) = true) ∧ True)) ∧ (((within mm.value (0 : Int) (3 : Int)) = true → (True ∧ (((((within mm.value (0 : Int) (3 : Int)) = true) ∧ True) ∧ (True ∧ (True ∧ True))) ∧ True))) ∧ ((True ∧ (((within mm.value (0 : Int) (3 : Int)) = true → ((within mm.value (0 : Int) (3 : Int)) = true) ∧ True) ∧ ((within mm.value (0 : Int) (3 : Int)) = false → True))) ∧ (True ∧ ((((within mm.value (0 : Int) (3 : Int)) && (within mm.proc (0 : Int) (2 : Int))) = true → True) ∧ ((((within mm.value (0 : Int) (3 : Int)) && (within mm.proc (0 : Int) (2 : Int))) = true → ((((within mm.value (0 : Int) (3 : Int)) && (within mm.proc (0 : Int) (2 : Int))) = true) ∧ True)) ∧ ((((within mm.value (0 : Int) (3 : Int)) && (within mm.proc (0 : Int) (2 : Int))) = true → (True ∧ ((((((within mm.value (0 : Int) (3 : Int)) && (within mm.proc (0 : Int) (2 : Int))) = true) ∧ True) ∧ (True ∧ (True ∧ True))) ∧ True))) ∧ ((True ∧ ((((within mm.value (0 : Int) (3 : Int)) && (within mm.proc (0 : Int) (2 : Int))) = true → (((within mm.value (0 : Int) (3 : Int)) && (within mm.proc (0 : Int) (2 : Int))) = true) ∧ True) ∧ (((within mm.value (0 : Int) (3 : Int)) && (within mm.proc (0 : Int) (2 : Int))) = false → True))) ∧ (True ∧ True)))))))))))))) (by kernel_rfl)
    ⟨trivial, ⟨trivial, ⟨⟨trivial, ⟨⟨trivial, ⟨trivial, ⟨trivial, trivial⟩⟩⟩, trivial⟩⟩, ⟨trivial, ⟨(fun _ => trivial), ⟨(fun hG => ⟨hG, trivial⟩), ⟨(fun hG => ⟨trivial, ⟨⟨⟨hG, trivial⟩, ⟨trivial, ⟨trivial, trivial⟩⟩⟩, trivial⟩⟩), ⟨⟨trivial, ⟨(fun hp => ⟨hp, trivial⟩), (fun _ => trivial)⟩⟩, ⟨trivial, ⟨(fun _ => trivial), ⟨(fun hG => ⟨hG, trivial⟩), ⟨(fun hG => ⟨trivial, ⟨⟨⟨hG, trivial⟩, ⟨trivial, ⟨trivial, trivial⟩⟩⟩, trivial⟩⟩), ⟨⟨trivial, ⟨(fun hp => ⟨hp, trivial⟩), (fun _ => trivial)⟩⟩, ⟨trivial, trivial⟩⟩⟩⟩⟩⟩⟩⟩⟩⟩⟩⟩⟩⟩ ?_
  refine W.ret ?_
  exact endQ_ret (.b (((within mm.value (0 : Int) (3 : Int)) && (within mm.proc (0 : Int) (2 : Int))) && (within mm.number (1 : Int) (20 : Int)))) (by kernel_rfl) (@cast ((.bool (((within mm.value (0 : Int) (3 : Int)) && (within mm.proc (0 : Int) (2 : Int))) && (within mm.number (1 : Int) (20 : Int))) : Value) = .bool (isMark mm)) _ (by kernel_rfl) (congrArg Value.bool (by first | rfl | simp_all)))
theorem ent12 : Entr prog 12 := ⟨_, func12, rfl, by decide⟩

end Go.Proofs.Try
