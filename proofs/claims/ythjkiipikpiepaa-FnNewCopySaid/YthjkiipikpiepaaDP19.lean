import Derived.Test.YthjkiipikpiepaaDS
import Derived.Test.YthjkiipikpiepaaM8
import Derived.Test.YthjkiipikpiepaaDP24
set_option linter.unusedSimpArgs false
set_option linter.unusedVariables false
namespace Go.Proofs.Try
open Go.Ab Go.RowKit
/-- cmp.Compare[int] -/
def fs19 : FnS := fnS [.o, .o] [.int, .int] (fun _ (a, b, _) => (.i (cmpI a b), [], True))
abbrev T19 : Tab := lk [(24, fs24)]
theorem tab19 : TabOK prog T19 := (TabOK.cons ok24 ent24 TabOK.nil)
set_option maxRecDepth 100000 in
set_option maxHeartbeats 1000000 in
theorem ok19 : FnOK prog 19 fs19 := by
  refine FnOK.mk cok func19 rfl rfl rfl ?_
  rintro fl ⟨(a : Int), (b : Int), _⟩ hpre F hnt0 _
  have hnt : F.nt = 20 := hnt0.trans ntmps19
  clear hpre
  refine W.to (⟨[(0, .i a), (1, .i b)], [], [999]⟩) rfl ?_
  refine W.K cok tab19 hnt [] [0, 1] (⟨[(0, .i a), (1, .i b)], [], [999]⟩)
    (True ∧ True) (by kernel_rfl)
    ⟨trivial, trivial⟩ ?_
  refine W.K cok tab19 hnt [] [0, 1, 5] (⟨[(0, .i a), (1, .i b), (5, .b false)], [], [999]⟩)
    (True ∧ ((True ∧ ((True ∧ True) ∧ True)) ∧ (True ∧ True))) (by kernel_rfl)
    ⟨trivial, ⟨⟨trivial, ⟨⟨trivial, trivial⟩, trivial⟩⟩, ⟨trivial, trivial⟩⟩⟩ ?_
  refine W.K cok tab19 hnt [] [0, 1, 5, 6] (⟨[(0, .i a), (1, .i b), (5, .b false), (6, .b false)], [], [999]⟩)
    (True ∧ ((True ∧ ((True ∧ True) ∧ True)) ∧ (True ∧ True))) (by kernel_rfl)
    ⟨trivial, ⟨⟨trivial, ⟨⟨trivial, trivial⟩, trivial⟩⟩, ⟨trivial, trivial⟩⟩⟩ ?_
  refine W.seq ?_
  refine W.K cok tab19 hnt [] [0, 1, 6, 11] (⟨[(0, .i a), (1, .i b), (6, .b false), (11, .b false)], [], [999]⟩)
    (True ∧ True) (by kernel_rfl)
    ⟨trivial, trivial⟩ ?_
  refine W.if' false (.b false) (by kernel_rfl) rfl trivial ?_ ?_
  · intro h11
    refine W.seq ?_
    refine W.K cok tab19 hnt [] [12] (⟨[(12, .b false)], [], [999]⟩)
      (True ∧ True) (by kernel_rfl)
      ⟨trivial, trivial⟩ ?_
    refine W.if' false (.b false) (by kernel_rfl) rfl trivial ?_ ?_
    · intro h12
      refine W.K cok tab19 hnt [] [4] (⟨[(4, .i (0 : Int))], [], [999]⟩)
        (True ∧ True) (by kernel_rfl)
        ⟨trivial, trivial⟩ ?_
      refine W.ret (thenQ_ret (thenQ_ret ?_))
      exact endQ_ret (.i (0 : Int)) (by kernel_rfl) (@cast ((.int .i64 (0 : Int) : Value) = .int .i64 (cmpI a b)) _ (by kernel_rfl) (congrArg (Value.int .i64) (by cases h11)))
    · intro n12
      refine W.skip (thenQ_normal ?_)
      refine W.K cok tab19 hnt [] [4] (⟨[(4, .i (-1 : Int))], [], [999]⟩)
        (True ∧ True) (by kernel_rfl)
        ⟨trivial, trivial⟩ ?_
      refine W.ret (thenQ_ret ?_)
      exact endQ_ret (.i (-1 : Int)) (by kernel_rfl) (@cast ((.int .i64 (-1 : Int) : Value) = .int .i64 (cmpI a b)) _ (by kernel_rfl) (congrArg (Value.int .i64) (by cases h11)))
  · intro n11
    refine W.skip (thenQ_normal ?_)
    refine W.seq ?_
    refine W.K cok tab19 hnt [] [0, 1, 13] (⟨[(0, .i a), (1, .i b), (13, .b false)], [], [999]⟩)
      (True ∧ True) (by kernel_rfl)
      ⟨trivial, trivial⟩ ?_
    refine W.if' false (.b false) (by kernel_rfl) rfl trivial ?_ ?_
    · intro h13
      refine W.K cok tab19 hnt [] [4] (⟨[(4, .i (1 : Int))], [], [999]⟩)
        (True ∧ True) (by kernel_rfl)
        ⟨trivial, trivial⟩ ?_
      refine W.ret (thenQ_ret ?_)
      exact endQ_ret (.i (1 : Int)) (by kernel_rfl) (@cast ((.int .i64 (1 : Int) : Value) = .int .i64 (cmpI a b)) _ (by kernel_rfl) (congrArg (Value.int .i64) (by cases h13)))
    · intro n13
      refine W.skip (thenQ_normal ?_)
      refine W.seq ?_
      refine W.K cok tab19 hnt [] [0, 1, 16] (⟨[(0, .i a), (1, .i b), (16, .b (decide (a < b)))], [], [999]⟩)
        (True ∧ (True ∧ ((True ∧ (True ∧ True)) ∧ True))) (by kernel_rfl)
        ⟨trivial, ⟨trivial, ⟨⟨trivial, ⟨trivial, trivial⟩⟩, trivial⟩⟩⟩ ?_
      refine W.ifP (a < b) (.b (decide (a < b))) (by kernel_rfl) rfl trivial ?_ ?_
      · intro h16
        refine W.K cok tab19 hnt [] [4] (⟨[(4, .i (-1 : Int))], [], [999]⟩)
          (True ∧ True) (by kernel_rfl)
          ⟨trivial, trivial⟩ ?_
        refine W.ret (thenQ_ret ?_)
        exact endQ_ret (.i (-1 : Int)) (by kernel_rfl) (@cast ((.int .i64 (-1 : Int) : Value) = .int .i64 (cmpI a b)) _ (by kernel_rfl) (congrArg (Value.int .i64) (by unfold cmpI; rw [decide_eq_true h16]; rfl)))
      · intro n16
        refine W.skip (thenQ_normal ?_)
        refine W.seq ?_
        refine W.K cok tab19 hnt [] [19] (⟨[(19, .b (decide (b < a)))], [], [999]⟩)
          (True ∧ (True ∧ ((True ∧ (True ∧ True)) ∧ True))) (by kernel_rfl)
          ⟨trivial, ⟨trivial, ⟨⟨trivial, ⟨trivial, trivial⟩⟩, trivial⟩⟩⟩ ?_
        refine W.ifP (b < a) (.b (decide (b < a))) (by kernel_rfl) rfl trivial ?_ ?_
        · intro h19
          refine W.K cok tab19 hnt [] [4] (⟨[(4, .i (1 : Int))], [], [999]⟩)
            (True ∧ True) (by kernel_rfl)
            ⟨trivial, trivial⟩ ?_
          refine W.ret (thenQ_ret ?_)
          exact endQ_ret (.i (1 : Int)) (by kernel_rfl) (@cast ((.int .i64 (1 : Int) : Value) = .int .i64 (cmpI a b)) _ (by kernel_rfl) (congrArg (Value.int .i64) (by unfold cmpI; rw [decide_eq_false n16, decide_eq_true h19]; rfl)))
        · intro n19
          refine W.skip (thenQ_normal ?_)
          refine W.K cok tab19 hnt [] [4] (⟨[(4, .i (0 : Int))], [], [999]⟩)
            (True ∧ True) (by kernel_rfl)
            ⟨trivial, trivial⟩ ?_
          refine W.ret ?_
          exact endQ_ret (.i (0 : Int)) (by kernel_rfl) (@cast ((.int .i64 (0 : Int) : Value) = .int .i64 (cmpI a b)) _ (by kernel_rfl) (congrArg (Value.int .i64) (by unfold cmpI; rw [decide_eq_false n16, decide_eq_false n19]; rfl)))
theorem ent19 : Entr prog 19 := ⟨_, func19, rfl, by decide⟩

end Go.Proofs.Try
