import Derived.Test.YtcjnccepckdiaaaAS
import Derived.Test.YtcjnccepckdiaaaM4
import Derived.Test.YtcjnccepckdiaaaAP91
import Derived.Test.YtcjnccepckdiaaaAP92
set_option linter.unusedSimpArgs false
set_option linter.unusedVariables false
namespace Go.Proofs.Try
open Go.Ab Go.RowKit
/-- spec.WidthOf -/
def fs32 : FnS := fnS [.s .calls] [.calls] (fun _ (h, _) => (.i (widthOf h), [], True))
abbrev T32 : Tab := lk [(91, fs91), (92, fs92)]
theorem tab32 : TabOK prog T32 := (TabOK.cons ok91 ent91 (TabOK.cons ok92 ent92 TabOK.nil))
set_option maxRecDepth 100000 in
set_option maxHeartbeats 1000000 in
theorem ok32 : FnOK prog 32 fs32 := by
  refine FnOK.mk func32 rfl rfl rfl ?_
  rintro fl ⟨(h : List CallD), _⟩ hpre F hnt0 _
  have hnt : F.nt = 8 := hnt0.trans ntmps32
  clear hpre
  refine W.to (⟨[(0, .sl (.calls h))], [], [999]⟩) rfl ?_
  refine W.lenOf 0 (.calls h) (by kernel_rfl) ?_
  intro hl_h; replace hl_h : List.length h ≤ 9223372036854775807 := hl_h
  refine W.K cok tab32 hnt [] [0] (⟨[(0, .sl (.calls h))], [], [999]⟩)
    (True ∧ True) (by kernel_rfl)
    ⟨trivial, trivial⟩ ?_
  refine W.seq ?_
  refine W.K cok tab32 hnt [] [0, 5] (⟨[(0, .sl (.calls h)), (5, .b (!(validHistory h)))], [], [999]⟩)
    (True ∧ ((True ∧ ((True ∧ True) ∧ True)) ∧ (True ∧ True))) (by kernel_rfl)
    ⟨trivial, ⟨⟨trivial, ⟨⟨trivial, trivial⟩, trivial⟩⟩, ⟨trivial, trivial⟩⟩⟩ ?_
  refine W.if' (!(validHistory h)) (.b (!(validHistory h))) (by kernel_rfl) rfl trivial ?_ ?_
  · intro h5
    refine W.K cok tab32 hnt [] [2] (⟨[(2, .i (-1 : Int))], [], [999]⟩)
      (True ∧ True) (by kernel_rfl)
      ⟨trivial, trivial⟩ ?_
    refine W.ret (thenQ_ret ?_)
    exact endQ_ret (.i (-1 : Int)) (by kernel_rfl) (@cast ((.int .i64 (-1 : Int) : Value) = .int .i64 (widthOf h)) _ (by kernel_rfl) (congrArg (Value.int .i64) (by unfold widthOf; rw [not_f h5]; rfl)))
  · intro n5
    refine W.skip (thenQ_normal ?_)
    refine W.K cok tab32 hnt [] [2] (⟨[(2, .i (widthS h))], [], [999]⟩)
      (True ∧ ((True ∧ ((True ∧ True) ∧ True)) ∧ (True ∧ True))) (by kernel_rfl)
      ⟨trivial, ⟨⟨trivial, ⟨⟨trivial, trivial⟩, trivial⟩⟩, ⟨trivial, trivial⟩⟩⟩ ?_
    refine W.ret ?_
    exact endQ_ret (.i (widthS h)) (by kernel_rfl) (@cast ((.int .i64 (widthS h) : Value) = .int .i64 (widthOf h)) _ (by kernel_rfl) (congrArg (Value.int .i64) (by unfold widthOf; rw [not_g n5]; exact width_eq (not_g n5))))
theorem ent32 : Entr prog 32 := ⟨_, func32, rfl, by decide⟩

end Go.Proofs.Try
