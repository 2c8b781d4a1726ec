import Derived.Test.YtcjnccepckdiaaaAS
import Derived.Test.YtcjnccepckdiaaaM5
import Derived.Test.YtcjnccepckdiaaaAP16
import Derived.Test.YtcjnccepckdiaaaAP112
set_option linter.unusedSimpArgs false
set_option linter.unusedVariables false
namespace Go.Proofs.Try
open Go.Ab Go.RowKit
/-- impl.TurnOf -/
def fs59 : FnS := fnS [.s .calls] [.calls] (fun _ (h, _) => (.tup [.i ((turnOf h).1), .i ((turnOf h).2.1), .b ((turnOf h).2.2)], [], True))
abbrev T59 : Tab := lk [(16, fs16), (112, fs112)]
theorem tab59 : TabOK prog T59 := (TabOK.cons ok16 ent16 (TabOK.cons ok112 ent112 TabOK.nil))
set_option maxRecDepth 100000 in
set_option maxHeartbeats 1000000 in
theorem ok59 : FnOK prog 59 fs59 := by
  refine FnOK.mk func59 rfl rfl rfl ?_
  rintro fl ⟨(h : List CallD), _⟩ hpre F hnt0 _
  have hnt : F.nt = 13 := hnt0.trans ntmps59
  clear hpre
  refine W.to (⟨[(0, .sl (.calls h))], [], [999]⟩) rfl ?_
  refine W.lenOf 0 (.calls h) (by kernel_rfl) ?_
  intro hl_h; replace hl_h : List.length h ≤ 9223372036854775807 := hl_h
  refine W.K cok tab59 hnt [] [0] (⟨[(0, .sl (.calls h))], [], [999]⟩)
    (True ∧ (True ∧ (True ∧ True))) (by kernel_rfl)
    ⟨trivial, ⟨trivial, ⟨trivial, trivial⟩⟩⟩ ?_
  refine W.seq ?_
  refine W.K cok tab59 hnt [] [0, 7] (⟨[(0, .sl (.calls h)), (7, .b (!(oneWriter h)))], [], [999]⟩)
    (True ∧ ((True ∧ ((True ∧ True) ∧ True)) ∧ (True ∧ True))) (by kernel_rfl)
    ⟨trivial, ⟨⟨trivial, ⟨⟨trivial, trivial⟩, trivial⟩⟩, ⟨trivial, trivial⟩⟩⟩ ?_
  refine W.if' (!(oneWriter h)) (.b (!(oneWriter h))) (by kernel_rfl) rfl trivial ?_ ?_
  · intro h7
    refine W.K cok tab59 hnt [] [2, 3, 4] (⟨[(2, .i (-1 : Int)), (3, .i (-1 : Int)), (4, .b false)], [], [999]⟩)
      (True ∧ (True ∧ (True ∧ True))) (by kernel_rfl)
      ⟨trivial, ⟨trivial, ⟨trivial, trivial⟩⟩⟩ ?_
    refine W.ret (thenQ_ret ?_)
    exact endQ_ret (.tup [.i (-1 : Int), .i (-1 : Int), .b false]) (by kernel_rfl) (@cast (((.int .i64 (-1 : Int) : Value) = .int .i64 ((turnOf h).1)) ∧ (((.int .i64 (-1 : Int) : Value) = .int .i64 ((turnOf h).2.1)) ∧ (((.bool false : Value) = .bool ((turnOf h).2.2)) ∧ True))) _ (by kernel_rfl) ⟨(congrArg (Value.int .i64) (by unfold turnOf; rw [not_f h7]; rfl)), ⟨(congrArg (Value.int .i64) (by unfold turnOf; rw [not_f h7]; rfl)), ⟨(congrArg Value.bool (by unfold turnOf; rw [not_f h7]; rfl)), trivial⟩⟩⟩)
  · intro n7
    refine W.skip (thenQ_normal ?_)
    refine W.K cok tab59 hnt [] [2, 3, 4] (⟨[(2, .i ((turn h).1)), (3, .i ((turn h).2.1)), (4, .b ((turn h).2.2))], [], [999]⟩)
      (True ∧ ((True ∧ ((True ∧ True) ∧ True)) ∧ (True ∧ (True ∧ (True ∧ (True ∧ (True ∧ (True ∧ True)))))))) (by kernel_rfl)
      ⟨trivial, ⟨⟨trivial, ⟨⟨trivial, trivial⟩, trivial⟩⟩, ⟨trivial, ⟨trivial, ⟨trivial, ⟨trivial, ⟨trivial, ⟨trivial, trivial⟩⟩⟩⟩⟩⟩⟩⟩ ?_
    refine W.ret ?_
    exact endQ_ret (.tup [.i ((turn h).1), .i ((turn h).2.1), .b ((turn h).2.2)]) (by kernel_rfl) (@cast (((.int .i64 ((turn h).1) : Value) = .int .i64 ((turnOf h).1)) ∧ (((.int .i64 ((turn h).2.1) : Value) = .int .i64 ((turnOf h).2.1)) ∧ (((.bool ((turn h).2.2) : Value) = .bool ((turnOf h).2.2)) ∧ True))) _ (by kernel_rfl) ⟨(congrArg (Value.int .i64) (by unfold turnOf; rw [not_g n7]; rfl)), ⟨(congrArg (Value.int .i64) (by unfold turnOf; rw [not_g n7]; rfl)), ⟨(congrArg Value.bool (by unfold turnOf; rw [not_g n7]; rfl)), trivial⟩⟩⟩)
theorem ent59 : Entr prog 59 := ⟨_, func59, rfl, by decide⟩

end Go.Proofs.Try
