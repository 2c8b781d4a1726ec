import Derived.Test.YtcjnccepckdiaaaAS
import Derived.Test.YtcjnccepckdiaaaM10
import Derived.Test.YtcjnccepckdiaaaAP124
import Derived.Test.YtcjnccepckdiaaaAP123
import Derived.Test.YtcjnccepckdiaaaAP125
import Derived.Test.YtcjnccepckdiaaaAP126
import Derived.Test.YtcjnccepckdiaaaAP127
set_option linter.unusedSimpArgs false
set_option linter.unusedVariables false
namespace Go.Proofs.Try
open Go.Ab Go.RowKit
/-- impl.step -/
def fs72 : FnS := fnS [.o, .s .ints, .o] [.str, .ints, .call] (fun _ (s, l, c, _) => (.tup [.sl (.ints ((iStep s l c).1)), .i ((iStep s l c).2)], [], (∀ j, j < l.length → 0 ≤ l.getD j 0 ∧ l.getD j 0 ≤ 20) ∧ (0 ≤ c.arg ∧ c.arg ≤ 3) ∧ (l.length ≤ 20)))
abbrev T72 : Tab := lk [(123, fs123), (124, fs124), (125, fs125), (126, fs126), (127, fs127)]
theorem tab72 : TabOK prog T72 := (TabOK.cons ok123 ent123 (TabOK.cons ok124 ent124 (TabOK.cons ok125 ent125 (TabOK.cons ok126 ent126 (TabOK.cons ok127 ent127 TabOK.nil)))))
set_option maxRecDepth 100000 in
set_option maxHeartbeats 1000000 in
theorem ok72 : FnOK prog 72 fs72 := by
  refine FnOK.mk cok func72 rfl rfl rfl ?_
  rintro fl ⟨(s : ByteArray), (l : List Int), (c : CallD), _⟩ hpre F hnt0 _
  have hnt : F.nt = 33 := hnt0.trans ntmps72
  replace hpre : (∀ j, j < l.length → 0 ≤ l.getD j 0 ∧ l.getD j 0 ≤ 20) ∧ (0 ≤ c.arg ∧ c.arg ≤ 3) ∧ (l.length ≤ 20) := hpre
  obtain ⟨hs, ha, hl⟩ := hpre
  refine W.to (⟨[(0, .v (.string s)), (1, .sl (.ints l)), (2, .agg [.i c.proc, .i c.obj, .i c.kind, .i c.arg, .i c.ret, .i c.frm, .i c.to])], [], [999]⟩) rfl ?_
  refine W.lenOf 1 (.ints l) (by kernel_rfl) ?_
  intro hl_l; replace hl_l : List.length l ≤ 9223372036854775807 := hl_l
  refine W.K cok tab72 hnt [] [0, 1, 5] (⟨[(0, .v (.string s)), (1, .sl (.ints l)), (5, .ptr 5 0)], [(5, ⟨27, .fix [.i c.proc, .i c.obj, .i c.kind, .i c.arg, .i c.ret, .i c.frm, .i c.to]⟩)], [5, 999]⟩)
    (True ∧ (True ∧ (True ∧ True))) (by kernel_rfl)
    ⟨trivial, ⟨trivial, ⟨trivial, trivial⟩⟩⟩ ?_
  refine W.K cok tab72 hnt [9] [0, 1, 5] (⟨[(0, .v (.string s)), (1, .own 9 (List.length l)), (5, .ptr 5 0)], [(5, ⟨27, .fix [.i c.proc, .i c.obj, .i c.kind, .i c.arg, .i c.ret, .i c.frm, .i c.to]⟩), (9, ⟨3, .row (.ints l)⟩)], [9, 5, 999]⟩)
    (True ∧ ((True ∧ ((True ∧ True) ∧ (l.length * 8 ≤ 140737488355328))) ∧ (True ∧ True))) (by kernel_rfl)
    ⟨trivial, ⟨⟨trivial, ⟨⟨trivial, trivial⟩, (by omega)⟩⟩, ⟨trivial, trivial⟩⟩⟩ ?_
  refine W.seq ?_
  refine W.block ?_
  refine W.K cok tab72 hnt [] [0, 1, 5, 10] (⟨[(0, .v (.string s)), (1, .own 9 (List.length l)), (5, .ptr 5 0), (10, .b (isSingle s))], [(5, ⟨27, .fix [.i c.proc, .i c.obj, .i c.kind, .i c.arg, .i c.ret, .i c.frm, .i c.to]⟩), (9, ⟨3, .row (.ints l)⟩)], [9, 5, 999]⟩)
    (True ∧ ((True ∧ ((True ∧ True) ∧ True)) ∧ (True ∧ True))) (by kernel_rfl)
    ⟨trivial, ⟨⟨trivial, ⟨⟨trivial, trivial⟩, trivial⟩⟩, ⟨trivial, trivial⟩⟩⟩ ?_
  refine W.if' (isSingle s) (.b (isSingle s)) (by kernel_rfl) rfl trivial ?_ ?_
  · intro h10
    refine W.K cok tab72 hnt [] [6, 7] (⟨[(6, .sl (.ints ((iSingle s l c).1))), (7, .i ((iSingle s l c).2))], [(5, ⟨27, .fix [.i c.proc, .i c.obj, .i c.kind, .i c.arg, .i c.ret, .i c.frm, .i c.to]⟩)], [9, 5, 999]⟩)
      (True ∧ (True ∧ (True ∧ ((True ∧ ((True ∧ ((True ∧ ((List.length l) = (List.length l))) ∧ (True ∧ True))) ∧ ((∀ j, j < l.length → 0 ≤ l.getD j 0 ∧ l.getD j 0 ≤ 20) ∧ ((0 ≤ c.arg ∧ c.arg ≤ 3) ∧ (l.length ≤ 20))))) ∧ (True ∧ (True ∧ (True ∧ (True ∧ True)))))))) (by kernel_rfl)
      ⟨trivial, ⟨trivial, ⟨trivial, ⟨⟨trivial, ⟨⟨trivial, ⟨⟨trivial, rfl⟩, ⟨trivial, trivial⟩⟩⟩, ⟨(by omega), ⟨(by omega), (by omega)⟩⟩⟩⟩, ⟨trivial, ⟨trivial, ⟨trivial, ⟨trivial, trivial⟩⟩⟩⟩⟩⟩⟩⟩ ?_
    refine W.ret (blockQ_ret (thenQ_ret ?_))
    exact endQ_ret (.tup [.sl (.ints ((iSingle s l c).1)), .i ((iSingle s l c).2)]) (by kernel_rfl) (@cast (((.ints ((iSingle s l c).1) : Dat) = .ints ((iStep s l c).1)) ∧ (((.int .i64 ((iSingle s l c).2) : Value) = .int .i64 ((iStep s l c).2)) ∧ True)) _ (by kernel_rfl) ⟨(congrArg Dat.ints (by simp only [iStep, h10, cond_true, cond_false, Bool.and_true, Bool.true_and, Bool.and_false, Bool.false_and, Bool.or_true, Bool.true_or, Bool.or_false, Bool.false_or, Bool.not_true, Bool.not_false])), ⟨(congrArg (Value.int .i64) (by simp only [iStep, h10, cond_true, cond_false, Bool.and_true, Bool.true_and, Bool.and_false, Bool.false_and, Bool.or_true, Bool.true_or, Bool.or_false, Bool.false_or, Bool.not_true, Bool.not_false])), trivial⟩⟩)
  · intro n10
    refine W.K cok tab72 hnt [] [0, 1, 5, 19] (⟨[(0, .v (.string s)), (1, .own 9 (List.length l)), (5, .ptr 5 0), (19, .b (eqS s nSet))], [(5, ⟨27, .fix [.i c.proc, .i c.obj, .i c.kind, .i c.arg, .i c.ret, .i c.frm, .i c.to]⟩), (9, ⟨3, .row (.ints l)⟩)], [9, 5, 999]⟩)
      (True ∧ ((True ∧ (True ∧ True)) ∧ (True ∧ True))) (by kernel_rfl)
      ⟨trivial, ⟨⟨trivial, ⟨trivial, trivial⟩⟩, ⟨trivial, trivial⟩⟩⟩ ?_
    refine W.if' (eqS s nSet) (.b (eqS s nSet)) (by kernel_rfl) rfl trivial ?_ ?_
    · intro h19
      refine W.K cok tab72 hnt [] [6, 7] (⟨[(6, .sl (.ints ((iSet l c).1))), (7, .i ((iSet l c).2))], [(5, ⟨27, .fix [.i c.proc, .i c.obj, .i c.kind, .i c.arg, .i c.ret, .i c.frm, .i c.to]⟩)], [9, 5, 999]⟩)
        (True ∧ (True ∧ ((True ∧ (((True ∧ ((List.length l) = (List.length l))) ∧ (True ∧ True)) ∧ ((∀ j, j < l.length → 0 ≤ l.getD j 0 ∧ l.getD j 0 ≤ 20) ∧ ((0 ≤ c.arg ∧ c.arg ≤ 3) ∧ (l.length ≤ 20))))) ∧ (True ∧ (True ∧ (True ∧ (True ∧ True))))))) (by kernel_rfl)
        ⟨trivial, ⟨trivial, ⟨⟨trivial, ⟨⟨⟨trivial, rfl⟩, ⟨trivial, trivial⟩⟩, ⟨(by omega), ⟨(by omega), (by omega)⟩⟩⟩⟩, ⟨trivial, ⟨trivial, ⟨trivial, ⟨trivial, trivial⟩⟩⟩⟩⟩⟩⟩ ?_
      refine W.ret (blockQ_ret (thenQ_ret ?_))
      exact endQ_ret (.tup [.sl (.ints ((iSet l c).1)), .i ((iSet l c).2)]) (by kernel_rfl) (@cast (((.ints ((iSet l c).1) : Dat) = .ints ((iStep s l c).1)) ∧ (((.int .i64 ((iSet l c).2) : Value) = .int .i64 ((iStep s l c).2)) ∧ True)) _ (by kernel_rfl) ⟨(congrArg Dat.ints (by simp only [iStep, h19, n10, cond_true, cond_false, Bool.and_true, Bool.true_and, Bool.and_false, Bool.false_and, Bool.or_true, Bool.true_or, Bool.or_false, Bool.false_or, Bool.not_true, Bool.not_false])), ⟨(congrArg (Value.int .i64) (by simp only [iStep, h19, n10, cond_true, cond_false, Bool.and_true, Bool.true_and, Bool.and_false, Bool.false_and, Bool.or_true, Bool.true_or, Bool.or_false, Bool.false_or, Bool.not_true, Bool.not_false])), trivial⟩⟩)
    · intro n19
      refine W.skip (blockQ_normal (thenQ_normal ?_))
      refine W.K cok tab72 hnt [] [6, 7] (⟨[(6, .sl (.ints ((iRow s l c).1))), (7, .i ((iRow s l c).2))], [(5, ⟨27, .fix [.i c.proc, .i c.obj, .i c.kind, .i c.arg, .i c.ret, .i c.frm, .i c.to]⟩)], [9, 5, 999]⟩)
        (True ∧ (True ∧ (True ∧ ((True ∧ ((True ∧ ((True ∧ ((List.length l) = (List.length l))) ∧ (True ∧ True))) ∧ ((∀ j, j < l.length → 0 ≤ l.getD j 0 ∧ l.getD j 0 ≤ 20) ∧ ((0 ≤ c.arg ∧ c.arg ≤ 3) ∧ (l.length ≤ 20))))) ∧ (True ∧ (True ∧ (True ∧ (True ∧ True)))))))) (by kernel_rfl)
        ⟨trivial, ⟨trivial, ⟨trivial, ⟨⟨trivial, ⟨⟨trivial, ⟨⟨trivial, rfl⟩, ⟨trivial, trivial⟩⟩⟩, ⟨(by omega), ⟨(by omega), (by omega)⟩⟩⟩⟩, ⟨trivial, ⟨trivial, ⟨trivial, ⟨trivial, trivial⟩⟩⟩⟩⟩⟩⟩⟩ ?_
      refine W.ret ?_
      exact endQ_ret (.tup [.sl (.ints ((iRow s l c).1)), .i ((iRow s l c).2)]) (by kernel_rfl) (@cast (((.ints ((iRow s l c).1) : Dat) = .ints ((iStep s l c).1)) ∧ (((.int .i64 ((iRow s l c).2) : Value) = .int .i64 ((iStep s l c).2)) ∧ True)) _ (by kernel_rfl) ⟨(congrArg Dat.ints (by simp only [iStep, n10, n19, cond_true, cond_false, Bool.and_true, Bool.true_and, Bool.and_false, Bool.false_and, Bool.or_true, Bool.true_or, Bool.or_false, Bool.false_or, Bool.not_true, Bool.not_false])), ⟨(congrArg (Value.int .i64) (by simp only [iStep, n10, n19, cond_true, cond_false, Bool.and_true, Bool.true_and, Bool.and_false, Bool.false_and, Bool.or_true, Bool.true_or, Bool.or_false, Bool.false_or, Bool.not_true, Bool.not_false])), trivial⟩⟩)
theorem ent72 : Entr prog 72 := ⟨_, func72, rfl, by decide⟩

end Go.Proofs.Try
