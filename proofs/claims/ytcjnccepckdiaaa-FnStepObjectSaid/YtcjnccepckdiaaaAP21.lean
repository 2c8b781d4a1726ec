import Derived.Test.YtcjnccepckdiaaaAS
import Derived.Test.YtcjnccepckdiaaaM10
import Derived.Test.YtcjnccepckdiaaaAP71
import Derived.Test.YtcjnccepckdiaaaAP19
import Derived.Test.YtcjnccepckdiaaaAP72
set_option linter.unusedSimpArgs false
set_option linter.unusedVariables false
namespace Go.Proofs.Try
open Go.Ab Go.RowKit
/-- impl.StepObject -/
def fs21 : FnS := fnS [.o, .s .ints, .o] [.str, .ints, .call] (fun _ (s, l, c, _) => (.tup [.sl (.ints ((stepObject s l c).1)), .b ((stepObject s l c).2)], [], True))
abbrev T21 : Tab := lk [(19, fs19), (71, fs71), (72, fs72)]
theorem tab21 : TabOK prog T21 := (TabOK.cons ok19 ent19 (TabOK.cons ok71 ent71 (TabOK.cons ok72 ent72 TabOK.nil)))
set_option maxRecDepth 100000 in
set_option maxHeartbeats 1000000 in
theorem ok21 : FnOK prog 21 fs21 := by
  refine FnOK.mk cok func21 rfl rfl rfl ?_
  rintro fl ⟨(s : ByteArray), (l : List Int), (c : CallD), _⟩ hpre F hnt0 _
  have hnt : F.nt = 32 := hnt0.trans ntmps21
  clear hpre
  refine W.to (⟨[(0, .v (.string s)), (1, .sl (.ints l)), (2, .agg [.i c.proc, .i c.obj, .i c.kind, .i c.arg, .i c.ret, .i c.frm, .i c.to])], [], [999]⟩) rfl ?_
  refine W.lenOf 1 (.ints l) (by kernel_rfl) ?_
  intro hl_l; replace hl_l : List.length l ≤ 9223372036854775807 := hl_l
  refine W.K cok tab21 hnt [] [0, 1, 5] (⟨[(0, .v (.string s)), (1, .sl (.ints l)), (5, .ptr 5 0)], [(5, ⟨27, .fix [.i c.proc, .i c.obj, .i c.kind, .i c.arg, .i c.ret, .i c.frm, .i c.to]⟩)], [5, 999]⟩)
    (True ∧ (True ∧ (True ∧ True))) (by kernel_rfl)
    ⟨trivial, ⟨trivial, ⟨trivial, trivial⟩⟩⟩ ?_
  refine W.seq ?_
  refine W.K cok tab21 hnt [] [0, 1, 5, 19] (⟨[(0, .v (.string s)), (1, .sl (.ints l)), (5, .ptr 5 0), (19, .b ((!(isObject s && isSt s l)) || (!(validHistory ([c])))))], [(5, ⟨27, .fix [.i c.proc, .i c.obj, .i c.kind, .i c.arg, .i c.ret, .i c.frm, .i c.to]⟩)], [16, 5, 999]⟩)
    (True ∧ (True ∧ ((True ∧ ((True ∧ (True ∧ True)) ∧ True)) ∧ (True ∧ (True ∧ (((!(!(isObject s && isSt s l))) = true → True) ∧ (((!(!(isObject s && isSt s l))) = true → ((((!(!(isObject s && isSt s l))) = true) ∧ True) ∧ True)) ∧ (((!(!(isObject s && isSt s l))) = true → (True ∧ (((((!(!(isObject s && isSt s l))) = true) ∧ True) ∧ True) ∧ True))) ∧ (((!(!(isObject s && isSt s l))) = true → (((!(!(isObject s && isSt s l))) = true) ∧ True)) ∧ ((True ∧ (((!(isObject s && isSt s l)) = true → True) ∧ ((!(isObject s && isSt s l)) = false → ((!(!(isObject s && isSt s l))) = true) ∧ True))) ∧ True)))))))))) (by kernel_rfl)
    ⟨trivial, ⟨trivial, ⟨⟨trivial, ⟨⟨trivial, ⟨trivial, trivial⟩⟩, trivial⟩⟩, ⟨trivial, ⟨trivial, ⟨(fun _ => trivial), ⟨(fun hG => ⟨⟨hG, trivial⟩, trivial⟩), ⟨(fun hG => ⟨trivial, ⟨⟨⟨hG, trivial⟩, trivial⟩, trivial⟩⟩), ⟨(fun hG => ⟨hG, trivial⟩), ⟨⟨trivial, ⟨(fun _ => trivial), (fun hp => ⟨(not_t hp), trivial⟩)⟩⟩, trivial⟩⟩⟩⟩⟩⟩⟩⟩⟩⟩ ?_
  refine W.if' ((!(isObject s && isSt s l)) || (!(validHistory ([c])))) (.b ((!(isObject s && isSt s l)) || (!(validHistory ([c]))))) (by kernel_rfl) rfl trivial ?_ ?_
  · intro h19
    refine W.K cok tab21 hnt [] [6, 7] (⟨[(6, .v (.slice none 0 0)), (7, .b false)], [(5, ⟨27, .fix [.i c.proc, .i c.obj, .i c.kind, .i c.arg, .i c.ret, .i c.frm, .i c.to]⟩)], [16, 5, 999]⟩)
      (True ∧ (True ∧ True)) (by kernel_rfl)
      ⟨trivial, ⟨trivial, trivial⟩⟩ ?_
    refine W.ret (thenQ_ret ?_)
    exact endQ_ret (.tup [.v (.slice none 0 0), .b false]) (by kernel_rfl) (@cast ((((Value.slice none 0 0 : Value) = .slice none 0 0) ∧ ((Dat.ints ((stepObject s l c).1)).len = 0)) ∧ (((.bool false : Value) = .bool ((stepObject s l c).2)) ∧ True)) _ (by kernel_rfl) ⟨⟨rfl, (by show List.length ((stepObject s l c).1) = 0; rw [so_no h19]; try rfl)⟩, ⟨(congrArg Value.bool (by rw [so_no h19]; try rfl)), trivial⟩⟩)
  · intro n19
    refine W.skip (thenQ_normal ?_)
    refine W.K cok tab21 hnt [] [5, 8, 9] (⟨[(5, .ptr 5 0), (8, .sl (.ints ((iStep s l c).1))), (9, .i ((iStep s l c).2))], [(5, ⟨27, .fix [.i c.proc, .i c.obj, .i c.kind, .i c.arg, .i c.ret, .i c.frm, .i c.to]⟩)], [16, 5, 999]⟩)
      (True ∧ (True ∧ (True ∧ ((True ∧ ((True ∧ (True ∧ (True ∧ True))) ∧ ((∀ j, j < l.length → 0 ≤ l.getD j 0 ∧ l.getD j 0 ≤ 20) ∧ ((0 ≤ c.arg ∧ c.arg ≤ 3) ∧ (l.length ≤ 20))))) ∧ (True ∧ (True ∧ (True ∧ (True ∧ (True ∧ True))))))))) (by kernel_rfl)
      ⟨trivial, ⟨trivial, ⟨trivial, ⟨⟨trivial, ⟨⟨trivial, ⟨trivial, ⟨trivial, trivial⟩⟩⟩, ⟨(by exact (st_iff (and_r (and_l (so_ok n19)))).2.2), ⟨(by have := isCall_iff.1 (and_r (so_ok n19)); omega), (by exact (st_iff (and_r (and_l (so_ok n19)))).1)⟩⟩⟩⟩, ⟨trivial, ⟨trivial, ⟨trivial, ⟨trivial, ⟨trivial, trivial⟩⟩⟩⟩⟩⟩⟩⟩⟩ ?_
    refine W.KA cok tab21 hnt [] [6, 7] (⟨[(6, .sl (.ints ((iStep s l c).1))), (7, .b (decide (((iStep s l c).2) = c.ret)))], [(5, ⟨27, .fix [.i c.proc, .i c.obj, .i c.kind, .i c.arg, .i c.ret, .i c.frm, .i c.to]⟩)], [16, 5, 999]⟩)
      (True ∧ (True ∧ (True ∧ (True ∧ ((True ∧ (True ∧ True)) ∧ (True ∧ (True ∧ True))))))) (by kernel_rfl) (by kernel_rfl)
      ⟨trivial, ⟨trivial, ⟨trivial, ⟨trivial, ⟨⟨trivial, ⟨trivial, trivial⟩⟩, ⟨trivial, ⟨trivial, trivial⟩⟩⟩⟩⟩⟩⟩ ?_
    refine W.ret ?_
    exact endQ_ret (.tup [.sl (.ints ((iStep s l c).1)), .b (decide (((iStep s l c).2) = c.ret))]) (by kernel_rfl) (@cast (((.ints ((iStep s l c).1) : Dat) = .ints ((stepObject s l c).1)) ∧ (((.bool (decide (((iStep s l c).2) = c.ret)) : Value) = .bool ((stepObject s l c).2)) ∧ True)) _ (by kernel_rfl) ⟨(congrArg Dat.ints (by rw [so_yes (so_ok n19)]; first | exact (step_eq (so_ok n19)).1 | (rw [dec_comm]; exact (step_eq (so_ok n19)).2))), ⟨(congrArg Value.bool (by rw [so_yes (so_ok n19)]; first | exact (step_eq (so_ok n19)).1 | (rw [dec_comm]; exact (step_eq (so_ok n19)).2))), trivial⟩⟩)
theorem ent21 : Entr prog 21 := ⟨_, func21, rfl, by decide⟩

end Go.Proofs.Try
