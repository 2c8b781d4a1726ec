import Derived.Test.YtcjnccepckdiaaaAS
import Derived.Test.YtcjnccepckdiaaaM10
import Derived.Test.YtcjnccepckdiaaaAP73
import Derived.Test.YtcjnccepckdiaaaAP74
import Derived.Test.YtcjnccepckdiaaaAP75
import Derived.Test.YtcjnccepckdiaaaAP76
set_option linter.unusedSimpArgs false
set_option linter.unusedVariables false
namespace Go.Proofs.Try
open Go.Ab Go.RowKit
/-- spec.StepObject -/
def fs22 : FnS := fnS [.o, .s .ints, .o] [.str, .ints, .call] (fun _ (s, l, c, _) => (.tup [.sl (.ints ((stepObject s l c).1)), .b ((stepObject s l c).2)], [], True))
abbrev T22 : Tab := lk [(73, fs73), (74, fs74), (75, fs75), (76, fs76)]
theorem tab22 : TabOK prog T22 := (TabOK.cons ok73 ent73 (TabOK.cons ok74 ent74 (TabOK.cons ok75 ent75 (TabOK.cons ok76 ent76 TabOK.nil))))
set_option maxRecDepth 100000 in
set_option maxHeartbeats 1000000 in
theorem ok22 : FnOK prog 22 fs22 := by
  refine FnOK.mk cok func22 rfl rfl rfl ?_
  rintro fl ⟨(s : ByteArray), (l : List Int), (c : CallD), _⟩ hpre F hnt0 _
  have hnt : F.nt = 35 := hnt0.trans ntmps22
  clear hpre
  refine W.to (⟨[(0, .v (.string s)), (1, .sl (.ints l)), (2, .agg [.i c.proc, .i c.obj, .i c.kind, .i c.arg, .i c.ret, .i c.frm, .i c.to])], [], [999]⟩) rfl ?_
  refine W.lenOf 1 (.ints l) (by kernel_rfl) ?_
  intro hl_l; replace hl_l : List.length l ≤ 9223372036854775807 := hl_l
  refine W.K cok tab22 hnt [] [0, 1, 5] (⟨[(0, .v (.string s)), (1, .sl (.ints l)), (5, .ptr 5 0)], [(5, ⟨27, .fix [.i c.proc, .i c.obj, .i c.kind, .i c.arg, .i c.ret, .i c.frm, .i c.to]⟩)], [5, 999]⟩)
    (True ∧ (True ∧ (True ∧ True))) (by kernel_rfl)
    ⟨trivial, ⟨trivial, ⟨trivial, trivial⟩⟩⟩ ?_
  refine W.seq ?_
  refine W.K cok tab22 hnt [] [0, 1, 5, 23] (⟨[(0, .v (.string s)), (1, .sl (.ints l)), (5, .ptr 5 0), (23, .b (((!(isObject s)) || (!(isSt s l))) || (!(isCall c))))], [(5, ⟨27, .fix [.i c.proc, .i c.obj, .i c.kind, .i c.arg, .i c.ret, .i c.frm, .i c.to]⟩)], [5, 999]⟩)
    (True ∧ ((True ∧ ((True ∧ True) ∧ True)) ∧ (True ∧ (True ∧ (((!(!(isObject s))) = true → True) ∧ (((!(!(isObject s))) = true → True) ∧ (((!(!(isObject s))) = true → (True ∧ (((((!(!(isObject s))) = true) ∧ True) ∧ ((((!(!(isObject s))) = true) ∧ True) ∧ True)) ∧ True))) ∧ (((!(!(isObject s))) = true → (((!(!(isObject s))) = true) ∧ True)) ∧ ((True ∧ (((!(isObject s)) = true → True) ∧ ((!(isObject s)) = false → ((!(!(isObject s))) = true) ∧ True))) ∧ (True ∧ (((!((!(isObject s)) || (!(isSt s l)))) = true → True) ∧ (((!((!(isObject s)) || (!(isSt s l)))) = true → (True ∧ (((((!((!(isObject s)) || (!(isSt s l)))) = true) ∧ True) ∧ True) ∧ True))) ∧ (((!((!(isObject s)) || (!(isSt s l)))) = true → (((!((!(isObject s)) || (!(isSt s l)))) = true) ∧ True)) ∧ ((True ∧ ((((!(isObject s)) || (!(isSt s l))) = true → True) ∧ (((!(isObject s)) || (!(isSt s l))) = false → ((!((!(isObject s)) || (!(isSt s l)))) = true) ∧ True))) ∧ True)))))))))))))) (by kernel_rfl)
    ⟨trivial, ⟨⟨trivial, ⟨⟨trivial, trivial⟩, trivial⟩⟩, ⟨trivial, ⟨trivial, ⟨(fun _ => trivial), ⟨(fun _ => trivial), ⟨(fun hG => ⟨trivial, ⟨⟨⟨hG, trivial⟩, ⟨⟨hG, trivial⟩, trivial⟩⟩, trivial⟩⟩), ⟨(fun hG => ⟨hG, trivial⟩), ⟨⟨trivial, ⟨(fun _ => trivial), (fun hp => ⟨(not_t hp), trivial⟩)⟩⟩, ⟨trivial, ⟨(fun _ => trivial), ⟨(fun hG => ⟨trivial, ⟨⟨⟨hG, trivial⟩, trivial⟩, trivial⟩⟩), ⟨(fun hG => ⟨hG, trivial⟩), ⟨⟨trivial, ⟨(fun _ => trivial), (fun hp => ⟨(not_t hp), trivial⟩)⟩⟩, trivial⟩⟩⟩⟩⟩⟩⟩⟩⟩⟩⟩⟩⟩⟩ ?_
  refine W.if' (((!(isObject s)) || (!(isSt s l))) || (!(isCall c))) (.b (((!(isObject s)) || (!(isSt s l))) || (!(isCall c)))) (by kernel_rfl) rfl trivial ?_ ?_
  · intro h23
    refine W.K cok tab22 hnt [] [6, 7] (⟨[(6, .v (.slice none 0 0)), (7, .b false)], [(5, ⟨27, .fix [.i c.proc, .i c.obj, .i c.kind, .i c.arg, .i c.ret, .i c.frm, .i c.to]⟩)], [5, 999]⟩)
      (True ∧ (True ∧ True)) (by kernel_rfl)
      ⟨trivial, ⟨trivial, trivial⟩⟩ ?_
    refine W.ret (thenQ_ret ?_)
    exact endQ_ret (.tup [.v (.slice none 0 0), .b false]) (by kernel_rfl) (@cast ((((Value.slice none 0 0 : Value) = .slice none 0 0) ∧ ((Dat.ints ((stepObject s l c).1)).len = 0)) ∧ (((.bool false : Value) = .bool ((stepObject s l c).2)) ∧ True)) _ (by kernel_rfl) ⟨⟨rfl, (by show List.length ((stepObject s l c).1) = 0; rw [sp_no h23]; try rfl)⟩, ⟨(congrArg Value.bool (by rw [sp_no h23]; try rfl)), trivial⟩⟩)
  · intro n23
    refine W.skip (thenQ_normal ?_)
    refine W.K cok tab22 hnt [] [8, 9] (⟨[(8, .sl (.ints ((specStep s l c).1))), (9, .b ((specStep s l c).2))], [(5, ⟨27, .fix [.i c.proc, .i c.obj, .i c.kind, .i c.arg, .i c.ret, .i c.frm, .i c.to]⟩)], [5, 999]⟩)
      (True ∧ (True ∧ (True ∧ ((True ∧ ((True ∧ (True ∧ (True ∧ True))) ∧ ((l.length ≤ 1000000) ∧ ((∀ x ∈ l, -1000000000 ≤ x ∧ x ≤ 1000000000) ∧ (-1000000000 ≤ c.arg ∧ c.arg ≤ 1000000000))))) ∧ (True ∧ (True ∧ (True ∧ (True ∧ (True ∧ True))))))))) (by kernel_rfl)
      ⟨trivial, ⟨trivial, ⟨trivial, ⟨⟨trivial, ⟨⟨trivial, ⟨trivial, ⟨trivial, trivial⟩⟩⟩, ⟨(by have := (st_iff (and_r (and_l (sp_ok n23)))).1; omega), ⟨(by intro x hx; have h9 := (st_iff (and_r (and_l (sp_ok n23)))).2.2; obtain ⟨i, hi, rfl⟩ := List.mem_iff_getElem.1 hx; have := h9 i hi; rw [List.getD_eq_getElem?_getD, List.getElem?_eq_getElem hi] at this; simp only [Option.getD_some] at this; omega), (by have := isCall_iff.1 (and_r (sp_ok n23)); omega)⟩⟩⟩⟩, ⟨trivial, ⟨trivial, ⟨trivial, ⟨trivial, ⟨trivial, trivial⟩⟩⟩⟩⟩⟩⟩⟩⟩ ?_
    refine W.K cok tab22 hnt [31, 33] [6, 7] (⟨[(6, .own 33 (List.length ((specStep s l c).1))), (7, .b ((specStep s l c).2))], [(5, ⟨27, .fix [.i c.proc, .i c.obj, .i c.kind, .i c.arg, .i c.ret, .i c.frm, .i c.to]⟩), (33, ⟨3, .row (.ints ((specStep s l c).1))⟩)], [33, 31, 5, 999]⟩)
      (True ∧ (True ∧ (((True ∧ ((List.length ([] : List Int)) = (List.length ([] : List Int)))) ∧ (True ∧ (((List.length ([] : List Int)) + (List.length ((specStep s l c).1))) * 8 ≤ 140737488355328))) ∧ (True ∧ (True ∧ (True ∧ True)))))) (by kernel_rfl)
      ⟨trivial, ⟨trivial, ⟨⟨⟨trivial, rfl⟩, ⟨trivial, (by have h1 := (st_iff (and_r (and_l (sp_ok n23)))).1; have := specStep_len s l c; have e0 : ([] : List Int).length = 0 := rfl; omega)⟩⟩, ⟨trivial, ⟨trivial, ⟨trivial, trivial⟩⟩⟩⟩⟩⟩ ?_
    refine W.ret ?_
    exact endQ_ret (.tup [.own 33 (List.length ((specStep s l c).1)), .b ((specStep s l c).2)]) (by kernel_rfl) (@cast ((((List.length ((specStep s l c).1)) = (List.length ((specStep s l c).1))) ∧ (((.ints ((specStep s l c).1) : Dat) = .ints ((stepObject s l c).1)) ∧ ((33 : Nat) ∉ ([] : List Nat)))) ∧ (((.bool ((specStep s l c).2) : Value) = .bool ((stepObject s l c).2)) ∧ True)) _ (by kernel_rfl) ⟨⟨rfl, ⟨(congrArg Dat.ints (by rw [so_yes (sp_ok n23)]; try rfl)), (by decide)⟩⟩, ⟨(congrArg Value.bool (by rw [so_yes (sp_ok n23)]; try rfl)), trivial⟩⟩)
theorem ent22 : Entr prog 22 := ⟨_, func22, rfl, by decide⟩

end Go.Proofs.Try
