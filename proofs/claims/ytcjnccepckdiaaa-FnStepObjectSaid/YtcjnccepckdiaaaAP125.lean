import Derived.Test.YtcjnccepckdiaaaAS
import Derived.Test.YtcjnccepckdiaaaM10
set_option linter.unusedSimpArgs false
set_option linter.unusedVariables false
namespace Go.Proofs.Try
open Go.Ab Go.RowKit
/-- impl.single -/
def fs125 : FnS := fnS [.o, .c .ints 3, .o] [.str, .ints, .call] (fun _ (s, l, c, _) => (.tup [.sl (.ints ((iSingle s l c).1)), .i ((iSingle s l c).2)], [], (∀ j, j < l.length → 0 ≤ l.getD j 0 ∧ l.getD j 0 ≤ 20) ∧ (0 ≤ c.arg ∧ c.arg ≤ 3) ∧ (l.length ≤ 20)))
abbrev T125 : Tab := lk []
theorem tab125 : TabOK prog T125 := TabOK.nil
set_option maxRecDepth 100000 in
set_option maxHeartbeats 1000000 in
theorem ok125 : FnOK prog 125 fs125 := by
  refine FnOK.mk cok func125 rfl rfl rfl ?_
  rintro fl ⟨(s : ByteArray), (l : List Int), (c : CallD), _⟩ hpre F hnt0 _
  have hnt : F.nt = 45 := hnt0.trans ntmps125
  replace hpre : (∀ j, j < l.length → 0 ≤ l.getD j 0 ∧ l.getD j 0 ≤ 20) ∧ (0 ≤ c.arg ∧ c.arg ≤ 3) ∧ (l.length ≤ 20) := hpre
  obtain ⟨hs, ha, hl⟩ := hpre
  refine W.to (⟨[(0, .v (.string s)), (1, .own 999 (List.length l)), (2, .agg [.i c.proc, .i c.obj, .i c.kind, .i c.arg, .i c.ret, .i c.frm, .i c.to])], [(999, ⟨3, .row (.ints l)⟩)], [999]⟩) rfl ?_
  refine W.K cok tab125 hnt [] [0, 1, 5] (⟨[(0, .v (.string s)), (1, .own 999 (List.length l)), (5, .ptr 5 0)], [(5, ⟨27, .fix [.i c.proc, .i c.obj, .i c.kind, .i c.arg, .i c.ret, .i c.frm, .i c.to]⟩), (999, ⟨3, .row (.ints l)⟩)], [5, 999]⟩)
    (True ∧ (True ∧ (True ∧ True))) (by kernel_rfl)
    ⟨trivial, ⟨trivial, ⟨trivial, trivial⟩⟩⟩ ?_
  refine W.K cok tab125 hnt [] [0, 1, 5, 8] (⟨[(0, .v (.string s)), (1, .own 999 (List.length l)), (5, .ptr 5 0), (8, .i (0 : Int))], [(5, ⟨27, .fix [.i c.proc, .i c.obj, .i c.kind, .i c.arg, .i c.ret, .i c.frm, .i c.to]⟩), (999, ⟨3, .row (.ints l)⟩)], [5, 999]⟩)
    (True ∧ True) (by kernel_rfl)
    ⟨trivial, trivial⟩ ?_
  refine W.seq ?_
  refine W.K cok tab125 hnt [] [0, 1, 5, 8, 11] (⟨[(0, .v (.string s)), (1, .own 999 (List.length l)), (5, .ptr 5 0), (8, .i (0 : Int)), (11, .b (decide ((((List.length l) : Nat) : Int) = (1 : Int))))], [(5, ⟨27, .fix [.i c.proc, .i c.obj, .i c.kind, .i c.arg, .i c.ret, .i c.frm, .i c.to]⟩), (999, ⟨3, .row (.ints l)⟩)], [5, 999]⟩)
    (True ∧ (True ∧ ((True ∧ (True ∧ True)) ∧ True))) (by kernel_rfl)
    ⟨trivial, ⟨trivial, ⟨⟨trivial, ⟨trivial, trivial⟩⟩, trivial⟩⟩⟩ ?_
  refine W.meetT (ι := Int) (fun (v : Int) => (⟨[(0, .v (.string s)), (1, .own 999 (List.length l)), (5, .ptr 5 0), (8, .i v)], [(5, ⟨27, .fix [.i c.proc, .i c.obj, .i c.kind, .i c.arg, .i c.ret, .i c.frm, .i c.to]⟩), (999, ⟨3, .row (.ints l)⟩)], [5, 999]⟩ : St)) (fun (v : Int) => (v = oneOf l) ∧ (0 ≤ v ∧ v ≤ 20)) ?_ ?_
  · skip
    refine W.ifP ((((List.length l) : Nat) : Int) = (1 : Int)) (.b (decide ((((List.length l) : Nat) : Int) = (1 : Int)))) (by kernel_rfl) rfl trivial ?_ ?_
    · intro h11
      refine W.L cok tab125 hnt [] (⟨[(0, .v (.string s)), (1, .own 999 (List.length l)), (5, .ptr 5 0), (8, .i (List.getD l 0 0)), (11, .b (decide ((((List.length l) : Nat) : Int) = (1 : Int)))), (12, .own 999 (List.length l)), (13, .pel 999 1 0 0), (14, .i (List.getD l 0 0))], [(5, ⟨27, .fix [.i c.proc, .i c.obj, .i c.kind, .i c.arg, .i c.ret, .i c.frm, .i c.to]⟩), (999, ⟨3, .row (.ints l)⟩)], [5, 999]⟩)
        (True ∧ ((True ∧ (True ∧ ((0 ≤ (0 : Int)) ∧ ((0 : Int) < (((List.length l) : Nat) : Int))))) ∧ ((True ∧ (0 < (List.length l))) ∧ (True ∧ True)))) (by kernel_rfl)
        ⟨trivial, ⟨⟨trivial, ⟨trivial, ⟨(by omega), (by omega)⟩⟩⟩, ⟨⟨trivial, (by omega)⟩, ⟨trivial, trivial⟩⟩⟩⟩ ?_
      refine thenQ_normal ?_
      refine ⟨((List.getD l 0 0)), (show ((List.getD l 0 0) = oneOf l) ∧ (0 ≤ (List.getD l 0 0) ∧ (List.getD l 0 0) ≤ 20) from ⟨(by unfold oneOf; first | (rw [decide_eq_true h11]; rfl) | (rw [decide_eq_false n11]; rfl)), (by first | omega | (have := hs 0 (by omega); omega))⟩), ?_⟩
      exact Sub.of [] (@cast (((((.string s) : Value) = (.string s)) ∧ ((((999 : Nat) = 999) ∧ (((List.length l) = (List.length l)) ∧ ((999 : Nat) ∈ ([5, 999] : List Nat)))) ∧ ((((5 : Nat) = 5) ∧ (((0 : Nat) = 0) ∧ ((5 : Nat) ∈ ([5, 999] : List Nat)))) ∧ (((.int .i64 (List.getD l 0 0) : Value) = .int .i64 (List.getD l 0 0)) ∧ True)))) ∧ (((((27 : Nat) = 27) ∧ ((((.int .i64 c.proc : Value) = .int .i64 c.proc) ∧ (((.int .i64 c.obj : Value) = .int .i64 c.obj) ∧ (((.int .i64 c.kind : Value) = .int .i64 c.kind) ∧ (((.int .i64 c.arg : Value) = .int .i64 c.arg) ∧ (((.int .i64 c.ret : Value) = .int .i64 c.ret) ∧ (((.int .i64 c.frm : Value) = .int .i64 c.frm) ∧ (((.int .i64 c.to : Value) = .int .i64 c.to) ∧ True))))))) ∧ ((5 : Nat) ∈ ([5, 999] : List Nat)))) ∧ ((((3 : Nat) = 3) ∧ (((.ints l : Dat) = .ints l) ∧ ((999 : Nat) ∈ ([5, 999] : List Nat)))) ∧ True)) ∧ ((true = true) ∧ (true = true)))) _ (by kernel_rfl) ⟨⟨rfl, ⟨⟨rfl, ⟨rfl, (by decide)⟩⟩, ⟨⟨rfl, ⟨rfl, (by decide)⟩⟩, ⟨rfl, trivial⟩⟩⟩⟩, ⟨⟨⟨rfl, ⟨⟨rfl, ⟨rfl, ⟨rfl, ⟨rfl, ⟨rfl, ⟨rfl, ⟨rfl, trivial⟩⟩⟩⟩⟩⟩⟩, (by decide)⟩⟩, ⟨⟨rfl, ⟨rfl, (by decide)⟩⟩, trivial⟩⟩, ⟨rfl, rfl⟩⟩⟩)
    · intro n11
      refine W.skip (thenQ_normal ?_)
      refine ⟨((0 : Int)), (show ((0 : Int) = oneOf l) ∧ (0 ≤ (0 : Int) ∧ (0 : Int) ≤ 20) from ⟨(by unfold oneOf; first | (rw [decide_eq_true h11]; rfl) | (rw [decide_eq_false n11]; rfl)), (by first | omega | (have := hs 0 (by omega); omega))⟩), ?_⟩
      exact Sub.of [] (@cast (((((.string s) : Value) = (.string s)) ∧ ((((999 : Nat) = 999) ∧ (((List.length l) = (List.length l)) ∧ ((999 : Nat) ∈ ([5, 999] : List Nat)))) ∧ ((((5 : Nat) = 5) ∧ (((0 : Nat) = 0) ∧ ((5 : Nat) ∈ ([5, 999] : List Nat)))) ∧ (((.int .i64 (0 : Int) : Value) = .int .i64 (0 : Int)) ∧ True)))) ∧ (((((27 : Nat) = 27) ∧ ((((.int .i64 c.proc : Value) = .int .i64 c.proc) ∧ (((.int .i64 c.obj : Value) = .int .i64 c.obj) ∧ (((.int .i64 c.kind : Value) = .int .i64 c.kind) ∧ (((.int .i64 c.arg : Value) = .int .i64 c.arg) ∧ (((.int .i64 c.ret : Value) = .int .i64 c.ret) ∧ (((.int .i64 c.frm : Value) = .int .i64 c.frm) ∧ (((.int .i64 c.to : Value) = .int .i64 c.to) ∧ True))))))) ∧ ((5 : Nat) ∈ ([5, 999] : List Nat)))) ∧ ((((3 : Nat) = 3) ∧ (((.ints l : Dat) = .ints l) ∧ ((999 : Nat) ∈ ([5, 999] : List Nat)))) ∧ True)) ∧ ((true = true) ∧ (true = true)))) _ (by kernel_rfl) ⟨⟨rfl, ⟨⟨rfl, ⟨rfl, (by decide)⟩⟩, ⟨⟨rfl, ⟨rfl, (by decide)⟩⟩, ⟨rfl, trivial⟩⟩⟩⟩, ⟨⟨⟨rfl, ⟨⟨rfl, ⟨rfl, ⟨rfl, ⟨rfl, ⟨rfl, ⟨rfl, ⟨rfl, trivial⟩⟩⟩⟩⟩⟩⟩, (by decide)⟩⟩, ⟨⟨rfl, ⟨rfl, (by decide)⟩⟩, trivial⟩⟩, ⟨rfl, rfl⟩⟩⟩)
  · rintro v hC0
    have hC : (v = oneOf l) ∧ (0 ≤ v ∧ v ≤ 20) := hC0
    clear hC0
    obtain ⟨hv, hvb⟩ := hC
    refine W.to (⟨[(0, .v (.string s)), (1, .own 999 (List.length l)), (5, .ptr 5 0), (8, .i v)], [(5, ⟨27, .fix [.i c.proc, .i c.obj, .i c.kind, .i c.arg, .i c.ret, .i c.frm, .i c.to]⟩), (999, ⟨3, .row (.ints l)⟩)], [5, 999]⟩) rfl ?_
    refine W.seq ?_
    refine W.block ?_
    refine W.K cok tab125 hnt [] [0, 1, 5, 8, 15] (⟨[(0, .v (.string s)), (1, .own 999 (List.length l)), (5, .ptr 5 0), (8, .i v), (15, .b (decide (c.kind = (2 : Int))))], [(5, ⟨27, .fix [.i c.proc, .i c.obj, .i c.kind, .i c.arg, .i c.ret, .i c.frm, .i c.to]⟩), (999, ⟨3, .row (.ints l)⟩)], [5, 999]⟩)
      (True ∧ (True ∧ ((True ∧ (True ∧ True)) ∧ (True ∧ True)))) (by kernel_rfl)
      ⟨trivial, ⟨trivial, ⟨⟨trivial, ⟨trivial, trivial⟩⟩, ⟨trivial, trivial⟩⟩⟩⟩ ?_
    refine W.ifP (c.kind = (2 : Int)) (.b (decide (c.kind = (2 : Int)))) (by kernel_rfl) rfl trivial ?_ ?_
    · intro h15
      refine W.K cok tab125 hnt [] [6, 7] (⟨[(6, .own 999 (List.length l)), (7, .i v)], [(5, ⟨27, .fix [.i c.proc, .i c.obj, .i c.kind, .i c.arg, .i c.ret, .i c.frm, .i c.to]⟩), (999, ⟨3, .row (.ints l)⟩)], [5, 999]⟩)
        (True ∧ (True ∧ (True ∧ (True ∧ True)))) (by kernel_rfl)
        ⟨trivial, ⟨trivial, ⟨trivial, ⟨trivial, trivial⟩⟩⟩⟩ ?_
      refine W.ret (blockQ_ret (thenQ_ret ?_))
      exact endQ_ret (.tup [.own 999 (List.length l), .i v]) (by kernel_rfl) (@cast ((((List.length l) = (List.length l)) ∧ (((.ints l : Dat) = .ints ((iSingle s l c).1)) ∧ ((999 : Nat) ∉ ([] : List Nat)))) ∧ (((.int .i64 v : Value) = .int .i64 ((iSingle s l c).2)) ∧ True)) _ (by kernel_rfl) ⟨⟨rfl, ⟨(congrArg Dat.ints (by subst hv; simp only [iSingle, (decide_eq_true h15), cond_true, cond_false, Bool.and_true, Bool.true_and, Bool.and_false, Bool.false_and, Bool.or_true, Bool.true_or, Bool.or_false, Bool.false_or, Bool.not_true, Bool.not_false, List.length_nil])), (by decide)⟩⟩, ⟨(congrArg (Value.int .i64) (by subst hv; simp only [iSingle, (decide_eq_true h15), cond_true, cond_false, Bool.and_true, Bool.true_and, Bool.and_false, Bool.false_and, Bool.or_true, Bool.true_or, Bool.or_false, Bool.false_or, Bool.not_true, Bool.not_false, List.length_nil])), trivial⟩⟩)
    · intro n15
      refine W.K cok tab125 hnt [] [0, 5, 8, 21] (⟨[(0, .v (.string s)), (5, .ptr 5 0), (8, .i v), (21, .b (decide (c.kind = (1 : Int))))], [(5, ⟨27, .fix [.i c.proc, .i c.obj, .i c.kind, .i c.arg, .i c.ret, .i c.frm, .i c.to]⟩), (999, ⟨3, .row (.ints l)⟩)], [5, 999]⟩)
        (True ∧ (True ∧ ((True ∧ (True ∧ True)) ∧ (True ∧ True)))) (by kernel_rfl)
        ⟨trivial, ⟨trivial, ⟨⟨trivial, ⟨trivial, trivial⟩⟩, ⟨trivial, trivial⟩⟩⟩⟩ ?_
      refine W.ifP (c.kind = (1 : Int)) (.b (decide (c.kind = (1 : Int)))) (by kernel_rfl) rfl trivial ?_ ?_
      · intro h21
        refine W.K cok tab125 hnt [] [6, 7] (⟨[(6, .v (.slice none 0 0)), (7, .i v)], [(5, ⟨27, .fix [.i c.proc, .i c.obj, .i c.kind, .i c.arg, .i c.ret, .i c.frm, .i c.to]⟩), (999, ⟨3, .row (.ints l)⟩)], [5, 999]⟩)
          (True ∧ (True ∧ (True ∧ True))) (by kernel_rfl)
          ⟨trivial, ⟨trivial, ⟨trivial, trivial⟩⟩⟩ ?_
        refine W.ret (blockQ_ret (thenQ_ret ?_))
        exact endQ_ret (.tup [.v (.slice none 0 0), .i v]) (by kernel_rfl) (@cast ((((Value.slice none 0 0 : Value) = .slice none 0 0) ∧ ((Dat.ints ((iSingle s l c).1)).len = 0)) ∧ (((.int .i64 v : Value) = .int .i64 ((iSingle s l c).2)) ∧ True)) _ (by kernel_rfl) ⟨⟨rfl, (by show List.length ((iSingle s l c).1) = 0; subst hv; simp only [iSingle, (decide_eq_true h21), (decide_eq_false n15), cond_true, cond_false, Bool.and_true, Bool.true_and, Bool.and_false, Bool.false_and, Bool.or_true, Bool.true_or, Bool.or_false, Bool.false_or, Bool.not_true, Bool.not_false, List.length_nil])⟩, ⟨(congrArg (Value.int .i64) (by subst hv; simp only [iSingle, (decide_eq_true h21), (decide_eq_false n15), cond_true, cond_false, Bool.and_true, Bool.true_and, Bool.and_false, Bool.false_and, Bool.or_true, Bool.true_or, Bool.or_false, Bool.false_or, Bool.not_true, Bool.not_false, List.length_nil])), trivial⟩⟩)
      · intro n21
        refine W.K cok tab125 hnt [] [0, 5, 8, 26] (⟨[(0, .v (.string s)), (5, .ptr 5 0), (8, .i v), (26, .b (eqS s nCounter))], [(5, ⟨27, .fix [.i c.proc, .i c.obj, .i c.kind, .i c.arg, .i c.ret, .i c.frm, .i c.to]⟩), (999, ⟨3, .row (.ints l)⟩)], [5, 999]⟩)
          (True ∧ ((True ∧ (True ∧ True)) ∧ (True ∧ True))) (by kernel_rfl)
          ⟨trivial, ⟨⟨trivial, ⟨trivial, trivial⟩⟩, ⟨trivial, trivial⟩⟩⟩ ?_
        refine W.if' (eqS s nCounter) (.b (eqS s nCounter)) (by kernel_rfl) rfl trivial ?_ ?_
        · intro h26
          refine W.K cok tab125 hnt [] [6, 7] (⟨[(6, .sl (.ints ([(v + c.arg)]))), (7, .i (0 : Int))], [(5, ⟨27, .fix [.i c.proc, .i c.obj, .i c.kind, .i c.arg, .i c.ret, .i c.frm, .i c.to]⟩), (999, ⟨3, .row (.ints l)⟩)], [33, 5, 999]⟩)
            (True ∧ (True ∧ (True ∧ ((True ∧ (True ∧ (Fits .i64 (v + c.arg)))) ∧ ((True ∧ True) ∧ (True ∧ (True ∧ True))))))) (by kernel_rfl)
            ⟨trivial, ⟨trivial, ⟨trivial, ⟨⟨trivial, ⟨trivial, (by exact fits_i64 (by omega) (by omega))⟩⟩, ⟨⟨trivial, trivial⟩, ⟨trivial, ⟨trivial, trivial⟩⟩⟩⟩⟩⟩⟩ ?_
          refine W.ret (blockQ_ret (thenQ_ret ?_))
          exact endQ_ret (.tup [.sl (.ints ([(v + c.arg)])), .i (0 : Int)]) (by kernel_rfl) (@cast (((.ints ([(v + c.arg)]) : Dat) = .ints ((iSingle s l c).1)) ∧ (((.int .i64 (0 : Int) : Value) = .int .i64 ((iSingle s l c).2)) ∧ True)) _ (by kernel_rfl) ⟨(congrArg Dat.ints (by subst hv; simp only [iSingle, h26, (decide_eq_false n15), (decide_eq_false n21), cond_true, cond_false, Bool.and_true, Bool.true_and, Bool.and_false, Bool.false_and, Bool.or_true, Bool.true_or, Bool.or_false, Bool.false_or, Bool.not_true, Bool.not_false, List.length_nil])), ⟨(congrArg (Value.int .i64) (by subst hv; simp only [iSingle, h26, (decide_eq_false n15), (decide_eq_false n21), cond_true, cond_false, Bool.and_true, Bool.true_and, Bool.and_false, Bool.false_and, Bool.or_true, Bool.true_or, Bool.or_false, Bool.false_or, Bool.not_true, Bool.not_false, List.length_nil])), trivial⟩⟩)
        · intro n26
          refine W.K cok tab125 hnt [] [5, 8, 34] (⟨[(5, .ptr 5 0), (8, .i v), (34, .b (eqS s nMost))], [(5, ⟨27, .fix [.i c.proc, .i c.obj, .i c.kind, .i c.arg, .i c.ret, .i c.frm, .i c.to]⟩), (999, ⟨3, .row (.ints l)⟩)], [5, 999]⟩)
            (True ∧ ((True ∧ (True ∧ True)) ∧ (True ∧ True))) (by kernel_rfl)
            ⟨trivial, ⟨⟨trivial, ⟨trivial, trivial⟩⟩, ⟨trivial, trivial⟩⟩⟩ ?_
          refine W.if' (eqS s nMost) (.b (eqS s nMost)) (by kernel_rfl) rfl trivial ?_ ?_
          · intro h34
            refine W.K cok tab125 hnt [] [6, 7] (⟨[(6, .sl (.ints ([(max v c.arg)]))), (7, .i (0 : Int))], [(5, ⟨27, .fix [.i c.proc, .i c.obj, .i c.kind, .i c.arg, .i c.ret, .i c.frm, .i c.to]⟩), (999, ⟨3, .row (.ints l)⟩)], [41, 5, 999]⟩)
              (True ∧ (True ∧ (True ∧ ((True ∧ True) ∧ ((True ∧ True) ∧ (True ∧ (True ∧ True))))))) (by kernel_rfl)
              ⟨trivial, ⟨trivial, ⟨trivial, ⟨⟨trivial, trivial⟩, ⟨⟨trivial, trivial⟩, ⟨trivial, ⟨trivial, trivial⟩⟩⟩⟩⟩⟩⟩ ?_
            refine W.ret (blockQ_ret (thenQ_ret ?_))
            exact endQ_ret (.tup [.sl (.ints ([(max v c.arg)])), .i (0 : Int)]) (by kernel_rfl) (@cast (((.ints ([(max v c.arg)]) : Dat) = .ints ((iSingle s l c).1)) ∧ (((.int .i64 (0 : Int) : Value) = .int .i64 ((iSingle s l c).2)) ∧ True)) _ (by kernel_rfl) ⟨(congrArg Dat.ints (by subst hv; simp only [iSingle, h34, (decide_eq_false n15), (decide_eq_false n21), n26, cond_true, cond_false, Bool.and_true, Bool.true_and, Bool.and_false, Bool.false_and, Bool.or_true, Bool.true_or, Bool.or_false, Bool.false_or, Bool.not_true, Bool.not_false, List.length_nil])), ⟨(congrArg (Value.int .i64) (by subst hv; simp only [iSingle, h34, (decide_eq_false n15), (decide_eq_false n21), n26, cond_true, cond_false, Bool.and_true, Bool.true_and, Bool.and_false, Bool.false_and, Bool.or_true, Bool.true_or, Bool.or_false, Bool.false_or, Bool.not_true, Bool.not_false, List.length_nil])), trivial⟩⟩)
          · intro n34
            refine W.skip (blockQ_normal (thenQ_normal ?_))
            refine W.K cok tab125 hnt [] [6, 7] (⟨[(6, .sl (.ints ([c.arg]))), (7, .i (0 : Int))], [(5, ⟨27, .fix [.i c.proc, .i c.obj, .i c.kind, .i c.arg, .i c.ret, .i c.frm, .i c.to]⟩), (999, ⟨3, .row (.ints l)⟩)], [44, 5, 999]⟩)
              (True ∧ (True ∧ ((True ∧ True) ∧ (True ∧ (True ∧ True))))) (by kernel_rfl)
              ⟨trivial, ⟨trivial, ⟨⟨trivial, trivial⟩, ⟨trivial, ⟨trivial, trivial⟩⟩⟩⟩⟩ ?_
            refine W.ret ?_
            exact endQ_ret (.tup [.sl (.ints ([c.arg])), .i (0 : Int)]) (by kernel_rfl) (@cast (((.ints ([c.arg]) : Dat) = .ints ((iSingle s l c).1)) ∧ (((.int .i64 (0 : Int) : Value) = .int .i64 ((iSingle s l c).2)) ∧ True)) _ (by kernel_rfl) ⟨(congrArg Dat.ints (by subst hv; simp only [iSingle, (decide_eq_false n15), (decide_eq_false n21), n26, n34, cond_true, cond_false, Bool.and_true, Bool.true_and, Bool.and_false, Bool.false_and, Bool.or_true, Bool.true_or, Bool.or_false, Bool.false_or, Bool.not_true, Bool.not_false, List.length_nil])), ⟨(congrArg (Value.int .i64) (by subst hv; simp only [iSingle, (decide_eq_false n15), (decide_eq_false n21), n26, n34, cond_true, cond_false, Bool.and_true, Bool.true_and, Bool.and_false, Bool.false_and, Bool.or_true, Bool.true_or, Bool.or_false, Bool.false_or, Bool.not_true, Bool.not_false, List.length_nil])), trivial⟩⟩)
theorem ent125 : Entr prog 125 := ⟨_, func125, rfl, by decide⟩

end Go.Proofs.Try
