import Derived.Test.YtcjnccepckdiaaaAS
import Derived.Test.YtcjnccepckdiaaaM10
import Derived.Test.YtcjnccepckdiaaaAP135
set_option linter.unusedSimpArgs false
set_option linter.unusedVariables false
namespace Go.Proofs.Try
open Go.Ab Go.RowKit
/-- impl.row -/
def fs127 : FnS := fnS [.o, .c .ints 3, .o] [.str, .ints, .call] (fun _ (s, l, c, _) => (.tup [.sl (.ints ((iRow s l c).1)), .i ((iRow s l c).2)], [], (∀ j, j < l.length → 0 ≤ l.getD j 0 ∧ l.getD j 0 ≤ 20) ∧ (0 ≤ c.arg ∧ c.arg ≤ 3) ∧ (l.length ≤ 20)))
abbrev T127 : Tab := lk [(135, fs135)]
theorem tab127 : TabOK prog T127 := (TabOK.cons ok135 ent135 TabOK.nil)
set_option maxRecDepth 100000 in
set_option maxHeartbeats 1000000 in
theorem ok127 : FnOK prog 127 fs127 := by
  refine FnOK.mk cok func127 rfl rfl rfl ?_
  rintro fl ⟨(s : ByteArray), (l : List Int), (c : CallD), _⟩ hpre F hnt0 _
  have hnt : F.nt = 48 := hnt0.trans ntmps127
  replace hpre : (∀ j, j < l.length → 0 ≤ l.getD j 0 ∧ l.getD j 0 ≤ 20) ∧ (0 ≤ c.arg ∧ c.arg ≤ 3) ∧ (l.length ≤ 20) := hpre
  obtain ⟨hs, ha, hl⟩ := hpre
  refine W.to (⟨[(0, .v (.string s)), (1, .own 999 (List.length l)), (2, .agg [.i c.proc, .i c.obj, .i c.kind, .i c.arg, .i c.ret, .i c.frm, .i c.to])], [(999, ⟨3, .row (.ints l)⟩)], [999]⟩) rfl ?_
  refine W.K cok tab127 hnt [] [0, 1, 5] (⟨[(0, .v (.string s)), (1, .own 999 (List.length l)), (5, .ptr 5 0)], [(5, ⟨27, .fix [.i c.proc, .i c.obj, .i c.kind, .i c.arg, .i c.ret, .i c.frm, .i c.to]⟩), (999, ⟨3, .row (.ints l)⟩)], [5, 999]⟩)
    (True ∧ (True ∧ (True ∧ True))) (by kernel_rfl)
    ⟨trivial, ⟨trivial, ⟨trivial, trivial⟩⟩⟩ ?_
  refine W.K cok tab127 hnt [] [0, 1, 5, 8] (⟨[(0, .v (.string s)), (1, .own 999 (List.length l)), (5, .ptr 5 0), (8, .i (0 : Int))], [(5, ⟨27, .fix [.i c.proc, .i c.obj, .i c.kind, .i c.arg, .i c.ret, .i c.frm, .i c.to]⟩), (999, ⟨3, .row (.ints l)⟩)], [5, 999]⟩)
    (True ∧ True) (by kernel_rfl)
    ⟨trivial, trivial⟩ ?_
  refine W.seq ?_
  refine W.K cok tab127 hnt [] [1, 5, 8, 11] (⟨[(1, .own 999 (List.length l)), (5, .ptr 5 0), (8, .i (0 : Int)), (11, .b (eqS s nStack))], [(5, ⟨27, .fix [.i c.proc, .i c.obj, .i c.kind, .i c.arg, .i c.ret, .i c.frm, .i c.to]⟩), (999, ⟨3, .row (.ints l)⟩)], [5, 999]⟩)
    (True ∧ ((True ∧ (True ∧ True)) ∧ True)) (by kernel_rfl)
    ⟨trivial, ⟨⟨trivial, ⟨trivial, trivial⟩⟩, trivial⟩⟩ ?_
  refine W.meetT (ι := Int) (fun (v : Int) => (⟨[(1, .own 999 (List.length l)), (5, .ptr 5 0), (8, .i v)], [(5, ⟨27, .fix [.i c.proc, .i c.obj, .i c.kind, .i c.arg, .i c.ret, .i c.frm, .i c.to]⟩), (999, ⟨3, .row (.ints l)⟩)], [5, 999]⟩ : St)) (fun (v : Int) => (v = topOf s l) ∧ (-1 ≤ v ∧ v < max 1 ((l.length : Nat) : Int) ∧ (0 < l.length → 0 ≤ v))) ?_ ?_
  · skip
    refine W.if' (eqS s nStack) (.b (eqS s nStack)) (by kernel_rfl) rfl trivial ?_ ?_
    · intro h11
      refine W.L cok tab127 hnt [] (⟨[(1, .own 999 (List.length l)), (5, .ptr 5 0), (8, .i ((((List.length l) : Nat) : Int) - (1 : Int))), (11, .b (eqS s nStack)), (12, .own 999 (List.length l)), (13, .i (((List.length l) : Nat) : Int)), (14, .i ((((List.length l) : Nat) : Int) - (1 : Int)))], [(5, ⟨27, .fix [.i c.proc, .i c.obj, .i c.kind, .i c.arg, .i c.ret, .i c.frm, .i c.to]⟩), (999, ⟨3, .row (.ints l)⟩)], [5, 999]⟩)
        (True ∧ (True ∧ ((True ∧ (True ∧ (Fits .i64 ((((List.length l) : Nat) : Int) - (1 : Int))))) ∧ (True ∧ True)))) (by kernel_rfl)
        ⟨trivial, ⟨trivial, ⟨⟨trivial, ⟨trivial, (by exact fits_i64 (by omega) (by omega))⟩⟩, ⟨trivial, trivial⟩⟩⟩⟩ ?_
      refine thenQ_normal ?_
      refine ⟨(((((List.length l) : Nat) : Int) - (1 : Int))), (show (((((List.length l) : Nat) : Int) - (1 : Int)) = topOf s l) ∧ (-1 ≤ ((((List.length l) : Nat) : Int) - (1 : Int)) ∧ ((((List.length l) : Nat) : Int) - (1 : Int)) < max 1 ((l.length : Nat) : Int) ∧ (0 < l.length → 0 ≤ ((((List.length l) : Nat) : Int) - (1 : Int)))) from ⟨(by unfold topOf; first | (rw [h11]; rfl) | (rw [n11]; rfl)), (by omega)⟩), ?_⟩
      exact Sub.of [] (@cast (((((999 : Nat) = 999) ∧ (((List.length l) = (List.length l)) ∧ ((999 : Nat) ∈ ([5, 999] : List Nat)))) ∧ ((((5 : Nat) = 5) ∧ (((0 : Nat) = 0) ∧ ((5 : Nat) ∈ ([5, 999] : List Nat)))) ∧ (((.int .i64 ((((List.length l) : Nat) : Int) - (1 : Int)) : Value) = .int .i64 ((((List.length l) : Nat) : Int) - (1 : Int))) ∧ True))) ∧ (((((27 : Nat) = 27) ∧ ((((.int .i64 c.proc : Value) = .int .i64 c.proc) ∧ (((.int .i64 c.obj : Value) = .int .i64 c.obj) ∧ (((.int .i64 c.kind : Value) = .int .i64 c.kind) ∧ (((.int .i64 c.arg : Value) = .int .i64 c.arg) ∧ (((.int .i64 c.ret : Value) = .int .i64 c.ret) ∧ (((.int .i64 c.frm : Value) = .int .i64 c.frm) ∧ (((.int .i64 c.to : Value) = .int .i64 c.to) ∧ True))))))) ∧ ((5 : Nat) ∈ ([5, 999] : List Nat)))) ∧ ((((3 : Nat) = 3) ∧ (((.ints l : Dat) = .ints l) ∧ ((999 : Nat) ∈ ([5, 999] : List Nat)))) ∧ True)) ∧ ((true = true) ∧ (true = true)))) _ (by kernel_rfl) ⟨⟨⟨rfl, ⟨rfl, (by decide)⟩⟩, ⟨⟨rfl, ⟨rfl, (by decide)⟩⟩, ⟨rfl, trivial⟩⟩⟩, ⟨⟨⟨rfl, ⟨⟨rfl, ⟨rfl, ⟨rfl, ⟨rfl, ⟨rfl, ⟨rfl, ⟨rfl, trivial⟩⟩⟩⟩⟩⟩⟩, (by decide)⟩⟩, ⟨⟨rfl, ⟨rfl, (by decide)⟩⟩, trivial⟩⟩, ⟨rfl, rfl⟩⟩⟩)
    · intro n11
      refine W.skip (thenQ_normal ?_)
      refine ⟨((0 : Int)), (show ((0 : Int) = topOf s l) ∧ (-1 ≤ (0 : Int) ∧ (0 : Int) < max 1 ((l.length : Nat) : Int) ∧ (0 < l.length → 0 ≤ (0 : Int))) from ⟨(by unfold topOf; first | (rw [h11]; rfl) | (rw [n11]; rfl)), (by omega)⟩), ?_⟩
      exact Sub.of [] (@cast (((((999 : Nat) = 999) ∧ (((List.length l) = (List.length l)) ∧ ((999 : Nat) ∈ ([5, 999] : List Nat)))) ∧ ((((5 : Nat) = 5) ∧ (((0 : Nat) = 0) ∧ ((5 : Nat) ∈ ([5, 999] : List Nat)))) ∧ (((.int .i64 (0 : Int) : Value) = .int .i64 (0 : Int)) ∧ True))) ∧ (((((27 : Nat) = 27) ∧ ((((.int .i64 c.proc : Value) = .int .i64 c.proc) ∧ (((.int .i64 c.obj : Value) = .int .i64 c.obj) ∧ (((.int .i64 c.kind : Value) = .int .i64 c.kind) ∧ (((.int .i64 c.arg : Value) = .int .i64 c.arg) ∧ (((.int .i64 c.ret : Value) = .int .i64 c.ret) ∧ (((.int .i64 c.frm : Value) = .int .i64 c.frm) ∧ (((.int .i64 c.to : Value) = .int .i64 c.to) ∧ True))))))) ∧ ((5 : Nat) ∈ ([5, 999] : List Nat)))) ∧ ((((3 : Nat) = 3) ∧ (((.ints l : Dat) = .ints l) ∧ ((999 : Nat) ∈ ([5, 999] : List Nat)))) ∧ True)) ∧ ((true = true) ∧ (true = true)))) _ (by kernel_rfl) ⟨⟨⟨rfl, ⟨rfl, (by decide)⟩⟩, ⟨⟨rfl, ⟨rfl, (by decide)⟩⟩, ⟨rfl, trivial⟩⟩⟩, ⟨⟨⟨rfl, ⟨⟨rfl, ⟨rfl, ⟨rfl, ⟨rfl, ⟨rfl, ⟨rfl, ⟨rfl, trivial⟩⟩⟩⟩⟩⟩⟩, (by decide)⟩⟩, ⟨⟨rfl, ⟨rfl, (by decide)⟩⟩, trivial⟩⟩, ⟨rfl, rfl⟩⟩⟩)
  · rintro v hC0
    have hC : (v = topOf s l) ∧ (-1 ≤ v ∧ v < max 1 ((l.length : Nat) : Int) ∧ (0 < l.length → 0 ≤ v)) := hC0
    clear hC0
    obtain ⟨hv, hvb⟩ := hC
    refine W.to (⟨[(1, .own 999 (List.length l)), (5, .ptr 5 0), (8, .i v)], [(5, ⟨27, .fix [.i c.proc, .i c.obj, .i c.kind, .i c.arg, .i c.ret, .i c.frm, .i c.to]⟩), (999, ⟨3, .row (.ints l)⟩)], [5, 999]⟩) rfl ?_
    refine W.seq ?_
    refine W.block ?_
    refine W.K cok tab127 hnt [] [1, 5, 8, 15] (⟨[(1, .own 999 (List.length l)), (5, .ptr 5 0), (8, .i v), (15, .b (decide (c.kind = (0 : Int))))], [(5, ⟨27, .fix [.i c.proc, .i c.obj, .i c.kind, .i c.arg, .i c.ret, .i c.frm, .i c.to]⟩), (999, ⟨3, .row (.ints l)⟩)], [5, 999]⟩)
      (True ∧ (True ∧ ((True ∧ (True ∧ True)) ∧ (True ∧ True)))) (by kernel_rfl)
      ⟨trivial, ⟨trivial, ⟨⟨trivial, ⟨trivial, trivial⟩⟩, ⟨trivial, trivial⟩⟩⟩⟩ ?_
    refine W.ifP (c.kind = (0 : Int)) (.b (decide (c.kind = (0 : Int)))) (by kernel_rfl) rfl trivial ?_ ?_
    · intro h15
      refine W.K cok tab127 hnt [] [6, 7] (⟨[(6, .sl (.ints (l ++ ([c.arg])))), (7, .i (0 : Int))], [(5, ⟨27, .fix [.i c.proc, .i c.obj, .i c.kind, .i c.arg, .i c.ret, .i c.frm, .i c.to]⟩)], [23, 22, 5, 999]⟩)
        (True ∧ (True ∧ (True ∧ ((True ∧ True) ∧ (((True ∧ ((List.length l) = (List.length l))) ∧ (True ∧ (((List.length l) + (List.length ([c.arg]))) * 8 ≤ 140737488355328))) ∧ (True ∧ (True ∧ True))))))) (by kernel_rfl)
        ⟨trivial, ⟨trivial, ⟨trivial, ⟨⟨trivial, trivial⟩, ⟨⟨⟨trivial, rfl⟩, ⟨trivial, (by (first | omega | (simp only [List.length_append, List.length_cons, List.length_nil, List.length_take, List.length_drop, List.length_set, List.length_replicate, List.length_map] at *; omega) | assumption))⟩⟩, ⟨trivial, ⟨trivial, trivial⟩⟩⟩⟩⟩⟩⟩ ?_
      refine W.ret (blockQ_ret (thenQ_ret ?_))
      exact endQ_ret (.tup [.sl (.ints (l ++ ([c.arg]))), .i (0 : Int)]) (by kernel_rfl) (@cast (((.ints (l ++ ([c.arg])) : Dat) = .ints ((iRow s l c).1)) ∧ (((.int .i64 (0 : Int) : Value) = .int .i64 ((iRow s l c).2)) ∧ True)) _ (by kernel_rfl) ⟨(congrArg Dat.ints (by subst hv; first | (simp only [iRow, (decide_eq_true h15), cond_true, cond_false, Bool.and_true, Bool.true_and, Bool.and_false, Bool.false_and, Bool.or_true, Bool.true_or, Bool.or_false, Bool.false_or, Bool.not_true, Bool.not_false]; done) | simp only [iRow, (decide_eq_true h15), cond_true, cond_false, Bool.and_true, Bool.true_and, Bool.and_false, Bool.false_and, Bool.or_true, Bool.true_or, Bool.or_false, Bool.false_or, Bool.not_true, Bool.not_false])), ⟨(congrArg (Value.int .i64) (by subst hv; first | (simp only [iRow, (decide_eq_true h15), cond_true, cond_false, Bool.and_true, Bool.true_and, Bool.and_false, Bool.false_and, Bool.or_true, Bool.true_or, Bool.or_false, Bool.false_or, Bool.not_true, Bool.not_false]; done) | simp only [iRow, (decide_eq_true h15), cond_true, cond_false, Bool.and_true, Bool.true_and, Bool.and_false, Bool.false_and, Bool.or_true, Bool.true_or, Bool.or_false, Bool.false_or, Bool.not_true, Bool.not_false])), trivial⟩⟩)
    · intro n15
      refine W.K cok tab127 hnt [] [1, 5, 8, 24] (⟨[(1, .own 999 (List.length l)), (5, .ptr 5 0), (8, .i v), (24, .b (decide ((((List.length l) : Nat) : Int) = (0 : Int))))], [(5, ⟨27, .fix [.i c.proc, .i c.obj, .i c.kind, .i c.arg, .i c.ret, .i c.frm, .i c.to]⟩), (999, ⟨3, .row (.ints l)⟩)], [5, 999]⟩)
        (True ∧ (True ∧ ((True ∧ (True ∧ True)) ∧ (True ∧ True)))) (by kernel_rfl)
        ⟨trivial, ⟨trivial, ⟨⟨trivial, ⟨trivial, trivial⟩⟩, ⟨trivial, trivial⟩⟩⟩⟩ ?_
      refine W.ifP ((((List.length l) : Nat) : Int) = (0 : Int)) (.b (decide ((((List.length l) : Nat) : Int) = (0 : Int)))) (by kernel_rfl) rfl trivial ?_ ?_
      · intro h24
        refine W.K cok tab127 hnt [] [6, 7] (⟨[(6, .own 999 (List.length l)), (7, .i (-1 : Int))], [(5, ⟨27, .fix [.i c.proc, .i c.obj, .i c.kind, .i c.arg, .i c.ret, .i c.frm, .i c.to]⟩), (999, ⟨3, .row (.ints l)⟩)], [5, 999]⟩)
          (True ∧ (True ∧ (True ∧ True))) (by kernel_rfl)
          ⟨trivial, ⟨trivial, ⟨trivial, trivial⟩⟩⟩ ?_
        refine W.ret (blockQ_ret (thenQ_ret ?_))
        exact endQ_ret (.tup [.own 999 (List.length l), .i (-1 : Int)]) (by kernel_rfl) (@cast ((((List.length l) = (List.length l)) ∧ (((.ints l : Dat) = .ints ((iRow s l c).1)) ∧ ((999 : Nat) ∉ ([] : List Nat)))) ∧ (((.int .i64 (-1 : Int) : Value) = .int .i64 ((iRow s l c).2)) ∧ True)) _ (by kernel_rfl) ⟨⟨rfl, ⟨(congrArg Dat.ints (by subst hv; first | (simp only [iRow, (decide_eq_true h24), (decide_eq_false n15), cond_true, cond_false, Bool.and_true, Bool.true_and, Bool.and_false, Bool.false_and, Bool.or_true, Bool.true_or, Bool.or_false, Bool.false_or, Bool.not_true, Bool.not_false]; done) | simp only [iRow, (decide_eq_true h24), (decide_eq_false n15), cond_true, cond_false, Bool.and_true, Bool.true_and, Bool.and_false, Bool.false_and, Bool.or_true, Bool.true_or, Bool.or_false, Bool.false_or, Bool.not_true, Bool.not_false])), (by decide)⟩⟩, ⟨(congrArg (Value.int .i64) (by subst hv; first | (simp only [iRow, (decide_eq_true h24), (decide_eq_false n15), cond_true, cond_false, Bool.and_true, Bool.true_and, Bool.and_false, Bool.false_and, Bool.or_true, Bool.true_or, Bool.or_false, Bool.false_or, Bool.not_true, Bool.not_false]; done) | simp only [iRow, (decide_eq_true h24), (decide_eq_false n15), cond_true, cond_false, Bool.and_true, Bool.true_and, Bool.and_false, Bool.false_and, Bool.or_true, Bool.true_or, Bool.or_false, Bool.false_or, Bool.not_true, Bool.not_false])), trivial⟩⟩)
      · intro n24
        refine W.K cok tab127 hnt [] [1, 8, 29] (⟨[(1, .own 999 (List.length l)), (8, .i v), (29, .b (decide (c.kind = (2 : Int))))], [(5, ⟨27, .fix [.i c.proc, .i c.obj, .i c.kind, .i c.arg, .i c.ret, .i c.frm, .i c.to]⟩), (999, ⟨3, .row (.ints l)⟩)], [5, 999]⟩)
          (True ∧ (True ∧ ((True ∧ (True ∧ True)) ∧ (True ∧ True)))) (by kernel_rfl)
          ⟨trivial, ⟨trivial, ⟨⟨trivial, ⟨trivial, trivial⟩⟩, ⟨trivial, trivial⟩⟩⟩⟩ ?_
        refine W.ifP (c.kind = (2 : Int)) (.b (decide (c.kind = (2 : Int)))) (by kernel_rfl) rfl trivial ?_ ?_
        · intro h29
          refine W.KA cok tab127 hnt [] [6, 7] (⟨[(6, .own 999 (List.length l)), (7, .i (List.getD l (Int.toNat v) 0))], [(5, ⟨27, .fix [.i c.proc, .i c.obj, .i c.kind, .i c.arg, .i c.ret, .i c.frm, .i c.to]⟩), (999, ⟨3, .row (.ints l)⟩)], [5, 999]⟩)
            (True ∧ (True ∧ (True ∧ ((True ∧ (True ∧ ((0 ≤ v) ∧ (v < (((List.length l) : Nat) : Int))))) ∧ ((True ∧ ((Int.toNat v) < (List.length l))) ∧ (True ∧ (True ∧ True))))))) (by kernel_rfl) (by kernel_rfl)
            ⟨trivial, ⟨trivial, ⟨trivial, ⟨⟨trivial, ⟨trivial, ⟨(by omega), (by omega)⟩⟩⟩, ⟨⟨trivial, (by omega)⟩, ⟨trivial, ⟨trivial, trivial⟩⟩⟩⟩⟩⟩⟩ ?_
          refine W.ret (blockQ_ret (thenQ_ret ?_))
          exact endQ_ret (.tup [.own 999 (List.length l), .i (List.getD l (Int.toNat v) 0)]) (by kernel_rfl) (@cast ((((List.length l) = (List.length l)) ∧ (((.ints l : Dat) = .ints ((iRow s l c).1)) ∧ ((999 : Nat) ∉ ([] : List Nat)))) ∧ (((.int .i64 (List.getD l (Int.toNat v) 0) : Value) = .int .i64 ((iRow s l c).2)) ∧ True)) _ (by kernel_rfl) ⟨⟨rfl, ⟨(congrArg Dat.ints (by subst hv; first | (simp only [iRow, (decide_eq_true h29), (decide_eq_false n15), (decide_eq_false n24), cond_true, cond_false, Bool.and_true, Bool.true_and, Bool.and_false, Bool.false_and, Bool.or_true, Bool.true_or, Bool.or_false, Bool.false_or, Bool.not_true, Bool.not_false]; done) | simp only [iRow, (decide_eq_true h29), (decide_eq_false n15), (decide_eq_false n24), cond_true, cond_false, Bool.and_true, Bool.true_and, Bool.and_false, Bool.false_and, Bool.or_true, Bool.true_or, Bool.or_false, Bool.false_or, Bool.not_true, Bool.not_false])), (by decide)⟩⟩, ⟨(congrArg (Value.int .i64) (by subst hv; first | (simp only [iRow, (decide_eq_true h29), (decide_eq_false n15), (decide_eq_false n24), cond_true, cond_false, Bool.and_true, Bool.true_and, Bool.and_false, Bool.false_and, Bool.or_true, Bool.true_or, Bool.or_false, Bool.false_or, Bool.not_true, Bool.not_false]; done) | simp only [iRow, (decide_eq_true h29), (decide_eq_false n15), (decide_eq_false n24), cond_true, cond_false, Bool.and_true, Bool.true_and, Bool.and_false, Bool.false_and, Bool.or_true, Bool.true_or, Bool.or_false, Bool.false_or, Bool.not_true, Bool.not_false])), trivial⟩⟩)
        · intro n29
          refine W.skip (blockQ_normal (thenQ_normal ?_))
          refine W.K cok tab127 hnt [] [1, 8, 9] (⟨[(1, .own 999 (List.length l)), (8, .i v), (9, .i (List.getD l (Int.toNat v) 0))], [(5, ⟨27, .fix [.i c.proc, .i c.obj, .i c.kind, .i c.arg, .i c.ret, .i c.frm, .i c.to]⟩), (999, ⟨3, .row (.ints l)⟩)], [5, 999]⟩)
            (True ∧ (True ∧ ((True ∧ (True ∧ ((0 ≤ v) ∧ (v < (((List.length l) : Nat) : Int))))) ∧ ((True ∧ ((Int.toNat v) < (List.length l))) ∧ (True ∧ True))))) (by kernel_rfl)
            ⟨trivial, ⟨trivial, ⟨⟨trivial, ⟨trivial, ⟨(by omega), (by omega)⟩⟩⟩, ⟨⟨trivial, (by omega)⟩, ⟨trivial, trivial⟩⟩⟩⟩⟩ ?_
          refine W.K cok tab127 hnt [46] [6, 7] (⟨[(6, .own 46 (List.length (l.take v.toNat ++ l.drop (v + (1 : Int)).toNat))), (7, .i (List.getD l (Int.toNat v) 0))], [(5, ⟨27, .fix [.i c.proc, .i c.obj, .i c.kind, .i c.arg, .i c.ret, .i c.frm, .i c.to]⟩), (46, ⟨3, .row (.ints (l.take v.toNat ++ l.drop (v + (1 : Int)).toNat))⟩)], [46, 5, 999]⟩)
            (True ∧ (True ∧ (True ∧ ((True ∧ (True ∧ (Fits .i64 (v + (1 : Int))))) ∧ ((True ∧ (((True ∧ ((List.length l) = (List.length l))) ∧ (True ∧ (True ∧ True))) ∧ ((0 ≤ v) ∧ ((v < (v + (1 : Int))) ∧ ((v + (1 : Int)) ≤ l.length))))) ∧ (True ∧ (True ∧ (True ∧ True)))))))) (by kernel_rfl)
            ⟨trivial, ⟨trivial, ⟨trivial, ⟨⟨trivial, ⟨trivial, (by exact fits_i64 (by omega) (by omega))⟩⟩, ⟨⟨trivial, ⟨⟨⟨trivial, rfl⟩, ⟨trivial, ⟨trivial, trivial⟩⟩⟩, ⟨(by omega), ⟨(by omega), (by omega)⟩⟩⟩⟩, ⟨trivial, ⟨trivial, ⟨trivial, trivial⟩⟩⟩⟩⟩⟩⟩⟩ ?_
          refine W.ret ?_
          exact endQ_ret (.tup [.own 46 (List.length (l.take v.toNat ++ l.drop (v + (1 : Int)).toNat)), .i (List.getD l (Int.toNat v) 0)]) (by kernel_rfl) (@cast ((((List.length (l.take v.toNat ++ l.drop (v + (1 : Int)).toNat)) = (List.length (l.take v.toNat ++ l.drop (v + (1 : Int)).toNat))) ∧ (((.ints (l.take v.toNat ++ l.drop (v + (1 : Int)).toNat) : Dat) = .ints ((iRow s l c).1)) ∧ ((46 : Nat) ∉ ([] : List Nat)))) ∧ (((.int .i64 (List.getD l (Int.toNat v) 0) : Value) = .int .i64 ((iRow s l c).2)) ∧ True)) _ (by kernel_rfl) ⟨⟨rfl, ⟨(congrArg Dat.ints (by subst hv; first | (simp only [iRow, (decide_eq_false n15), (decide_eq_false n24), (decide_eq_false n29), cond_true, cond_false, Bool.and_true, Bool.true_and, Bool.and_false, Bool.false_and, Bool.or_true, Bool.true_or, Bool.or_false, Bool.false_or, Bool.not_true, Bool.not_false]; done) | simp only [iRow, (decide_eq_false n15), (decide_eq_false n24), (decide_eq_false n29), cond_true, cond_false, Bool.and_true, Bool.true_and, Bool.and_false, Bool.false_and, Bool.or_true, Bool.true_or, Bool.or_false, Bool.false_or, Bool.not_true, Bool.not_false])), (by decide)⟩⟩, ⟨(congrArg (Value.int .i64) (by subst hv; first | (simp only [iRow, (decide_eq_false n15), (decide_eq_false n24), (decide_eq_false n29), cond_true, cond_false, Bool.and_true, Bool.true_and, Bool.and_false, Bool.false_and, Bool.or_true, Bool.true_or, Bool.or_false, Bool.false_or, Bool.not_true, Bool.not_false]; done) | simp only [iRow, (decide_eq_false n15), (decide_eq_false n24), (decide_eq_false n29), cond_true, cond_false, Bool.and_true, Bool.true_and, Bool.and_false, Bool.false_and, Bool.or_true, Bool.true_or, Bool.or_false, Bool.false_or, Bool.not_true, Bool.not_false])), trivial⟩⟩)
theorem ent127 : Entr prog 127 := ⟨_, func127, rfl, by decide⟩

end Go.Proofs.Try
