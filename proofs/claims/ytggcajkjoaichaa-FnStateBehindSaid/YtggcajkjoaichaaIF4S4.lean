import Derived.Test.YtggcajkjoaichaaIF4S0
import Derived.Test.YtggcajkjoaichaaIF4S3
set_option linter.unusedSimpArgs false
set_option linter.unusedVariables false
namespace Go.Proofs.Try
open Go.Ab Go.RowKit
def fs44 : FnS := fnS [.o, .s .ints] [.int, .ints] (fun _ (n, l, _) => (.b (isOrd l n), [], (0 ≤ n ∧ n ≤ 9223372036854775807)))
abbrev T44 : Tab := lk [(50, fs50), (72, fs72)]
theorem tab44 : TabOK prog T44 := (TabOK.cons ok50 ent50 (TabOK.cons ok72 ent72 TabOK.nil))
set_option maxRecDepth 100000 in
set_option maxHeartbeats 1000000 in
theorem ok44 : FnOK prog 44 fs44 := by
  refine FnOK.mk cok func44 rfl rfl rfl ?_
  rintro fl ⟨(n : Int), (l : List Int), _⟩ hpre F hnt0 _
  have hnt : F.nt = 34 := hnt0.trans ntmps44
  replace hpre : (0 ≤ n ∧ n ≤ 9223372036854775807) := hpre
  have hn := hpre
  refine W.to (⟨[(0, .i n), (1, .sl (.ints l))], [], [999]⟩) rfl ?_
  refine W.lenOf 1 (.ints l) (by kernel_rfl) ?_
  intro hl_l; replace hl_l : List.length l ≤ 9223372036854775807 := hl_l
  refine W.K cok tab44 hnt [] [0, 1] (⟨[(0, .i n), (1, .sl (.ints l))], [], [999]⟩)
    (True ∧ True) (by kernel_rfl)
    ⟨trivial, trivial⟩ ?_
  refine W.seq ?_
  refine W.K cok tab44 hnt [] [0, 1, 5] (⟨[(0, .i n), (1, .sl (.ints l)), (5, .i (0 : Int))], [], [999]⟩)
    (True ∧ True) (by kernel_rfl)
    ⟨trivial, trivial⟩ ?_
  refine W.block ?_
  refine W.loop (ι := Nat) (fun (i : Nat) => (⟨[(0, .i n), (1, .sl (.ints l)), (5, .i ((i : Nat) : Int))], [], [999]⟩ : St))
    (fun (i : Nat) => (i ≤ l.length) ∧ (∀ j, j < i → ordOK l n j = true))
    (fun (i : Nat) => (l.length - i : Nat)) (0) ?_ ?_ ?_
  · exact (show (0 ≤ l.length) ∧ (∀ j, j < 0 → ordOK l n j = true) from ⟨(by first | assumption | omega | rfl | (intro _ hjj; omega) | (simp; done) | (simp; omega)), (by exact upto_zero)⟩)
  · exact Sub.of [] (@cast ((((.int .i64 n : Value) = .int .i64 n) ∧ (((.ints l : Dat) = .ints l) ∧ (((.int .i64 (0 : Int) : Value) = .int .i64 ((0 : Nat) : Int)) ∧ True))) ∧ (True ∧ ((true = true) ∧ (true = true)))) _ (by kernel_rfl) ⟨⟨rfl, ⟨rfl, ⟨(congrArg (Value.int .i64) (by first | rfl | omega | assumption | simp | simp_all)), trivial⟩⟩⟩, ⟨trivial, ⟨rfl, rfl⟩⟩⟩)
  · rintro i hC0
    have hC : (i ≤ l.length) ∧ (∀ j, j < i → ordOK l n j = true) := hC0
    clear hC0
    obtain ⟨hi, hA⟩ := hC
    refine W.to (⟨[(0, .i n), (1, .sl (.ints l)), (5, .i ((i : Nat) : Int))], [], [999]⟩) rfl ?_
    refine W.seq ?_
    refine W.K cok tab44 hnt [] [0, 1, 5, 9] (⟨[(0, .i n), (1, .sl (.ints l)), (5, .i ((i : Nat) : Int)), (9, .b (decide (((i : Nat) : Int) < (((List.length l) : Nat) : Int))))], [], [999]⟩)
      (True ∧ (True ∧ (True ∧ ((True ∧ (True ∧ True)) ∧ True)))) (by kernel_rfl)
      ⟨trivial, ⟨trivial, ⟨trivial, ⟨⟨trivial, ⟨trivial, trivial⟩⟩, trivial⟩⟩⟩⟩ ?_
    refine W.ifP (((i : Nat) : Int) < (((List.length l) : Nat) : Int)) (.b (decide (((i : Nat) : Int) < (((List.length l) : Nat) : Int)))) (by kernel_rfl) rfl trivial ?_ ?_
    · intro h9
      refine W.skip (thenQ_normal ?_)
      refine W.seq ?_
      refine W.block ?_
      refine W.KA cok tab44 hnt [] [0, 1, 5, 29] (⟨[(0, .i n), (1, .sl (.ints l)), (5, .i ((i : Nat) : Int)), (29, .b ((!(within (List.getD l i 0) (0 : Int) (n - (1 : Int)))) || (hasInt (List.take i l) (List.getD l i 0))))], [], [999]⟩)
        (True ∧ (True ∧ ((True ∧ (True ∧ ((0 ≤ ((i : Nat) : Int)) ∧ (((i : Nat) : Int) < (((List.length l) : Nat) : Int))))) ∧ (True ∧ (True ∧ ((True ∧ (True ∧ (Fits .i64 (n - (1 : Int))))) ∧ ((True ∧ ((True ∧ (True ∧ (True ∧ True))) ∧ True)) ∧ (True ∧ (True ∧ (((!(!(within (List.getD l i 0) (0 : Int) (n - (1 : Int))))) = true → True) ∧ (((!(!(within (List.getD l i 0) (0 : Int) (n - (1 : Int))))) = true → True) ∧ (((!(!(within (List.getD l i 0) (0 : Int) (n - (1 : Int))))) = true → ((((!(!(within (List.getD l i 0) (0 : Int) (n - (1 : Int))))) = true) ∧ True) ∧ (True ∧ ((((!(!(within (List.getD l i 0) (0 : Int) (n - (1 : Int))))) = true) ∧ True) ∧ ((0 ≤ (0 : Int)) ∧ (((0 : Int) ≤ ((i : Nat) : Int)) ∧ (((i : Nat) : Int) ≤ (((List.length l) : Nat) : Int)))))))) ∧ (((!(!(within (List.getD l i 0) (0 : Int) (n - (1 : Int))))) = true → True) ∧ (((!(!(within (List.getD l i 0) (0 : Int) (n - (1 : Int))))) = true → True) ∧ (((!(!(within (List.getD l i 0) (0 : Int) (n - (1 : Int))))) = true → ((((!(!(within (List.getD l i 0) (0 : Int) (n - (1 : Int))))) = true) ∧ True) ∧ ((((!(!(within (List.getD l i 0) (0 : Int) (n - (1 : Int))))) = true) ∧ True) ∧ ((0 ≤ ((i : Nat) : Int)) ∧ (((i : Nat) : Int) < (((List.length l) : Nat) : Int)))))) ∧ (((!(!(within (List.getD l i 0) (0 : Int) (n - (1 : Int))))) = true → (((!(!(within (List.getD l i 0) (0 : Int) (n - (1 : Int))))) = true) ∧ True)) ∧ (((!(!(within (List.getD l i 0) (0 : Int) (n - (1 : Int))))) = true → (True ∧ (((((!(!(within (List.getD l i 0) (0 : Int) (n - (1 : Int))))) = true) ∧ True) ∧ ((((!(!(within (List.getD l i 0) (0 : Int) (n - (1 : Int))))) = true) ∧ True) ∧ True)) ∧ True))) ∧ ((True ∧ (((!(within (List.getD l i 0) (0 : Int) (n - (1 : Int)))) = true → True) ∧ ((!(within (List.getD l i 0) (0 : Int) (n - (1 : Int)))) = false → ((!(!(within (List.getD l i 0) (0 : Int) (n - (1 : Int))))) = true) ∧ True))) ∧ True)))))))))))))))))) (by kernel_rfl) (by kernel_rfl)
        ⟨trivial, ⟨trivial, ⟨⟨trivial, ⟨trivial, ⟨(by omega), (by omega)⟩⟩⟩, ⟨trivial, ⟨trivial, ⟨⟨trivial, ⟨trivial, (by exact fits_i64 (by omega) (by omega))⟩⟩, ⟨⟨trivial, ⟨⟨trivial, ⟨trivial, ⟨trivial, trivial⟩⟩⟩, trivial⟩⟩, ⟨trivial, ⟨trivial, ⟨(fun _ => trivial), ⟨(fun _ => trivial), ⟨(fun hG => ⟨⟨hG, trivial⟩, ⟨trivial, ⟨⟨hG, trivial⟩, ⟨(by omega), ⟨(by omega), (by omega)⟩⟩⟩⟩⟩), ⟨(fun _ => trivial), ⟨(fun _ => trivial), ⟨(fun hG => ⟨⟨hG, trivial⟩, ⟨⟨hG, trivial⟩, ⟨(by omega), (by omega)⟩⟩⟩), ⟨(fun hG => ⟨hG, trivial⟩), ⟨(fun hG => ⟨trivial, ⟨⟨⟨hG, trivial⟩, ⟨⟨hG, trivial⟩, trivial⟩⟩, trivial⟩⟩), ⟨⟨trivial, ⟨(fun _ => trivial), (fun hp => ⟨(not_t hp), trivial⟩)⟩⟩, trivial⟩⟩⟩⟩⟩⟩⟩⟩⟩⟩⟩⟩⟩⟩⟩⟩⟩⟩ ?_
      refine W.if' ((!(within (List.getD l i 0) (0 : Int) (n - (1 : Int)))) || (hasInt (List.take i l) (List.getD l i 0))) (.b ((!(within (List.getD l i 0) (0 : Int) (n - (1 : Int)))) || (hasInt (List.take i l) (List.getD l i 0)))) (by kernel_rfl) rfl trivial ?_ ?_
      · intro h29
        refine W.K cok tab44 hnt [] [4] (⟨[(4, .b false)], [], [999]⟩)
          (True ∧ True) (by kernel_rfl)
          ⟨trivial, trivial⟩ ?_
        refine W.ret (blockQ_ret (thenQ_ret (thenQ_ret (blockQ_ret (thenQ_ret ?_)))))
        exact endQ_ret (.b false) (by kernel_rfl) (@cast ((.bool false : Value) = .bool (isOrd l n)) _ (by kernel_rfl) (congrArg Value.bool (by exact (ord_no (i := i) (by omega) h29).symm)))
      · intro n29
        refine W.skip (blockQ_normal (thenQ_normal ?_))
        refine W.L cok tab44 hnt [] (⟨[(0, .i n), (1, .sl (.ints l)), (5, .i (((i + 1) : Nat) : Int)), (10, .i ((i : Nat) : Int)), (11, .i (((i + 1) : Nat) : Int)), (29, .b ((!(within (List.getD l i 0) (0 : Int) (n - (1 : Int)))) || (hasInt (List.take i l) (List.getD l i 0))))], [], [999]⟩)
          (True ∧ ((True ∧ (True ∧ (Fits .i64 (((i + 1) : Nat) : Int)))) ∧ (True ∧ True))) (by kernel_rfl)
          ⟨trivial, ⟨⟨trivial, ⟨trivial, (by exact fits_i64 (by omega) (by omega))⟩⟩, ⟨trivial, trivial⟩⟩⟩ ?_
        refine thenQ_normal ?_
        refine ⟨((i + 1)), (show ((i + 1) ≤ l.length) ∧ (∀ j, j < (i + 1) → ordOK l n j = true) from ⟨(by first | assumption | omega | rfl | (intro _ hjj; omega) | (simp; done) | (simp; omega)), (by exact upto_succ hA (ord_ok n29))⟩), (show l.length - (i + 1) < l.length - i from (by first | omega | (simp_all; omega))), ?_⟩
        exact Sub.of [] (@cast ((((.int .i64 n : Value) = .int .i64 n) ∧ (((.ints l : Dat) = .ints l) ∧ (((.int .i64 (((i + 1) : Nat) : Int) : Value) = .int .i64 (((i + 1) : Nat) : Int)) ∧ True))) ∧ (True ∧ ((true = true) ∧ (true = true)))) _ (by kernel_rfl) ⟨⟨rfl, ⟨rfl, ⟨rfl, trivial⟩⟩⟩, ⟨trivial, ⟨rfl, rfl⟩⟩⟩)
    · intro n9
      refine W.exit (thenQ_exit (thenQ_exit (blockQ_hit ?_)))
      refine thenQ_normal ?_
      refine W.K cok tab44 hnt [] [4] (⟨[(4, .b (decide ((((List.length l) : Nat) : Int) = n)))], [], [999]⟩)
        (True ∧ (True ∧ (True ∧ ((True ∧ (True ∧ True)) ∧ (True ∧ True))))) (by kernel_rfl)
        ⟨trivial, ⟨trivial, ⟨trivial, ⟨⟨trivial, ⟨trivial, trivial⟩⟩, ⟨trivial, trivial⟩⟩⟩⟩⟩ ?_
      refine W.ret ?_
      exact endQ_ret (.b (decide ((((List.length l) : Nat) : Int) = n))) (by kernel_rfl) (@cast ((.bool (decide ((((List.length l) : Nat) : Int) = n)) : Value) = .bool (isOrd l n)) _ (by kernel_rfl) (congrArg Value.bool (by exact ord_end (fun j hj => hA j (by omega)))))
theorem ent44 : Entr prog 44 := ⟨_, func44, rfl, by decide⟩
end Go.Proofs.Try

set_option linter.unusedSimpArgs false
set_option linter.unusedVariables false
namespace Go.Proofs.Try
open Go.Ab Go.RowKit
def fs51 : FnS := fnS [.o, .s .ints, .o] [.str, .ints, .call] (fun _ (name, state, c, _) => (.tup [.sl (.ints ((specStep name state c).1)), .b ((specStep name state c).2)], [], (state.length ≤ 1000000) ∧ (∀ x ∈ state, -1000000000 ≤ x ∧ x ≤ 1000000000) ∧ (-1000000000 ≤ c.arg ∧ c.arg ≤ 1000000000)))
abbrev T51 : Tab := lk [(72, fs72)]
theorem tab51 : TabOK prog T51 := (TabOK.cons ok72 ent72 TabOK.nil)
set_option maxRecDepth 100000 in
set_option maxHeartbeats 4000000 in
theorem ok51 : FnOK prog 51 fs51 := by
  refine FnOK.mk cok func51 rfl rfl rfl ?_
  rintro fl ⟨(name : ByteArray), (state : List Int), (c : CallD), _⟩ hpre F hnt0 _
  have hnt : F.nt = 240 := hnt0.trans ntmps51
  replace hpre : (state.length ≤ 1000000) ∧ (∀ x ∈ state, -1000000000 ≤ x ∧ x ≤ 1000000000) ∧ (-1000000000 ≤ c.arg ∧ c.arg ≤ 1000000000) := hpre
  obtain ⟨hl, hs, ha⟩ := hpre
  refine W.to (⟨[(0, .v (.string name)), (1, .sl (.ints state)), (2, .agg [.i c.proc, .i c.obj, .i c.kind, .i c.arg, .i c.ret, .i c.frm, .i c.to])], [], [999]⟩) rfl ?_
  refine W.lenOf 1 (.ints state) (by kernel_rfl) ?_
  intro hl_state; replace hl_state : List.length state ≤ 9223372036854775807 := hl_state
  refine W.K cok tab51 hnt [] [0, 1, 5] (⟨[(0, .v (.string name)), (1, .sl (.ints state)), (5, .ptr 5 0)], [(5, ⟨36, .fix [.i c.proc, .i c.obj, .i c.kind, .i c.arg, .i c.ret, .i c.frm, .i c.to]⟩)], [5, 999]⟩)
    (True ∧ (True ∧ (True ∧ True))) (by kernel_rfl)
    ⟨trivial, ⟨trivial, ⟨trivial, trivial⟩⟩⟩ ?_
  refine W.K cok tab51 hnt [] [0, 1, 5, 8] (⟨[(0, .v (.string name)), (1, .sl (.ints state)), (5, .ptr 5 0), (8, .i (((List.length state) : Nat) : Int))], [(5, ⟨36, .fix [.i c.proc, .i c.obj, .i c.kind, .i c.arg, .i c.ret, .i c.frm, .i c.to]⟩)], [5, 999]⟩)
    (True ∧ (True ∧ (True ∧ True))) (by kernel_rfl)
    ⟨trivial, ⟨trivial, ⟨trivial, trivial⟩⟩⟩ ?_
  refine W.seq ?_
  refine W.K cok tab51 hnt [] [0, 1, 5, 8, 14] (⟨[(0, .v (.string name)), (1, .sl (.ints state)), (5, .ptr 5 0), (8, .i (((List.length state) : Nat) : Int)), (14, .b (decide (c.kind = (0 : Int))))], [(5, ⟨36, .fix [.i c.proc, .i c.obj, .i c.kind, .i c.arg, .i c.ret, .i c.frm, .i c.to]⟩)], [5, 999]⟩)
    (True ∧ (True ∧ ((True ∧ (True ∧ True)) ∧ True))) (by kernel_rfl)
    ⟨trivial, ⟨trivial, ⟨⟨trivial, ⟨trivial, trivial⟩⟩, trivial⟩⟩⟩ ?_
  refine W.ifP (c.kind = (0 : Int)) (.b (decide (c.kind = (0 : Int)))) (by kernel_rfl) rfl trivial ?_ ?_
  · intro h14
    refine W.seq ?_
    refine W.K cok tab51 hnt [] [1, 5, 8, 15] (⟨[(1, .sl (.ints state)), (5, .ptr 5 0), (8, .i (((List.length state) : Nat) : Int)), (15, .v (.string name))], [(5, ⟨36, .fix [.i c.proc, .i c.obj, .i c.kind, .i c.arg, .i c.ret, .i c.frm, .i c.to]⟩)], [5, 999]⟩)
      (True ∧ True) (by kernel_rfl)
      ⟨trivial, trivial⟩ ?_
    refine W.block ?_
    refine W.K cok tab51 hnt [] [1, 5, 8, 15, 16] (⟨[(1, .sl (.ints state)), (5, .ptr 5 0), (8, .i (((List.length state) : Nat) : Int)), (15, .v (.string name)), (16, .b (eqS name nRegister))], [(5, ⟨36, .fix [.i c.proc, .i c.obj, .i c.kind, .i c.arg, .i c.ret, .i c.frm, .i c.to]⟩)], [5, 999]⟩)
      ((True ∧ (True ∧ True)) ∧ (True ∧ True)) (by kernel_rfl)
      ⟨⟨trivial, ⟨trivial, trivial⟩⟩, ⟨trivial, trivial⟩⟩ ?_
    refine W.if' (eqS name nRegister) (.b (eqS name nRegister)) (by kernel_rfl) rfl trivial ?_ ?_
    · intro h16
      refine W.KA cok tab51 hnt [] [6, 7] (⟨[(6, .sl (.ints ([c.arg]))), (7, .b (decide (c.ret = (0 : Int))))], [(5, ⟨36, .fix [.i c.proc, .i c.obj, .i c.kind, .i c.arg, .i c.ret, .i c.frm, .i c.to]⟩)], [20, 5, 999]⟩)
        (True ∧ (True ∧ ((True ∧ True) ∧ (True ∧ (True ∧ ((True ∧ (True ∧ True)) ∧ (True ∧ (True ∧ True)))))))) (by kernel_rfl) (by kernel_rfl)
        ⟨trivial, ⟨trivial, ⟨⟨trivial, trivial⟩, ⟨trivial, ⟨trivial, ⟨⟨trivial, ⟨trivial, trivial⟩⟩, ⟨trivial, ⟨trivial, trivial⟩⟩⟩⟩⟩⟩⟩⟩ ?_
      refine W.ret (blockQ_ret (thenQ_ret (thenQ_ret ?_)))
      exact endQ_ret (.tup [.sl (.ints ([c.arg])), .b (decide (c.ret = (0 : Int)))]) (by kernel_rfl) (@cast (((.ints ([c.arg]) : Dat) = .ints ((specStep name state c).1)) ∧ (((.bool (decide (c.ret = (0 : Int))) : Value) = .bool ((specStep name state c).2)) ∧ True)) _ (by kernel_rfl) ⟨(congrArg Dat.ints (by simp only [specStep, (decide_eq_true h14), h16, cond_true, cond_false, Bool.and_true, Bool.true_and, Bool.and_false, Bool.false_and, Bool.or_true, Bool.true_or, Bool.or_false, Bool.false_or, Bool.not_true, Bool.not_false])), ⟨(congrArg Value.bool (by simp only [specStep, (decide_eq_true h14), h16, cond_true, cond_false, Bool.and_true, Bool.true_and, Bool.and_false, Bool.false_and, Bool.or_true, Bool.true_or, Bool.or_false, Bool.false_or, Bool.not_true, Bool.not_false])), trivial⟩⟩)
    · intro n16
      refine W.K cok tab51 hnt [] [1, 5, 8, 15, 24] (⟨[(1, .sl (.ints state)), (5, .ptr 5 0), (8, .i (((List.length state) : Nat) : Int)), (15, .v (.string name)), (24, .b (eqS name nCounter))], [(5, ⟨36, .fix [.i c.proc, .i c.obj, .i c.kind, .i c.arg, .i c.ret, .i c.frm, .i c.to]⟩)], [5, 999]⟩)
        ((True ∧ (True ∧ True)) ∧ (True ∧ True)) (by kernel_rfl)
        ⟨⟨trivial, ⟨trivial, trivial⟩⟩, ⟨trivial, trivial⟩⟩ ?_
      refine W.if' (eqS name nCounter) (.b (eqS name nCounter)) (by kernel_rfl) rfl trivial ?_ ?_
      · intro h24
        refine W.seq ?_
        refine W.K cok tab51 hnt [] [1, 5, 27] (⟨[(1, .sl (.ints state)), (5, .ptr 5 0), (27, .b (decide ((((List.length state) : Nat) : Int) = (0 : Int))))], [(5, ⟨36, .fix [.i c.proc, .i c.obj, .i c.kind, .i c.arg, .i c.ret, .i c.frm, .i c.to]⟩)], [5, 999]⟩)
          (True ∧ ((True ∧ (True ∧ True)) ∧ True)) (by kernel_rfl)
          ⟨trivial, ⟨⟨trivial, ⟨trivial, trivial⟩⟩, trivial⟩⟩ ?_
        refine W.ifP ((((List.length state) : Nat) : Int) = (0 : Int)) (.b (decide ((((List.length state) : Nat) : Int) = (0 : Int)))) (by kernel_rfl) rfl trivial ?_ ?_
        · intro h27
          refine W.KA cok tab51 hnt [] [6, 7] (⟨[(6, .sl (.ints ([c.arg]))), (7, .b (decide (c.ret = (0 : Int))))], [(5, ⟨36, .fix [.i c.proc, .i c.obj, .i c.kind, .i c.arg, .i c.ret, .i c.frm, .i c.to]⟩)], [30, 5, 999]⟩)
            (True ∧ (True ∧ ((True ∧ True) ∧ (True ∧ (True ∧ ((True ∧ (True ∧ True)) ∧ (True ∧ (True ∧ True)))))))) (by kernel_rfl) (by kernel_rfl)
            ⟨trivial, ⟨trivial, ⟨⟨trivial, trivial⟩, ⟨trivial, ⟨trivial, ⟨⟨trivial, ⟨trivial, trivial⟩⟩, ⟨trivial, ⟨trivial, trivial⟩⟩⟩⟩⟩⟩⟩⟩ ?_
          refine W.ret (thenQ_ret (blockQ_ret (thenQ_ret (thenQ_ret ?_))))
          exact endQ_ret (.tup [.sl (.ints ([c.arg])), .b (decide (c.ret = (0 : Int)))]) (by kernel_rfl) (@cast (((.ints ([c.arg]) : Dat) = .ints ((specStep name state c).1)) ∧ (((.bool (decide (c.ret = (0 : Int))) : Value) = .bool ((specStep name state c).2)) ∧ True)) _ (by kernel_rfl) ⟨(congrArg Dat.ints (by simp only [specStep, (decide_eq_true h14), h24, (decide_eq_true h27), n16, cond_true, cond_false, Bool.and_true, Bool.true_and, Bool.and_false, Bool.false_and, Bool.or_true, Bool.true_or, Bool.or_false, Bool.false_or, Bool.not_true, Bool.not_false])), ⟨(congrArg Value.bool (by simp only [specStep, (decide_eq_true h14), h24, (decide_eq_true h27), n16, cond_true, cond_false, Bool.and_true, Bool.true_and, Bool.and_false, Bool.false_and, Bool.or_true, Bool.true_or, Bool.or_false, Bool.false_or, Bool.not_true, Bool.not_false])), trivial⟩⟩)
        · intro n27
          refine W.skip (thenQ_normal ?_)
          have hs0 := hs _ (getD_mem state 0 (show 0 < state.length by omega))
          refine W.KA cok tab51 hnt [] [6, 7] (⟨[(6, .sl (.ints ([((List.getD state 0 0) + c.arg)]))), (7, .b (decide (c.ret = (0 : Int))))], [(5, ⟨36, .fix [.i c.proc, .i c.obj, .i c.kind, .i c.arg, .i c.ret, .i c.frm, .i c.to]⟩)], [40, 5, 999]⟩)
            (True ∧ ((True ∧ (True ∧ ((0 ≤ (0 : Int)) ∧ ((0 : Int) < (((List.length state) : Nat) : Int))))) ∧ (True ∧ (True ∧ (True ∧ ((True ∧ (True ∧ (Fits .i64 ((List.getD state 0 0) + c.arg)))) ∧ ((True ∧ True) ∧ (True ∧ (True ∧ ((True ∧ (True ∧ True)) ∧ (True ∧ (True ∧ True)))))))))))) (by kernel_rfl) (by kernel_rfl)
            ⟨trivial, ⟨⟨trivial, ⟨trivial, ⟨(by omega), (by omega)⟩⟩⟩, ⟨trivial, ⟨trivial, ⟨trivial, ⟨⟨trivial, ⟨trivial, (by exact fits_i64 (by (first | omega | (simp only [List.length_append, List.length_cons, List.length_nil, List.length_take, List.length_drop, List.length_set, List.length_replicate, List.length_map] at *; omega) | assumption)) (by (first | omega | (simp only [List.length_append, List.length_cons, List.length_nil, List.length_take, List.length_drop, List.length_set, List.length_replicate, List.length_map] at *; omega) | assumption)))⟩⟩, ⟨⟨trivial, trivial⟩, ⟨trivial, ⟨trivial, ⟨⟨trivial, ⟨trivial, trivial⟩⟩, ⟨trivial, ⟨trivial, trivial⟩⟩⟩⟩⟩⟩⟩⟩⟩⟩⟩⟩ ?_
          refine W.ret (blockQ_ret (thenQ_ret (thenQ_ret ?_)))
          exact endQ_ret (.tup [.sl (.ints ([((List.getD state 0 0) + c.arg)])), .b (decide (c.ret = (0 : Int)))]) (by kernel_rfl) (@cast (((.ints ([((List.getD state 0 0) + c.arg)]) : Dat) = .ints ((specStep name state c).1)) ∧ (((.bool (decide (c.ret = (0 : Int))) : Value) = .bool ((specStep name state c).2)) ∧ True)) _ (by kernel_rfl) ⟨(congrArg Dat.ints (by simp only [specStep, (decide_eq_true h14), h24, n16, (decide_eq_false n27), cond_true, cond_false, Bool.and_true, Bool.true_and, Bool.and_false, Bool.false_and, Bool.or_true, Bool.true_or, Bool.or_false, Bool.false_or, Bool.not_true, Bool.not_false])), ⟨(congrArg Value.bool (by simp only [specStep, (decide_eq_true h14), h24, n16, (decide_eq_false n27), cond_true, cond_false, Bool.and_true, Bool.true_and, Bool.and_false, Bool.false_and, Bool.or_true, Bool.true_or, Bool.or_false, Bool.false_or, Bool.not_true, Bool.not_false])), trivial⟩⟩)
      · intro n24
        refine W.K cok tab51 hnt [] [1, 5, 8, 15, 44] (⟨[(1, .sl (.ints state)), (5, .ptr 5 0), (8, .i (((List.length state) : Nat) : Int)), (15, .v (.string name)), (44, .b (eqS name nMost))], [(5, ⟨36, .fix [.i c.proc, .i c.obj, .i c.kind, .i c.arg, .i c.ret, .i c.frm, .i c.to]⟩)], [5, 999]⟩)
          ((True ∧ (True ∧ True)) ∧ (True ∧ True)) (by kernel_rfl)
          ⟨⟨trivial, ⟨trivial, trivial⟩⟩, ⟨trivial, trivial⟩⟩ ?_
        refine W.if' (eqS name nMost) (.b (eqS name nMost)) (by kernel_rfl) rfl trivial ?_ ?_
        · intro h44
          refine W.seq ?_
          refine W.KA cok tab51 hnt [] [1, 5, 55] (⟨[(1, .sl (.ints state)), (5, .ptr 5 0), (55, .b ((decide ((0 : Int) < (((List.length state) : Nat) : Int))) && (decide (c.arg < (List.getD state 0 0)))))], [(5, ⟨36, .fix [.i c.proc, .i c.obj, .i c.kind, .i c.arg, .i c.ret, .i c.frm, .i c.to]⟩)], [5, 999]⟩)
            (True ∧ ((True ∧ (True ∧ True)) ∧ (True ∧ (((decide ((0 : Int) < (((List.length state) : Nat) : Int))) = true → True) ∧ (((decide ((0 : Int) < (((List.length state) : Nat) : Int))) = true → ((((decide ((0 : Int) < (((List.length state) : Nat) : Int))) = true) ∧ True) ∧ (True ∧ ((0 ≤ (0 : Int)) ∧ ((0 : Int) < (((List.length state) : Nat) : Int)))))) ∧ (((decide ((0 : Int) < (((List.length state) : Nat) : Int))) = true → (((decide ((0 : Int) < (((List.length state) : Nat) : Int))) = true) ∧ True)) ∧ (((decide ((0 : Int) < (((List.length state) : Nat) : Int))) = true → True) ∧ (((decide ((0 : Int) < (((List.length state) : Nat) : Int))) = true → (((decide ((0 : Int) < (((List.length state) : Nat) : Int))) = true) ∧ True)) ∧ (((decide ((0 : Int) < (((List.length state) : Nat) : Int))) = true → ((((decide ((0 : Int) < (((List.length state) : Nat) : Int))) = true) ∧ True) ∧ ((((decide ((0 : Int) < (((List.length state) : Nat) : Int))) = true) ∧ True) ∧ True))) ∧ ((True ∧ (((decide ((0 : Int) < (((List.length state) : Nat) : Int))) = true → ((decide ((0 : Int) < (((List.length state) : Nat) : Int))) = true) ∧ True) ∧ ((decide ((0 : Int) < (((List.length state) : Nat) : Int))) = false → True))) ∧ True)))))))))) (by kernel_rfl) (by kernel_rfl)
            ⟨trivial, ⟨⟨trivial, ⟨trivial, trivial⟩⟩, ⟨trivial, ⟨(fun _ => trivial), ⟨(fun hG => ⟨⟨hG, trivial⟩, ⟨trivial, ⟨(by have hg0 : (0 : Int) < (((List.length state) : Nat) : Int) := of_decide_eq_true hG; omega), (by have hg0 : (0 : Int) < (((List.length state) : Nat) : Int) := of_decide_eq_true hG; omega)⟩⟩⟩), ⟨(fun hG => ⟨hG, trivial⟩), ⟨(fun _ => trivial), ⟨(fun hG => ⟨hG, trivial⟩), ⟨(fun hG => ⟨⟨hG, trivial⟩, ⟨⟨hG, trivial⟩, trivial⟩⟩), ⟨⟨trivial, ⟨(fun hp => ⟨hp, trivial⟩), (fun _ => trivial)⟩⟩, trivial⟩⟩⟩⟩⟩⟩⟩⟩⟩⟩ ?_
          refine W.if' ((decide ((0 : Int) < (((List.length state) : Nat) : Int))) && (decide (c.arg < (List.getD state 0 0)))) (.b ((decide ((0 : Int) < (((List.length state) : Nat) : Int))) && (decide (c.arg < (List.getD state 0 0))))) (by kernel_rfl) rfl trivial ?_ ?_
          · intro h55
            have h55_0 : (0 : Int) < (((List.length state) : Nat) : Int) := of_decide_eq_true (and_l h55)
            have h55_1 : c.arg < (List.getD state 0 0) := of_decide_eq_true (and_r h55)
            refine W.KA cok tab51 hnt [] [6, 7] (⟨[(6, .sl (.ints state)), (7, .b (decide (c.ret = (0 : Int))))], [(5, ⟨36, .fix [.i c.proc, .i c.obj, .i c.kind, .i c.arg, .i c.ret, .i c.frm, .i c.to]⟩)], [5, 999]⟩)
              (True ∧ (True ∧ (True ∧ ((True ∧ (True ∧ True)) ∧ (True ∧ (True ∧ True)))))) (by kernel_rfl) (by kernel_rfl)
              ⟨trivial, ⟨trivial, ⟨trivial, ⟨⟨trivial, ⟨trivial, trivial⟩⟩, ⟨trivial, ⟨trivial, trivial⟩⟩⟩⟩⟩⟩ ?_
            refine W.ret (thenQ_ret (blockQ_ret (thenQ_ret (thenQ_ret ?_))))
            exact endQ_ret (.tup [.sl (.ints state), .b (decide (c.ret = (0 : Int)))]) (by kernel_rfl) (@cast (((.ints state : Dat) = .ints ((specStep name state c).1)) ∧ (((.bool (decide (c.ret = (0 : Int))) : Value) = .bool ((specStep name state c).2)) ∧ True)) _ (by kernel_rfl) ⟨(congrArg Dat.ints (by simp only [specStep, (decide_eq_true h14), h44, h55, (and_l h55), (and_r h55), n16, n24, cond_true, cond_false, Bool.and_true, Bool.true_and, Bool.and_false, Bool.false_and, Bool.or_true, Bool.true_or, Bool.or_false, Bool.false_or, Bool.not_true, Bool.not_false])), ⟨(congrArg Value.bool (by simp only [specStep, (decide_eq_true h14), h44, h55, (and_l h55), (and_r h55), n16, n24, cond_true, cond_false, Bool.and_true, Bool.true_and, Bool.and_false, Bool.false_and, Bool.or_true, Bool.true_or, Bool.or_false, Bool.false_or, Bool.not_true, Bool.not_false])), trivial⟩⟩)
          · intro n55
            refine W.skip (thenQ_normal ?_)
            refine W.KA cok tab51 hnt [] [6, 7] (⟨[(6, .sl (.ints ([c.arg]))), (7, .b (decide (c.ret = (0 : Int))))], [(5, ⟨36, .fix [.i c.proc, .i c.obj, .i c.kind, .i c.arg, .i c.ret, .i c.frm, .i c.to]⟩)], [62, 5, 999]⟩)
              (True ∧ (True ∧ ((True ∧ True) ∧ (True ∧ (True ∧ ((True ∧ (True ∧ True)) ∧ (True ∧ (True ∧ True)))))))) (by kernel_rfl) (by kernel_rfl)
              ⟨trivial, ⟨trivial, ⟨⟨trivial, trivial⟩, ⟨trivial, ⟨trivial, ⟨⟨trivial, ⟨trivial, trivial⟩⟩, ⟨trivial, ⟨trivial, trivial⟩⟩⟩⟩⟩⟩⟩⟩ ?_
            refine W.ret (blockQ_ret (thenQ_ret (thenQ_ret ?_)))
            exact endQ_ret (.tup [.sl (.ints ([c.arg])), .b (decide (c.ret = (0 : Int)))]) (by kernel_rfl) (@cast (((.ints ([c.arg]) : Dat) = .ints ((specStep name state c).1)) ∧ (((.bool (decide (c.ret = (0 : Int))) : Value) = .bool ((specStep name state c).2)) ∧ True)) _ (by kernel_rfl) ⟨(congrArg Dat.ints (by simp only [specStep, (decide_eq_true h14), h44, n16, n24, n55, cond_true, cond_false, Bool.and_true, Bool.true_and, Bool.and_false, Bool.false_and, Bool.or_true, Bool.true_or, Bool.or_false, Bool.false_or, Bool.not_true, Bool.not_false])), ⟨(congrArg Value.bool (by simp only [specStep, (decide_eq_true h14), h44, n16, n24, n55, cond_true, cond_false, Bool.and_true, Bool.true_and, Bool.and_false, Bool.false_and, Bool.or_true, Bool.true_or, Bool.or_false, Bool.false_or, Bool.not_true, Bool.not_false])), trivial⟩⟩)
        · intro n44
          refine W.K cok tab51 hnt [] [1, 5, 66] (⟨[(1, .sl (.ints state)), (5, .ptr 5 0), (66, .b (eqS name nSet))], [(5, ⟨36, .fix [.i c.proc, .i c.obj, .i c.kind, .i c.arg, .i c.ret, .i c.frm, .i c.to]⟩)], [5, 999]⟩)
            ((True ∧ (True ∧ True)) ∧ (True ∧ True)) (by kernel_rfl)
            ⟨⟨trivial, ⟨trivial, trivial⟩⟩, ⟨trivial, trivial⟩⟩ ?_
          refine W.if' (eqS name nSet) (.b (eqS name nSet)) (by kernel_rfl) rfl trivial ?_ ?_
          · intro h66
            refine W.seq ?_
            refine W.K cok tab51 hnt [] [1, 5, 71] (⟨[(1, .sl (.ints state)), (5, .ptr 5 0), (71, .b (hasInt state c.arg))], [(5, ⟨36, .fix [.i c.proc, .i c.obj, .i c.kind, .i c.arg, .i c.ret, .i c.frm, .i c.to]⟩)], [5, 999]⟩)
              (True ∧ (True ∧ (True ∧ ((True ∧ ((True ∧ (True ∧ True)) ∧ True)) ∧ True)))) (by kernel_rfl)
              ⟨trivial, ⟨trivial, ⟨trivial, ⟨⟨trivial, ⟨⟨trivial, ⟨trivial, trivial⟩⟩, trivial⟩⟩, trivial⟩⟩⟩⟩ ?_
            refine W.if' (hasInt state c.arg) (.b (hasInt state c.arg)) (by kernel_rfl) rfl trivial ?_ ?_
            · intro h71
              refine W.KA cok tab51 hnt [] [6, 7] (⟨[(6, .sl (.ints state)), (7, .b (decide (c.ret = (0 : Int))))], [(5, ⟨36, .fix [.i c.proc, .i c.obj, .i c.kind, .i c.arg, .i c.ret, .i c.frm, .i c.to]⟩)], [5, 999]⟩)
                (True ∧ (True ∧ (True ∧ ((True ∧ (True ∧ True)) ∧ (True ∧ (True ∧ True)))))) (by kernel_rfl) (by kernel_rfl)
                ⟨trivial, ⟨trivial, ⟨trivial, ⟨⟨trivial, ⟨trivial, trivial⟩⟩, ⟨trivial, ⟨trivial, trivial⟩⟩⟩⟩⟩⟩ ?_
              refine W.ret (thenQ_ret (blockQ_ret (thenQ_ret (thenQ_ret ?_))))
              exact endQ_ret (.tup [.sl (.ints state), .b (decide (c.ret = (0 : Int)))]) (by kernel_rfl) (@cast (((.ints state : Dat) = .ints ((specStep name state c).1)) ∧ (((.bool (decide (c.ret = (0 : Int))) : Value) = .bool ((specStep name state c).2)) ∧ True)) _ (by kernel_rfl) ⟨(congrArg Dat.ints (by simp only [specStep, (decide_eq_true h14), h66, h71, n16, n24, n44, cond_true, cond_false, Bool.and_true, Bool.true_and, Bool.and_false, Bool.false_and, Bool.or_true, Bool.true_or, Bool.or_false, Bool.false_or, Bool.not_true, Bool.not_false])), ⟨(congrArg Value.bool (by simp only [specStep, (decide_eq_true h14), h66, h71, n16, n24, n44, cond_true, cond_false, Bool.and_true, Bool.true_and, Bool.and_false, Bool.false_and, Bool.or_true, Bool.true_or, Bool.or_false, Bool.false_or, Bool.not_true, Bool.not_false])), trivial⟩⟩)
            · intro n71
              refine W.skip (thenQ_normal ?_)
              refine W.KA cok tab51 hnt [76, 78] [6, 7] (⟨[(6, .sl (.ints (state ++ ([c.arg])))), (7, .b (decide (c.ret = (1 : Int))))], [(5, ⟨36, .fix [.i c.proc, .i c.obj, .i c.kind, .i c.arg, .i c.ret, .i c.frm, .i c.to]⟩)], [82, 81, 78, 76, 5, 999]⟩)
                (True ∧ (True ∧ (((True ∧ ((List.length ([] : List Int)) = (List.length ([] : List Int)))) ∧ (True ∧ (((List.length ([] : List Int)) + (List.length state)) * 8 ≤ 140737488355328))) ∧ (True ∧ (True ∧ ((True ∧ True) ∧ (((True ∧ ((List.length state) = (List.length state))) ∧ (True ∧ (((List.length state) + (List.length ([c.arg]))) * 8 ≤ 140737488355328))) ∧ (True ∧ (True ∧ ((True ∧ (True ∧ True)) ∧ (True ∧ (True ∧ True)))))))))))) (by kernel_rfl) (by kernel_rfl)
                ⟨trivial, ⟨trivial, ⟨⟨⟨trivial, rfl⟩, ⟨trivial, (by (first | omega | (simp only [List.length_append, List.length_cons, List.length_nil, List.length_take, List.length_drop, List.length_set, List.length_replicate, List.length_map] at *; omega) | assumption))⟩⟩, ⟨trivial, ⟨trivial, ⟨⟨trivial, trivial⟩, ⟨⟨⟨trivial, rfl⟩, ⟨trivial, (by (first | omega | (simp only [List.length_append, List.length_cons, List.length_nil, List.length_take, List.length_drop, List.length_set, List.length_replicate, List.length_map] at *; omega) | assumption))⟩⟩, ⟨trivial, ⟨trivial, ⟨⟨trivial, ⟨trivial, trivial⟩⟩, ⟨trivial, ⟨trivial, trivial⟩⟩⟩⟩⟩⟩⟩⟩⟩⟩⟩⟩ ?_
              refine W.ret (blockQ_ret (thenQ_ret (thenQ_ret ?_)))
              exact endQ_ret (.tup [.sl (.ints (state ++ ([c.arg]))), .b (decide (c.ret = (1 : Int)))]) (by kernel_rfl) (@cast (((.ints (state ++ ([c.arg])) : Dat) = .ints ((specStep name state c).1)) ∧ (((.bool (decide (c.ret = (1 : Int))) : Value) = .bool ((specStep name state c).2)) ∧ True)) _ (by kernel_rfl) ⟨(congrArg Dat.ints (by simp only [specStep, (decide_eq_true h14), h66, n16, n24, n44, n71, cond_true, cond_false, Bool.and_true, Bool.true_and, Bool.and_false, Bool.false_and, Bool.or_true, Bool.true_or, Bool.or_false, Bool.false_or, Bool.not_true, Bool.not_false])), ⟨(congrArg Value.bool (by simp only [specStep, (decide_eq_true h14), h66, n16, n24, n44, n71, cond_true, cond_false, Bool.and_true, Bool.true_and, Bool.and_false, Bool.false_and, Bool.or_true, Bool.true_or, Bool.or_false, Bool.false_or, Bool.not_true, Bool.not_false])), trivial⟩⟩)
          · intro n66
            refine W.skip (blockQ_normal (thenQ_normal ?_))
            refine W.KA cok tab51 hnt [86, 88] [6, 7] (⟨[(6, .sl (.ints (state ++ ([c.arg])))), (7, .b (decide (c.ret = (0 : Int))))], [(5, ⟨36, .fix [.i c.proc, .i c.obj, .i c.kind, .i c.arg, .i c.ret, .i c.frm, .i c.to]⟩)], [92, 91, 88, 86, 5, 999]⟩)
              (True ∧ (True ∧ (((True ∧ ((List.length ([] : List Int)) = (List.length ([] : List Int)))) ∧ (True ∧ (((List.length ([] : List Int)) + (List.length state)) * 8 ≤ 140737488355328))) ∧ (True ∧ (True ∧ ((True ∧ True) ∧ (((True ∧ ((List.length state) = (List.length state))) ∧ (True ∧ (((List.length state) + (List.length ([c.arg]))) * 8 ≤ 140737488355328))) ∧ (True ∧ (True ∧ ((True ∧ (True ∧ True)) ∧ (True ∧ (True ∧ True)))))))))))) (by kernel_rfl) (by kernel_rfl)
              ⟨trivial, ⟨trivial, ⟨⟨⟨trivial, rfl⟩, ⟨trivial, (by (first | omega | (simp only [List.length_append, List.length_cons, List.length_nil, List.length_take, List.length_drop, List.length_set, List.length_replicate, List.length_map] at *; omega) | assumption))⟩⟩, ⟨trivial, ⟨trivial, ⟨⟨trivial, trivial⟩, ⟨⟨⟨trivial, rfl⟩, ⟨trivial, (by (first | omega | (simp only [List.length_append, List.length_cons, List.length_nil, List.length_take, List.length_drop, List.length_set, List.length_replicate, List.length_map] at *; omega) | assumption))⟩⟩, ⟨trivial, ⟨trivial, ⟨⟨trivial, ⟨trivial, trivial⟩⟩, ⟨trivial, ⟨trivial, trivial⟩⟩⟩⟩⟩⟩⟩⟩⟩⟩⟩⟩ ?_
            refine W.ret (thenQ_ret ?_)
            exact endQ_ret (.tup [.sl (.ints (state ++ ([c.arg]))), .b (decide (c.ret = (0 : Int)))]) (by kernel_rfl) (@cast (((.ints (state ++ ([c.arg])) : Dat) = .ints ((specStep name state c).1)) ∧ (((.bool (decide (c.ret = (0 : Int))) : Value) = .bool ((specStep name state c).2)) ∧ True)) _ (by kernel_rfl) ⟨(congrArg Dat.ints (by simp only [specStep, (decide_eq_true h14), n16, n24, n44, n66, cond_true, cond_false, Bool.and_true, Bool.true_and, Bool.and_false, Bool.false_and, Bool.or_true, Bool.true_or, Bool.or_false, Bool.false_or, Bool.not_true, Bool.not_false])), ⟨(congrArg Value.bool (by simp only [specStep, (decide_eq_true h14), n16, n24, n44, n66, cond_true, cond_false, Bool.and_true, Bool.true_and, Bool.and_false, Bool.false_and, Bool.or_true, Bool.true_or, Bool.or_false, Bool.false_or, Bool.not_true, Bool.not_false])), trivial⟩⟩)
  · intro n14
    refine W.skip (thenQ_normal ?_)
    refine W.seq ?_
    refine W.K cok tab51 hnt [] [0, 1, 5, 8, 98] (⟨[(0, .v (.string name)), (1, .sl (.ints state)), (5, .ptr 5 0), (8, .i (((List.length state) : Nat) : Int)), (98, .b (decide (c.kind = (2 : Int))))], [(5, ⟨36, .fix [.i c.proc, .i c.obj, .i c.kind, .i c.arg, .i c.ret, .i c.frm, .i c.to]⟩)], [5, 999]⟩)
      (True ∧ (True ∧ ((True ∧ (True ∧ True)) ∧ True))) (by kernel_rfl)
      ⟨trivial, ⟨trivial, ⟨⟨trivial, ⟨trivial, trivial⟩⟩, trivial⟩⟩⟩ ?_
    refine W.ifP (c.kind = (2 : Int)) (.b (decide (c.kind = (2 : Int)))) (by kernel_rfl) rfl trivial ?_ ?_
    · intro h98
      refine W.seq ?_
      refine W.K cok tab51 hnt [] [1, 5, 8, 99] (⟨[(1, .sl (.ints state)), (5, .ptr 5 0), (8, .i (((List.length state) : Nat) : Int)), (99, .v (.string name))], [(5, ⟨36, .fix [.i c.proc, .i c.obj, .i c.kind, .i c.arg, .i c.ret, .i c.frm, .i c.to]⟩)], [5, 999]⟩)
        (True ∧ True) (by kernel_rfl)
        ⟨trivial, trivial⟩ ?_
      refine W.block ?_
      refine W.K cok tab51 hnt [] [1, 5, 8, 99, 100] (⟨[(1, .sl (.ints state)), (5, .ptr 5 0), (8, .i (((List.length state) : Nat) : Int)), (99, .v (.string name)), (100, .b (eqS name nQueue))], [(5, ⟨36, .fix [.i c.proc, .i c.obj, .i c.kind, .i c.arg, .i c.ret, .i c.frm, .i c.to]⟩)], [5, 999]⟩)
        ((True ∧ (True ∧ True)) ∧ (True ∧ True)) (by kernel_rfl)
        ⟨⟨trivial, ⟨trivial, trivial⟩⟩, ⟨trivial, trivial⟩⟩ ?_
      refine W.if' (eqS name nQueue) (.b (eqS name nQueue)) (by kernel_rfl) rfl trivial ?_ ?_
      · intro h100
        refine W.seq ?_
        refine W.K cok tab51 hnt [] [1, 5, 103] (⟨[(1, .sl (.ints state)), (5, .ptr 5 0), (103, .b (decide ((((List.length state) : Nat) : Int) = (0 : Int))))], [(5, ⟨36, .fix [.i c.proc, .i c.obj, .i c.kind, .i c.arg, .i c.ret, .i c.frm, .i c.to]⟩)], [5, 999]⟩)
          (True ∧ ((True ∧ (True ∧ True)) ∧ True)) (by kernel_rfl)
          ⟨trivial, ⟨⟨trivial, ⟨trivial, trivial⟩⟩, trivial⟩⟩ ?_
        refine W.ifP ((((List.length state) : Nat) : Int) = (0 : Int)) (.b (decide ((((List.length state) : Nat) : Int) = (0 : Int)))) (by kernel_rfl) rfl trivial ?_ ?_
        · intro h103
          refine W.KA cok tab51 hnt [] [6, 7] (⟨[(6, .sl (.ints state)), (7, .b (decide (c.ret = (-1 : Int))))], [(5, ⟨36, .fix [.i c.proc, .i c.obj, .i c.kind, .i c.arg, .i c.ret, .i c.frm, .i c.to]⟩)], [5, 999]⟩)
            (True ∧ (True ∧ (True ∧ ((True ∧ (True ∧ True)) ∧ (True ∧ (True ∧ True)))))) (by kernel_rfl) (by kernel_rfl)
            ⟨trivial, ⟨trivial, ⟨trivial, ⟨⟨trivial, ⟨trivial, trivial⟩⟩, ⟨trivial, ⟨trivial, trivial⟩⟩⟩⟩⟩⟩ ?_
          refine W.ret (thenQ_ret (blockQ_ret (thenQ_ret (thenQ_ret ?_))))
          exact endQ_ret (.tup [.sl (.ints state), .b (decide (c.ret = (-1 : Int)))]) (by kernel_rfl) (@cast (((.ints state : Dat) = .ints ((specStep name state c).1)) ∧ (((.bool (decide (c.ret = (-1 : Int))) : Value) = .bool ((specStep name state c).2)) ∧ True)) _ (by kernel_rfl) ⟨(congrArg Dat.ints (by simp only [specStep, (decide_eq_true h98), h100, (decide_eq_true h103), (decide_eq_false n14), cond_true, cond_false, Bool.and_true, Bool.true_and, Bool.and_false, Bool.false_and, Bool.or_true, Bool.true_or, Bool.or_false, Bool.false_or, Bool.not_true, Bool.not_false])), ⟨(congrArg Value.bool (by simp only [specStep, (decide_eq_true h98), h100, (decide_eq_true h103), (decide_eq_false n14), cond_true, cond_false, Bool.and_true, Bool.true_and, Bool.and_false, Bool.false_and, Bool.or_true, Bool.true_or, Bool.or_false, Bool.false_or, Bool.not_true, Bool.not_false])), trivial⟩⟩)
        · intro n103
          refine W.skip (thenQ_normal ?_)
          refine W.KA cok tab51 hnt [] [6, 7] (⟨[(6, .sl (.ints state)), (7, .b (decide (c.ret = (List.getD state 0 0))))], [(5, ⟨36, .fix [.i c.proc, .i c.obj, .i c.kind, .i c.arg, .i c.ret, .i c.frm, .i c.to]⟩)], [5, 999]⟩)
            (True ∧ (True ∧ (True ∧ (True ∧ ((True ∧ (True ∧ ((0 ≤ (0 : Int)) ∧ ((0 : Int) < (((List.length state) : Nat) : Int))))) ∧ (True ∧ ((True ∧ (True ∧ True)) ∧ (True ∧ (True ∧ True))))))))) (by kernel_rfl) (by kernel_rfl)
            ⟨trivial, ⟨trivial, ⟨trivial, ⟨trivial, ⟨⟨trivial, ⟨trivial, ⟨(by omega), (by omega)⟩⟩⟩, ⟨trivial, ⟨⟨trivial, ⟨trivial, trivial⟩⟩, ⟨trivial, ⟨trivial, trivial⟩⟩⟩⟩⟩⟩⟩⟩⟩ ?_
          refine W.ret (blockQ_ret (thenQ_ret (thenQ_ret ?_)))
          exact endQ_ret (.tup [.sl (.ints state), .b (decide (c.ret = (List.getD state 0 0)))]) (by kernel_rfl) (@cast (((.ints state : Dat) = .ints ((specStep name state c).1)) ∧ (((.bool (decide (c.ret = (List.getD state 0 0))) : Value) = .bool ((specStep name state c).2)) ∧ True)) _ (by kernel_rfl) ⟨(congrArg Dat.ints (by simp only [specStep, (decide_eq_true h98), h100, (decide_eq_false n14), (decide_eq_false n103), cond_true, cond_false, Bool.and_true, Bool.true_and, Bool.and_false, Bool.false_and, Bool.or_true, Bool.true_or, Bool.or_false, Bool.false_or, Bool.not_true, Bool.not_false])), ⟨(congrArg Value.bool (by simp only [specStep, (decide_eq_true h98), h100, (decide_eq_false n14), (decide_eq_false n103), cond_true, cond_false, Bool.and_true, Bool.true_and, Bool.and_false, Bool.false_and, Bool.or_true, Bool.true_or, Bool.or_false, Bool.false_or, Bool.not_true, Bool.not_false])), trivial⟩⟩)
      · intro n100
        refine W.K cok tab51 hnt [] [1, 5, 8, 99, 115] (⟨[(1, .sl (.ints state)), (5, .ptr 5 0), (8, .i (((List.length state) : Nat) : Int)), (99, .v (.string name)), (115, .b (eqS name nStack))], [(5, ⟨36, .fix [.i c.proc, .i c.obj, .i c.kind, .i c.arg, .i c.ret, .i c.frm, .i c.to]⟩)], [5, 999]⟩)
          ((True ∧ (True ∧ True)) ∧ (True ∧ True)) (by kernel_rfl)
          ⟨⟨trivial, ⟨trivial, trivial⟩⟩, ⟨trivial, trivial⟩⟩ ?_
        refine W.if' (eqS name nStack) (.b (eqS name nStack)) (by kernel_rfl) rfl trivial ?_ ?_
        · intro h115
          refine W.seq ?_
          refine W.K cok tab51 hnt [] [1, 5, 8, 118] (⟨[(1, .sl (.ints state)), (5, .ptr 5 0), (8, .i (((List.length state) : Nat) : Int)), (118, .b (decide ((((List.length state) : Nat) : Int) = (0 : Int))))], [(5, ⟨36, .fix [.i c.proc, .i c.obj, .i c.kind, .i c.arg, .i c.ret, .i c.frm, .i c.to]⟩)], [5, 999]⟩)
            (True ∧ ((True ∧ (True ∧ True)) ∧ True)) (by kernel_rfl)
            ⟨trivial, ⟨⟨trivial, ⟨trivial, trivial⟩⟩, trivial⟩⟩ ?_
          refine W.ifP ((((List.length state) : Nat) : Int) = (0 : Int)) (.b (decide ((((List.length state) : Nat) : Int) = (0 : Int)))) (by kernel_rfl) rfl trivial ?_ ?_
          · intro h118
            refine W.KA cok tab51 hnt [] [6, 7] (⟨[(6, .sl (.ints state)), (7, .b (decide (c.ret = (-1 : Int))))], [(5, ⟨36, .fix [.i c.proc, .i c.obj, .i c.kind, .i c.arg, .i c.ret, .i c.frm, .i c.to]⟩)], [5, 999]⟩)
              (True ∧ (True ∧ (True ∧ ((True ∧ (True ∧ True)) ∧ (True ∧ (True ∧ True)))))) (by kernel_rfl) (by kernel_rfl)
              ⟨trivial, ⟨trivial, ⟨trivial, ⟨⟨trivial, ⟨trivial, trivial⟩⟩, ⟨trivial, ⟨trivial, trivial⟩⟩⟩⟩⟩⟩ ?_
            refine W.ret (thenQ_ret (blockQ_ret (thenQ_ret (thenQ_ret ?_))))
            exact endQ_ret (.tup [.sl (.ints state), .b (decide (c.ret = (-1 : Int)))]) (by kernel_rfl) (@cast (((.ints state : Dat) = .ints ((specStep name state c).1)) ∧ (((.bool (decide (c.ret = (-1 : Int))) : Value) = .bool ((specStep name state c).2)) ∧ True)) _ (by kernel_rfl) ⟨(congrArg Dat.ints (by simp only [specStep, (decide_eq_true h98), h115, (decide_eq_true h118), (decide_eq_false n14), n100, cond_true, cond_false, Bool.and_true, Bool.true_and, Bool.and_false, Bool.false_and, Bool.or_true, Bool.true_or, Bool.or_false, Bool.false_or, Bool.not_true, Bool.not_false])), ⟨(congrArg Value.bool (by simp only [specStep, (decide_eq_true h98), h115, (decide_eq_true h118), (decide_eq_false n14), n100, cond_true, cond_false, Bool.and_true, Bool.true_and, Bool.and_false, Bool.false_and, Bool.or_true, Bool.true_or, Bool.or_false, Bool.false_or, Bool.not_true, Bool.not_false])), trivial⟩⟩)
          · intro n118
            refine W.skip (thenQ_normal ?_)
            refine W.KA cok tab51 hnt [] [6, 7] (⟨[(6, .sl (.ints state)), (7, .b (decide (c.ret = (List.getD state (Int.toNat ((((List.length state) : Nat) : Int) - (1 : Int))) 0))))], [(5, ⟨36, .fix [.i c.proc, .i c.obj, .i c.kind, .i c.arg, .i c.ret, .i c.frm, .i c.to]⟩)], [5, 999]⟩)
              (True ∧ (True ∧ (True ∧ (True ∧ (True ∧ ((True ∧ (True ∧ (Fits .i64 ((((List.length state) : Nat) : Int) - (1 : Int))))) ∧ ((True ∧ (True ∧ ((0 ≤ ((((List.length state) : Nat) : Int) - (1 : Int))) ∧ (((((List.length state) : Nat) : Int) - (1 : Int)) < (((List.length state) : Nat) : Int))))) ∧ (True ∧ ((True ∧ (True ∧ True)) ∧ (True ∧ (True ∧ True))))))))))) (by kernel_rfl) (by kernel_rfl)
              ⟨trivial, ⟨trivial, ⟨trivial, ⟨trivial, ⟨trivial, ⟨⟨trivial, ⟨trivial, (by exact fits_i64 (by omega) (by omega))⟩⟩, ⟨⟨trivial, ⟨trivial, ⟨(by omega), (by omega)⟩⟩⟩, ⟨trivial, ⟨⟨trivial, ⟨trivial, trivial⟩⟩, ⟨trivial, ⟨trivial, trivial⟩⟩⟩⟩⟩⟩⟩⟩⟩⟩⟩ ?_
            refine W.ret (blockQ_ret (thenQ_ret (thenQ_ret ?_)))
            exact endQ_ret (.tup [.sl (.ints state), .b (decide (c.ret = (List.getD state (Int.toNat ((((List.length state) : Nat) : Int) - (1 : Int))) 0)))]) (by kernel_rfl) (@cast (((.ints state : Dat) = .ints ((specStep name state c).1)) ∧ (((.bool (decide (c.ret = (List.getD state (Int.toNat ((((List.length state) : Nat) : Int) - (1 : Int))) 0))) : Value) = .bool ((specStep name state c).2)) ∧ True)) _ (by kernel_rfl) ⟨(congrArg Dat.ints (by first | (rw [show Int.toNat (((List.length state : Nat) : Int) - (1 : Int)) = state.length - 1 by omega]; simp only [specStep, (decide_eq_true h98), h115, (decide_eq_false n14), n100, (decide_eq_false n118), cond_true, cond_false, Bool.and_true, Bool.true_and, Bool.and_false, Bool.false_and, Bool.or_true, Bool.true_or, Bool.or_false, Bool.false_or, Bool.not_true, Bool.not_false]; done) | simp only [specStep, (decide_eq_true h98), h115, (decide_eq_false n14), n100, (decide_eq_false n118), cond_true, cond_false, Bool.and_true, Bool.true_and, Bool.and_false, Bool.false_and, Bool.or_true, Bool.true_or, Bool.or_false, Bool.false_or, Bool.not_true, Bool.not_false])), ⟨(congrArg Value.bool (by first | (rw [show Int.toNat (((List.length state : Nat) : Int) - (1 : Int)) = state.length - 1 by omega]; simp only [specStep, (decide_eq_true h98), h115, (decide_eq_false n14), n100, (decide_eq_false n118), cond_true, cond_false, Bool.and_true, Bool.true_and, Bool.and_false, Bool.false_and, Bool.or_true, Bool.true_or, Bool.or_false, Bool.false_or, Bool.not_true, Bool.not_false]; done) | simp only [specStep, (decide_eq_true h98), h115, (decide_eq_false n14), n100, (decide_eq_false n118), cond_true, cond_false, Bool.and_true, Bool.true_and, Bool.and_false, Bool.false_and, Bool.or_true, Bool.true_or, Bool.or_false, Bool.false_or, Bool.not_true, Bool.not_false])), trivial⟩⟩)
        · intro n115
          refine W.K cok tab51 hnt [] [1, 5, 8, 132] (⟨[(1, .sl (.ints state)), (5, .ptr 5 0), (8, .i (((List.length state) : Nat) : Int)), (132, .b (eqS name nSet))], [(5, ⟨36, .fix [.i c.proc, .i c.obj, .i c.kind, .i c.arg, .i c.ret, .i c.frm, .i c.to]⟩)], [5, 999]⟩)
            ((True ∧ (True ∧ True)) ∧ (True ∧ True)) (by kernel_rfl)
            ⟨⟨trivial, ⟨trivial, trivial⟩⟩, ⟨trivial, trivial⟩⟩ ?_
          refine W.if' (eqS name nSet) (.b (eqS name nSet)) (by kernel_rfl) rfl trivial ?_ ?_
          · intro h132
            refine W.seq ?_
            refine W.K cok tab51 hnt [] [1, 5, 137] (⟨[(1, .sl (.ints state)), (5, .ptr 5 0), (137, .b (hasInt state c.arg))], [(5, ⟨36, .fix [.i c.proc, .i c.obj, .i c.kind, .i c.arg, .i c.ret, .i c.frm, .i c.to]⟩)], [5, 999]⟩)
              (True ∧ (True ∧ (True ∧ ((True ∧ ((True ∧ (True ∧ True)) ∧ True)) ∧ True)))) (by kernel_rfl)
              ⟨trivial, ⟨trivial, ⟨trivial, ⟨⟨trivial, ⟨⟨trivial, ⟨trivial, trivial⟩⟩, trivial⟩⟩, trivial⟩⟩⟩⟩ ?_
            refine W.if' (hasInt state c.arg) (.b (hasInt state c.arg)) (by kernel_rfl) rfl trivial ?_ ?_
            · intro h137
              refine W.KA cok tab51 hnt [] [6, 7] (⟨[(6, .sl (.ints state)), (7, .b (decide (c.ret = (1 : Int))))], [(5, ⟨36, .fix [.i c.proc, .i c.obj, .i c.kind, .i c.arg, .i c.ret, .i c.frm, .i c.to]⟩)], [5, 999]⟩)
                (True ∧ (True ∧ (True ∧ ((True ∧ (True ∧ True)) ∧ (True ∧ (True ∧ True)))))) (by kernel_rfl) (by kernel_rfl)
                ⟨trivial, ⟨trivial, ⟨trivial, ⟨⟨trivial, ⟨trivial, trivial⟩⟩, ⟨trivial, ⟨trivial, trivial⟩⟩⟩⟩⟩⟩ ?_
              refine W.ret (thenQ_ret (blockQ_ret (thenQ_ret (thenQ_ret ?_))))
              exact endQ_ret (.tup [.sl (.ints state), .b (decide (c.ret = (1 : Int)))]) (by kernel_rfl) (@cast (((.ints state : Dat) = .ints ((specStep name state c).1)) ∧ (((.bool (decide (c.ret = (1 : Int))) : Value) = .bool ((specStep name state c).2)) ∧ True)) _ (by kernel_rfl) ⟨(congrArg Dat.ints (by simp only [specStep, (decide_eq_true h98), h132, h137, (decide_eq_false n14), n100, n115, cond_true, cond_false, Bool.and_true, Bool.true_and, Bool.and_false, Bool.false_and, Bool.or_true, Bool.true_or, Bool.or_false, Bool.false_or, Bool.not_true, Bool.not_false])), ⟨(congrArg Value.bool (by simp only [specStep, (decide_eq_true h98), h132, h137, (decide_eq_false n14), n100, n115, cond_true, cond_false, Bool.and_true, Bool.true_and, Bool.and_false, Bool.false_and, Bool.or_true, Bool.true_or, Bool.or_false, Bool.false_or, Bool.not_true, Bool.not_false])), trivial⟩⟩)
            · intro n137
              refine W.skip (thenQ_normal ?_)
              refine W.KA cok tab51 hnt [] [6, 7] (⟨[(6, .sl (.ints state)), (7, .b (decide (c.ret = (0 : Int))))], [(5, ⟨36, .fix [.i c.proc, .i c.obj, .i c.kind, .i c.arg, .i c.ret, .i c.frm, .i c.to]⟩)], [5, 999]⟩)
                (True ∧ (True ∧ (True ∧ ((True ∧ (True ∧ True)) ∧ (True ∧ (True ∧ True)))))) (by kernel_rfl) (by kernel_rfl)
                ⟨trivial, ⟨trivial, ⟨trivial, ⟨⟨trivial, ⟨trivial, trivial⟩⟩, ⟨trivial, ⟨trivial, trivial⟩⟩⟩⟩⟩⟩ ?_
              refine W.ret (blockQ_ret (thenQ_ret (thenQ_ret ?_)))
              exact endQ_ret (.tup [.sl (.ints state), .b (decide (c.ret = (0 : Int)))]) (by kernel_rfl) (@cast (((.ints state : Dat) = .ints ((specStep name state c).1)) ∧ (((.bool (decide (c.ret = (0 : Int))) : Value) = .bool ((specStep name state c).2)) ∧ True)) _ (by kernel_rfl) ⟨(congrArg Dat.ints (by simp only [specStep, (decide_eq_true h98), h132, (decide_eq_false n14), n100, n115, n137, cond_true, cond_false, Bool.and_true, Bool.true_and, Bool.and_false, Bool.false_and, Bool.or_true, Bool.true_or, Bool.or_false, Bool.false_or, Bool.not_true, Bool.not_false])), ⟨(congrArg Value.bool (by simp only [specStep, (decide_eq_true h98), h132, (decide_eq_false n14), n100, n115, n137, cond_true, cond_false, Bool.and_true, Bool.true_and, Bool.and_false, Bool.false_and, Bool.or_true, Bool.true_or, Bool.or_false, Bool.false_or, Bool.not_true, Bool.not_false])), trivial⟩⟩)
          · intro n132
            refine W.skip (blockQ_normal (thenQ_normal ?_))
            refine W.seq ?_
            refine W.K cok tab51 hnt [] [1, 5, 147] (⟨[(1, .sl (.ints state)), (5, .ptr 5 0), (147, .b (decide ((((List.length state) : Nat) : Int) = (0 : Int))))], [(5, ⟨36, .fix [.i c.proc, .i c.obj, .i c.kind, .i c.arg, .i c.ret, .i c.frm, .i c.to]⟩)], [5, 999]⟩)
              (True ∧ ((True ∧ (True ∧ True)) ∧ True)) (by kernel_rfl)
              ⟨trivial, ⟨⟨trivial, ⟨trivial, trivial⟩⟩, trivial⟩⟩ ?_
            refine W.ifP ((((List.length state) : Nat) : Int) = (0 : Int)) (.b (decide ((((List.length state) : Nat) : Int) = (0 : Int)))) (by kernel_rfl) rfl trivial ?_ ?_
            · intro h147
              refine W.KA cok tab51 hnt [] [6, 7] (⟨[(6, .sl (.ints state)), (7, .b (decide (c.ret = (0 : Int))))], [(5, ⟨36, .fix [.i c.proc, .i c.obj, .i c.kind, .i c.arg, .i c.ret, .i c.frm, .i c.to]⟩)], [5, 999]⟩)
                (True ∧ (True ∧ (True ∧ ((True ∧ (True ∧ True)) ∧ (True ∧ (True ∧ True)))))) (by kernel_rfl) (by kernel_rfl)
                ⟨trivial, ⟨trivial, ⟨trivial, ⟨⟨trivial, ⟨trivial, trivial⟩⟩, ⟨trivial, ⟨trivial, trivial⟩⟩⟩⟩⟩⟩ ?_
              refine W.ret (thenQ_ret (thenQ_ret ?_))
              exact endQ_ret (.tup [.sl (.ints state), .b (decide (c.ret = (0 : Int)))]) (by kernel_rfl) (@cast (((.ints state : Dat) = .ints ((specStep name state c).1)) ∧ (((.bool (decide (c.ret = (0 : Int))) : Value) = .bool ((specStep name state c).2)) ∧ True)) _ (by kernel_rfl) ⟨(congrArg Dat.ints (by simp only [specStep, (decide_eq_true h98), (decide_eq_true h147), (decide_eq_false n14), n100, n115, n132, cond_true, cond_false, Bool.and_true, Bool.true_and, Bool.and_false, Bool.false_and, Bool.or_true, Bool.true_or, Bool.or_false, Bool.false_or, Bool.not_true, Bool.not_false])), ⟨(congrArg Value.bool (by simp only [specStep, (decide_eq_true h98), (decide_eq_true h147), (decide_eq_false n14), n100, n115, n132, cond_true, cond_false, Bool.and_true, Bool.true_and, Bool.and_false, Bool.false_and, Bool.or_true, Bool.true_or, Bool.or_false, Bool.false_or, Bool.not_true, Bool.not_false])), trivial⟩⟩)
            · intro n147
              refine W.skip (thenQ_normal ?_)
              refine W.KA cok tab51 hnt [] [6, 7] (⟨[(6, .sl (.ints state)), (7, .b (decide (c.ret = (List.getD state 0 0))))], [(5, ⟨36, .fix [.i c.proc, .i c.obj, .i c.kind, .i c.arg, .i c.ret, .i c.frm, .i c.to]⟩)], [5, 999]⟩)
                (True ∧ (True ∧ (True ∧ (True ∧ ((True ∧ (True ∧ ((0 ≤ (0 : Int)) ∧ ((0 : Int) < (((List.length state) : Nat) : Int))))) ∧ (True ∧ ((True ∧ (True ∧ True)) ∧ (True ∧ (True ∧ True))))))))) (by kernel_rfl) (by kernel_rfl)
                ⟨trivial, ⟨trivial, ⟨trivial, ⟨trivial, ⟨⟨trivial, ⟨trivial, ⟨(by omega), (by omega)⟩⟩⟩, ⟨trivial, ⟨⟨trivial, ⟨trivial, trivial⟩⟩, ⟨trivial, ⟨trivial, trivial⟩⟩⟩⟩⟩⟩⟩⟩⟩ ?_
              refine W.ret (thenQ_ret ?_)
              exact endQ_ret (.tup [.sl (.ints state), .b (decide (c.ret = (List.getD state 0 0)))]) (by kernel_rfl) (@cast (((.ints state : Dat) = .ints ((specStep name state c).1)) ∧ (((.bool (decide (c.ret = (List.getD state 0 0))) : Value) = .bool ((specStep name state c).2)) ∧ True)) _ (by kernel_rfl) ⟨(congrArg Dat.ints (by simp only [specStep, (decide_eq_true h98), (decide_eq_false n14), n100, n115, n132, (decide_eq_false n147), cond_true, cond_false, Bool.and_true, Bool.true_and, Bool.and_false, Bool.false_and, Bool.or_true, Bool.true_or, Bool.or_false, Bool.false_or, Bool.not_true, Bool.not_false])), ⟨(congrArg Value.bool (by simp only [specStep, (decide_eq_true h98), (decide_eq_false n14), n100, n115, n132, (decide_eq_false n147), cond_true, cond_false, Bool.and_true, Bool.true_and, Bool.and_false, Bool.false_and, Bool.or_true, Bool.true_or, Bool.or_false, Bool.false_or, Bool.not_true, Bool.not_false])), trivial⟩⟩)
    · intro n98
      refine W.skip (thenQ_normal ?_)
      refine W.seq ?_
      refine W.K cok tab51 hnt [] [1, 5, 8, 159] (⟨[(1, .sl (.ints state)), (5, .ptr 5 0), (8, .i (((List.length state) : Nat) : Int)), (159, .v (.string name))], [(5, ⟨36, .fix [.i c.proc, .i c.obj, .i c.kind, .i c.arg, .i c.ret, .i c.frm, .i c.to]⟩)], [5, 999]⟩)
        (True ∧ True) (by kernel_rfl)
        ⟨trivial, trivial⟩ ?_
      refine W.block ?_
      refine W.K cok tab51 hnt [] [1, 5, 8, 159, 160] (⟨[(1, .sl (.ints state)), (5, .ptr 5 0), (8, .i (((List.length state) : Nat) : Int)), (159, .v (.string name)), (160, .b (eqS name nQueue))], [(5, ⟨36, .fix [.i c.proc, .i c.obj, .i c.kind, .i c.arg, .i c.ret, .i c.frm, .i c.to]⟩)], [5, 999]⟩)
        ((True ∧ (True ∧ True)) ∧ (True ∧ True)) (by kernel_rfl)
        ⟨⟨trivial, ⟨trivial, trivial⟩⟩, ⟨trivial, trivial⟩⟩ ?_
      refine W.if' (eqS name nQueue) (.b (eqS name nQueue)) (by kernel_rfl) rfl trivial ?_ ?_
      · intro h160
        refine W.seq ?_
        refine W.K cok tab51 hnt [] [1, 5, 163] (⟨[(1, .sl (.ints state)), (5, .ptr 5 0), (163, .b (decide ((((List.length state) : Nat) : Int) = (0 : Int))))], [(5, ⟨36, .fix [.i c.proc, .i c.obj, .i c.kind, .i c.arg, .i c.ret, .i c.frm, .i c.to]⟩)], [5, 999]⟩)
          (True ∧ ((True ∧ (True ∧ True)) ∧ True)) (by kernel_rfl)
          ⟨trivial, ⟨⟨trivial, ⟨trivial, trivial⟩⟩, trivial⟩⟩ ?_
        refine W.ifP ((((List.length state) : Nat) : Int) = (0 : Int)) (.b (decide ((((List.length state) : Nat) : Int) = (0 : Int)))) (by kernel_rfl) rfl trivial ?_ ?_
        · intro h163
          refine W.KA cok tab51 hnt [] [6, 7] (⟨[(6, .sl (.ints state)), (7, .b (decide (c.ret = (-1 : Int))))], [(5, ⟨36, .fix [.i c.proc, .i c.obj, .i c.kind, .i c.arg, .i c.ret, .i c.frm, .i c.to]⟩)], [5, 999]⟩)
            (True ∧ (True ∧ (True ∧ ((True ∧ (True ∧ True)) ∧ (True ∧ (True ∧ True)))))) (by kernel_rfl) (by kernel_rfl)
            ⟨trivial, ⟨trivial, ⟨trivial, ⟨⟨trivial, ⟨trivial, trivial⟩⟩, ⟨trivial, ⟨trivial, trivial⟩⟩⟩⟩⟩⟩ ?_
          refine W.ret (thenQ_ret (blockQ_ret (thenQ_ret ?_)))
          exact endQ_ret (.tup [.sl (.ints state), .b (decide (c.ret = (-1 : Int)))]) (by kernel_rfl) (@cast (((.ints state : Dat) = .ints ((specStep name state c).1)) ∧ (((.bool (decide (c.ret = (-1 : Int))) : Value) = .bool ((specStep name state c).2)) ∧ True)) _ (by kernel_rfl) ⟨(congrArg Dat.ints (by simp only [specStep, h160, (decide_eq_true h163), (decide_eq_false n14), (decide_eq_false n98), cond_true, cond_false, Bool.and_true, Bool.true_and, Bool.and_false, Bool.false_and, Bool.or_true, Bool.true_or, Bool.or_false, Bool.false_or, Bool.not_true, Bool.not_false])), ⟨(congrArg Value.bool (by simp only [specStep, h160, (decide_eq_true h163), (decide_eq_false n14), (decide_eq_false n98), cond_true, cond_false, Bool.and_true, Bool.true_and, Bool.and_false, Bool.false_and, Bool.or_true, Bool.true_or, Bool.or_false, Bool.false_or, Bool.not_true, Bool.not_false])), trivial⟩⟩)
        · intro n163
          refine W.skip (thenQ_normal ?_)
          refine W.KA cok tab51 hnt [] [6, 7] (⟨[(6, .sl (.ints (List.drop 1 (List.take (List.length state) state)))), (7, .b (decide (c.ret = (List.getD state 0 0))))], [(5, ⟨36, .fix [.i c.proc, .i c.obj, .i c.kind, .i c.arg, .i c.ret, .i c.frm, .i c.to]⟩)], [5, 999]⟩)
            (True ∧ ((True ∧ (True ∧ (True ∧ ((0 ≤ (1 : Int)) ∧ (((1 : Int) ≤ (((List.length state) : Nat) : Int)) ∧ ((((List.length state) : Nat) : Int) ≤ (((List.length state) : Nat) : Int))))))) ∧ (True ∧ (True ∧ (True ∧ ((True ∧ (True ∧ ((0 ≤ (0 : Int)) ∧ ((0 : Int) < (((List.length state) : Nat) : Int))))) ∧ (True ∧ ((True ∧ (True ∧ True)) ∧ (True ∧ (True ∧ True)))))))))) (by kernel_rfl) (by kernel_rfl)
            ⟨trivial, ⟨⟨trivial, ⟨trivial, ⟨trivial, ⟨(by omega), ⟨(by omega), (by omega)⟩⟩⟩⟩⟩, ⟨trivial, ⟨trivial, ⟨trivial, ⟨⟨trivial, ⟨trivial, ⟨(by omega), (by omega)⟩⟩⟩, ⟨trivial, ⟨⟨trivial, ⟨trivial, trivial⟩⟩, ⟨trivial, ⟨trivial, trivial⟩⟩⟩⟩⟩⟩⟩⟩⟩⟩ ?_
          refine W.ret (blockQ_ret (thenQ_ret ?_))
          exact endQ_ret (.tup [.sl (.ints (List.drop 1 (List.take (List.length state) state))), .b (decide (c.ret = (List.getD state 0 0)))]) (by kernel_rfl) (@cast (((.ints (List.drop 1 (List.take (List.length state) state)) : Dat) = .ints ((specStep name state c).1)) ∧ (((.bool (decide (c.ret = (List.getD state 0 0))) : Value) = .bool ((specStep name state c).2)) ∧ True)) _ (by kernel_rfl) ⟨(congrArg Dat.ints (by first | (simp only [specStep, h160, (decide_eq_false n14), (decide_eq_false n98), (decide_eq_false n163), cond_true, cond_false, Bool.and_true, Bool.true_and, Bool.and_false, Bool.false_and, Bool.or_true, Bool.true_or, Bool.or_false, Bool.false_or, Bool.not_true, Bool.not_false, List.take_length]; done) | simp only [specStep, h160, (decide_eq_false n14), (decide_eq_false n98), (decide_eq_false n163), cond_true, cond_false, Bool.and_true, Bool.true_and, Bool.and_false, Bool.false_and, Bool.or_true, Bool.true_or, Bool.or_false, Bool.false_or, Bool.not_true, Bool.not_false])), ⟨(congrArg Value.bool (by first | (simp only [specStep, h160, (decide_eq_false n14), (decide_eq_false n98), (decide_eq_false n163), cond_true, cond_false, Bool.and_true, Bool.true_and, Bool.and_false, Bool.false_and, Bool.or_true, Bool.true_or, Bool.or_false, Bool.false_or, Bool.not_true, Bool.not_false, List.take_length]; done) | simp only [specStep, h160, (decide_eq_false n14), (decide_eq_false n98), (decide_eq_false n163), cond_true, cond_false, Bool.and_true, Bool.true_and, Bool.and_false, Bool.false_and, Bool.or_true, Bool.true_or, Bool.or_false, Bool.false_or, Bool.not_true, Bool.not_false])), trivial⟩⟩)
      · intro n160
        refine W.K cok tab51 hnt [] [1, 5, 8, 159, 176] (⟨[(1, .sl (.ints state)), (5, .ptr 5 0), (8, .i (((List.length state) : Nat) : Int)), (159, .v (.string name)), (176, .b (eqS name nStack))], [(5, ⟨36, .fix [.i c.proc, .i c.obj, .i c.kind, .i c.arg, .i c.ret, .i c.frm, .i c.to]⟩)], [5, 999]⟩)
          ((True ∧ (True ∧ True)) ∧ (True ∧ True)) (by kernel_rfl)
          ⟨⟨trivial, ⟨trivial, trivial⟩⟩, ⟨trivial, trivial⟩⟩ ?_
        refine W.if' (eqS name nStack) (.b (eqS name nStack)) (by kernel_rfl) rfl trivial ?_ ?_
        · intro h176
          refine W.seq ?_
          refine W.K cok tab51 hnt [] [1, 5, 8, 179] (⟨[(1, .sl (.ints state)), (5, .ptr 5 0), (8, .i (((List.length state) : Nat) : Int)), (179, .b (decide ((((List.length state) : Nat) : Int) = (0 : Int))))], [(5, ⟨36, .fix [.i c.proc, .i c.obj, .i c.kind, .i c.arg, .i c.ret, .i c.frm, .i c.to]⟩)], [5, 999]⟩)
            (True ∧ ((True ∧ (True ∧ True)) ∧ True)) (by kernel_rfl)
            ⟨trivial, ⟨⟨trivial, ⟨trivial, trivial⟩⟩, trivial⟩⟩ ?_
          refine W.ifP ((((List.length state) : Nat) : Int) = (0 : Int)) (.b (decide ((((List.length state) : Nat) : Int) = (0 : Int)))) (by kernel_rfl) rfl trivial ?_ ?_
          · intro h179
            refine W.KA cok tab51 hnt [] [6, 7] (⟨[(6, .sl (.ints state)), (7, .b (decide (c.ret = (-1 : Int))))], [(5, ⟨36, .fix [.i c.proc, .i c.obj, .i c.kind, .i c.arg, .i c.ret, .i c.frm, .i c.to]⟩)], [5, 999]⟩)
              (True ∧ (True ∧ (True ∧ ((True ∧ (True ∧ True)) ∧ (True ∧ (True ∧ True)))))) (by kernel_rfl) (by kernel_rfl)
              ⟨trivial, ⟨trivial, ⟨trivial, ⟨⟨trivial, ⟨trivial, trivial⟩⟩, ⟨trivial, ⟨trivial, trivial⟩⟩⟩⟩⟩⟩ ?_
            refine W.ret (thenQ_ret (blockQ_ret (thenQ_ret ?_)))
            exact endQ_ret (.tup [.sl (.ints state), .b (decide (c.ret = (-1 : Int)))]) (by kernel_rfl) (@cast (((.ints state : Dat) = .ints ((specStep name state c).1)) ∧ (((.bool (decide (c.ret = (-1 : Int))) : Value) = .bool ((specStep name state c).2)) ∧ True)) _ (by kernel_rfl) ⟨(congrArg Dat.ints (by simp only [specStep, h176, (decide_eq_true h179), (decide_eq_false n14), (decide_eq_false n98), n160, cond_true, cond_false, Bool.and_true, Bool.true_and, Bool.and_false, Bool.false_and, Bool.or_true, Bool.true_or, Bool.or_false, Bool.false_or, Bool.not_true, Bool.not_false])), ⟨(congrArg Value.bool (by simp only [specStep, h176, (decide_eq_true h179), (decide_eq_false n14), (decide_eq_false n98), n160, cond_true, cond_false, Bool.and_true, Bool.true_and, Bool.and_false, Bool.false_and, Bool.or_true, Bool.true_or, Bool.or_false, Bool.false_or, Bool.not_true, Bool.not_false])), trivial⟩⟩)
          · intro n179
            refine W.skip (thenQ_normal ?_)
            refine W.KA cok tab51 hnt [] [6, 7] (⟨[(6, .sl (.ints (List.take (Int.toNat ((((List.length state) : Nat) : Int) - (1 : Int))) state))), (7, .b (decide (c.ret = (List.getD state (Int.toNat ((((List.length state) : Nat) : Int) - (1 : Int))) 0))))], [(5, ⟨36, .fix [.i c.proc, .i c.obj, .i c.kind, .i c.arg, .i c.ret, .i c.frm, .i c.to]⟩)], [5, 999]⟩)
              (True ∧ (True ∧ ((True ∧ (True ∧ (Fits .i64 ((((List.length state) : Nat) : Int) - (1 : Int))))) ∧ ((True ∧ (True ∧ (True ∧ ((0 ≤ (0 : Int)) ∧ (((0 : Int) ≤ ((((List.length state) : Nat) : Int) - (1 : Int))) ∧ (((((List.length state) : Nat) : Int) - (1 : Int)) ≤ (((List.length state) : Nat) : Int))))))) ∧ (True ∧ (True ∧ (True ∧ (True ∧ ((True ∧ (True ∧ (Fits .i64 ((((List.length state) : Nat) : Int) - (1 : Int))))) ∧ ((True ∧ (True ∧ ((0 ≤ ((((List.length state) : Nat) : Int) - (1 : Int))) ∧ (((((List.length state) : Nat) : Int) - (1 : Int)) < (((List.length state) : Nat) : Int))))) ∧ (True ∧ ((True ∧ (True ∧ True)) ∧ (True ∧ (True ∧ True)))))))))))))) (by kernel_rfl) (by kernel_rfl)
              ⟨trivial, ⟨trivial, ⟨⟨trivial, ⟨trivial, (by exact fits_i64 (by omega) (by omega))⟩⟩, ⟨⟨trivial, ⟨trivial, ⟨trivial, ⟨(by omega), ⟨(by omega), (by omega)⟩⟩⟩⟩⟩, ⟨trivial, ⟨trivial, ⟨trivial, ⟨trivial, ⟨⟨trivial, ⟨trivial, (by exact fits_i64 (by omega) (by omega))⟩⟩, ⟨⟨trivial, ⟨trivial, ⟨(by omega), (by omega)⟩⟩⟩, ⟨trivial, ⟨⟨trivial, ⟨trivial, trivial⟩⟩, ⟨trivial, ⟨trivial, trivial⟩⟩⟩⟩⟩⟩⟩⟩⟩⟩⟩⟩⟩⟩ ?_
            refine W.ret (blockQ_ret (thenQ_ret ?_))
            exact endQ_ret (.tup [.sl (.ints (List.take (Int.toNat ((((List.length state) : Nat) : Int) - (1 : Int))) state)), .b (decide (c.ret = (List.getD state (Int.toNat ((((List.length state) : Nat) : Int) - (1 : Int))) 0)))]) (by kernel_rfl) (@cast (((.ints (List.take (Int.toNat ((((List.length state) : Nat) : Int) - (1 : Int))) state) : Dat) = .ints ((specStep name state c).1)) ∧ (((.bool (decide (c.ret = (List.getD state (Int.toNat ((((List.length state) : Nat) : Int) - (1 : Int))) 0))) : Value) = .bool ((specStep name state c).2)) ∧ True)) _ (by kernel_rfl) ⟨(congrArg Dat.ints (by first | (rw [show Int.toNat (((List.length state : Nat) : Int) - (1 : Int)) = state.length - 1 by omega]; simp only [specStep, h176, (decide_eq_false n14), (decide_eq_false n98), n160, (decide_eq_false n179), cond_true, cond_false, Bool.and_true, Bool.true_and, Bool.and_false, Bool.false_and, Bool.or_true, Bool.true_or, Bool.or_false, Bool.false_or, Bool.not_true, Bool.not_false]; done) | simp only [specStep, h176, (decide_eq_false n14), (decide_eq_false n98), n160, (decide_eq_false n179), cond_true, cond_false, Bool.and_true, Bool.true_and, Bool.and_false, Bool.false_and, Bool.or_true, Bool.true_or, Bool.or_false, Bool.false_or, Bool.not_true, Bool.not_false])), ⟨(congrArg Value.bool (by first | (rw [show Int.toNat (((List.length state : Nat) : Int) - (1 : Int)) = state.length - 1 by omega]; simp only [specStep, h176, (decide_eq_false n14), (decide_eq_false n98), n160, (decide_eq_false n179), cond_true, cond_false, Bool.and_true, Bool.true_and, Bool.and_false, Bool.false_and, Bool.or_true, Bool.true_or, Bool.or_false, Bool.false_or, Bool.not_true, Bool.not_false]; done) | simp only [specStep, h176, (decide_eq_false n14), (decide_eq_false n98), n160, (decide_eq_false n179), cond_true, cond_false, Bool.and_true, Bool.true_and, Bool.and_false, Bool.false_and, Bool.or_true, Bool.true_or, Bool.or_false, Bool.false_or, Bool.not_true, Bool.not_false])), trivial⟩⟩)
        · intro n176
          refine W.K cok tab51 hnt [] [1, 5, 8, 196] (⟨[(1, .sl (.ints state)), (5, .ptr 5 0), (8, .i (((List.length state) : Nat) : Int)), (196, .b (eqS name nSet))], [(5, ⟨36, .fix [.i c.proc, .i c.obj, .i c.kind, .i c.arg, .i c.ret, .i c.frm, .i c.to]⟩)], [5, 999]⟩)
            ((True ∧ (True ∧ True)) ∧ (True ∧ True)) (by kernel_rfl)
            ⟨⟨trivial, ⟨trivial, trivial⟩⟩, ⟨trivial, trivial⟩⟩ ?_
          refine W.if' (eqS name nSet) (.b (eqS name nSet)) (by kernel_rfl) rfl trivial ?_ ?_
          · intro h196
            refine W.seq ?_
            refine W.K cok tab51 hnt [] [1, 5, 8, 9] (⟨[(1, .sl (.ints state)), (5, .ptr 5 0), (8, .i (((List.length state) : Nat) : Int)), (9, .i (0 : Int))], [(5, ⟨36, .fix [.i c.proc, .i c.obj, .i c.kind, .i c.arg, .i c.ret, .i c.frm, .i c.to]⟩)], [5, 999]⟩)
              (True ∧ True) (by kernel_rfl)
              ⟨trivial, trivial⟩ ?_
            refine W.block ?_
            refine W.loop (ι := Nat) (fun (i : Nat) => (⟨[(1, .sl (.ints state)), (5, .ptr 5 0), (8, .i (((List.length state) : Nat) : Int)), (9, .i ((i : Nat) : Int))], [(5, ⟨36, .fix [.i c.proc, .i c.obj, .i c.kind, .i c.arg, .i c.ret, .i c.frm, .i c.to]⟩)], [5, 999]⟩ : St))
              (fun (i : Nat) => (i ≤ state.length) ∧ (∀ j, j < i → ¬ state.getD j 0 = c.arg))
              (fun (i : Nat) => (state.length - i : Nat)) (0) ?_ ?_ ?_
            · exact (show (0 ≤ state.length) ∧ (∀ j, j < 0 → ¬ state.getD j 0 = c.arg) from ⟨(by first | assumption | omega | rfl | (intro _ hjj; omega) | (simp; done) | (simp; omega)), (by exact upto_zero)⟩)
            · exact Sub.of [] (@cast ((((.ints state : Dat) = .ints state) ∧ ((((5 : Nat) = 5) ∧ (((0 : Nat) = 0) ∧ ((5 : Nat) ∈ ([5, 999] : List Nat)))) ∧ (((.int .i64 (((List.length state) : Nat) : Int) : Value) = .int .i64 (((List.length state) : Nat) : Int)) ∧ (((.int .i64 (0 : Int) : Value) = .int .i64 ((0 : Nat) : Int)) ∧ True)))) ∧ (((((36 : Nat) = 36) ∧ ((((.int .i64 c.proc : Value) = .int .i64 c.proc) ∧ (((.int .i64 c.obj : Value) = .int .i64 c.obj) ∧ (((.int .i64 c.kind : Value) = .int .i64 c.kind) ∧ (((.int .i64 c.arg : Value) = .int .i64 c.arg) ∧ (((.int .i64 c.ret : Value) = .int .i64 c.ret) ∧ (((.int .i64 c.frm : Value) = .int .i64 c.frm) ∧ (((.int .i64 c.to : Value) = .int .i64 c.to) ∧ True))))))) ∧ ((5 : Nat) ∈ ([5, 999] : List Nat)))) ∧ True) ∧ ((true = true) ∧ (true = true)))) _ (by kernel_rfl) ⟨⟨rfl, ⟨⟨rfl, ⟨rfl, (by decide)⟩⟩, ⟨rfl, ⟨(congrArg (Value.int .i64) (by first | rfl | omega | assumption | simp | simp_all)), trivial⟩⟩⟩⟩, ⟨⟨⟨rfl, ⟨⟨rfl, ⟨rfl, ⟨rfl, ⟨rfl, ⟨rfl, ⟨rfl, ⟨rfl, trivial⟩⟩⟩⟩⟩⟩⟩, (by decide)⟩⟩, trivial⟩, ⟨rfl, rfl⟩⟩⟩)
            · rintro i hC0
              have hC : (i ≤ state.length) ∧ (∀ j, j < i → ¬ state.getD j 0 = c.arg) := hC0
              clear hC0
              obtain ⟨hi, hA⟩ := hC
              refine W.to (⟨[(1, .sl (.ints state)), (5, .ptr 5 0), (8, .i (((List.length state) : Nat) : Int)), (9, .i ((i : Nat) : Int))], [(5, ⟨36, .fix [.i c.proc, .i c.obj, .i c.kind, .i c.arg, .i c.ret, .i c.frm, .i c.to]⟩)], [5, 999]⟩) rfl ?_
              refine W.seq ?_
              refine W.K cok tab51 hnt [] [1, 5, 8, 9, 200] (⟨[(1, .sl (.ints state)), (5, .ptr 5 0), (8, .i (((List.length state) : Nat) : Int)), (9, .i ((i : Nat) : Int)), (200, .b (decide (((i : Nat) : Int) < (((List.length state) : Nat) : Int))))], [(5, ⟨36, .fix [.i c.proc, .i c.obj, .i c.kind, .i c.arg, .i c.ret, .i c.frm, .i c.to]⟩)], [5, 999]⟩)
                (True ∧ (True ∧ ((True ∧ (True ∧ True)) ∧ True))) (by kernel_rfl)
                ⟨trivial, ⟨trivial, ⟨⟨trivial, ⟨trivial, trivial⟩⟩, trivial⟩⟩⟩ ?_
              refine W.ifP (((i : Nat) : Int) < (((List.length state) : Nat) : Int)) (.b (decide (((i : Nat) : Int) < (((List.length state) : Nat) : Int)))) (by kernel_rfl) rfl trivial ?_ ?_
              · intro h200
                refine W.skip (thenQ_normal ?_)
                refine W.seq ?_
                refine W.block ?_
                refine W.KA cok tab51 hnt [] [1, 5, 8, 9, 209] (⟨[(1, .sl (.ints state)), (5, .ptr 5 0), (8, .i (((List.length state) : Nat) : Int)), (9, .i ((i : Nat) : Int)), (209, .b (decide ((List.getD state i 0) = c.arg)))], [(5, ⟨36, .fix [.i c.proc, .i c.obj, .i c.kind, .i c.arg, .i c.ret, .i c.frm, .i c.to]⟩)], [5, 999]⟩)
                  (True ∧ (True ∧ ((True ∧ (True ∧ ((0 ≤ ((i : Nat) : Int)) ∧ (((i : Nat) : Int) < (((List.length state) : Nat) : Int))))) ∧ (True ∧ (True ∧ (True ∧ ((True ∧ (True ∧ True)) ∧ True))))))) (by kernel_rfl) (by kernel_rfl)
                  ⟨trivial, ⟨trivial, ⟨⟨trivial, ⟨trivial, ⟨(by omega), (by omega)⟩⟩⟩, ⟨trivial, ⟨trivial, ⟨trivial, ⟨⟨trivial, ⟨trivial, trivial⟩⟩, trivial⟩⟩⟩⟩⟩⟩⟩ ?_
                refine W.ifP ((List.getD state i 0) = c.arg) (.b (decide ((List.getD state i 0) = c.arg))) (by kernel_rfl) rfl trivial ?_ ?_
                · intro h209
                  refine W.KA cok tab51 hnt [210, 214] [6, 7] (⟨[(6, .sl (.ints ((List.take i state) ++ (List.drop (i + 1) (List.take (List.length state) state))))), (7, .b (decide (c.ret = (1 : Int))))], [(5, ⟨36, .fix [.i c.proc, .i c.obj, .i c.kind, .i c.arg, .i c.ret, .i c.frm, .i c.to]⟩)], [219, 214, 210, 5, 999]⟩)
                    (True ∧ (True ∧ (True ∧ ((True ∧ (True ∧ (True ∧ ((0 ≤ (0 : Int)) ∧ (((0 : Int) ≤ ((i : Nat) : Int)) ∧ (((i : Nat) : Int) ≤ (((List.length state) : Nat) : Int))))))) ∧ (((True ∧ ((List.length ([] : List Int)) = (List.length ([] : List Int)))) ∧ (True ∧ (((List.length ([] : List Int)) + (List.length (List.take i state))) * 8 ≤ 140737488355328))) ∧ (True ∧ (True ∧ ((True ∧ (True ∧ (Fits .i64 (((i + 1) : Nat) : Int)))) ∧ ((True ∧ (True ∧ (True ∧ ((0 ≤ (((i + 1) : Nat) : Int)) ∧ (((((i + 1) : Nat) : Int) ≤ (((List.length state) : Nat) : Int)) ∧ ((((List.length state) : Nat) : Int) ≤ (((List.length state) : Nat) : Int))))))) ∧ (((True ∧ ((List.length (List.take i state)) = (List.length (List.take i state)))) ∧ (True ∧ (((List.length (List.take i state)) + (List.length (List.drop (i + 1) (List.take (List.length state) state)))) * 8 ≤ 140737488355328))) ∧ (True ∧ (True ∧ ((True ∧ (True ∧ True)) ∧ (True ∧ (True ∧ True))))))))))))))) (by kernel_rfl) (by kernel_rfl)
                    ⟨trivial, ⟨trivial, ⟨trivial, ⟨⟨trivial, ⟨trivial, ⟨trivial, ⟨(by omega), ⟨(by omega), (by omega)⟩⟩⟩⟩⟩, ⟨⟨⟨trivial, rfl⟩, ⟨trivial, (by (first | omega | (simp only [List.length_append, List.length_cons, List.length_nil, List.length_take, List.length_drop, List.length_set, List.length_replicate, List.length_map] at *; omega) | assumption))⟩⟩, ⟨trivial, ⟨trivial, ⟨⟨trivial, ⟨trivial, (by exact fits_i64 (by omega) (by omega))⟩⟩, ⟨⟨trivial, ⟨trivial, ⟨trivial, ⟨(by omega), ⟨(by omega), (by omega)⟩⟩⟩⟩⟩, ⟨⟨⟨trivial, rfl⟩, ⟨trivial, (by (first | omega | (simp only [List.length_append, List.length_cons, List.length_nil, List.length_take, List.length_drop, List.length_set, List.length_replicate, List.length_map] at *; omega) | assumption))⟩⟩, ⟨trivial, ⟨trivial, ⟨⟨trivial, ⟨trivial, trivial⟩⟩, ⟨trivial, ⟨trivial, trivial⟩⟩⟩⟩⟩⟩⟩⟩⟩⟩⟩⟩⟩⟩⟩ ?_
                  refine W.ret (blockQ_ret (thenQ_ret (thenQ_ret (blockQ_ret (thenQ_ret (blockQ_ret (thenQ_ret ?_)))))))
                  exact endQ_ret (.tup [.sl (.ints ((List.take i state) ++ (List.drop (i + 1) (List.take (List.length state) state)))), .b (decide (c.ret = (1 : Int)))]) (by kernel_rfl) (@cast (((.ints ((List.take i state) ++ (List.drop (i + 1) (List.take (List.length state) state))) : Dat) = .ints ((specStep name state c).1)) ∧ (((.bool (decide (c.ret = (1 : Int))) : Value) = .bool ((specStep name state c).2)) ∧ True)) _ (by kernel_rfl) ⟨(congrArg Dat.ints (by have hh : hasInt state c.arg = true := anyN_true (i := i) (by omega) (decide_eq_true h209); have he := erase_at state c.arg i (by omega) h209 hA; first | (simp only [specStep, hh, h196, (decide_eq_true h200), (decide_eq_true h209), (decide_eq_false n14), (decide_eq_false n98), n160, n176, cond_true, cond_false, Bool.and_true, Bool.true_and, Bool.and_false, Bool.false_and, Bool.or_true, Bool.true_or, Bool.or_false, Bool.false_or, Bool.not_true, Bool.not_false]; done) | (rw [List.take_length, he]; simp only [specStep, hh, h196, (decide_eq_true h200), (decide_eq_true h209), (decide_eq_false n14), (decide_eq_false n98), n160, n176, cond_true, cond_false, Bool.and_true, Bool.true_and, Bool.and_false, Bool.false_and, Bool.or_true, Bool.true_or, Bool.or_false, Bool.false_or, Bool.not_true, Bool.not_false]))), ⟨(congrArg Value.bool (by have hh : hasInt state c.arg = true := anyN_true (i := i) (by omega) (decide_eq_true h209); have he := erase_at state c.arg i (by omega) h209 hA; first | (simp only [specStep, hh, h196, (decide_eq_true h200), (decide_eq_true h209), (decide_eq_false n14), (decide_eq_false n98), n160, n176, cond_true, cond_false, Bool.and_true, Bool.true_and, Bool.and_false, Bool.false_and, Bool.or_true, Bool.true_or, Bool.or_false, Bool.false_or, Bool.not_true, Bool.not_false]; done) | (rw [List.take_length, he]; simp only [specStep, hh, h196, (decide_eq_true h200), (decide_eq_true h209), (decide_eq_false n14), (decide_eq_false n98), n160, n176, cond_true, cond_false, Bool.and_true, Bool.true_and, Bool.and_false, Bool.false_and, Bool.or_true, Bool.true_or, Bool.or_false, Bool.false_or, Bool.not_true, Bool.not_false]))), trivial⟩⟩)
                · intro n209
                  refine W.skip (blockQ_normal (thenQ_normal ?_))
                  refine W.L cok tab51 hnt [] (⟨[(1, .sl (.ints state)), (5, .ptr 5 0), (8, .i (((List.length state) : Nat) : Int)), (9, .i (((i + 1) : Nat) : Int)), (201, .i ((i : Nat) : Int)), (202, .i (((i + 1) : Nat) : Int)), (209, .b (decide ((List.getD state i 0) = c.arg)))], [(5, ⟨36, .fix [.i c.proc, .i c.obj, .i c.kind, .i c.arg, .i c.ret, .i c.frm, .i c.to]⟩)], [5, 999]⟩)
                    (True ∧ ((True ∧ (True ∧ (Fits .i64 (((i + 1) : Nat) : Int)))) ∧ (True ∧ True))) (by kernel_rfl)
                    ⟨trivial, ⟨⟨trivial, ⟨trivial, (by exact fits_i64 (by omega) (by omega))⟩⟩, ⟨trivial, trivial⟩⟩⟩ ?_
                  refine thenQ_normal ?_
                  refine ⟨((i + 1)), (show ((i + 1) ≤ state.length) ∧ (∀ j, j < (i + 1) → ¬ state.getD j 0 = c.arg) from ⟨(by first | assumption | omega | rfl | (intro _ hjj; omega) | (simp; done) | (simp; omega)), (by exact upto_succ hA n209)⟩), (show state.length - (i + 1) < state.length - i from (by first | omega | (simp_all; omega))), ?_⟩
                  exact Sub.of [] (@cast ((((.ints state : Dat) = .ints state) ∧ ((((5 : Nat) = 5) ∧ (((0 : Nat) = 0) ∧ ((5 : Nat) ∈ ([5, 999] : List Nat)))) ∧ (((.int .i64 (((List.length state) : Nat) : Int) : Value) = .int .i64 (((List.length state) : Nat) : Int)) ∧ (((.int .i64 (((i + 1) : Nat) : Int) : Value) = .int .i64 (((i + 1) : Nat) : Int)) ∧ True)))) ∧ (((((36 : Nat) = 36) ∧ ((((.int .i64 c.proc : Value) = .int .i64 c.proc) ∧ (((.int .i64 c.obj : Value) = .int .i64 c.obj) ∧ (((.int .i64 c.kind : Value) = .int .i64 c.kind) ∧ (((.int .i64 c.arg : Value) = .int .i64 c.arg) ∧ (((.int .i64 c.ret : Value) = .int .i64 c.ret) ∧ (((.int .i64 c.frm : Value) = .int .i64 c.frm) ∧ (((.int .i64 c.to : Value) = .int .i64 c.to) ∧ True))))))) ∧ ((5 : Nat) ∈ ([5, 999] : List Nat)))) ∧ True) ∧ ((true = true) ∧ (true = true)))) _ (by kernel_rfl) ⟨⟨rfl, ⟨⟨rfl, ⟨rfl, (by decide)⟩⟩, ⟨rfl, ⟨rfl, trivial⟩⟩⟩⟩, ⟨⟨⟨rfl, ⟨⟨rfl, ⟨rfl, ⟨rfl, ⟨rfl, ⟨rfl, ⟨rfl, ⟨rfl, trivial⟩⟩⟩⟩⟩⟩⟩, (by decide)⟩⟩, trivial⟩, ⟨rfl, rfl⟩⟩⟩)
              · intro n200
                refine W.exit (thenQ_exit (thenQ_exit (blockQ_hit ?_)))
                refine thenQ_normal ?_
                refine W.KA cok tab51 hnt [] [6, 7] (⟨[(6, .sl (.ints state)), (7, .b (decide (c.ret = (0 : Int))))], [(5, ⟨36, .fix [.i c.proc, .i c.obj, .i c.kind, .i c.arg, .i c.ret, .i c.frm, .i c.to]⟩)], [5, 999]⟩)
                  (True ∧ (True ∧ (True ∧ ((True ∧ (True ∧ True)) ∧ (True ∧ (True ∧ True)))))) (by kernel_rfl) (by kernel_rfl)
                  ⟨trivial, ⟨trivial, ⟨trivial, ⟨⟨trivial, ⟨trivial, trivial⟩⟩, ⟨trivial, ⟨trivial, trivial⟩⟩⟩⟩⟩⟩ ?_
                refine W.ret (blockQ_ret (thenQ_ret ?_))
                exact endQ_ret (.tup [.sl (.ints state), .b (decide (c.ret = (0 : Int)))]) (by kernel_rfl) (@cast (((.ints state : Dat) = .ints ((specStep name state c).1)) ∧ (((.bool (decide (c.ret = (0 : Int))) : Value) = .bool ((specStep name state c).2)) ∧ True)) _ (by kernel_rfl) ⟨(congrArg Dat.ints (by have hh : hasInt state c.arg = false := anyN_false (fun j hj => decide_eq_false (hA j (by omega))); simp only [specStep, hh, h196, (decide_eq_false n14), (decide_eq_false n98), n160, n176, (decide_eq_false n200), cond_true, cond_false, Bool.and_true, Bool.true_and, Bool.and_false, Bool.false_and, Bool.or_true, Bool.true_or, Bool.or_false, Bool.false_or, Bool.not_true, Bool.not_false])), ⟨(congrArg Value.bool (by have hh : hasInt state c.arg = false := anyN_false (fun j hj => decide_eq_false (hA j (by omega))); simp only [specStep, hh, h196, (decide_eq_false n14), (decide_eq_false n98), n160, n176, (decide_eq_false n200), cond_true, cond_false, Bool.and_true, Bool.true_and, Bool.and_false, Bool.false_and, Bool.or_true, Bool.true_or, Bool.or_false, Bool.false_or, Bool.not_true, Bool.not_false])), trivial⟩⟩)
          · intro n196
            refine W.skip (blockQ_normal (thenQ_normal ?_))
            refine W.seq ?_
            refine W.K cok tab51 hnt [] [1, 5, 228] (⟨[(1, .sl (.ints state)), (5, .ptr 5 0), (228, .b (decide ((((List.length state) : Nat) : Int) = (0 : Int))))], [(5, ⟨36, .fix [.i c.proc, .i c.obj, .i c.kind, .i c.arg, .i c.ret, .i c.frm, .i c.to]⟩)], [5, 999]⟩)
              (True ∧ ((True ∧ (True ∧ True)) ∧ True)) (by kernel_rfl)
              ⟨trivial, ⟨⟨trivial, ⟨trivial, trivial⟩⟩, trivial⟩⟩ ?_
            refine W.ifP ((((List.length state) : Nat) : Int) = (0 : Int)) (.b (decide ((((List.length state) : Nat) : Int) = (0 : Int)))) (by kernel_rfl) rfl trivial ?_ ?_
            · intro h228
              refine W.KA cok tab51 hnt [] [6, 7] (⟨[(6, .sl (.ints ([] : List Int))), (7, .b (decide (c.ret = (0 : Int))))], [(5, ⟨36, .fix [.i c.proc, .i c.obj, .i c.kind, .i c.arg, .i c.ret, .i c.frm, .i c.to]⟩)], [229, 5, 999]⟩)
                (True ∧ (True ∧ (True ∧ ((True ∧ (True ∧ True)) ∧ (True ∧ (True ∧ True)))))) (by kernel_rfl) (by kernel_rfl)
                ⟨trivial, ⟨trivial, ⟨trivial, ⟨⟨trivial, ⟨trivial, trivial⟩⟩, ⟨trivial, ⟨trivial, trivial⟩⟩⟩⟩⟩⟩ ?_
              refine W.ret (thenQ_ret ?_)
              exact endQ_ret (.tup [.sl (.ints ([] : List Int)), .b (decide (c.ret = (0 : Int)))]) (by kernel_rfl) (@cast (((.ints ([] : List Int) : Dat) = .ints ((specStep name state c).1)) ∧ (((.bool (decide (c.ret = (0 : Int))) : Value) = .bool ((specStep name state c).2)) ∧ True)) _ (by kernel_rfl) ⟨(congrArg Dat.ints (by simp only [specStep, (decide_eq_true h228), (decide_eq_false n14), (decide_eq_false n98), n160, n176, n196, cond_true, cond_false, Bool.and_true, Bool.true_and, Bool.and_false, Bool.false_and, Bool.or_true, Bool.true_or, Bool.or_false, Bool.false_or, Bool.not_true, Bool.not_false])), ⟨(congrArg Value.bool (by simp only [specStep, (decide_eq_true h228), (decide_eq_false n14), (decide_eq_false n98), n160, n176, n196, cond_true, cond_false, Bool.and_true, Bool.true_and, Bool.and_false, Bool.false_and, Bool.or_true, Bool.true_or, Bool.or_false, Bool.false_or, Bool.not_true, Bool.not_false])), trivial⟩⟩)
            · intro n228
              refine W.skip (thenQ_normal ?_)
              refine W.KA cok tab51 hnt [] [6, 7] (⟨[(6, .sl (.ints ([] : List Int))), (7, .b (decide (c.ret = (List.getD state 0 0))))], [(5, ⟨36, .fix [.i c.proc, .i c.obj, .i c.kind, .i c.arg, .i c.ret, .i c.frm, .i c.to]⟩)], [233, 5, 999]⟩)
                (True ∧ (True ∧ (True ∧ (True ∧ ((True ∧ (True ∧ ((0 ≤ (0 : Int)) ∧ ((0 : Int) < (((List.length state) : Nat) : Int))))) ∧ (True ∧ ((True ∧ (True ∧ True)) ∧ (True ∧ (True ∧ True))))))))) (by kernel_rfl) (by kernel_rfl)
                ⟨trivial, ⟨trivial, ⟨trivial, ⟨trivial, ⟨⟨trivial, ⟨trivial, ⟨(by omega), (by omega)⟩⟩⟩, ⟨trivial, ⟨⟨trivial, ⟨trivial, trivial⟩⟩, ⟨trivial, ⟨trivial, trivial⟩⟩⟩⟩⟩⟩⟩⟩⟩ ?_
              refine W.ret ?_
              exact endQ_ret (.tup [.sl (.ints ([] : List Int)), .b (decide (c.ret = (List.getD state 0 0)))]) (by kernel_rfl) (@cast (((.ints ([] : List Int) : Dat) = .ints ((specStep name state c).1)) ∧ (((.bool (decide (c.ret = (List.getD state 0 0))) : Value) = .bool ((specStep name state c).2)) ∧ True)) _ (by kernel_rfl) ⟨(congrArg Dat.ints (by simp only [specStep, (decide_eq_false n14), (decide_eq_false n98), n160, n176, n196, (decide_eq_false n228), cond_true, cond_false, Bool.and_true, Bool.true_and, Bool.and_false, Bool.false_and, Bool.or_true, Bool.true_or, Bool.or_false, Bool.false_or, Bool.not_true, Bool.not_false])), ⟨(congrArg Value.bool (by simp only [specStep, (decide_eq_false n14), (decide_eq_false n98), n160, n176, n196, (decide_eq_false n228), cond_true, cond_false, Bool.and_true, Bool.true_and, Bool.and_false, Bool.false_and, Bool.or_true, Bool.true_or, Bool.or_false, Bool.false_or, Bool.not_true, Bool.not_false])), trivial⟩⟩)
theorem ent51 : Entr prog 51 := ⟨_, func51, rfl, by decide⟩
end Go.Proofs.Try
