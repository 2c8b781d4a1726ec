import Derived.Test.YtcjnccepckdiaaaAS
import Derived.Test.YtcjnccepckdiaaaM1
set_option linter.unusedSimpArgs false
set_option linter.unusedVariables false
namespace Go.Proofs.Try
open Go.Ab Go.RowKit
/-- spec.hasInt -/
def fs70 : FnS := fnS [.s .ints, .o] [.ints, .int] (fun _ (l, n, _) => (.b (hasInt l n), [], True))
abbrev T70 : Tab := lk []
theorem tab70 : TabOK prog T70 := TabOK.nil
set_option maxRecDepth 100000 in
set_option maxHeartbeats 1000000 in
theorem ok70 : FnOK prog 70 fs70 := by
  refine FnOK.mk cok func70 rfl rfl rfl ?_
  rintro fl ⟨(l : List Int), (n : Int), _⟩ hpre F hnt0 _
  have hnt : F.nt = 18 := hnt0.trans ntmps70
  clear hpre
  refine W.to (⟨[(0, .sl (.ints l)), (1, .i n)], [], [999]⟩) rfl ?_
  refine W.lenOf 0 (.ints l) (by kernel_rfl) ?_
  intro hl_l; replace hl_l : List.length l ≤ 9223372036854775807 := hl_l
  refine W.K cok tab70 hnt [] [0, 1] (⟨[(0, .sl (.ints l)), (1, .i n)], [], [999]⟩)
    (True ∧ True) (by kernel_rfl)
    ⟨trivial, trivial⟩ ?_
  refine W.seq ?_
  refine W.K cok tab70 hnt [] [0, 1, 5] (⟨[(0, .sl (.ints l)), (1, .i n), (5, .i (0 : Int))], [], [999]⟩)
    (True ∧ True) (by kernel_rfl)
    ⟨trivial, trivial⟩ ?_
  refine W.block ?_
  refine W.loop (ι := Nat) (fun (i : Nat) => (⟨[(0, .sl (.ints l)), (1, .i n), (5, .i ((i : Nat) : Int))], [], [999]⟩ : St))
    (fun (i : Nat) => (i ≤ l.length) ∧ (∀ j, j < i → decide (l.getD j 0 = n) = false))
    (fun (i : Nat) => (l.length - i : Nat)) (0) ?_ ?_ ?_
  · exact (show (0 ≤ l.length) ∧ (∀ j, j < 0 → decide (l.getD j 0 = n) = false) from ⟨(by first | assumption | omega | rfl | (intro _ hjj; omega) | (simp; done) | (simp; omega)), (by exact upto_zero)⟩)
  · exact Sub.of [] (@cast ((((.ints l : Dat) = .ints l) ∧ (((.int .i64 n : Value) = .int .i64 n) ∧ (((.int .i64 (0 : Int) : Value) = .int .i64 ((0 : Nat) : Int)) ∧ True))) ∧ (True ∧ ((true = true) ∧ (true = true)))) _ (by kernel_rfl) ⟨⟨rfl, ⟨rfl, ⟨(congrArg (Value.int .i64) (by first | rfl | omega | assumption | simp | simp_all)), trivial⟩⟩⟩, ⟨trivial, ⟨rfl, rfl⟩⟩⟩)
  · rintro i hC0
    have hC : (i ≤ l.length) ∧ (∀ j, j < i → decide (l.getD j 0 = n) = false) := hC0
    clear hC0
    obtain ⟨hi, hA⟩ := hC
    refine W.to (⟨[(0, .sl (.ints l)), (1, .i n), (5, .i ((i : Nat) : Int))], [], [999]⟩) rfl ?_
    refine W.seq ?_
    refine W.K cok tab70 hnt [] [0, 1, 5, 9] (⟨[(0, .sl (.ints l)), (1, .i n), (5, .i ((i : Nat) : Int)), (9, .b (decide (((i : Nat) : Int) < (((List.length l) : Nat) : Int))))], [], [999]⟩)
      (True ∧ (True ∧ (True ∧ ((True ∧ (True ∧ True)) ∧ True)))) (by kernel_rfl)
      ⟨trivial, ⟨trivial, ⟨trivial, ⟨⟨trivial, ⟨trivial, trivial⟩⟩, trivial⟩⟩⟩⟩ ?_
    refine W.ifP (((i : Nat) : Int) < (((List.length l) : Nat) : Int)) (.b (decide (((i : Nat) : Int) < (((List.length l) : Nat) : Int)))) (by kernel_rfl) rfl trivial ?_ ?_
    · intro h9
      refine W.skip (thenQ_normal ?_)
      refine W.seq ?_
      refine W.block ?_
      refine W.K cok tab70 hnt [] [0, 1, 5, 17] (⟨[(0, .sl (.ints l)), (1, .i n), (5, .i ((i : Nat) : Int)), (17, .b (decide ((List.getD l i 0) = n)))], [], [999]⟩)
        (True ∧ (True ∧ ((True ∧ (True ∧ ((0 ≤ ((i : Nat) : Int)) ∧ (((i : Nat) : Int) < (((List.length l) : Nat) : Int))))) ∧ (True ∧ (True ∧ ((True ∧ (True ∧ True)) ∧ True)))))) (by kernel_rfl)
        ⟨trivial, ⟨trivial, ⟨⟨trivial, ⟨trivial, ⟨(by omega), (by omega)⟩⟩⟩, ⟨trivial, ⟨trivial, ⟨⟨trivial, ⟨trivial, trivial⟩⟩, trivial⟩⟩⟩⟩⟩⟩ ?_
      refine W.ifP ((List.getD l i 0) = n) (.b (decide ((List.getD l i 0) = n))) (by kernel_rfl) rfl trivial ?_ ?_
      · intro h17
        refine W.K cok tab70 hnt [] [4] (⟨[(4, .b true)], [], [999]⟩)
          (True ∧ True) (by kernel_rfl)
          ⟨trivial, trivial⟩ ?_
        refine W.ret (blockQ_ret (thenQ_ret (thenQ_ret (blockQ_ret (thenQ_ret ?_)))))
        exact endQ_ret (.b true) (by kernel_rfl) (@cast ((.bool true : Value) = .bool (hasInt l n)) _ (by kernel_rfl) (congrArg Value.bool (by unfold hasInt; symm; exact anyN_true (i := i) (by omega) (decide_eq_true h17))))
      · intro n17
        refine W.skip (blockQ_normal (thenQ_normal ?_))
        refine W.L cok tab70 hnt [] (⟨[(0, .sl (.ints l)), (1, .i n), (5, .i (((i + 1) : Nat) : Int)), (10, .i ((i : Nat) : Int)), (11, .i (((i + 1) : Nat) : Int)), (17, .b (decide ((List.getD l i 0) = n)))], [], [999]⟩)
          (True ∧ ((True ∧ (True ∧ (Fits .i64 (((i + 1) : Nat) : Int)))) ∧ (True ∧ True))) (by kernel_rfl)
          ⟨trivial, ⟨⟨trivial, ⟨trivial, (by exact fits_i64 (by omega) (by omega))⟩⟩, ⟨trivial, trivial⟩⟩⟩ ?_
        refine thenQ_normal ?_
        refine ⟨((i + 1)), (show ((i + 1) ≤ l.length) ∧ (∀ j, j < (i + 1) → decide (l.getD j 0 = n) = false) from ⟨(by first | assumption | omega | rfl | (intro _ hjj; omega) | (simp; done) | (simp; omega)), (by exact upto_succ hA (decide_eq_false n17))⟩), (show l.length - (i + 1) < l.length - i from (by first | omega | (simp_all; omega))), ?_⟩
        exact Sub.of [] (@cast ((((.ints l : Dat) = .ints l) ∧ (((.int .i64 n : Value) = .int .i64 n) ∧ (((.int .i64 (((i + 1) : Nat) : Int) : Value) = .int .i64 (((i + 1) : Nat) : Int)) ∧ True))) ∧ (True ∧ ((true = true) ∧ (true = true)))) _ (by kernel_rfl) ⟨⟨rfl, ⟨rfl, ⟨rfl, trivial⟩⟩⟩, ⟨trivial, ⟨rfl, rfl⟩⟩⟩)
    · intro n9
      refine W.exit (thenQ_exit (thenQ_exit (blockQ_hit ?_)))
      refine thenQ_normal ?_
      refine W.K cok tab70 hnt [] [4] (⟨[(4, .b false)], [], [999]⟩)
        (True ∧ True) (by kernel_rfl)
        ⟨trivial, trivial⟩ ?_
      refine W.ret ?_
      exact endQ_ret (.b false) (by kernel_rfl) (@cast ((.bool false : Value) = .bool (hasInt l n)) _ (by kernel_rfl) (congrArg Value.bool (by unfold hasInt; symm; exact anyN_false (fun j hj => hA j (by omega)))))
theorem ent70 : Entr prog 70 := ⟨_, func70, rfl, by decide⟩

end Go.Proofs.Try
