import Derived.Test.YthjkiipikpiepaaDS
import Derived.Test.YthjkiipikpiepaaM8
set_option linter.unusedSimpArgs false
set_option linter.unusedVariables false
namespace Go.Proofs.Try
open Go.Ab Go.RowKit
/-- cmp.Or[int] -/
def fs18 : FnS := fnS [.s .ints] [.ints] (fun _ (l, _) => (.i (orI l), [], True))
abbrev T18 : Tab := lk []
theorem tab18 : TabOK prog T18 := TabOK.nil
set_option maxRecDepth 100000 in
set_option maxHeartbeats 1000000 in
theorem ok18 : FnOK prog 18 fs18 := by
  refine FnOK.mk cok func18 rfl rfl rfl ?_
  rintro fl ⟨(l : List Int), _⟩ hpre F hnt0 _
  have hnt : F.nt = 18 := hnt0.trans ntmps18
  clear hpre
  refine W.to (⟨[(0, .sl (.ints l))], [], [999]⟩) rfl ?_
  refine W.lenOf 0 (.ints l) (by kernel_rfl) ?_
  intro hl_l; replace hl_l : List.length l ≤ 9223372036854775807 := hl_l
  refine W.K cok tab18 hnt [] [0] (⟨[(0, .sl (.ints l))], [], [999]⟩)
    (True ∧ True) (by kernel_rfl)
    ⟨trivial, trivial⟩ ?_
  refine W.K cok tab18 hnt [] [0, 3] (⟨[(0, .sl (.ints l)), (3, .i (0 : Int))], [], [999]⟩)
    (True ∧ True) (by kernel_rfl)
    ⟨trivial, trivial⟩ ?_
  refine W.seq ?_
  refine W.K cok tab18 hnt [] [3, 6, 7, 8] (⟨[(3, .i (0 : Int)), (6, .sl (.ints l)), (7, .i (((List.length l) : Nat) : Int)), (8, .i (0 : Int))], [], [999]⟩)
    (True ∧ (True ∧ (True ∧ True))) (by kernel_rfl)
    ⟨trivial, ⟨trivial, ⟨trivial, trivial⟩⟩⟩ ?_
  refine W.block ?_
  refine W.loop (ι := Nat) (fun (i : Nat) => (⟨[(3, .i (0 : Int)), (6, .sl (.ints l)), (7, .i (((List.length l) : Nat) : Int)), (8, .i ((i : Nat) : Int))], [], [999]⟩ : St))
    (fun (i : Nat) => (i ≤ l.length) ∧ (orI l = orFrom l i))
    (fun (i : Nat) => (l.length - i : Nat)) (0) ?_ ?_ ?_
  · exact (show (0 ≤ l.length) ∧ (orI l = orFrom l 0) from ⟨(by first | assumption | omega | rfl | (intro _ hjj; omega) | (simp; done) | (simp; omega)), (by rfl)⟩)
  · exact Sub.of [] (@cast ((((.int .i64 (0 : Int) : Value) = .int .i64 (0 : Int)) ∧ (((.ints l : Dat) = .ints l) ∧ (((.int .i64 (((List.length l) : Nat) : Int) : Value) = .int .i64 (((List.length l) : Nat) : Int)) ∧ (((.int .i64 (0 : Int) : Value) = .int .i64 ((0 : Nat) : Int)) ∧ True)))) ∧ (True ∧ ((true = true) ∧ (true = true)))) _ (by kernel_rfl) ⟨⟨rfl, ⟨rfl, ⟨rfl, ⟨(congrArg (Value.int .i64) (by first | rfl | omega | assumption | simp | simp_all)), trivial⟩⟩⟩⟩, ⟨trivial, ⟨rfl, rfl⟩⟩⟩)
  · rintro i hC0
    have hC : (i ≤ l.length) ∧ (orI l = orFrom l i) := hC0
    clear hC0
    obtain ⟨hi, hA⟩ := hC
    refine W.to (⟨[(3, .i (0 : Int)), (6, .sl (.ints l)), (7, .i (((List.length l) : Nat) : Int)), (8, .i ((i : Nat) : Int))], [], [999]⟩) rfl ?_
    refine W.K cok tab18 hnt [] [3, 6, 7, 8, 9] (⟨[(3, .i (0 : Int)), (6, .sl (.ints l)), (7, .i (((List.length l) : Nat) : Int)), (8, .i ((i : Nat) : Int)), (9, .b (decide (((i : Nat) : Int) < (((List.length l) : Nat) : Int))))], [], [999]⟩)
      ((True ∧ (True ∧ True)) ∧ True) (by kernel_rfl)
      ⟨⟨trivial, ⟨trivial, trivial⟩⟩, trivial⟩ ?_
    refine W.seq ?_
    refine W.ifP (((i : Nat) : Int) < (((List.length l) : Nat) : Int)) (.b (decide (((i : Nat) : Int) < (((List.length l) : Nat) : Int)))) (by kernel_rfl) rfl trivial ?_ ?_
    · intro h9
      refine W.skip (thenQ_normal ?_)
      refine W.seq ?_
      refine W.block ?_
      refine W.K cok tab18 hnt [] [3, 5, 6, 7, 8] (⟨[(3, .i (0 : Int)), (5, .i (List.getD l i 0)), (6, .sl (.ints l)), (7, .i (((List.length l) : Nat) : Int)), (8, .i ((i : Nat) : Int))], [], [999]⟩)
        ((True ∧ (True ∧ ((0 ≤ ((i : Nat) : Int)) ∧ (((i : Nat) : Int) < (((List.length l) : Nat) : Int))))) ∧ (True ∧ (True ∧ True))) (by kernel_rfl)
        ⟨⟨trivial, ⟨trivial, ⟨(by omega), (by omega)⟩⟩⟩, ⟨trivial, ⟨trivial, trivial⟩⟩⟩ ?_
      refine W.K cok tab18 hnt [] [3, 5, 6, 7, 8, 14] (⟨[(3, .i (0 : Int)), (5, .i (List.getD l i 0)), (6, .sl (.ints l)), (7, .i (((List.length l) : Nat) : Int)), (8, .i ((i : Nat) : Int)), (14, .b (decide ((List.getD l i 0) ≠ (0 : Int))))], [], [999]⟩)
        (True ∧ (True ∧ ((True ∧ (True ∧ True)) ∧ True))) (by kernel_rfl)
        ⟨trivial, ⟨trivial, ⟨⟨trivial, ⟨trivial, trivial⟩⟩, trivial⟩⟩⟩ ?_
      refine W.ifP ((List.getD l i 0) ≠ (0 : Int)) (.b (decide ((List.getD l i 0) ≠ (0 : Int)))) (by kernel_rfl) rfl trivial ?_ ?_
      · intro h14
        refine W.K cok tab18 hnt [] [2] (⟨[(2, .i (List.getD l i 0))], [], [999]⟩)
          (True ∧ (True ∧ True)) (by kernel_rfl)
          ⟨trivial, ⟨trivial, trivial⟩⟩ ?_
        refine W.ret (blockQ_ret (thenQ_ret (thenQ_ret (blockQ_ret (thenQ_ret ?_)))))
        exact endQ_ret (.i (List.getD l i 0)) (by kernel_rfl) (@cast ((.int .i64 (List.getD l i 0) : Value) = .int .i64 (orI l)) _ (by kernel_rfl) (congrArg (Value.int .i64) (by rw [hA, orFrom_yes (by omega) h14])))
      · intro n14
        refine W.skip (blockQ_normal (thenQ_normal ?_))
        refine W.L cok tab18 hnt [] (⟨[(3, .i (0 : Int)), (5, .i (List.getD l i 0)), (6, .sl (.ints l)), (7, .i (((List.length l) : Nat) : Int)), (8, .i (((i + 1) : Nat) : Int)), (14, .b (decide ((List.getD l i 0) ≠ (0 : Int)))), (16, .i (((i + 1) : Nat) : Int))], [], [999]⟩)
          ((True ∧ (True ∧ (Fits .i64 (((i + 1) : Nat) : Int)))) ∧ (True ∧ True)) (by kernel_rfl)
          ⟨⟨trivial, ⟨trivial, (by exact fits_i64 (by omega) (by omega))⟩⟩, ⟨trivial, trivial⟩⟩ ?_
        refine thenQ_normal ?_
        refine ⟨((i + 1)), (show ((i + 1) ≤ l.length) ∧ (orI l = orFrom l (i + 1)) from ⟨(by first | assumption | omega | rfl | (intro _ hjj; omega) | (simp; done) | (simp; omega)), (by rw [hA]; exact orFrom_no (by omega) n14)⟩), (show l.length - (i + 1) < l.length - i from (by first | omega | (simp_all; omega))), ?_⟩
        exact Sub.of [] (@cast ((((.int .i64 (0 : Int) : Value) = .int .i64 (0 : Int)) ∧ (((.ints l : Dat) = .ints l) ∧ (((.int .i64 (((List.length l) : Nat) : Int) : Value) = .int .i64 (((List.length l) : Nat) : Int)) ∧ (((.int .i64 (((i + 1) : Nat) : Int) : Value) = .int .i64 (((i + 1) : Nat) : Int)) ∧ True)))) ∧ (True ∧ ((true = true) ∧ (true = true)))) _ (by kernel_rfl) ⟨⟨rfl, ⟨rfl, ⟨rfl, ⟨rfl, trivial⟩⟩⟩⟩, ⟨trivial, ⟨rfl, rfl⟩⟩⟩)
    · intro n9
      refine W.exit (thenQ_exit (thenQ_exit (blockQ_hit ?_)))
      refine thenQ_normal ?_
      refine W.K cok tab18 hnt [] [2] (⟨[(2, .i (0 : Int))], [], [999]⟩)
        (True ∧ (True ∧ True)) (by kernel_rfl)
        ⟨trivial, ⟨trivial, trivial⟩⟩ ?_
      refine W.ret ?_
      exact endQ_ret (.i (0 : Int)) (by kernel_rfl) (@cast ((.int .i64 (0 : Int) : Value) = .int .i64 (orI l)) _ (by kernel_rfl) (congrArg (Value.int .i64) (by rw [hA, orFrom_end (by omega)])))
theorem ent18 : Entr prog 18 := ⟨_, func18, rfl, by decide⟩

end Go.Proofs.Try
