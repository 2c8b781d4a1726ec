import Derived.Test.YthjkiipikpiepaaDS
import Derived.Test.YthjkiipikpiepaaM2
set_option linter.unusedSimpArgs false
set_option linter.unusedVariables false
namespace Go.Proofs.Try
open Go.Ab Go.RowKit
/-- laws.equalInts -/
def fs10 : FnS := fnS [.s .ints, .s .ints] [.ints, .ints] (fun _ (a, b, _) => (.b (decide (a = b)), [], True))
abbrev T10 : Tab := lk []
theorem tab10 : TabOK prog T10 := TabOK.nil
set_option maxRecDepth 100000 in
set_option maxHeartbeats 1000000 in
theorem ok10 : FnOK prog 10 fs10 := by
  refine FnOK.mk cok func10 rfl rfl rfl ?_
  rintro fl ⟨(a : List Int), (b : List Int), _⟩ hpre F hnt0 _
  have hnt : F.nt = 26 := hnt0.trans ntmps10
  clear hpre
  refine W.to (⟨[(0, .sl (.ints a)), (1, .sl (.ints b))], [], [999]⟩) rfl ?_
  refine W.lenOf 0 (.ints a) (by kernel_rfl) ?_
  intro hl_a; replace hl_a : List.length a ≤ 9223372036854775807 := hl_a
  refine W.lenOf 1 (.ints b) (by kernel_rfl) ?_
  intro hl_b; replace hl_b : List.length b ≤ 9223372036854775807 := hl_b
  refine W.K cok tab10 hnt [] [0, 1] (⟨[(0, .sl (.ints a)), (1, .sl (.ints b))], [], [999]⟩)
    (True ∧ True) (by kernel_rfl)
    ⟨trivial, trivial⟩ ?_
  refine W.seq ?_
  refine W.K cok tab10 hnt [] [0, 1, 10] (⟨[(0, .sl (.ints a)), (1, .sl (.ints b)), (10, .b (decide ((((List.length a) : Nat) : Int) ≠ (((List.length b) : Nat) : Int))))], [], [999]⟩)
    (True ∧ (True ∧ (True ∧ (True ∧ ((True ∧ (True ∧ True)) ∧ True))))) (by kernel_rfl)
    ⟨trivial, ⟨trivial, ⟨trivial, ⟨trivial, ⟨⟨trivial, ⟨trivial, trivial⟩⟩, trivial⟩⟩⟩⟩⟩ ?_
  refine W.ifP ((((List.length a) : Nat) : Int) ≠ (((List.length b) : Nat) : Int)) (.b (decide ((((List.length a) : Nat) : Int) ≠ (((List.length b) : Nat) : Int)))) (by kernel_rfl) rfl trivial ?_ ?_
  · intro h10
    refine W.K cok tab10 hnt [] [4] (⟨[(4, .b false)], [], [999]⟩)
      (True ∧ True) (by kernel_rfl)
      ⟨trivial, trivial⟩ ?_
    refine W.ret (thenQ_ret ?_)
    exact endQ_ret (.b false) (by kernel_rfl) (@cast ((.bool false : Value) = .bool (decide (a = b))) _ (by kernel_rfl) (congrArg Value.bool (by symm; exact decide_eq_false (fun e => h10 (by rw [e])))))
  · intro n10
    refine W.skip (thenQ_normal ?_)
    refine W.seq ?_
    refine W.K cok tab10 hnt [] [0, 1, 5] (⟨[(0, .sl (.ints a)), (1, .sl (.ints b)), (5, .i (0 : Int))], [], [999]⟩)
      (True ∧ True) (by kernel_rfl)
      ⟨trivial, trivial⟩ ?_
    refine W.block ?_
    refine W.loop (ι := Nat) (fun (i : Nat) => (⟨[(0, .sl (.ints a)), (1, .sl (.ints b)), (5, .i ((i : Nat) : Int))], [], [999]⟩ : St))
      (fun (i : Nat) => (i ≤ a.length) ∧ (∀ j, j < i → a.getD j 0 = b.getD j 0))
      (fun (i : Nat) => (a.length - i : Nat)) (0) ?_ ?_ ?_
    · exact (show (0 ≤ a.length) ∧ (∀ j, j < 0 → a.getD j 0 = b.getD j 0) from ⟨(by first | assumption | omega | rfl | (intro _ hjj; omega) | (simp; done) | (simp; omega)), (by exact upto_zero)⟩)
    · exact Sub.of [] (@cast ((((.ints a : Dat) = .ints a) ∧ (((.ints b : Dat) = .ints b) ∧ (((.int .i64 (0 : Int) : Value) = .int .i64 ((0 : Nat) : Int)) ∧ True))) ∧ (True ∧ ((true = true) ∧ (true = true)))) _ (by kernel_rfl) ⟨⟨rfl, ⟨rfl, ⟨(congrArg (Value.int .i64) (by first | rfl | omega | assumption | simp | simp_all)), trivial⟩⟩⟩, ⟨trivial, ⟨rfl, rfl⟩⟩⟩)
    · rintro i hC0
      have hC : (i ≤ a.length) ∧ (∀ j, j < i → a.getD j 0 = b.getD j 0) := hC0
      clear hC0
      obtain ⟨hi, hA⟩ := hC
      refine W.to (⟨[(0, .sl (.ints a)), (1, .sl (.ints b)), (5, .i ((i : Nat) : Int))], [], [999]⟩) rfl ?_
      refine W.seq ?_
      refine W.K cok tab10 hnt [] [0, 1, 5, 14] (⟨[(0, .sl (.ints a)), (1, .sl (.ints b)), (5, .i ((i : Nat) : Int)), (14, .b (decide (((i : Nat) : Int) < (((List.length a) : Nat) : Int))))], [], [999]⟩)
        (True ∧ (True ∧ (True ∧ ((True ∧ (True ∧ True)) ∧ True)))) (by kernel_rfl)
        ⟨trivial, ⟨trivial, ⟨trivial, ⟨⟨trivial, ⟨trivial, trivial⟩⟩, trivial⟩⟩⟩⟩ ?_
      refine W.ifP (((i : Nat) : Int) < (((List.length a) : Nat) : Int)) (.b (decide (((i : Nat) : Int) < (((List.length a) : Nat) : Int)))) (by kernel_rfl) rfl trivial ?_ ?_
      · intro h14
        refine W.skip (thenQ_normal ?_)
        refine W.seq ?_
        refine W.block ?_
        refine W.KA cok tab10 hnt [] [0, 1, 5, 25] (⟨[(0, .sl (.ints a)), (1, .sl (.ints b)), (5, .i ((i : Nat) : Int)), (25, .b (decide ((List.getD a i 0) ≠ (List.getD b i 0))))], [], [999]⟩)
          (True ∧ (True ∧ ((True ∧ (True ∧ ((0 ≤ ((i : Nat) : Int)) ∧ (((i : Nat) : Int) < (((List.length a) : Nat) : Int))))) ∧ (True ∧ (True ∧ (True ∧ ((True ∧ (True ∧ ((0 ≤ ((i : Nat) : Int)) ∧ (((i : Nat) : Int) < (((List.length b) : Nat) : Int))))) ∧ (True ∧ ((True ∧ (True ∧ True)) ∧ True))))))))) (by kernel_rfl) (by kernel_rfl)
          ⟨trivial, ⟨trivial, ⟨⟨trivial, ⟨trivial, ⟨(by omega), (by omega)⟩⟩⟩, ⟨trivial, ⟨trivial, ⟨trivial, ⟨⟨trivial, ⟨trivial, ⟨(by omega), (by omega)⟩⟩⟩, ⟨trivial, ⟨⟨trivial, ⟨trivial, trivial⟩⟩, trivial⟩⟩⟩⟩⟩⟩⟩⟩⟩ ?_
        refine W.ifP ((List.getD a i 0) ≠ (List.getD b i 0)) (.b (decide ((List.getD a i 0) ≠ (List.getD b i 0)))) (by kernel_rfl) rfl trivial ?_ ?_
        · intro h25
          refine W.K cok tab10 hnt [] [4] (⟨[(4, .b false)], [], [999]⟩)
            (True ∧ True) (by kernel_rfl)
            ⟨trivial, trivial⟩ ?_
          refine W.ret (blockQ_ret (thenQ_ret (thenQ_ret (blockQ_ret (thenQ_ret ?_)))))
          exact endQ_ret (.b false) (by kernel_rfl) (@cast ((.bool false : Value) = .bool (decide (a = b))) _ (by kernel_rfl) (congrArg Value.bool (by symm; exact decide_eq_false (fun e => h25 (by rw [e])))))
        · intro n25
          refine W.skip (blockQ_normal (thenQ_normal ?_))
          refine W.L cok tab10 hnt [] (⟨[(0, .sl (.ints a)), (1, .sl (.ints b)), (5, .i (((i + 1) : Nat) : Int)), (15, .i ((i : Nat) : Int)), (16, .i (((i + 1) : Nat) : Int)), (25, .b (decide ((List.getD a i 0) ≠ (List.getD b i 0))))], [], [999]⟩)
            (True ∧ ((True ∧ (True ∧ (Fits .i64 (((i + 1) : Nat) : Int)))) ∧ (True ∧ True))) (by kernel_rfl)
            ⟨trivial, ⟨⟨trivial, ⟨trivial, (by exact fits_i64 (by omega) (by omega))⟩⟩, ⟨trivial, trivial⟩⟩⟩ ?_
          refine thenQ_normal ?_
          refine ⟨((i + 1)), (show ((i + 1) ≤ a.length) ∧ (∀ j, j < (i + 1) → a.getD j 0 = b.getD j 0) from ⟨(by first | assumption | omega | rfl | (intro _ hjj; omega) | (simp; done) | (simp; omega)), (by exact upto_succ hA (Decidable.not_not.1 n25))⟩), (show a.length - (i + 1) < a.length - i from (by first | omega | (simp_all; omega))), ?_⟩
          exact Sub.of [] (@cast ((((.ints a : Dat) = .ints a) ∧ (((.ints b : Dat) = .ints b) ∧ (((.int .i64 (((i + 1) : Nat) : Int) : Value) = .int .i64 (((i + 1) : Nat) : Int)) ∧ True))) ∧ (True ∧ ((true = true) ∧ (true = true)))) _ (by kernel_rfl) ⟨⟨rfl, ⟨rfl, ⟨rfl, trivial⟩⟩⟩, ⟨trivial, ⟨rfl, rfl⟩⟩⟩)
      · intro n14
        refine W.exit (thenQ_exit (thenQ_exit (blockQ_hit ?_)))
        refine thenQ_normal ?_
        refine W.K cok tab10 hnt [] [4] (⟨[(4, .b true)], [], [999]⟩)
          (True ∧ True) (by kernel_rfl)
          ⟨trivial, trivial⟩ ?_
        refine W.ret ?_
        exact endQ_ret (.b true) (by kernel_rfl) (@cast ((.bool true : Value) = .bool (decide (a = b))) _ (by kernel_rfl) (congrArg Value.bool (by symm; exact decide_eq_true (ints_ext (by omega) (fun j hj => hA j (by omega))))))
theorem ent10 : Entr prog 10 := ⟨_, func10, rfl, by decide⟩

end Go.Proofs.Try
