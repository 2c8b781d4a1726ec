import Derived.Test.YthjkiipikpiepaaDS
import Derived.Test.YthjkiipikpiepaaM9
import Derived.Test.YthjkiipikpiepaaDP26zero
set_option linter.unusedSimpArgs false
set_option linter.unusedVariables false
namespace Go.Proofs.Try
open Go.Ab Go.RowKit
/-- slices.pdqsortOrdered[int]@0 -/
def fs22zero : FnS := fnS [.s .ints, .o, .o, .o] [.ints, .int, .int, .int] (fun _ (l, a, b, c, _) => (.tup [], [], (a = 0) ∧ (b = 0)))
abbrev T22zero : Tab := lk [(26, fs26zero)]
theorem tab22zero : TabOK prog T22zero := (TabOK.cons ok26zero ent26zero TabOK.nil)
set_option maxRecDepth 100000 in
set_option maxHeartbeats 1000000 in
theorem ok22zero : FnOK prog 22 fs22zero := by
  refine FnOK.mk cok func22 rfl rfl rfl ?_
  rintro fl ⟨(l : List Int), (a : Int), (b : Int), (c : Int), _⟩ hpre F hnt0 _
  have hnt : F.nt = 134 := hnt0.trans ntmps22
  replace hpre : (a = 0) ∧ (b = 0) := hpre
  obtain ⟨ha, hb⟩ := hpre
  refine W.to (⟨[(0, .sl (.ints l)), (1, .i a), (2, .i b), (3, .i c)], [], [999]⟩) rfl ?_
  refine W.lenOf 0 (.ints l) (by kernel_rfl) ?_
  intro hl_l; replace hl_l : List.length l ≤ 9223372036854775807 := hl_l
  refine W.K cok tab22zero hnt [] [0, 1, 2, 3, 8] (⟨[(0, .sl (.ints l)), (1, .i a), (2, .i b), (3, .i c), (8, .b true)], [], [999]⟩)
    (True ∧ True) (by kernel_rfl)
    ⟨trivial, trivial⟩ ?_
  refine W.K cok tab22zero hnt [] [0, 1, 2, 3, 8, 9] (⟨[(0, .sl (.ints l)), (1, .i a), (2, .i b), (3, .i c), (8, .b true), (9, .b true)], [], [999]⟩)
    (True ∧ True) (by kernel_rfl)
    ⟨trivial, trivial⟩ ?_
  refine W.block ?_
  refine W.loop (ι := Int × Int × Int × Bool × Bool) (fun (x : Int × Int × Int × Bool × Bool) => match x with | (a1, b1, c1, w1, w2) => (⟨[(0, .sl (.ints l)), (1, .i a1), (2, .i b1), (3, .i c1), (8, .b w1), (9, .b w2)], [], [999]⟩ : St))
    (fun (x : Int × Int × Int × Bool × Bool) => match x with | (a1, b1, c1, w1, w2) => (a1 = 0 ∧ b1 = 0))
    (fun (x : Int × Int × Int × Bool × Bool) => match x with | (a1, b1, c1, w1, w2) => (0 : Nat)) (a, b, c, true, true) ?_ ?_ ?_
  · exact (show (a = 0 ∧ b = 0) from (by first | assumption | omega | rfl | (intro _ hjj; omega) | (simp; done) | (simp; omega)))
  · exact Sub.of [] (@cast ((((.ints l : Dat) = .ints l) ∧ (((.int .i64 a : Value) = .int .i64 a) ∧ (((.int .i64 b : Value) = .int .i64 b) ∧ (((.int .i64 c : Value) = .int .i64 c) ∧ (((.bool true : Value) = .bool true) ∧ (((.bool true : Value) = .bool true) ∧ True)))))) ∧ (True ∧ ((true = true) ∧ (true = true)))) _ (by kernel_rfl) ⟨⟨rfl, ⟨rfl, ⟨rfl, ⟨rfl, ⟨rfl, ⟨rfl, trivial⟩⟩⟩⟩⟩⟩, ⟨trivial, ⟨rfl, rfl⟩⟩⟩)
  · rintro ⟨a1, b1, c1, w1, w2⟩ hC0
    have hC : (a1 = 0 ∧ b1 = 0) := hC0
    clear hC0
    obtain hi := hC
    refine W.to (⟨[(0, .sl (.ints l)), (1, .i a1), (2, .i b1), (3, .i c1), (8, .b w1), (9, .b w2)], [], [999]⟩) rfl ?_
    refine W.block ?_
    refine W.K cok tab22zero hnt [] [0, 1, 2, 3, 8, 9, 10] (⟨[(0, .sl (.ints l)), (1, .i a1), (2, .i b1), (3, .i c1), (8, .b w1), (9, .b w2), (10, .i (b1 - a1))], [], [999]⟩)
      (True ∧ (True ∧ ((True ∧ (True ∧ (Fits .i64 (b1 - a1)))) ∧ (True ∧ True)))) (by kernel_rfl)
      ⟨trivial, ⟨trivial, ⟨⟨trivial, ⟨trivial, (by exact fits_i64 (by omega) (by omega))⟩⟩, ⟨trivial, trivial⟩⟩⟩⟩ ?_
    refine W.seq ?_
    refine W.K cok tab22zero hnt [] [0, 1, 2, 3, 8, 9, 10, 23] (⟨[(0, .sl (.ints l)), (1, .i a1), (2, .i b1), (3, .i c1), (8, .b w1), (9, .b w2), (10, .i (b1 - a1)), (23, .b (decide ((b1 - a1) ≤ (12 : Int))))], [], [999]⟩)
      (True ∧ ((True ∧ (True ∧ True)) ∧ True)) (by kernel_rfl)
      ⟨trivial, ⟨⟨trivial, ⟨trivial, trivial⟩⟩, trivial⟩⟩ ?_
    refine W.ifP ((b1 - a1) ≤ (12 : Int)) (.b (decide ((b1 - a1) ≤ (12 : Int)))) (by kernel_rfl) rfl trivial ?_ ?_
    · intro h23
      refine W.K cok tab22zero hnt [] [] (⟨[], [], [999]⟩)
        (True ∧ (True ∧ (True ∧ ((True ∧ ((True ∧ (True ∧ (True ∧ True))) ∧ ((a1 = 0) ∧ (b1 = 0)))) ∧ True)))) (by kernel_rfl)
        ⟨trivial, ⟨trivial, ⟨trivial, ⟨⟨trivial, ⟨⟨trivial, ⟨trivial, ⟨trivial, trivial⟩⟩⟩, ⟨(by omega), (by omega)⟩⟩⟩, trivial⟩⟩⟩⟩ ?_
      refine W.ret (thenQ_ret (blockQ_ret (thenQ_ret (blockQ_ret ?_))))
      exact endQ_ret (.tup []) (by kernel_rfl) (@cast (True) _ (by kernel_rfl) trivial)
    · intro n23
      exact (show False from (by omega)).elim
theorem ent22zero : Entr prog 22 := ⟨_, func22, rfl, by decide⟩

end Go.Proofs.Try
