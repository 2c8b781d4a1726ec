import Derived.Test.YthjkiipikpiepaaDS
import Derived.Test.YthjkiipikpiepaaM9
set_option linter.unusedSimpArgs false
set_option linter.unusedVariables false
namespace Go.Proofs.Try
open Go.Ab Go.RowKit
/-- slices.insertionSortOrdered[int]@0 -/
def fs26zero : FnS := fnS [.s .ints, .o, .o] [.ints, .int, .int] (fun _ (l, a, b, _) => (.tup [], [], (a = 0) ∧ (b = 0)))
abbrev T26zero : Tab := lk []
theorem tab26zero : TabOK prog T26zero := TabOK.nil
set_option maxRecDepth 100000 in
set_option maxHeartbeats 1000000 in
theorem ok26zero : FnOK prog 26 fs26zero := by
  refine FnOK.mk cok func26 rfl rfl rfl ?_
  rintro fl ⟨(l : List Int), (a : Int), (b : Int), _⟩ hpre F hnt0 _
  have hnt : F.nt = 49 := hnt0.trans ntmps26
  replace hpre : (a = 0) ∧ (b = 0) := hpre
  obtain ⟨ha, hb⟩ := hpre
  refine W.to (⟨[(0, .sl (.ints l)), (1, .i a), (2, .i b)], [], [999]⟩) rfl ?_
  refine W.lenOf 0 (.ints l) (by kernel_rfl) ?_
  intro hl_l; replace hl_l : List.length l ≤ 9223372036854775807 := hl_l
  refine W.K cok tab26zero hnt [] [0, 1, 2, 6] (⟨[(0, .sl (.ints l)), (1, .i a), (2, .i b), (6, .i (a + (1 : Int)))], [], [999]⟩)
    (True ∧ ((True ∧ (True ∧ (Fits .i64 (a + (1 : Int))))) ∧ (True ∧ True))) (by kernel_rfl)
    ⟨trivial, ⟨⟨trivial, ⟨trivial, (by exact fits_i64 (by omega) (by omega))⟩⟩, ⟨trivial, trivial⟩⟩⟩ ?_
  refine W.block ?_
  refine W.loop (ι := Int) (fun (i : Int) => (⟨[(0, .sl (.ints l)), (1, .i a), (2, .i b), (6, .i i)], [], [999]⟩ : St))
    (fun (i : Int) => (i = 1))
    (fun (i : Int) => (0 : Nat)) ((a + (1 : Int))) ?_ ?_ ?_
  · exact (show ((a + (1 : Int)) = 1) from (by first | assumption | omega | rfl | (intro _ hjj; omega) | (simp; done) | (simp; omega)))
  · exact Sub.of [] (@cast ((((.ints l : Dat) = .ints l) ∧ (((.int .i64 a : Value) = .int .i64 a) ∧ (((.int .i64 b : Value) = .int .i64 b) ∧ (((.int .i64 (a + (1 : Int)) : Value) = .int .i64 (a + (1 : Int))) ∧ True)))) ∧ (True ∧ ((true = true) ∧ (true = true)))) _ (by kernel_rfl) ⟨⟨rfl, ⟨rfl, ⟨rfl, ⟨rfl, trivial⟩⟩⟩⟩, ⟨trivial, ⟨rfl, rfl⟩⟩⟩)
  · rintro i hC0
    have hC : (i = 1) := hC0
    clear hC0
    obtain hi := hC
    refine W.to (⟨[(0, .sl (.ints l)), (1, .i a), (2, .i b), (6, .i i)], [], [999]⟩) rfl ?_
    refine W.seq ?_
    refine W.K cok tab26zero hnt [] [0, 1, 2, 6, 12] (⟨[(0, .sl (.ints l)), (1, .i a), (2, .i b), (6, .i i), (12, .b (decide (i < b)))], [], [999]⟩)
      (True ∧ (True ∧ ((True ∧ (True ∧ True)) ∧ True))) (by kernel_rfl)
      ⟨trivial, ⟨trivial, ⟨⟨trivial, ⟨trivial, trivial⟩⟩, trivial⟩⟩⟩ ?_
    refine W.ifP (i < b) (.b (decide (i < b))) (by kernel_rfl) rfl trivial ?_ ?_
    · intro h12
      exact (show False from (by omega)).elim
    · intro n12
      refine W.exit (thenQ_exit (thenQ_exit (blockQ_hit ?_)))
      exact endQ_norm (.tup []) (by kernel_rfl) (@cast (True) _ (by kernel_rfl) trivial)
theorem ent26zero : Entr prog 26 := ⟨_, func26, rfl, by decide⟩

end Go.Proofs.Try
