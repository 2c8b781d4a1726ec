import Derived.Test.YtcjnccepckdiaaaAS
import Derived.Test.YtcjnccepckdiaaaM2
import Derived.Test.YtcjnccepckdiaaaAP38
set_option linter.unusedSimpArgs false
set_option linter.unusedVariables false
namespace Go.Proofs.Try
open Go.Ab Go.RowKit
/-- laws.bit -/
def fs42 : FnS := fnS [.o, .o] [.int, .int] (fun _ (x, j, _) => (.i (bitOf x j), [], (j ≤ 60) ∧ (0 ≤ x ∧ x ≤ 4611686018427387904)))
abbrev T42 : Tab := lk [(38, fs38)]
theorem tab42 : TabOK prog T42 := (TabOK.cons ok38 ent38 TabOK.nil)
set_option maxRecDepth 100000 in
set_option maxHeartbeats 1000000 in
theorem ok42 : FnOK prog 42 fs42 := by
  refine FnOK.mk func42 rfl rfl rfl ?_
  rintro fl ⟨(x : Int), (j : Int), _⟩ hpre F hnt0 _
  have hnt : F.nt = 10 := hnt0.trans ntmps42
  replace hpre : (j ≤ 60) ∧ (0 ≤ x ∧ x ≤ 4611686018427387904) := hpre
  obtain ⟨hj, hx⟩ := hpre
  refine W.to (⟨[(0, .i x), (1, .i j)], [], [999]⟩) rfl ?_
  refine W.K cok tab42 hnt [] [0, 1] (⟨[(0, .i x), (1, .i j)], [], [999]⟩)
    (True ∧ True) (by kernel_rfl)
    ⟨trivial, trivial⟩ ?_
  have hp := power_pos j
  refine W.K cok tab42 hnt [] [4] (⟨[(4, .i (Int.tmod (Int.tdiv x (power j)) (2 : Int)))], [], [999]⟩)
    (True ∧ (True ∧ ((True ∧ ((True ∧ True) ∧ (j ≤ 60))) ∧ ((True ∧ (True ∧ (((power j) ≠ 0) ∧ (Fits .i64 (Int.tdiv x (power j)))))) ∧ ((True ∧ (True ∧ ((2 : Int) ≠ 0))) ∧ (True ∧ True)))))) (by kernel_rfl)
    ⟨trivial, ⟨trivial, ⟨⟨trivial, ⟨⟨trivial, trivial⟩, (by omega)⟩⟩, ⟨⟨trivial, ⟨trivial, ⟨(by omega), (by exact fits_i64 (Int.le_trans (by omega) (Int.tdiv_nonneg (by omega) (by omega))) (Int.le_trans (Int.tdiv_le_self _ (by omega)) (by omega)))⟩⟩⟩, ⟨⟨trivial, ⟨trivial, (by decide)⟩⟩, ⟨trivial, trivial⟩⟩⟩⟩⟩⟩ ?_
  refine W.ret ?_
  exact endQ_ret (.i (Int.tmod (Int.tdiv x (power j)) (2 : Int))) (by kernel_rfl) (@cast ((.int .i64 (Int.tmod (Int.tdiv x (power j)) (2 : Int)) : Value) = .int .i64 (bitOf x j)) _ (by kernel_rfl) (congrArg (Value.int .i64) (by first | rfl | simp_all)))
theorem ent42 : Entr prog 42 := ⟨_, func42, rfl, by decide⟩

end Go.Proofs.Try
