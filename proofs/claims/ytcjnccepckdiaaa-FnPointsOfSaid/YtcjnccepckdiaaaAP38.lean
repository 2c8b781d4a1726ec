import Derived.Test.YtcjnccepckdiaaaAS
import Derived.Test.YtcjnccepckdiaaaM2
set_option linter.unusedSimpArgs false
set_option linter.unusedVariables false
namespace Go.Proofs.Try
open Go.Ab Go.RowKit
/-- laws.power -/
def fs38 : FnS := fnS [.o] [.int] (fun _ (n, _) => (.i (power n), [], (n ≤ 60)))
abbrev T38 : Tab := lk []
theorem tab38 : TabOK prog T38 := TabOK.nil
set_option maxRecDepth 100000 in
set_option maxHeartbeats 1000000 in
theorem ok38 : FnOK prog 38 fs38 := by
  refine FnOK.mk func38 rfl rfl rfl ?_
  rintro fl ⟨(n : Int), _⟩ hpre F hnt0 _
  have hnt : F.nt = 11 := hnt0.trans ntmps38
  replace hpre : (n ≤ 60) := hpre
  have hn := hpre
  refine W.to (⟨[(0, .i n)], [], [999]⟩) rfl ?_
  refine W.K cok tab38 hnt [] [0] (⟨[(0, .i n)], [], [999]⟩)
    (True ∧ True) (by kernel_rfl)
    ⟨trivial, trivial⟩ ?_
  refine W.K cok tab38 hnt [] [0, 3] (⟨[(0, .i n), (3, .i (1 : Int))], [], [999]⟩)
    (True ∧ True) (by kernel_rfl)
    ⟨trivial, trivial⟩ ?_
  refine W.seq ?_
  refine W.block ?_
  refine W.loop (ι := Int × Int) (fun (x : Int × Int) => match x with | (k, x) => (⟨[(0, .i k), (3, .i x)], [], [999]⟩ : St))
    (fun (x : Int × Int) => match x with | (k, x) => (k ≤ n) ∧ (x * power k = power n) ∧ (1 ≤ x))
    (fun (x : Int × Int) => match x with | (k, x) => (k.toNat : Nat)) (n, (1 : Int)) ?_ ?_ ?_
  · exact (show (n ≤ n) ∧ ((1 : Int) * power n = power n) ∧ (1 ≤ (1 : Int)) from ⟨(by first | assumption | omega | rfl | (intro _ hjj; omega) | (simp; done) | (simp; omega)), (by exact Int.one_mul _), (by first | assumption | omega | rfl | (intro _ hjj; omega) | (simp; done) | (simp; omega))⟩)
  · exact Sub.of [] (@cast ((((.int .i64 n : Value) = .int .i64 n) ∧ (((.int .i64 (1 : Int) : Value) = .int .i64 (1 : Int)) ∧ True)) ∧ (True ∧ ((true = true) ∧ (true = true)))) _ (by kernel_rfl) ⟨⟨rfl, ⟨rfl, trivial⟩⟩, ⟨trivial, ⟨rfl, rfl⟩⟩⟩)
  · rintro ⟨k, x⟩ hC0
    have hC : (k ≤ n) ∧ (x * power k = power n) ∧ (1 ≤ x) := hC0
    clear hC0
    obtain ⟨hk, hx, hx0⟩ := hC
    refine W.to (⟨[(0, .i k), (3, .i x)], [], [999]⟩) rfl ?_
    have hp := power_le (n := n) hn
    have hxp : x ≤ power n := power_factor hx hx0
    refine W.seq ?_
    refine W.K cok tab38 hnt [] [0, 3, 5] (⟨[(0, .i k), (3, .i x), (5, .b (decide ((0 : Int) < k)))], [], [999]⟩)
      (True ∧ ((True ∧ (True ∧ True)) ∧ True)) (by kernel_rfl)
      ⟨trivial, ⟨⟨trivial, ⟨trivial, trivial⟩⟩, trivial⟩⟩ ?_
    refine W.ifP ((0 : Int) < k) (.b (decide ((0 : Int) < k))) (by kernel_rfl) rfl trivial ?_ ?_
    · intro h5
      refine W.skip (thenQ_normal ?_)
      refine W.seq ?_
      refine W.block ?_
      refine W.L cok tab38 hnt [] (⟨[(0, .i k), (3, .i ((2 : Int) * x)), (5, .b (decide ((0 : Int) < k))), (8, .i x), (9, .i ((2 : Int) * x))], [], [999]⟩)
        (True ∧ ((True ∧ (True ∧ (Fits .i64 ((2 : Int) * x)))) ∧ (True ∧ True))) (by kernel_rfl)
        ⟨trivial, ⟨⟨trivial, ⟨trivial, (by exact fits_i64 (by omega) (by omega))⟩⟩, ⟨trivial, trivial⟩⟩⟩ ?_
      refine blockQ_normal (thenQ_normal ?_)
      refine W.L cok tab38 hnt [] (⟨[(0, .i (k - (1 : Int))), (3, .i ((2 : Int) * x)), (5, .b (decide ((0 : Int) < k))), (6, .i k), (7, .i (k - (1 : Int))), (8, .i x), (9, .i ((2 : Int) * x))], [], [999]⟩)
        (True ∧ ((True ∧ (True ∧ (Fits .i64 (k - (1 : Int))))) ∧ (True ∧ True))) (by kernel_rfl)
        ⟨trivial, ⟨⟨trivial, ⟨trivial, (by exact fits_i64 (by omega) (by omega))⟩⟩, ⟨trivial, trivial⟩⟩⟩ ?_
      refine thenQ_normal ?_
      refine ⟨((k - (1 : Int)), ((2 : Int) * x)), (show ((k - (1 : Int)) ≤ n) ∧ (((2 : Int) * x) * power (k - (1 : Int)) = power n) ∧ (1 ≤ ((2 : Int) * x)) from ⟨(by first | assumption | omega | rfl | (intro _ hjj; omega) | (simp; done) | (simp; omega)), (by rw [← hx]; exact power_step h5), (by first | assumption | omega | rfl | (intro _ hjj; omega) | (simp; done) | (simp; omega))⟩), (show (k - (1 : Int)).toNat < k.toNat from (by first | omega | (simp_all; omega))), ?_⟩
      exact Sub.of [] (@cast ((((.int .i64 (k - (1 : Int)) : Value) = .int .i64 (k - (1 : Int))) ∧ (((.int .i64 ((2 : Int) * x) : Value) = .int .i64 ((2 : Int) * x)) ∧ True)) ∧ (True ∧ ((true = true) ∧ (true = true)))) _ (by kernel_rfl) ⟨⟨rfl, ⟨rfl, trivial⟩⟩, ⟨trivial, ⟨rfl, rfl⟩⟩⟩)
    · intro n5
      refine W.exit (thenQ_exit (thenQ_exit (blockQ_hit ?_)))
      refine thenQ_normal ?_
      refine W.K cok tab38 hnt [] [2] (⟨[(2, .i x)], [], [999]⟩)
        (True ∧ (True ∧ True)) (by kernel_rfl)
        ⟨trivial, ⟨trivial, trivial⟩⟩ ?_
      refine W.ret ?_
      exact endQ_ret (.i x) (by kernel_rfl) (@cast ((.int .i64 x : Value) = .int .i64 (power n)) _ (by kernel_rfl) (congrArg (Value.int .i64) (by first | rfl | exact power_done hx n5)))
theorem ent38 : Entr prog 38 := ⟨_, func38, rfl, by decide⟩

end Go.Proofs.Try
