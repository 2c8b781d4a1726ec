import Derived.Test.YtcjnccepckdiaaaAS
import Derived.Test.YtcjnccepckdiaaaM7
import Derived.Test.YtcjnccepckdiaaaAP97
import Derived.Test.YtcjnccepckdiaaaAP121
set_option linter.unusedSimpArgs false
set_option linter.unusedVariables false
namespace Go.Proofs.Try
open Go.Ab Go.RowKit
/-- impl.isOrder -/
def fs110 : FnS := fnS [.s .ints, .o] [.ints, .int] (fun _ (l, n, _) => (.b (isOrd l n), [], (0 ≤ n ∧ n ≤ 9223372036854775807)))
abbrev T110 : Tab := lk [(97, fs97), (121, fs121)]
theorem tab110 : TabOK prog T110 := (TabOK.cons ok97 ent97 (TabOK.cons ok121 ent121 TabOK.nil))
set_option maxRecDepth 100000 in
set_option maxHeartbeats 1000000 in
theorem ok110 : FnOK prog 110 fs110 := by
  refine FnOK.mk func110 rfl rfl rfl ?_
  rintro fl ⟨(l : List Int), (n : Int), _⟩ hpre F hnt0 _
  have hnt : F.nt = 31 := hnt0.trans ntmps110
  replace hpre : (0 ≤ n ∧ n ≤ 9223372036854775807) := hpre
  have hn := hpre
  refine W.to (⟨[(0, .sl (.ints l)), (1, .i n)], [], [999]⟩) rfl ?_
  refine W.lenOf 0 (.ints l) (by kernel_rfl) ?_
  intro hl_l; replace hl_l : List.length l ≤ 9223372036854775807 := hl_l
  refine W.K cok tab110 hnt [] [0, 1] (⟨[(0, .sl (.ints l)), (1, .i n)], [], [999]⟩)
    (True ∧ True) (by kernel_rfl)
    ⟨trivial, trivial⟩ ?_
  refine W.seq ?_
  refine W.K cok tab110 hnt [] [0, 1, 7, 8, 9] (⟨[(0, .sl (.ints l)), (1, .i n), (7, .sl (.ints l)), (8, .i (((List.length l) : Nat) : Int)), (9, .i (0 : Int))], [], [999]⟩)
    (True ∧ (True ∧ (True ∧ True))) (by kernel_rfl)
    ⟨trivial, ⟨trivial, ⟨trivial, trivial⟩⟩⟩ ?_
  refine W.block ?_
  refine W.loop (ι := Nat) (fun (i : Nat) => (⟨[(0, .sl (.ints l)), (1, .i n), (7, .sl (.ints l)), (8, .i (((List.length l) : Nat) : Int)), (9, .i ((i : Nat) : Int))], [], [999]⟩ : St))
    (fun (i : Nat) => (i ≤ l.length) ∧ (∀ j, j < i → ordOK l n j = true))
    (fun (i : Nat) => (l.length - i : Nat)) (0) ?_ ?_ ?_
  · exact (show (0 ≤ l.length) ∧ (∀ j, j < 0 → ordOK l n j = true) from ⟨(by first | assumption | omega | rfl | (intro _ hjj; omega) | (simp; done) | (simp; omega)), (by exact upto_zero)⟩)
  · exact Sub.of [] (@cast ((((.ints l : Dat) = .ints l) ∧ (((.int .i64 n : Value) = .int .i64 n) ∧ (((.ints l : Dat) = .ints l) ∧ (((.int .i64 (((List.length l) : Nat) : Int) : Value) = .int .i64 (((List.length l) : Nat) : Int)) ∧ (((.int .i64 (0 : Int) : Value) = .int .i64 ((0 : Nat) : Int)) ∧ True))))) ∧ (True ∧ ((true = true) ∧ (true = true)))) _ (by kernel_rfl) ⟨⟨rfl, ⟨rfl, ⟨rfl, ⟨rfl, ⟨(congrArg (Value.int .i64) (by first | rfl | omega | assumption | simp | simp_all)), trivial⟩⟩⟩⟩⟩, ⟨trivial, ⟨rfl, rfl⟩⟩⟩)
  · rintro i hC0
    have hC : (i ≤ l.length) ∧ (∀ j, j < i → ordOK l n j = true) := hC0
    clear hC0
    obtain ⟨hi, hA⟩ := hC
    refine W.to (⟨[(0, .sl (.ints l)), (1, .i n), (7, .sl (.ints l)), (8, .i (((List.length l) : Nat) : Int)), (9, .i ((i : Nat) : Int))], [], [999]⟩) rfl ?_
    refine W.K cok tab110 hnt [] [0, 1, 7, 8, 9, 10] (⟨[(0, .sl (.ints l)), (1, .i n), (7, .sl (.ints l)), (8, .i (((List.length l) : Nat) : Int)), (9, .i ((i : Nat) : Int)), (10, .b (decide (((i : Nat) : Int) < (((List.length l) : Nat) : Int))))], [], [999]⟩)
      ((True ∧ (True ∧ True)) ∧ True) (by kernel_rfl)
      ⟨⟨trivial, ⟨trivial, trivial⟩⟩, trivial⟩ ?_
    refine W.seq ?_
    refine W.ifP (((i : Nat) : Int) < (((List.length l) : Nat) : Int)) (.b (decide (((i : Nat) : Int) < (((List.length l) : Nat) : Int)))) (by kernel_rfl) rfl trivial ?_ ?_
    · intro h10
      refine W.skip (thenQ_normal ?_)
      refine W.seq ?_
      refine W.block ?_
      refine W.K cok tab110 hnt [] [0, 1, 5, 6, 7, 8, 9] (⟨[(0, .sl (.ints l)), (1, .i n), (5, .i ((i : Nat) : Int)), (6, .i (List.getD l i 0)), (7, .sl (.ints l)), (8, .i (((List.length l) : Nat) : Int)), (9, .i ((i : Nat) : Int))], [], [999]⟩)
        (True ∧ ((True ∧ (True ∧ ((0 ≤ ((i : Nat) : Int)) ∧ (((i : Nat) : Int) < (((List.length l) : Nat) : Int))))) ∧ (True ∧ (True ∧ (True ∧ True))))) (by kernel_rfl)
        ⟨trivial, ⟨⟨trivial, ⟨trivial, ⟨(by omega), (by omega)⟩⟩⟩, ⟨trivial, ⟨trivial, ⟨trivial, trivial⟩⟩⟩⟩⟩ ?_
      refine W.K cok tab110 hnt [] [0, 1, 7, 8, 9, 25] (⟨[(0, .sl (.ints l)), (1, .i n), (7, .sl (.ints l)), (8, .i (((List.length l) : Nat) : Int)), (9, .i ((i : Nat) : Int)), (25, .b ((!(within (List.getD l i 0) (0 : Int) (n - (1 : Int)))) || (hasInt (List.take i l) (List.getD l i 0))))], [], [999]⟩)
        (True ∧ (True ∧ ((True ∧ (True ∧ (Fits .i64 (n - (1 : Int))))) ∧ ((True ∧ ((True ∧ (True ∧ (True ∧ True))) ∧ True)) ∧ (True ∧ (True ∧ (((!(!(within (List.getD l i 0) (0 : Int) (n - (1 : Int))))) = true → True) ∧ (((!(!(within (List.getD l i 0) (0 : Int) (n - (1 : Int))))) = true → True) ∧ (((!(!(within (List.getD l i 0) (0 : Int) (n - (1 : Int))))) = true → ((((!(!(within (List.getD l i 0) (0 : Int) (n - (1 : Int))))) = true) ∧ True) ∧ (True ∧ ((((!(!(within (List.getD l i 0) (0 : Int) (n - (1 : Int))))) = true) ∧ True) ∧ ((0 ≤ (0 : Int)) ∧ (((0 : Int) ≤ ((i : Nat) : Int)) ∧ (((i : Nat) : Int) ≤ (((List.length l) : Nat) : Int)))))))) ∧ (((!(!(within (List.getD l i 0) (0 : Int) (n - (1 : Int))))) = true → True) ∧ (((!(!(within (List.getD l i 0) (0 : Int) (n - (1 : Int))))) = true → (True ∧ (((((!(!(within (List.getD l i 0) (0 : Int) (n - (1 : Int))))) = true) ∧ True) ∧ ((((!(!(within (List.getD l i 0) (0 : Int) (n - (1 : Int))))) = true) ∧ True) ∧ True)) ∧ True))) ∧ ((True ∧ (((!(within (List.getD l i 0) (0 : Int) (n - (1 : Int)))) = true → True) ∧ ((!(within (List.getD l i 0) (0 : Int) (n - (1 : Int)))) = false → ((!(!(within (List.getD l i 0) (0 : Int) (n - (1 : Int))))) = true) ∧ True))) ∧ True)))))))))))) (by kernel_rfl)
        ⟨trivial, ⟨trivial, ⟨⟨trivial, ⟨trivial, (by exact fits_i64 (by omega) (by omega))⟩⟩, ⟨⟨trivial, ⟨⟨trivial, ⟨trivial, ⟨trivial, trivial⟩⟩⟩, trivial⟩⟩, ⟨trivial, ⟨trivial, ⟨(fun _ => trivial), ⟨(fun _ => trivial), ⟨(fun hG => ⟨⟨hG, trivial⟩, ⟨trivial, ⟨⟨hG, trivial⟩, ⟨(by omega), ⟨(by omega), (by omega)⟩⟩⟩⟩⟩), ⟨(fun _ => trivial), ⟨(fun hG => ⟨trivial, ⟨⟨⟨hG, trivial⟩, ⟨⟨hG, trivial⟩, trivial⟩⟩, trivial⟩⟩), ⟨⟨trivial, ⟨(fun _ => trivial), (fun hp => ⟨(not_t hp), trivial⟩)⟩⟩, trivial⟩⟩⟩⟩⟩⟩⟩⟩⟩⟩⟩⟩ ?_
      refine W.if' ((!(within (List.getD l i 0) (0 : Int) (n - (1 : Int)))) || (hasInt (List.take i l) (List.getD l i 0))) (.b ((!(within (List.getD l i 0) (0 : Int) (n - (1 : Int)))) || (hasInt (List.take i l) (List.getD l i 0)))) (by kernel_rfl) rfl trivial ?_ ?_
      · intro h25
        refine W.K cok tab110 hnt [] [4] (⟨[(4, .b false)], [], [999]⟩)
          (True ∧ True) (by kernel_rfl)
          ⟨trivial, trivial⟩ ?_
        refine W.ret (blockQ_ret (thenQ_ret (thenQ_ret (blockQ_ret (thenQ_ret ?_)))))
        exact endQ_ret (.b false) (by kernel_rfl) (@cast ((.bool false : Value) = .bool (isOrd l n)) _ (by kernel_rfl) (congrArg Value.bool (by exact (ord_no (i := i) (by omega) h25).symm)))
      · intro n25
        refine W.skip (blockQ_normal (thenQ_normal ?_))
        refine W.L cok tab110 hnt [] (⟨[(0, .sl (.ints l)), (1, .i n), (7, .sl (.ints l)), (8, .i (((List.length l) : Nat) : Int)), (9, .i (((i + 1) : Nat) : Int)), (25, .b ((!(within (List.getD l i 0) (0 : Int) (n - (1 : Int)))) || (hasInt (List.take i l) (List.getD l i 0)))), (26, .i (((i + 1) : Nat) : Int))], [], [999]⟩)
          ((True ∧ (True ∧ (Fits .i64 (((i + 1) : Nat) : Int)))) ∧ (True ∧ True)) (by kernel_rfl)
          ⟨⟨trivial, ⟨trivial, (by exact fits_i64 (by omega) (by omega))⟩⟩, ⟨trivial, trivial⟩⟩ ?_
        refine thenQ_normal ?_
        refine ⟨((i + 1)), (show ((i + 1) ≤ l.length) ∧ (∀ j, j < (i + 1) → ordOK l n j = true) from ⟨(by first | assumption | omega | rfl | (intro _ hjj; omega) | (simp; done) | (simp; omega)), (by exact upto_succ hA (ord_ok n25))⟩), (show l.length - (i + 1) < l.length - i from (by first | omega | (simp_all; omega))), ?_⟩
        exact Sub.of [] (@cast ((((.ints l : Dat) = .ints l) ∧ (((.int .i64 n : Value) = .int .i64 n) ∧ (((.ints l : Dat) = .ints l) ∧ (((.int .i64 (((List.length l) : Nat) : Int) : Value) = .int .i64 (((List.length l) : Nat) : Int)) ∧ (((.int .i64 (((i + 1) : Nat) : Int) : Value) = .int .i64 (((i + 1) : Nat) : Int)) ∧ True))))) ∧ (True ∧ ((true = true) ∧ (true = true)))) _ (by kernel_rfl) ⟨⟨rfl, ⟨rfl, ⟨rfl, ⟨rfl, ⟨rfl, trivial⟩⟩⟩⟩⟩, ⟨trivial, ⟨rfl, rfl⟩⟩⟩)
    · intro n10
      refine W.exit (thenQ_exit (thenQ_exit (blockQ_hit ?_)))
      refine thenQ_normal ?_
      refine W.K cok tab110 hnt [] [4] (⟨[(4, .b (decide ((((List.length l) : Nat) : Int) = n)))], [], [999]⟩)
        (True ∧ (True ∧ (True ∧ ((True ∧ (True ∧ True)) ∧ (True ∧ True))))) (by kernel_rfl)
        ⟨trivial, ⟨trivial, ⟨trivial, ⟨⟨trivial, ⟨trivial, trivial⟩⟩, ⟨trivial, trivial⟩⟩⟩⟩⟩ ?_
      refine W.ret ?_
      exact endQ_ret (.b (decide ((((List.length l) : Nat) : Int) = n))) (by kernel_rfl) (@cast ((.bool (decide ((((List.length l) : Nat) : Int) = n)) : Value) = .bool (isOrd l n)) _ (by kernel_rfl) (congrArg Value.bool (by exact ord_end (fun j hj => hA j (by omega)))))
theorem ent110 : Entr prog 110 := ⟨_, func110, rfl, by decide⟩

end Go.Proofs.Try
