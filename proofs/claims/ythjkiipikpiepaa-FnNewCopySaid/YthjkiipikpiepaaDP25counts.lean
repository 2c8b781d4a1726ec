import Derived.Test.YthjkiipikpiepaaDS
import Derived.Test.YthjkiipikpiepaaM8
import Derived.Test.YthjkiipikpiepaaDP21
set_option linter.unusedSimpArgs false
set_option linter.unusedVariables false
namespace Go.Proofs.Try
open Go.Ab Go.RowKit
/-- slices.IndexFunc[[]int,int]@counts -/
def fs25counts : FnS := fnS [.s .ints, .o] [.ints, (.fn0 21)] (fun _ (l, (), _) => (.i (firstI l.length (fun jj => !within (l.getD jj 0) 0 20)), [], True))
abbrev T25counts : Tab := lk [(21, fs21)]
theorem tab25counts : TabOK prog T25counts := (TabOK.cons ok21 ent21 TabOK.nil)
set_option maxRecDepth 100000 in
set_option maxHeartbeats 1000000 in
theorem ok25counts : FnOK prog 25 fs25counts := by
  refine FnOK.mk cok func25 rfl rfl rfl ?_
  rintro fl ⟨(l : List Int), ⟨⟩, _⟩ hpre F hnt0 _
  have hnt : F.nt = 19 := hnt0.trans ntmps25
  clear hpre
  refine W.to (⟨[(0, .sl (.ints l)), (1, .fn 21 [])], [], [999]⟩) rfl ?_
  refine W.lenOf 0 (.ints l) (by kernel_rfl) ?_
  intro hl_l; replace hl_l : List.length l ≤ 9223372036854775807 := hl_l
  refine W.K cok tab25counts hnt [] [0, 1] (⟨[(0, .sl (.ints l)), (1, .fn 21 [])], [], [999]⟩)
    (True ∧ True) (by kernel_rfl)
    ⟨trivial, trivial⟩ ?_
  refine W.seq ?_
  refine W.K cok tab25counts hnt [] [0, 1, 7, 8] (⟨[(0, .sl (.ints l)), (1, .fn 21 []), (7, .i (((List.length l) : Nat) : Int)), (8, .i (0 : Int))], [], [999]⟩)
    (True ∧ (True ∧ (True ∧ True))) (by kernel_rfl)
    ⟨trivial, ⟨trivial, ⟨trivial, trivial⟩⟩⟩ ?_
  refine W.block ?_
  refine W.loop (ι := Nat) (fun (i : Nat) => (⟨[(0, .sl (.ints l)), (1, .fn 21 []), (7, .i (((List.length l) : Nat) : Int)), (8, .i ((i : Nat) : Int))], [], [999]⟩ : St))
    (fun (i : Nat) => (i ≤ l.length) ∧ (∀ jj, jj < i → (!within (l.getD jj 0) 0 20) = false))
    (fun (i : Nat) => (l.length - i : Nat)) (0) ?_ ?_ ?_
  · exact (show (0 ≤ l.length) ∧ (∀ jj, jj < 0 → (!within (l.getD jj 0) 0 20) = false) from ⟨(by first | assumption | omega | rfl | (intro _ hjj; omega) | (simp; done) | (simp; omega)), (by exact upto_zero)⟩)
  · exact Sub.of [] (@cast ((((.ints l : Dat) = .ints l) ∧ ((((21 : Nat) = 21) ∧ True) ∧ (((.int .i64 (((List.length l) : Nat) : Int) : Value) = .int .i64 (((List.length l) : Nat) : Int)) ∧ (((.int .i64 (0 : Int) : Value) = .int .i64 ((0 : Nat) : Int)) ∧ True)))) ∧ (True ∧ ((true = true) ∧ (true = true)))) _ (by kernel_rfl) ⟨⟨rfl, ⟨⟨rfl, trivial⟩, ⟨rfl, ⟨(congrArg (Value.int .i64) (by first | rfl | omega | assumption | simp | simp_all)), trivial⟩⟩⟩⟩, ⟨trivial, ⟨rfl, rfl⟩⟩⟩)
  · rintro i hC0
    have hC : (i ≤ l.length) ∧ (∀ jj, jj < i → (!within (l.getD jj 0) 0 20) = false) := hC0
    clear hC0
    obtain ⟨hi, hA⟩ := hC
    refine W.to (⟨[(0, .sl (.ints l)), (1, .fn 21 []), (7, .i (((List.length l) : Nat) : Int)), (8, .i ((i : Nat) : Int))], [], [999]⟩) rfl ?_
    refine W.K cok tab25counts hnt [] [0, 1, 7, 8, 9] (⟨[(0, .sl (.ints l)), (1, .fn 21 []), (7, .i (((List.length l) : Nat) : Int)), (8, .i ((i : Nat) : Int)), (9, .b (decide (((i : Nat) : Int) < (((List.length l) : Nat) : Int))))], [], [999]⟩)
      ((True ∧ (True ∧ True)) ∧ True) (by kernel_rfl)
      ⟨⟨trivial, ⟨trivial, trivial⟩⟩, trivial⟩ ?_
    refine W.seq ?_
    refine W.ifP (((i : Nat) : Int) < (((List.length l) : Nat) : Int)) (.b (decide (((i : Nat) : Int) < (((List.length l) : Nat) : Int)))) (by kernel_rfl) rfl trivial ?_ ?_
    · intro h9
      refine W.skip (thenQ_normal ?_)
      refine W.seq ?_
      refine W.block ?_
      refine W.K cok tab25counts hnt [] [0, 1, 5, 7, 8] (⟨[(0, .sl (.ints l)), (1, .fn 21 []), (5, .i ((i : Nat) : Int)), (7, .i (((List.length l) : Nat) : Int)), (8, .i ((i : Nat) : Int))], [], [999]⟩)
        (True ∧ (True ∧ True)) (by kernel_rfl)
        ⟨trivial, ⟨trivial, trivial⟩⟩ ?_
      refine W.K cok tab25counts hnt [] [0, 1, 5, 7, 8, 16] (⟨[(0, .sl (.ints l)), (1, .fn 21 []), (5, .i ((i : Nat) : Int)), (7, .i (((List.length l) : Nat) : Int)), (8, .i ((i : Nat) : Int)), (16, .b (!within (List.getD l i 0) 0 20))], [], [999]⟩)
        (True ∧ (True ∧ (True ∧ ((True ∧ (True ∧ ((0 ≤ ((i : Nat) : Int)) ∧ (((i : Nat) : Int) < (((List.length l) : Nat) : Int))))) ∧ (True ∧ ((True ∧ ((True ∧ True) ∧ True)) ∧ True)))))) (by kernel_rfl)
        ⟨trivial, ⟨trivial, ⟨trivial, ⟨⟨trivial, ⟨trivial, ⟨(by omega), (by omega)⟩⟩⟩, ⟨trivial, ⟨⟨trivial, ⟨⟨trivial, trivial⟩, trivial⟩⟩, trivial⟩⟩⟩⟩⟩⟩ ?_
      refine W.if' (!within (List.getD l i 0) 0 20) (.b (!within (List.getD l i 0) 0 20)) (by kernel_rfl) rfl trivial ?_ ?_
      · intro h16
        refine W.K cok tab25counts hnt [] [4] (⟨[(4, .i ((i : Nat) : Int))], [], [999]⟩)
          (True ∧ (True ∧ True)) (by kernel_rfl)
          ⟨trivial, ⟨trivial, trivial⟩⟩ ?_
        refine W.ret (blockQ_ret (thenQ_ret (thenQ_ret (blockQ_ret (thenQ_ret ?_)))))
        exact endQ_ret (.i ((i : Nat) : Int)) (by kernel_rfl) (@cast ((.int .i64 ((i : Nat) : Int) : Value) = .int .i64 (firstI l.length (fun jj => !within (l.getD jj 0) 0 20))) _ (by kernel_rfl) (congrArg (Value.int .i64) (by exact (firstI_yes (by omega) h16 hA).symm)))
      · intro n16
        refine W.skip (blockQ_normal (thenQ_normal ?_))
        refine W.L cok tab25counts hnt [] (⟨[(0, .sl (.ints l)), (1, .fn 21 []), (5, .i ((i : Nat) : Int)), (7, .i (((List.length l) : Nat) : Int)), (8, .i (((i + 1) : Nat) : Int)), (16, .b (!within (List.getD l i 0) 0 20)), (18, .i (((i + 1) : Nat) : Int))], [], [999]⟩)
          ((True ∧ (True ∧ (Fits .i64 (((i + 1) : Nat) : Int)))) ∧ (True ∧ True)) (by kernel_rfl)
          ⟨⟨trivial, ⟨trivial, (by exact fits_i64 (by omega) (by omega))⟩⟩, ⟨trivial, trivial⟩⟩ ?_
        refine thenQ_normal ?_
        refine ⟨((i + 1)), (show ((i + 1) ≤ l.length) ∧ (∀ jj, jj < (i + 1) → (!within (l.getD jj 0) 0 20) = false) from ⟨(by first | assumption | omega | rfl | (intro _ hjj; omega) | (simp; done) | (simp; omega)), (by exact upto_succ hA n16)⟩), (show l.length - (i + 1) < l.length - i from (by first | omega | (simp_all; omega))), ?_⟩
        exact Sub.of [] (@cast ((((.ints l : Dat) = .ints l) ∧ ((((21 : Nat) = 21) ∧ True) ∧ (((.int .i64 (((List.length l) : Nat) : Int) : Value) = .int .i64 (((List.length l) : Nat) : Int)) ∧ (((.int .i64 (((i + 1) : Nat) : Int) : Value) = .int .i64 (((i + 1) : Nat) : Int)) ∧ True)))) ∧ (True ∧ ((true = true) ∧ (true = true)))) _ (by kernel_rfl) ⟨⟨rfl, ⟨⟨rfl, trivial⟩, ⟨rfl, ⟨rfl, trivial⟩⟩⟩⟩, ⟨trivial, ⟨rfl, rfl⟩⟩⟩)
    · intro n9
      refine W.exit (thenQ_exit (thenQ_exit (blockQ_hit ?_)))
      refine thenQ_normal ?_
      refine W.K cok tab25counts hnt [] [4] (⟨[(4, .i (-1 : Int))], [], [999]⟩)
        (True ∧ True) (by kernel_rfl)
        ⟨trivial, trivial⟩ ?_
      refine W.ret ?_
      exact endQ_ret (.i (-1 : Int)) (by kernel_rfl) (@cast ((.int .i64 (-1 : Int) : Value) = .int .i64 (firstI l.length (fun jj => !within (l.getD jj 0) 0 20))) _ (by kernel_rfl) (congrArg (Value.int .i64) (by exact (firstI_no (fun j hj => hA j (by omega))).symm)))
theorem ent25counts : Entr prog 25 := ⟨_, func25, rfl, by decide⟩

end Go.Proofs.Try
