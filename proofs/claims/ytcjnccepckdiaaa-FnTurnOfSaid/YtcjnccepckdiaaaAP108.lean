import Derived.Test.YtcjnccepckdiaaaAS
import Derived.Test.YtcjnccepckdiaaaM5
set_option linter.unusedSimpArgs false
set_option linter.unusedVariables false
namespace Go.Proofs.Try
open Go.Ab Go.RowKit
/-- spec.source -/
def fs108 : FnS := fnS [.s .calls, .o] [.calls, .int] (fun _ (h, i, _) => (.i (sourceR h (h.getD i.toNat default).ret), [], (0 ≤ i ∧ i < h.length)))
abbrev T108 : Tab := lk []
theorem tab108 : TabOK prog T108 := TabOK.nil
set_option maxRecDepth 100000 in
set_option maxHeartbeats 1000000 in
theorem ok108 : FnOK prog 108 fs108 := by
  refine FnOK.mk func108 rfl rfl rfl ?_
  rintro fl ⟨(h : List CallD), (i : Int), _⟩ hpre F hnt0 _
  have hnt : F.nt = 38 := hnt0.trans ntmps108
  replace hpre : (0 ≤ i ∧ i < h.length) := hpre
  have hi := hpre
  refine W.to (⟨[(0, .sl (.calls h)), (1, .i i)], [], [999]⟩) rfl ?_
  refine W.lenOf 0 (.calls h) (by kernel_rfl) ?_
  intro hl_h; replace hl_h : List.length h ≤ 9223372036854775807 := hl_h
  refine W.K cok tab108 hnt [] [0, 1] (⟨[(0, .sl (.calls h)), (1, .i i)], [], [999]⟩)
    (True ∧ True) (by kernel_rfl)
    ⟨trivial, trivial⟩ ?_
  refine W.seq ?_
  refine W.K cok tab108 hnt [] [0, 1, 11] (⟨[(0, .sl (.calls h)), (1, .i i), (11, .b (decide (((List.getD h (Int.toNat i) default).ret) = (0 : Int))))], [], [999]⟩)
    (True ∧ (True ∧ ((True ∧ (True ∧ ((0 ≤ i) ∧ (i < (((List.length h) : Nat) : Int))))) ∧ (True ∧ (True ∧ ((True ∧ (True ∧ True)) ∧ True)))))) (by kernel_rfl)
    ⟨trivial, ⟨trivial, ⟨⟨trivial, ⟨trivial, ⟨(by omega), (by omega)⟩⟩⟩, ⟨trivial, ⟨trivial, ⟨⟨trivial, ⟨trivial, trivial⟩⟩, trivial⟩⟩⟩⟩⟩⟩ ?_
  refine W.ifP (((List.getD h (Int.toNat i) default).ret) = (0 : Int)) (.b (decide (((List.getD h (Int.toNat i) default).ret) = (0 : Int)))) (by kernel_rfl) rfl trivial ?_ ?_
  · intro h11
    refine W.K cok tab108 hnt [] [4] (⟨[(4, .i (-1 : Int))], [], [999]⟩)
      (True ∧ True) (by kernel_rfl)
      ⟨trivial, trivial⟩ ?_
    refine W.ret (thenQ_ret ?_)
    exact endQ_ret (.i (-1 : Int)) (by kernel_rfl) (@cast ((.int .i64 (-1 : Int) : Value) = .int .i64 (sourceR h (h.getD i.toNat default).ret)) _ (by kernel_rfl) (congrArg (Value.int .i64) (by symm; exact source_neg.2 h11)))
  · intro n11
    refine W.skip (thenQ_normal ?_)
    refine W.seq ?_
    refine W.K cok tab108 hnt [] [0, 1, 5] (⟨[(0, .sl (.calls h)), (1, .i i), (5, .i (0 : Int))], [], [999]⟩)
      (True ∧ True) (by kernel_rfl)
      ⟨trivial, trivial⟩ ?_
    refine W.block ?_
    refine W.loop (ι := Nat) (fun (k : Nat) => (⟨[(0, .sl (.calls h)), (1, .i i), (5, .i ((k : Nat) : Int))], [], [999]⟩ : St))
      (fun (k : Nat) => (k ≤ h.length) ∧ (∀ j, j < k → putF h (h.getD i.toNat default).ret j = false))
      (fun (k : Nat) => (h.length - k : Nat)) (0) ?_ ?_ ?_
    · exact (show (0 ≤ h.length) ∧ (∀ j, j < 0 → putF h (h.getD i.toNat default).ret j = false) from ⟨(by first | assumption | omega | rfl | (intro _ hjj; omega) | (simp; done) | (simp; omega)), (by exact upto_zero)⟩)
    · exact Sub.of [] (@cast ((((.calls h : Dat) = .calls h) ∧ (((.int .i64 i : Value) = .int .i64 i) ∧ (((.int .i64 (0 : Int) : Value) = .int .i64 ((0 : Nat) : Int)) ∧ True))) ∧ (True ∧ ((true = true) ∧ (true = true)))) _ (by kernel_rfl) ⟨⟨rfl, ⟨rfl, ⟨(congrArg (Value.int .i64) (by first | rfl | omega | assumption | simp | simp_all)), trivial⟩⟩⟩, ⟨trivial, ⟨rfl, rfl⟩⟩⟩)
    · rintro k hC0
      have hC : (k ≤ h.length) ∧ (∀ j, j < k → putF h (h.getD i.toNat default).ret j = false) := hC0
      clear hC0
      obtain ⟨hk, hA⟩ := hC
      refine W.to (⟨[(0, .sl (.calls h)), (1, .i i), (5, .i ((k : Nat) : Int))], [], [999]⟩) rfl ?_
      refine W.seq ?_
      refine W.K cok tab108 hnt [] [0, 1, 5, 15] (⟨[(0, .sl (.calls h)), (1, .i i), (5, .i ((k : Nat) : Int)), (15, .b (decide (((k : Nat) : Int) < (((List.length h) : Nat) : Int))))], [], [999]⟩)
        (True ∧ (True ∧ (True ∧ ((True ∧ (True ∧ True)) ∧ True)))) (by kernel_rfl)
        ⟨trivial, ⟨trivial, ⟨trivial, ⟨⟨trivial, ⟨trivial, trivial⟩⟩, trivial⟩⟩⟩⟩ ?_
      refine W.ifP (((k : Nat) : Int) < (((List.length h) : Nat) : Int)) (.b (decide (((k : Nat) : Int) < (((List.length h) : Nat) : Int)))) (by kernel_rfl) rfl trivial ?_ ?_
      · intro h15
        refine W.skip (thenQ_normal ?_)
        refine W.seq ?_
        refine W.block ?_
        refine W.KA cok tab108 hnt [] [0, 1, 5, 36] (⟨[(0, .sl (.calls h)), (1, .i i), (5, .i ((k : Nat) : Int)), (36, .b ((decide (((List.getD h k default).kind) = (0 : Int))) && (decide (((List.getD h k default).arg) = ((List.getD h (Int.toNat i) default).ret)))))], [], [999]⟩)
          (True ∧ (True ∧ ((True ∧ (True ∧ ((0 ≤ ((k : Nat) : Int)) ∧ (((k : Nat) : Int) < (((List.length h) : Nat) : Int))))) ∧ (True ∧ (True ∧ ((True ∧ (True ∧ True)) ∧ (True ∧ (((decide (((List.getD h k default).kind) = (0 : Int))) = true → True) ∧ (((decide (((List.getD h k default).kind) = (0 : Int))) = true → True) ∧ (((decide (((List.getD h k default).kind) = (0 : Int))) = true → ((((decide (((List.getD h k default).kind) = (0 : Int))) = true) ∧ True) ∧ ((((decide (((List.getD h k default).kind) = (0 : Int))) = true) ∧ True) ∧ ((0 ≤ ((k : Nat) : Int)) ∧ (((k : Nat) : Int) < (((List.length h) : Nat) : Int)))))) ∧ (((decide (((List.getD h k default).kind) = (0 : Int))) = true → (((decide (((List.getD h k default).kind) = (0 : Int))) = true) ∧ True)) ∧ (((decide (((List.getD h k default).kind) = (0 : Int))) = true → (((decide (((List.getD h k default).kind) = (0 : Int))) = true) ∧ True)) ∧ (((decide (((List.getD h k default).kind) = (0 : Int))) = true → True) ∧ (((decide (((List.getD h k default).kind) = (0 : Int))) = true → True) ∧ (((decide (((List.getD h k default).kind) = (0 : Int))) = true → ((((decide (((List.getD h k default).kind) = (0 : Int))) = true) ∧ True) ∧ ((((decide (((List.getD h k default).kind) = (0 : Int))) = true) ∧ True) ∧ ((0 ≤ i) ∧ (i < (((List.length h) : Nat) : Int)))))) ∧ (((decide (((List.getD h k default).kind) = (0 : Int))) = true → (((decide (((List.getD h k default).kind) = (0 : Int))) = true) ∧ True)) ∧ (((decide (((List.getD h k default).kind) = (0 : Int))) = true → (((decide (((List.getD h k default).kind) = (0 : Int))) = true) ∧ True)) ∧ (((decide (((List.getD h k default).kind) = (0 : Int))) = true → ((((decide (((List.getD h k default).kind) = (0 : Int))) = true) ∧ True) ∧ ((((decide (((List.getD h k default).kind) = (0 : Int))) = true) ∧ True) ∧ True))) ∧ ((True ∧ (((decide (((List.getD h k default).kind) = (0 : Int))) = true → ((decide (((List.getD h k default).kind) = (0 : Int))) = true) ∧ True) ∧ ((decide (((List.getD h k default).kind) = (0 : Int))) = false → True))) ∧ True))))))))))))))))))) (by kernel_rfl) (by kernel_rfl)
          ⟨trivial, ⟨trivial, ⟨⟨trivial, ⟨trivial, ⟨(by omega), (by omega)⟩⟩⟩, ⟨trivial, ⟨trivial, ⟨⟨trivial, ⟨trivial, trivial⟩⟩, ⟨trivial, ⟨(fun _ => trivial), ⟨(fun _ => trivial), ⟨(fun hG => ⟨⟨hG, trivial⟩, ⟨⟨hG, trivial⟩, ⟨(by have hg0 : ((List.getD h k default).kind) = (0 : Int) := of_decide_eq_true hG; omega), (by have hg0 : ((List.getD h k default).kind) = (0 : Int) := of_decide_eq_true hG; omega)⟩⟩⟩), ⟨(fun hG => ⟨hG, trivial⟩), ⟨(fun hG => ⟨hG, trivial⟩), ⟨(fun _ => trivial), ⟨(fun _ => trivial), ⟨(fun hG => ⟨⟨hG, trivial⟩, ⟨⟨hG, trivial⟩, ⟨(by have hg0 : ((List.getD h k default).kind) = (0 : Int) := of_decide_eq_true hG; omega), (by have hg0 : ((List.getD h k default).kind) = (0 : Int) := of_decide_eq_true hG; omega)⟩⟩⟩), ⟨(fun hG => ⟨hG, trivial⟩), ⟨(fun hG => ⟨hG, trivial⟩), ⟨(fun hG => ⟨⟨hG, trivial⟩, ⟨⟨hG, trivial⟩, trivial⟩⟩), ⟨⟨trivial, ⟨(fun hp => ⟨hp, trivial⟩), (fun _ => trivial)⟩⟩, trivial⟩⟩⟩⟩⟩⟩⟩⟩⟩⟩⟩⟩⟩⟩⟩⟩⟩⟩⟩ ?_
        refine W.if' ((decide (((List.getD h k default).kind) = (0 : Int))) && (decide (((List.getD h k default).arg) = ((List.getD h (Int.toNat i) default).ret)))) (.b ((decide (((List.getD h k default).kind) = (0 : Int))) && (decide (((List.getD h k default).arg) = ((List.getD h (Int.toNat i) default).ret))))) (by kernel_rfl) rfl trivial ?_ ?_
        · intro h36
          have h36_0 : ((List.getD h k default).kind) = (0 : Int) := of_decide_eq_true (and_l h36)
          have h36_1 : ((List.getD h k default).arg) = ((List.getD h (Int.toNat i) default).ret) := of_decide_eq_true (and_r h36)
          refine W.K cok tab108 hnt [] [4] (⟨[(4, .i ((k : Nat) : Int))], [], [999]⟩)
            (True ∧ (True ∧ True)) (by kernel_rfl)
            ⟨trivial, ⟨trivial, trivial⟩⟩ ?_
          refine W.ret (blockQ_ret (thenQ_ret (thenQ_ret (blockQ_ret (thenQ_ret ?_)))))
          exact endQ_ret (.i ((k : Nat) : Int)) (by kernel_rfl) (@cast ((.int .i64 ((k : Nat) : Int) : Value) = .int .i64 (sourceR h (h.getD i.toNat default).ret)) _ (by kernel_rfl) (congrArg (Value.int .i64) (by unfold sourceR; rw [decide_eq_false n11, fIdx_some (i := k) (by omega) h36 hA]; rfl)))
        · intro n36
          refine W.skip (blockQ_normal (thenQ_normal ?_))
          refine W.L cok tab108 hnt [] (⟨[(0, .sl (.calls h)), (1, .i i), (5, .i (((k + 1) : Nat) : Int)), (16, .i ((k : Nat) : Int)), (17, .i (((k + 1) : Nat) : Int)), (36, .b ((decide (((List.getD h k default).kind) = (0 : Int))) && (decide (((List.getD h k default).arg) = ((List.getD h (Int.toNat i) default).ret)))))], [], [999]⟩)
            (True ∧ ((True ∧ (True ∧ (Fits .i64 (((k + 1) : Nat) : Int)))) ∧ (True ∧ True))) (by kernel_rfl)
            ⟨trivial, ⟨⟨trivial, ⟨trivial, (by exact fits_i64 (by omega) (by omega))⟩⟩, ⟨trivial, trivial⟩⟩⟩ ?_
          refine thenQ_normal ?_
          refine ⟨((k + 1)), (show ((k + 1) ≤ h.length) ∧ (∀ j, j < (k + 1) → putF h (h.getD i.toNat default).ret j = false) from ⟨(by first | assumption | omega | rfl | (intro _ hjj; omega) | (simp; done) | (simp; omega)), (by exact upto_succ hA n36)⟩), (show h.length - (k + 1) < h.length - k from (by first | omega | (simp_all; omega))), ?_⟩
          exact Sub.of [] (@cast ((((.calls h : Dat) = .calls h) ∧ (((.int .i64 i : Value) = .int .i64 i) ∧ (((.int .i64 (((k + 1) : Nat) : Int) : Value) = .int .i64 (((k + 1) : Nat) : Int)) ∧ True))) ∧ (True ∧ ((true = true) ∧ (true = true)))) _ (by kernel_rfl) ⟨⟨rfl, ⟨rfl, ⟨rfl, trivial⟩⟩⟩, ⟨trivial, ⟨rfl, rfl⟩⟩⟩)
      · intro n15
        refine W.exit (thenQ_exit (thenQ_exit (blockQ_hit ?_)))
        refine thenQ_normal ?_
        refine W.K cok tab108 hnt [] [4] (⟨[(4, .i (-2 : Int))], [], [999]⟩)
          (True ∧ True) (by kernel_rfl)
          ⟨trivial, trivial⟩ ?_
        refine W.ret ?_
        exact endQ_ret (.i (-2 : Int)) (by kernel_rfl) (@cast ((.int .i64 (-2 : Int) : Value) = .int .i64 (sourceR h (h.getD i.toNat default).ret)) _ (by kernel_rfl) (congrArg (Value.int .i64) (by unfold sourceR; rw [decide_eq_false n11, fIdx_none (fun j hj => hA j (by omega))]; rfl)))
theorem ent108 : Entr prog 108 := ⟨_, func108, rfl, by decide⟩

end Go.Proofs.Try
