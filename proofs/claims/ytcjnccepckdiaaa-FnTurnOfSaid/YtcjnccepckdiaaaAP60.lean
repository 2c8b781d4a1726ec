import Derived.Test.YtcjnccepckdiaaaAS
import Derived.Test.YtcjnccepckdiaaaM5
import Derived.Test.YtcjnccepckdiaaaAP65
import Derived.Test.YtcjnccepckdiaaaAP113
import Derived.Test.YtcjnccepckdiaaaAP108
import Derived.Test.YtcjnccepckdiaaaAP114
set_option linter.unusedSimpArgs false
set_option linter.unusedVariables false
namespace Go.Proofs.Try
open Go.Ab Go.RowKit
/-- spec.TurnOf -/
def fs60 : FnS := fnS [.s .calls] [.calls] (fun _ (h, _) => (.tup [.i ((turnOf h).1), .i ((turnOf h).2.1), .b ((turnOf h).2.2)], [], True))
abbrev T60 : Tab := lk [(65, fs65), (108, fs108), (113, fs113), (114, fs114)]
theorem tab60 : TabOK prog T60 := (TabOK.cons ok65 ent65 (TabOK.cons ok108 ent108 (TabOK.cons ok113 ent113 (TabOK.cons ok114 ent114 TabOK.nil))))
set_option maxRecDepth 100000 in
set_option maxHeartbeats 1000000 in
theorem ok60 : FnOK prog 60 fs60 := by
  refine FnOK.mk func60 rfl rfl rfl ?_
  rintro fl ⟨(h : List CallD), _⟩ hpre F hnt0 _
  have hnt : F.nt = 59 := hnt0.trans ntmps60
  clear hpre
  refine W.to (⟨[(0, .sl (.calls h))], [], [999]⟩) rfl ?_
  refine W.lenOf 0 (.calls h) (by kernel_rfl) ?_
  intro hl_h; replace hl_h : List.length h ≤ 9223372036854775807 := hl_h
  refine W.K cok tab60 hnt [] [0] (⟨[(0, .sl (.calls h))], [], [999]⟩)
    (True ∧ (True ∧ (True ∧ True))) (by kernel_rfl)
    ⟨trivial, ⟨trivial, ⟨trivial, trivial⟩⟩⟩ ?_
  refine W.seq ?_
  refine W.K cok tab60 hnt [] [0, 9] (⟨[(0, .sl (.calls h)), (9, .b (!(oneWriter h)))], [], [999]⟩)
    (True ∧ ((True ∧ ((True ∧ True) ∧ True)) ∧ (True ∧ True))) (by kernel_rfl)
    ⟨trivial, ⟨⟨trivial, ⟨⟨trivial, trivial⟩, trivial⟩⟩, ⟨trivial, trivial⟩⟩⟩ ?_
  refine W.if' (!(oneWriter h)) (.b (!(oneWriter h))) (by kernel_rfl) rfl trivial ?_ ?_
  · intro h9
    refine W.K cok tab60 hnt [] [2, 3, 4] (⟨[(2, .i (-1 : Int)), (3, .i (-1 : Int)), (4, .b false)], [], [999]⟩)
      (True ∧ (True ∧ (True ∧ True))) (by kernel_rfl)
      ⟨trivial, ⟨trivial, ⟨trivial, trivial⟩⟩⟩ ?_
    refine W.ret (thenQ_ret ?_)
    exact endQ_ret (.tup [.i (-1 : Int), .i (-1 : Int), .b false]) (by kernel_rfl) (@cast (((.int .i64 (-1 : Int) : Value) = .int .i64 ((turnOf h).1)) ∧ (((.int .i64 (-1 : Int) : Value) = .int .i64 ((turnOf h).2.1)) ∧ (((.bool false : Value) = .bool ((turnOf h).2.2)) ∧ True))) _ (by kernel_rfl) ⟨(congrArg (Value.int .i64) (by unfold turnOf; rw [not_f h9]; rfl)), ⟨(congrArg (Value.int .i64) (by unfold turnOf; rw [not_f h9]; rfl)), ⟨(congrArg Value.bool (by unfold turnOf; rw [not_f h9]; rfl)), trivial⟩⟩⟩)
  · intro n9
    refine W.skip (thenQ_normal ?_)
    refine W.seq ?_
    refine W.K cok tab60 hnt [] [0, 5] (⟨[(0, .sl (.calls h)), (5, .i (0 : Int))], [], [999]⟩)
      (True ∧ True) (by kernel_rfl)
      ⟨trivial, trivial⟩ ?_
    refine W.block ?_
    refine W.loop (ι := Nat) (fun (i : Nat) => (⟨[(0, .sl (.calls h)), (5, .i ((i : Nat) : Int))], [], [999]⟩ : St))
      (fun (i : Nat) => (i ≤ h.length) ∧ (∀ j, j < i → anyN h.length (turnP h j) = false))
      (fun (i : Nat) => (h.length - i : Nat)) (0) ?_ ?_ ?_
    · exact (show (0 ≤ h.length) ∧ (∀ j, j < 0 → anyN h.length (turnP h j) = false) from ⟨(by first | assumption | omega | rfl | (intro _ hjj; omega) | (simp; done) | (simp; omega)), (by exact upto_zero)⟩)
    · exact Sub.of [] (@cast ((((.calls h : Dat) = .calls h) ∧ (((.int .i64 (0 : Int) : Value) = .int .i64 ((0 : Nat) : Int)) ∧ True)) ∧ (True ∧ ((true = true) ∧ (true = true)))) _ (by kernel_rfl) ⟨⟨rfl, ⟨(congrArg (Value.int .i64) (by first | rfl | omega | assumption | simp | simp_all)), trivial⟩⟩, ⟨trivial, ⟨rfl, rfl⟩⟩⟩)
    · rintro i hC0
      have hC : (i ≤ h.length) ∧ (∀ j, j < i → anyN h.length (turnP h j) = false) := hC0
      clear hC0
      obtain ⟨hi, hA⟩ := hC
      refine W.to (⟨[(0, .sl (.calls h)), (5, .i ((i : Nat) : Int))], [], [999]⟩) rfl ?_
      refine W.seq ?_
      refine W.K cok tab60 hnt [] [0, 5, 13] (⟨[(0, .sl (.calls h)), (5, .i ((i : Nat) : Int)), (13, .b (decide (((i : Nat) : Int) < (((List.length h) : Nat) : Int))))], [], [999]⟩)
        (True ∧ (True ∧ (True ∧ ((True ∧ (True ∧ True)) ∧ True)))) (by kernel_rfl)
        ⟨trivial, ⟨trivial, ⟨trivial, ⟨⟨trivial, ⟨trivial, trivial⟩⟩, trivial⟩⟩⟩⟩ ?_
      refine W.ifP (((i : Nat) : Int) < (((List.length h) : Nat) : Int)) (.b (decide (((i : Nat) : Int) < (((List.length h) : Nat) : Int)))) (by kernel_rfl) rfl trivial ?_ ?_
      · intro h13
        refine W.skip (thenQ_normal ?_)
        refine W.seq ?_
        refine W.block ?_
        refine W.K cok tab60 hnt [] [0, 5, 6] (⟨[(0, .sl (.calls h)), (5, .i ((i : Nat) : Int)), (6, .i (0 : Int))], [], [999]⟩)
          (True ∧ True) (by kernel_rfl)
          ⟨trivial, trivial⟩ ?_
        refine W.block ?_
        refine W.loop (ι := Nat) (fun (k : Nat) => (⟨[(0, .sl (.calls h)), (5, .i ((i : Nat) : Int)), (6, .i ((k : Nat) : Int))], [], [999]⟩ : St))
          (fun (k : Nat) => (k ≤ h.length) ∧ (∀ j, j < k → turnP h i j = false))
          (fun (k : Nat) => (h.length - k : Nat)) (0) ?_ ?_ ?_
        · exact (show (0 ≤ h.length) ∧ (∀ j, j < 0 → turnP h i j = false) from ⟨(by first | assumption | omega | rfl | (intro _ hjj; omega) | (simp; done) | (simp; omega)), (by exact upto_zero)⟩)
        · exact Sub.of [] (@cast ((((.calls h : Dat) = .calls h) ∧ (((.int .i64 ((i : Nat) : Int) : Value) = .int .i64 ((i : Nat) : Int)) ∧ (((.int .i64 (0 : Int) : Value) = .int .i64 ((0 : Nat) : Int)) ∧ True))) ∧ (True ∧ ((true = true) ∧ (true = true)))) _ (by kernel_rfl) ⟨⟨rfl, ⟨rfl, ⟨(congrArg (Value.int .i64) (by first | rfl | omega | assumption | simp | simp_all)), trivial⟩⟩⟩, ⟨trivial, ⟨rfl, rfl⟩⟩⟩)
        · rintro k hC0
          have hC : (k ≤ h.length) ∧ (∀ j, j < k → turnP h i j = false) := hC0
          clear hC0
          obtain ⟨hk, hB⟩ := hC
          refine W.to (⟨[(0, .sl (.calls h)), (5, .i ((i : Nat) : Int)), (6, .i ((k : Nat) : Int))], [], [999]⟩) rfl ?_
          refine W.seq ?_
          refine W.K cok tab60 hnt [] [0, 5, 6, 19] (⟨[(0, .sl (.calls h)), (5, .i ((i : Nat) : Int)), (6, .i ((k : Nat) : Int)), (19, .b (decide (((k : Nat) : Int) < (((List.length h) : Nat) : Int))))], [], [999]⟩)
            (True ∧ (True ∧ (True ∧ ((True ∧ (True ∧ True)) ∧ True)))) (by kernel_rfl)
            ⟨trivial, ⟨trivial, ⟨trivial, ⟨⟨trivial, ⟨trivial, trivial⟩⟩, trivial⟩⟩⟩⟩ ?_
          refine W.ifP (((k : Nat) : Int) < (((List.length h) : Nat) : Int)) (.b (decide (((k : Nat) : Int) < (((List.length h) : Nat) : Int)))) (by kernel_rfl) rfl trivial ?_ ?_
          · intro h19
            refine W.skip (thenQ_normal ?_)
            refine W.seq ?_
            refine W.block ?_
            refine W.KA cok tab60 hnt [] [0, 5, 6, 56] (⟨[(0, .sl (.calls h)), (5, .i ((i : Nat) : Int)), (6, .i ((k : Nat) : Int)), (56, .b ((((decide (((List.getD h i default).kind) = (2 : Int))) && (decide (((List.getD h k default).kind) = (2 : Int)))) && (isBefore (List.getD h i default) (List.getD h k default))) && (olderR h (sourceR h (h.getD ((k : Nat) : Int).toNat default).ret) (sourceR h (h.getD ((i : Nat) : Int).toNat default).ret))))], [], [999]⟩)
              (True ∧ (True ∧ ((True ∧ (True ∧ ((0 ≤ ((i : Nat) : Int)) ∧ (((i : Nat) : Int) < (((List.length h) : Nat) : Int))))) ∧ (True ∧ (True ∧ ((True ∧ (True ∧ True)) ∧ (True ∧ (((decide (((List.getD h i default).kind) = (2 : Int))) = true → True) ∧ (((decide (((List.getD h i default).kind) = (2 : Int))) = true → True) ∧ (((decide (((List.getD h i default).kind) = (2 : Int))) = true → ((((decide (((List.getD h i default).kind) = (2 : Int))) = true) ∧ True) ∧ ((((decide (((List.getD h i default).kind) = (2 : Int))) = true) ∧ True) ∧ ((0 ≤ ((k : Nat) : Int)) ∧ (((k : Nat) : Int) < (((List.length h) : Nat) : Int)))))) ∧ (((decide (((List.getD h i default).kind) = (2 : Int))) = true → (((decide (((List.getD h i default).kind) = (2 : Int))) = true) ∧ True)) ∧ (((decide (((List.getD h i default).kind) = (2 : Int))) = true → (((decide (((List.getD h i default).kind) = (2 : Int))) = true) ∧ True)) ∧ (((decide (((List.getD h i default).kind) = (2 : Int))) = true → ((((decide (((List.getD h i default).kind) = (2 : Int))) = true) ∧ True) ∧ (True ∧ True))) ∧ ((True ∧ (((decide (((List.getD h i default).kind) = (2 : Int))) = true → ((decide (((List.getD h i default).kind) = (2 : Int))) = true) ∧ True) ∧ ((decide (((List.getD h i default).kind) = (2 : Int))) = false → True))) ∧ (True ∧ ((((decide (((List.getD h i default).kind) = (2 : Int))) && (decide (((List.getD h k default).kind) = (2 : Int)))) = true → True) ∧ ((((decide (((List.getD h i default).kind) = (2 : Int))) && (decide (((List.getD h k default).kind) = (2 : Int)))) = true → True) ∧ ((((decide (((List.getD h i default).kind) = (2 : Int))) && (decide (((List.getD h k default).kind) = (2 : Int)))) = true → (((((decide (((List.getD h i default).kind) = (2 : Int))) && (decide (((List.getD h k default).kind) = (2 : Int)))) = true) ∧ True) ∧ (((((decide (((List.getD h i default).kind) = (2 : Int))) && (decide (((List.getD h k default).kind) = (2 : Int)))) = true) ∧ True) ∧ ((0 ≤ ((i : Nat) : Int)) ∧ (((i : Nat) : Int) < (((List.length h) : Nat) : Int)))))) ∧ ((((decide (((List.getD h i default).kind) = (2 : Int))) && (decide (((List.getD h k default).kind) = (2 : Int)))) = true → ((((decide (((List.getD h i default).kind) = (2 : Int))) && (decide (((List.getD h k default).kind) = (2 : Int)))) = true) ∧ True)) ∧ ((((decide (((List.getD h i default).kind) = (2 : Int))) && (decide (((List.getD h k default).kind) = (2 : Int)))) = true → True) ∧ ((((decide (((List.getD h i default).kind) = (2 : Int))) && (decide (((List.getD h k default).kind) = (2 : Int)))) = true → True) ∧ ((((decide (((List.getD h i default).kind) = (2 : Int))) && (decide (((List.getD h k default).kind) = (2 : Int)))) = true → (((((decide (((List.getD h i default).kind) = (2 : Int))) && (decide (((List.getD h k default).kind) = (2 : Int)))) = true) ∧ True) ∧ (((((decide (((List.getD h i default).kind) = (2 : Int))) && (decide (((List.getD h k default).kind) = (2 : Int)))) = true) ∧ True) ∧ ((0 ≤ ((k : Nat) : Int)) ∧ (((k : Nat) : Int) < (((List.length h) : Nat) : Int)))))) ∧ ((((decide (((List.getD h i default).kind) = (2 : Int))) && (decide (((List.getD h k default).kind) = (2 : Int)))) = true → ((((decide (((List.getD h i default).kind) = (2 : Int))) && (decide (((List.getD h k default).kind) = (2 : Int)))) = true) ∧ True)) ∧ ((((decide (((List.getD h i default).kind) = (2 : Int))) && (decide (((List.getD h k default).kind) = (2 : Int)))) = true → (True ∧ ((((((decide (((List.getD h i default).kind) = (2 : Int))) && (decide (((List.getD h k default).kind) = (2 : Int)))) = true) ∧ True) ∧ (((((decide (((List.getD h i default).kind) = (2 : Int))) && (decide (((List.getD h k default).kind) = (2 : Int)))) = true) ∧ True) ∧ True)) ∧ True))) ∧ ((True ∧ ((((decide (((List.getD h i default).kind) = (2 : Int))) && (decide (((List.getD h k default).kind) = (2 : Int)))) = true → (((decide (((List.getD h i default).kind) = (2 : Int))) && (decide (((List.getD h k default).kind) = (2 : Int)))) = true) ∧ True) ∧ (((decide (((List.getD h i default).kind) = (2 : Int))) && (decide (((List.getD h k default).kind) = (2 : Int)))) = false → True))) ∧ (True ∧ (((((decide (((List.getD h i default).kind) = (2 : Int))) && (decide (((List.getD h k default).kind) = (2 : Int)))) && (isBefore (List.getD h i default) (List.getD h k default))) = true → True) ∧ (((((decide (((List.getD h i default).kind) = (2 : Int))) && (decide (((List.getD h k default).kind) = (2 : Int)))) && (isBefore (List.getD h i default) (List.getD h k default))) = true → True) ∧ (((((decide (((List.getD h i default).kind) = (2 : Int))) && (decide (((List.getD h k default).kind) = (2 : Int)))) && (isBefore (List.getD h i default) (List.getD h k default))) = true → True) ∧ (((((decide (((List.getD h i default).kind) = (2 : Int))) && (decide (((List.getD h k default).kind) = (2 : Int)))) && (isBefore (List.getD h i default) (List.getD h k default))) = true → (True ∧ (((((((decide (((List.getD h i default).kind) = (2 : Int))) && (decide (((List.getD h k default).kind) = (2 : Int)))) && (isBefore (List.getD h i default) (List.getD h k default))) = true) ∧ True) ∧ ((((((decide (((List.getD h i default).kind) = (2 : Int))) && (decide (((List.getD h k default).kind) = (2 : Int)))) && (isBefore (List.getD h i default) (List.getD h k default))) = true) ∧ True) ∧ True)) ∧ (0 ≤ ((k : Nat) : Int) ∧ ((k : Nat) : Int) < h.length)))) ∧ (((((decide (((List.getD h i default).kind) = (2 : Int))) && (decide (((List.getD h k default).kind) = (2 : Int)))) && (isBefore (List.getD h i default) (List.getD h k default))) = true → True) ∧ (((((decide (((List.getD h i default).kind) = (2 : Int))) && (decide (((List.getD h k default).kind) = (2 : Int)))) && (isBefore (List.getD h i default) (List.getD h k default))) = true → True) ∧ (((((decide (((List.getD h i default).kind) = (2 : Int))) && (decide (((List.getD h k default).kind) = (2 : Int)))) && (isBefore (List.getD h i default) (List.getD h k default))) = true → (True ∧ (((((((decide (((List.getD h i default).kind) = (2 : Int))) && (decide (((List.getD h k default).kind) = (2 : Int)))) && (isBefore (List.getD h i default) (List.getD h k default))) = true) ∧ True) ∧ ((((((decide (((List.getD h i default).kind) = (2 : Int))) && (decide (((List.getD h k default).kind) = (2 : Int)))) && (isBefore (List.getD h i default) (List.getD h k default))) = true) ∧ True) ∧ True)) ∧ (0 ≤ ((i : Nat) : Int) ∧ ((i : Nat) : Int) < h.length)))) ∧ (((((decide (((List.getD h i default).kind) = (2 : Int))) && (decide (((List.getD h k default).kind) = (2 : Int)))) && (isBefore (List.getD h i default) (List.getD h k default))) = true → (True ∧ (((((((decide (((List.getD h i default).kind) = (2 : Int))) && (decide (((List.getD h k default).kind) = (2 : Int)))) && (isBefore (List.getD h i default) (List.getD h k default))) = true) ∧ True) ∧ ((((((decide (((List.getD h i default).kind) = (2 : Int))) && (decide (((List.getD h k default).kind) = (2 : Int)))) && (isBefore (List.getD h i default) (List.getD h k default))) = true) ∧ True) ∧ ((((((decide (((List.getD h i default).kind) = (2 : Int))) && (decide (((List.getD h k default).kind) = (2 : Int)))) && (isBefore (List.getD h i default) (List.getD h k default))) = true) ∧ True) ∧ True))) ∧ (((sourceR h (h.getD ((k : Nat) : Int).toNat default).ret) < h.length) ∧ ((sourceR h (h.getD ((i : Nat) : Int).toNat default).ret) < h.length))))) ∧ ((True ∧ (((((decide (((List.getD h i default).kind) = (2 : Int))) && (decide (((List.getD h k default).kind) = (2 : Int)))) && (isBefore (List.getD h i default) (List.getD h k default))) = true → ((((decide (((List.getD h i default).kind) = (2 : Int))) && (decide (((List.getD h k default).kind) = (2 : Int)))) && (isBefore (List.getD h i default) (List.getD h k default))) = true) ∧ True) ∧ ((((decide (((List.getD h i default).kind) = (2 : Int))) && (decide (((List.getD h k default).kind) = (2 : Int)))) && (isBefore (List.getD h i default) (List.getD h k default))) = false → True))) ∧ True))))))))))))))))))))))))))))))))))) (by kernel_rfl) (by kernel_rfl)
              ⟨trivial, ⟨trivial, ⟨⟨trivial, ⟨trivial, ⟨(by omega), (by omega)⟩⟩⟩, ⟨trivial, ⟨trivial, ⟨⟨trivial, ⟨trivial, trivial⟩⟩, ⟨trivial, ⟨(fun _ => trivial), ⟨(fun _ => trivial), ⟨(fun hG => ⟨⟨hG, trivial⟩, ⟨⟨hG, trivial⟩, ⟨(by have hg0 : ((List.getD h i default).kind) = (2 : Int) := of_decide_eq_true hG; omega), (by have hg0 : ((List.getD h i default).kind) = (2 : Int) := of_decide_eq_true hG; omega)⟩⟩⟩), ⟨(fun hG => ⟨hG, trivial⟩), ⟨(fun hG => ⟨hG, trivial⟩), ⟨(fun hG => ⟨⟨hG, trivial⟩, ⟨trivial, trivial⟩⟩), ⟨⟨trivial, ⟨(fun hp => ⟨hp, trivial⟩), (fun _ => trivial)⟩⟩, ⟨trivial, ⟨(fun _ => trivial), ⟨(fun _ => trivial), ⟨(fun hG => ⟨⟨hG, trivial⟩, ⟨⟨hG, trivial⟩, ⟨(by have hg0 : ((List.getD h i default).kind) = (2 : Int) := of_decide_eq_true (and_l hG); have hg1 : ((List.getD h k default).kind) = (2 : Int) := of_decide_eq_true (and_r hG); omega), (by have hg0 : ((List.getD h i default).kind) = (2 : Int) := of_decide_eq_true (and_l hG); have hg1 : ((List.getD h k default).kind) = (2 : Int) := of_decide_eq_true (and_r hG); omega)⟩⟩⟩), ⟨(fun hG => ⟨hG, trivial⟩), ⟨(fun _ => trivial), ⟨(fun _ => trivial), ⟨(fun hG => ⟨⟨hG, trivial⟩, ⟨⟨hG, trivial⟩, ⟨(by have hg0 : ((List.getD h i default).kind) = (2 : Int) := of_decide_eq_true (and_l hG); have hg1 : ((List.getD h k default).kind) = (2 : Int) := of_decide_eq_true (and_r hG); omega), (by have hg0 : ((List.getD h i default).kind) = (2 : Int) := of_decide_eq_true (and_l hG); have hg1 : ((List.getD h k default).kind) = (2 : Int) := of_decide_eq_true (and_r hG); omega)⟩⟩⟩), ⟨(fun hG => ⟨hG, trivial⟩), ⟨(fun hG => ⟨trivial, ⟨⟨⟨hG, trivial⟩, ⟨⟨hG, trivial⟩, trivial⟩⟩, trivial⟩⟩), ⟨⟨trivial, ⟨(fun hp => ⟨hp, trivial⟩), (fun _ => trivial)⟩⟩, ⟨trivial, ⟨(fun _ => trivial), ⟨(fun _ => trivial), ⟨(fun _ => trivial), ⟨(fun hG => ⟨trivial, ⟨⟨⟨hG, trivial⟩, ⟨⟨hG, trivial⟩, trivial⟩⟩, (by have hg0 : ((List.getD h i default).kind) = (2 : Int) := of_decide_eq_true (and_l (and_l hG)); have hg1 : ((List.getD h k default).kind) = (2 : Int) := of_decide_eq_true (and_r (and_l hG)); omega)⟩⟩), ⟨(fun _ => trivial), ⟨(fun _ => trivial), ⟨(fun hG => ⟨trivial, ⟨⟨⟨hG, trivial⟩, ⟨⟨hG, trivial⟩, trivial⟩⟩, (by have hg0 : ((List.getD h i default).kind) = (2 : Int) := of_decide_eq_true (and_l (and_l hG)); have hg1 : ((List.getD h k default).kind) = (2 : Int) := of_decide_eq_true (and_r (and_l hG)); omega)⟩⟩), ⟨(fun hG => ⟨trivial, ⟨⟨⟨hG, trivial⟩, ⟨⟨hG, trivial⟩, ⟨⟨hG, trivial⟩, trivial⟩⟩⟩, ⟨(by have hg0 : ((List.getD h i default).kind) = (2 : Int) := of_decide_eq_true (and_l (and_l hG)); have hg1 : ((List.getD h k default).kind) = (2 : Int) := of_decide_eq_true (and_r (and_l hG)); exact source_lt _ _), (by have hg0 : ((List.getD h i default).kind) = (2 : Int) := of_decide_eq_true (and_l (and_l hG)); have hg1 : ((List.getD h k default).kind) = (2 : Int) := of_decide_eq_true (and_r (and_l hG)); exact source_lt _ _)⟩⟩⟩), ⟨⟨trivial, ⟨(fun hp => ⟨hp, trivial⟩), (fun _ => trivial)⟩⟩, trivial⟩⟩⟩⟩⟩⟩⟩⟩⟩⟩⟩⟩⟩⟩⟩⟩⟩⟩⟩⟩⟩⟩⟩⟩⟩⟩⟩⟩⟩⟩⟩⟩⟩⟩⟩ ?_
            refine W.if' ((((decide (((List.getD h i default).kind) = (2 : Int))) && (decide (((List.getD h k default).kind) = (2 : Int)))) && (isBefore (List.getD h i default) (List.getD h k default))) && (olderR h (sourceR h (h.getD ((k : Nat) : Int).toNat default).ret) (sourceR h (h.getD ((i : Nat) : Int).toNat default).ret))) (.b ((((decide (((List.getD h i default).kind) = (2 : Int))) && (decide (((List.getD h k default).kind) = (2 : Int)))) && (isBefore (List.getD h i default) (List.getD h k default))) && (olderR h (sourceR h (h.getD ((k : Nat) : Int).toNat default).ret) (sourceR h (h.getD ((i : Nat) : Int).toNat default).ret)))) (by kernel_rfl) rfl trivial ?_ ?_
            · intro h56
              have h56_0 : ((List.getD h i default).kind) = (2 : Int) := of_decide_eq_true (and_l (and_l (and_l h56)))
              have h56_1 : ((List.getD h k default).kind) = (2 : Int) := of_decide_eq_true (and_r (and_l (and_l h56)))
              refine W.K cok tab60 hnt [] [2, 3, 4] (⟨[(2, .i ((i : Nat) : Int)), (3, .i ((k : Nat) : Int)), (4, .b true)], [], [999]⟩)
                (True ∧ (True ∧ (True ∧ (True ∧ (True ∧ True))))) (by kernel_rfl)
                ⟨trivial, ⟨trivial, ⟨trivial, ⟨trivial, ⟨trivial, trivial⟩⟩⟩⟩⟩ ?_
              refine W.ret (blockQ_ret (thenQ_ret (thenQ_ret (blockQ_ret (blockQ_ret (thenQ_ret (thenQ_ret (blockQ_ret (thenQ_ret ?_)))))))))
              exact endQ_ret (.tup [.i ((i : Nat) : Int), .i ((k : Nat) : Int), .b true]) (by kernel_rfl) (@cast (((.int .i64 ((i : Nat) : Int) : Value) = .int .i64 ((turnOf h).1)) ∧ (((.int .i64 ((k : Nat) : Int) : Value) = .int .i64 ((turnOf h).2.1)) ∧ (((.bool true : Value) = .bool ((turnOf h).2.2)) ∧ True))) _ (by kernel_rfl) ⟨(congrArg (Value.int .i64) (by rw [turn_law (not_g n9), turn_some (i := i) (k := k) (by omega) (by omega) (turnP_fold h56) hA hB])), ⟨(congrArg (Value.int .i64) (by rw [turn_law (not_g n9), turn_some (i := i) (k := k) (by omega) (by omega) (turnP_fold h56) hA hB])), ⟨(congrArg Value.bool (by rw [turn_law (not_g n9), turn_some (i := i) (k := k) (by omega) (by omega) (turnP_fold h56) hA hB])), trivial⟩⟩⟩)
            · intro n56
              refine W.skip (blockQ_normal (thenQ_normal ?_))
              refine W.L cok tab60 hnt [] (⟨[(0, .sl (.calls h)), (5, .i ((i : Nat) : Int)), (6, .i (((k + 1) : Nat) : Int)), (20, .i ((k : Nat) : Int)), (21, .i (((k + 1) : Nat) : Int)), (56, .b ((((decide (((List.getD h i default).kind) = (2 : Int))) && (decide (((List.getD h k default).kind) = (2 : Int)))) && (isBefore (List.getD h i default) (List.getD h k default))) && (olderR h (sourceR h (h.getD ((k : Nat) : Int).toNat default).ret) (sourceR h (h.getD ((i : Nat) : Int).toNat default).ret))))], [], [999]⟩)
                (True ∧ ((True ∧ (True ∧ (Fits .i64 (((k + 1) : Nat) : Int)))) ∧ (True ∧ True))) (by kernel_rfl)
                ⟨trivial, ⟨⟨trivial, ⟨trivial, (by exact fits_i64 (by omega) (by omega))⟩⟩, ⟨trivial, trivial⟩⟩⟩ ?_
              refine thenQ_normal ?_
              refine ⟨((k + 1)), (show ((k + 1) ≤ h.length) ∧ (∀ j, j < (k + 1) → turnP h i j = false) from ⟨(by first | assumption | omega | rfl | (intro _ hjj; omega) | (simp; done) | (simp; omega)), (by exact upto_succ hB (turnP_fold n56))⟩), (show h.length - (k + 1) < h.length - k from (by first | omega | (simp_all; omega))), ?_⟩
              exact Sub.of [] (@cast ((((.calls h : Dat) = .calls h) ∧ (((.int .i64 ((i : Nat) : Int) : Value) = .int .i64 ((i : Nat) : Int)) ∧ (((.int .i64 (((k + 1) : Nat) : Int) : Value) = .int .i64 (((k + 1) : Nat) : Int)) ∧ True))) ∧ (True ∧ ((true = true) ∧ (true = true)))) _ (by kernel_rfl) ⟨⟨rfl, ⟨rfl, ⟨rfl, trivial⟩⟩⟩, ⟨trivial, ⟨rfl, rfl⟩⟩⟩)
          · intro n19
            refine W.exit (thenQ_exit (thenQ_exit (blockQ_hit ?_)))
            refine blockQ_normal (thenQ_normal ?_)
            refine W.L cok tab60 hnt [] (⟨[(0, .sl (.calls h)), (5, .i (((i + 1) : Nat) : Int)), (6, .i ((k : Nat) : Int)), (14, .i ((i : Nat) : Int)), (15, .i (((i + 1) : Nat) : Int)), (19, .b (decide (((k : Nat) : Int) < (((List.length h) : Nat) : Int))))], [], [999]⟩)
              (True ∧ ((True ∧ (True ∧ (Fits .i64 (((i + 1) : Nat) : Int)))) ∧ (True ∧ True))) (by kernel_rfl)
              ⟨trivial, ⟨⟨trivial, ⟨trivial, (by exact fits_i64 (by omega) (by omega))⟩⟩, ⟨trivial, trivial⟩⟩⟩ ?_
            refine thenQ_normal ?_
            refine ⟨((i + 1)), (show ((i + 1) ≤ h.length) ∧ (∀ j, j < (i + 1) → anyN h.length (turnP h j) = false) from ⟨(by first | assumption | omega | rfl | (intro _ hjj; omega) | (simp; done) | (simp; omega)), (by exact upto_succ hA (anyN_false (fun j hj => hB j (by omega))))⟩), (show h.length - (i + 1) < h.length - i from (by first | omega | (simp_all; omega))), ?_⟩
            exact Sub.of [] (@cast ((((.calls h : Dat) = .calls h) ∧ (((.int .i64 (((i + 1) : Nat) : Int) : Value) = .int .i64 (((i + 1) : Nat) : Int)) ∧ True)) ∧ (True ∧ ((true = true) ∧ (true = true)))) _ (by kernel_rfl) ⟨⟨rfl, ⟨rfl, trivial⟩⟩, ⟨trivial, ⟨rfl, rfl⟩⟩⟩)
      · intro n13
        refine W.exit (thenQ_exit (thenQ_exit (blockQ_hit ?_)))
        refine thenQ_normal ?_
        refine W.K cok tab60 hnt [] [2, 3, 4] (⟨[(2, .i (-1 : Int)), (3, .i (-1 : Int)), (4, .b false)], [], [999]⟩)
          (True ∧ (True ∧ (True ∧ True))) (by kernel_rfl)
          ⟨trivial, ⟨trivial, ⟨trivial, trivial⟩⟩⟩ ?_
        refine W.ret ?_
        exact endQ_ret (.tup [.i (-1 : Int), .i (-1 : Int), .b false]) (by kernel_rfl) (@cast (((.int .i64 (-1 : Int) : Value) = .int .i64 ((turnOf h).1)) ∧ (((.int .i64 (-1 : Int) : Value) = .int .i64 ((turnOf h).2.1)) ∧ (((.bool false : Value) = .bool ((turnOf h).2.2)) ∧ True))) _ (by kernel_rfl) ⟨(congrArg (Value.int .i64) (by rw [turn_law (not_g n9), turn_none (fun j hj => hA j (by omega))])), ⟨(congrArg (Value.int .i64) (by rw [turn_law (not_g n9), turn_none (fun j hj => hA j (by omega))])), ⟨(congrArg Value.bool (by rw [turn_law (not_g n9), turn_none (fun j hj => hA j (by omega))])), trivial⟩⟩⟩)
theorem ent60 : Entr prog 60 := ⟨_, func60, rfl, by decide⟩

end Go.Proofs.Try
