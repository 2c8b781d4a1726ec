import Derived.Test.YtcjnccepckdiaaaAS
import Derived.Test.YtcjnccepckdiaaaM5
import Derived.Test.YtcjnccepckdiaaaAP113
set_option linter.unusedSimpArgs false
set_option linter.unusedVariables false
namespace Go.Proofs.Try
open Go.Ab Go.RowKit
/-- spec.older -/
def fs114 : FnS := fnS [.s .calls, .o, .o] [.calls, .int, .int] (fun _ (h, a, b, _) => (.b (olderR h a b), [], (a < h.length) ∧ (b < h.length)))
abbrev T114 : Tab := lk [(113, fs113)]
theorem tab114 : TabOK prog T114 := (TabOK.cons ok113 ent113 TabOK.nil)
set_option maxRecDepth 100000 in
set_option maxHeartbeats 1000000 in
theorem ok114 : FnOK prog 114 fs114 := by
  refine FnOK.mk func114 rfl rfl rfl ?_
  rintro fl ⟨(h : List CallD), (a : Int), (b : Int), _⟩ hpre F hnt0 _
  have hnt : F.nt = 26 := hnt0.trans ntmps114
  replace hpre : (a < h.length) ∧ (b < h.length) := hpre
  obtain ⟨ha, hb⟩ := hpre
  refine W.to (⟨[(0, .sl (.calls h)), (1, .i a), (2, .i b)], [], [999]⟩) rfl ?_
  refine W.lenOf 0 (.calls h) (by kernel_rfl) ?_
  intro hl_h; replace hl_h : List.length h ≤ 9223372036854775807 := hl_h
  refine W.K cok tab114 hnt [] [0, 1, 2] (⟨[(0, .sl (.calls h)), (1, .i a), (2, .i b)], [], [999]⟩)
    (True ∧ True) (by kernel_rfl)
    ⟨trivial, trivial⟩ ?_
  refine W.seq ?_
  refine W.K cok tab114 hnt [] [0, 1, 2, 8] (⟨[(0, .sl (.calls h)), (1, .i a), (2, .i b), (8, .b (decide (b < (0 : Int))))], [], [999]⟩)
    (True ∧ ((True ∧ (True ∧ True)) ∧ True)) (by kernel_rfl)
    ⟨trivial, ⟨⟨trivial, ⟨trivial, trivial⟩⟩, trivial⟩⟩ ?_
  refine W.ifP (b < (0 : Int)) (.b (decide (b < (0 : Int)))) (by kernel_rfl) rfl trivial ?_ ?_
  · intro h8
    refine W.K cok tab114 hnt [] [6] (⟨[(6, .b false)], [], [999]⟩)
      (True ∧ True) (by kernel_rfl)
      ⟨trivial, trivial⟩ ?_
    refine W.ret (thenQ_ret ?_)
    exact endQ_ret (.b false) (by kernel_rfl) (@cast ((.bool false : Value) = .bool (olderR h a b)) _ (by kernel_rfl) (congrArg Value.bool (by unfold olderR; rw [decide_eq_true h8]; rfl)))
  · intro n8
    refine W.skip (thenQ_normal ?_)
    refine W.KA cok tab114 hnt [] [6] (⟨[(6, .b ((decide (a = (-1 : Int))) || ((decide ((0 : Int) ≤ a)) && (isBefore (List.getD h (Int.toNat a) default) (List.getD h (Int.toNat b) default)))))], [], [999]⟩)
      (True ∧ ((True ∧ (True ∧ True)) ∧ (True ∧ (((!(decide (a = (-1 : Int)))) = true → True) ∧ (((!(decide (a = (-1 : Int)))) = true → ((((!(decide (a = (-1 : Int)))) = true) ∧ True) ∧ (True ∧ True))) ∧ (((!(decide (a = (-1 : Int)))) = true → True) ∧ ((((!(decide (a = (-1 : Int)))) && ((!(decide (a = (-1 : Int)))) && (decide ((0 : Int) ≤ a)))) = true → True) ∧ ((((!(decide (a = (-1 : Int)))) && ((!(decide (a = (-1 : Int)))) && (decide ((0 : Int) ≤ a)))) = true → True) ∧ ((((!(decide (a = (-1 : Int)))) && ((!(decide (a = (-1 : Int)))) && (decide ((0 : Int) ≤ a)))) = true → (((((!(decide (a = (-1 : Int)))) && ((!(decide (a = (-1 : Int)))) && (decide ((0 : Int) ≤ a)))) = true) ∧ True) ∧ (((((!(decide (a = (-1 : Int)))) && ((!(decide (a = (-1 : Int)))) && (decide ((0 : Int) ≤ a)))) = true) ∧ True) ∧ ((0 ≤ a) ∧ (a < (((List.length h) : Nat) : Int)))))) ∧ ((((!(decide (a = (-1 : Int)))) && ((!(decide (a = (-1 : Int)))) && (decide ((0 : Int) ≤ a)))) = true → ((((!(decide (a = (-1 : Int)))) && ((!(decide (a = (-1 : Int)))) && (decide ((0 : Int) ≤ a)))) = true) ∧ True)) ∧ ((((!(decide (a = (-1 : Int)))) && ((!(decide (a = (-1 : Int)))) && (decide ((0 : Int) ≤ a)))) = true → True) ∧ ((((!(decide (a = (-1 : Int)))) && ((!(decide (a = (-1 : Int)))) && (decide ((0 : Int) ≤ a)))) = true → True) ∧ ((((!(decide (a = (-1 : Int)))) && ((!(decide (a = (-1 : Int)))) && (decide ((0 : Int) ≤ a)))) = true → (((((!(decide (a = (-1 : Int)))) && ((!(decide (a = (-1 : Int)))) && (decide ((0 : Int) ≤ a)))) = true) ∧ True) ∧ (((((!(decide (a = (-1 : Int)))) && ((!(decide (a = (-1 : Int)))) && (decide ((0 : Int) ≤ a)))) = true) ∧ True) ∧ ((0 ≤ b) ∧ (b < (((List.length h) : Nat) : Int)))))) ∧ ((((!(decide (a = (-1 : Int)))) && ((!(decide (a = (-1 : Int)))) && (decide ((0 : Int) ≤ a)))) = true → ((((!(decide (a = (-1 : Int)))) && ((!(decide (a = (-1 : Int)))) && (decide ((0 : Int) ≤ a)))) = true) ∧ True)) ∧ ((((!(decide (a = (-1 : Int)))) && ((!(decide (a = (-1 : Int)))) && (decide ((0 : Int) ≤ a)))) = true → (True ∧ ((((((!(decide (a = (-1 : Int)))) && ((!(decide (a = (-1 : Int)))) && (decide ((0 : Int) ≤ a)))) = true) ∧ True) ∧ (((((!(decide (a = (-1 : Int)))) && ((!(decide (a = (-1 : Int)))) && (decide ((0 : Int) ≤ a)))) = true) ∧ True) ∧ True)) ∧ True))) ∧ (((!(decide (a = (-1 : Int)))) = true → ((((!(decide (a = (-1 : Int)))) = true) ∧ (((!(decide (a = (-1 : Int)))) = true) ∧ True)) ∧ (((decide ((0 : Int) ≤ a)) = true → (((!(decide (a = (-1 : Int)))) && ((!(decide (a = (-1 : Int)))) && (decide ((0 : Int) ≤ a)))) = true) ∧ True) ∧ ((decide ((0 : Int) ≤ a)) = false → True)))) ∧ ((True ∧ (((decide (a = (-1 : Int))) = true → True) ∧ ((decide (a = (-1 : Int))) = false → ((!(decide (a = (-1 : Int)))) = true) ∧ True))) ∧ (True ∧ True)))))))))))))))))) (by kernel_rfl) (by kernel_rfl)
      ⟨trivial, ⟨⟨trivial, ⟨trivial, trivial⟩⟩, ⟨trivial, ⟨(fun _ => trivial), ⟨(fun hG => ⟨⟨hG, trivial⟩, ⟨trivial, trivial⟩⟩), ⟨(fun _ => trivial), ⟨(fun _ => trivial), ⟨(fun _ => trivial), ⟨(fun hG => ⟨⟨hG, trivial⟩, ⟨⟨hG, trivial⟩, ⟨(by have hg0 : ¬ (a = (-1 : Int)) := of_decide_eq_false (not_f (and_l hG)); have hg1 : ¬ (a = (-1 : Int)) := of_decide_eq_false (not_f (and_l (and_r hG))); have hg2 : (0 : Int) ≤ a := of_decide_eq_true (and_r (and_r hG)); omega), (by have hg0 : ¬ (a = (-1 : Int)) := of_decide_eq_false (not_f (and_l hG)); have hg1 : ¬ (a = (-1 : Int)) := of_decide_eq_false (not_f (and_l (and_r hG))); have hg2 : (0 : Int) ≤ a := of_decide_eq_true (and_r (and_r hG)); omega)⟩⟩⟩), ⟨(fun hG => ⟨hG, trivial⟩), ⟨(fun _ => trivial), ⟨(fun _ => trivial), ⟨(fun hG => ⟨⟨hG, trivial⟩, ⟨⟨hG, trivial⟩, ⟨(by have hg0 : ¬ (a = (-1 : Int)) := of_decide_eq_false (not_f (and_l hG)); have hg1 : ¬ (a = (-1 : Int)) := of_decide_eq_false (not_f (and_l (and_r hG))); have hg2 : (0 : Int) ≤ a := of_decide_eq_true (and_r (and_r hG)); omega), (by have hg0 : ¬ (a = (-1 : Int)) := of_decide_eq_false (not_f (and_l hG)); have hg1 : ¬ (a = (-1 : Int)) := of_decide_eq_false (not_f (and_l (and_r hG))); have hg2 : (0 : Int) ≤ a := of_decide_eq_true (and_r (and_r hG)); omega)⟩⟩⟩), ⟨(fun hG => ⟨hG, trivial⟩), ⟨(fun hG => ⟨trivial, ⟨⟨⟨hG, trivial⟩, ⟨⟨hG, trivial⟩, trivial⟩⟩, trivial⟩⟩), ⟨(fun hG => ⟨⟨hG, ⟨hG, trivial⟩⟩, ⟨(fun hp => ⟨(and_t hG (and_t hG hp)), trivial⟩), (fun _ => trivial)⟩⟩), ⟨⟨trivial, ⟨(fun _ => trivial), (fun hp => ⟨(not_t hp), trivial⟩)⟩⟩, ⟨trivial, trivial⟩⟩⟩⟩⟩⟩⟩⟩⟩⟩⟩⟩⟩⟩⟩⟩⟩⟩ ?_
    refine W.ret ?_
    exact endQ_ret (.b ((decide (a = (-1 : Int))) || ((decide ((0 : Int) ≤ a)) && (isBefore (List.getD h (Int.toNat a) default) (List.getD h (Int.toNat b) default))))) (by kernel_rfl) (@cast ((.bool ((decide (a = (-1 : Int))) || ((decide ((0 : Int) ≤ a)) && (isBefore (List.getD h (Int.toNat a) default) (List.getD h (Int.toNat b) default)))) : Value) = .bool (olderR h a b)) _ (by kernel_rfl) (congrArg Value.bool (by unfold olderR; rw [decide_eq_false n8]; rfl)))
theorem ent114 : Entr prog 114 := ⟨_, func114, rfl, by decide⟩

end Go.Proofs.Try
