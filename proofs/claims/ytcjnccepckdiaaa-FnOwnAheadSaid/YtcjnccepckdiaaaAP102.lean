import Derived.Test.YtcjnccepckdiaaaAS
import Derived.Test.YtcjnccepckdiaaaM2
import Derived.Test.YtcjnccepckdiaaaAP62
set_option linter.unusedSimpArgs false
set_option linter.unusedVariables false
namespace Go.Proofs.Try
open Go.Ab Go.RowKit
/-- impl.OwnAhead$1 -/
def fs102 : FnS := fnS [.o, .o, .o] [.int, .int, (.ep .calls)] (fun _ (i, k, h, _) => (.b (ownF h i.toNat k.toNat), [], (0 ≤ i ∧ i < h.length) ∧ (0 ≤ k ∧ k < h.length)))
abbrev T102 : Tab := lk [(62, fs62)]
theorem tab102 : TabOK prog T102 := (TabOK.cons ok62 ent62 TabOK.nil)
set_option maxRecDepth 100000 in
set_option maxHeartbeats 1000000 in
theorem ok102 : FnOK prog 102 fs102 := by
  refine FnOK.mk func102 rfl rfl rfl ?_
  rintro fl ⟨(i : Int), (k : Int), (h : List CallD), _⟩ hpre F hnt0 _
  have hnt : F.nt = 28 := hnt0.trans ntmps102
  replace hpre : (0 ≤ i ∧ i < h.length) ∧ (0 ≤ k ∧ k < h.length) := hpre
  obtain ⟨hi, hk⟩ := hpre
  refine W.to (⟨[(0, .i i), (1, .i k), (2, .ep [.sl (.calls h)])], [], [999]⟩) rfl ?_
  refine W.K cok tab102 hnt [] [0, 1, 2] (⟨[(0, .i i), (1, .i k), (2, .ep [.sl (.calls h)])], [], [999]⟩)
    (True ∧ True) (by kernel_rfl)
    ⟨trivial, trivial⟩ ?_
  refine W.KA cok tab102 hnt [] [5] (⟨[(5, .b ((decide (((List.getD h (Int.toNat i) default).proc) = ((List.getD h (Int.toNat k) default).proc))) && (isBefore (List.getD h (Int.toNat k) default) (List.getD h (Int.toNat i) default))))], [], [999]⟩)
    (True ∧ (True ∧ ((True ∧ (True ∧ ((0 ≤ i) ∧ (i < (((List.length h) : Nat) : Int))))) ∧ (True ∧ (True ∧ (True ∧ (True ∧ ((True ∧ (True ∧ ((0 ≤ k) ∧ (k < (((List.length h) : Nat) : Int))))) ∧ (True ∧ (True ∧ ((True ∧ (True ∧ True)) ∧ (True ∧ (((decide (((List.getD h (Int.toNat i) default).proc) = ((List.getD h (Int.toNat k) default).proc))) = true → True) ∧ (((decide (((List.getD h (Int.toNat i) default).proc) = ((List.getD h (Int.toNat k) default).proc))) = true → True) ∧ (((decide (((List.getD h (Int.toNat i) default).proc) = ((List.getD h (Int.toNat k) default).proc))) = true → ((((decide (((List.getD h (Int.toNat i) default).proc) = ((List.getD h (Int.toNat k) default).proc))) = true) ∧ True) ∧ ((((decide (((List.getD h (Int.toNat i) default).proc) = ((List.getD h (Int.toNat k) default).proc))) = true) ∧ True) ∧ ((0 ≤ k) ∧ (k < (((List.length h) : Nat) : Int)))))) ∧ (((decide (((List.getD h (Int.toNat i) default).proc) = ((List.getD h (Int.toNat k) default).proc))) = true → (((decide (((List.getD h (Int.toNat i) default).proc) = ((List.getD h (Int.toNat k) default).proc))) = true) ∧ True)) ∧ (((decide (((List.getD h (Int.toNat i) default).proc) = ((List.getD h (Int.toNat k) default).proc))) = true → True) ∧ (((decide (((List.getD h (Int.toNat i) default).proc) = ((List.getD h (Int.toNat k) default).proc))) = true → True) ∧ (((decide (((List.getD h (Int.toNat i) default).proc) = ((List.getD h (Int.toNat k) default).proc))) = true → ((((decide (((List.getD h (Int.toNat i) default).proc) = ((List.getD h (Int.toNat k) default).proc))) = true) ∧ True) ∧ ((((decide (((List.getD h (Int.toNat i) default).proc) = ((List.getD h (Int.toNat k) default).proc))) = true) ∧ True) ∧ ((0 ≤ i) ∧ (i < (((List.length h) : Nat) : Int)))))) ∧ (((decide (((List.getD h (Int.toNat i) default).proc) = ((List.getD h (Int.toNat k) default).proc))) = true → (((decide (((List.getD h (Int.toNat i) default).proc) = ((List.getD h (Int.toNat k) default).proc))) = true) ∧ True)) ∧ (((decide (((List.getD h (Int.toNat i) default).proc) = ((List.getD h (Int.toNat k) default).proc))) = true → (True ∧ (((((decide (((List.getD h (Int.toNat i) default).proc) = ((List.getD h (Int.toNat k) default).proc))) = true) ∧ True) ∧ ((((decide (((List.getD h (Int.toNat i) default).proc) = ((List.getD h (Int.toNat k) default).proc))) = true) ∧ True) ∧ True)) ∧ True))) ∧ ((True ∧ (((decide (((List.getD h (Int.toNat i) default).proc) = ((List.getD h (Int.toNat k) default).proc))) = true → ((decide (((List.getD h (Int.toNat i) default).proc) = ((List.getD h (Int.toNat k) default).proc))) = true) ∧ True) ∧ ((decide (((List.getD h (Int.toNat i) default).proc) = ((List.getD h (Int.toNat k) default).proc))) = false → True))) ∧ (True ∧ True))))))))))))))))))))))) (by kernel_rfl) (by kernel_rfl)
    ⟨trivial, ⟨trivial, ⟨⟨trivial, ⟨trivial, ⟨(by omega), (by omega)⟩⟩⟩, ⟨trivial, ⟨trivial, ⟨trivial, ⟨trivial, ⟨⟨trivial, ⟨trivial, ⟨(by omega), (by omega)⟩⟩⟩, ⟨trivial, ⟨trivial, ⟨⟨trivial, ⟨trivial, trivial⟩⟩, ⟨trivial, ⟨(fun _ => trivial), ⟨(fun _ => trivial), ⟨(fun hG => ⟨⟨hG, trivial⟩, ⟨⟨hG, trivial⟩, ⟨(by have hg0 : ((List.getD h (Int.toNat i) default).proc) = ((List.getD h (Int.toNat k) default).proc) := of_decide_eq_true hG; omega), (by have hg0 : ((List.getD h (Int.toNat i) default).proc) = ((List.getD h (Int.toNat k) default).proc) := of_decide_eq_true hG; omega)⟩⟩⟩), ⟨(fun hG => ⟨hG, trivial⟩), ⟨(fun _ => trivial), ⟨(fun _ => trivial), ⟨(fun hG => ⟨⟨hG, trivial⟩, ⟨⟨hG, trivial⟩, ⟨(by have hg0 : ((List.getD h (Int.toNat i) default).proc) = ((List.getD h (Int.toNat k) default).proc) := of_decide_eq_true hG; omega), (by have hg0 : ((List.getD h (Int.toNat i) default).proc) = ((List.getD h (Int.toNat k) default).proc) := of_decide_eq_true hG; omega)⟩⟩⟩), ⟨(fun hG => ⟨hG, trivial⟩), ⟨(fun hG => ⟨trivial, ⟨⟨⟨hG, trivial⟩, ⟨⟨hG, trivial⟩, trivial⟩⟩, trivial⟩⟩), ⟨⟨trivial, ⟨(fun hp => ⟨hp, trivial⟩), (fun _ => trivial)⟩⟩, ⟨trivial, trivial⟩⟩⟩⟩⟩⟩⟩⟩⟩⟩⟩⟩⟩⟩⟩⟩⟩⟩⟩⟩⟩⟩⟩ ?_
  refine W.ret ?_
  exact endQ_ret (.b ((decide (((List.getD h (Int.toNat i) default).proc) = ((List.getD h (Int.toNat k) default).proc))) && (isBefore (List.getD h (Int.toNat k) default) (List.getD h (Int.toNat i) default)))) (by kernel_rfl) (@cast ((.bool ((decide (((List.getD h (Int.toNat i) default).proc) = ((List.getD h (Int.toNat k) default).proc))) && (isBefore (List.getD h (Int.toNat k) default) (List.getD h (Int.toNat i) default))) : Value) = .bool (ownF h i.toNat k.toNat)) _ (by kernel_rfl) (congrArg Value.bool (by first | rfl | simp_all)))
theorem ent102 : Entr prog 102 := ⟨_, func102, rfl, by decide⟩

end Go.Proofs.Try
