import Derived.Test.YtcjnccepckdiaaaAS
import Derived.Test.YtcjnccepckdiaaaM2
import Derived.Test.YtcjnccepckdiaaaAP62
set_option linter.unusedSimpArgs false
set_option linter.unusedVariables false
namespace Go.Proofs.Try
open Go.Ab Go.RowKit
/-- impl.AheadOf$1 -/
def fs100 : FnS := fnS [.o, .o, .o] [.int, .int, (.ep .calls)] (fun _ (i, k, h, _) => (.b (aheadF h i.toNat k.toNat), [], (0 ≤ i ∧ i < h.length) ∧ (0 ≤ k ∧ k < h.length)))
abbrev T100 : Tab := lk [(62, fs62)]
theorem tab100 : TabOK prog T100 := (TabOK.cons ok62 ent62 TabOK.nil)
set_option maxRecDepth 100000 in
set_option maxHeartbeats 1000000 in
theorem ok100 : FnOK prog 100 fs100 := by
  refine FnOK.mk func100 rfl rfl rfl ?_
  rintro fl ⟨(i : Int), (k : Int), (h : List CallD), _⟩ hpre F hnt0 _
  have hnt : F.nt = 15 := hnt0.trans ntmps100
  replace hpre : (0 ≤ i ∧ i < h.length) ∧ (0 ≤ k ∧ k < h.length) := hpre
  obtain ⟨hi, hk⟩ := hpre
  refine W.to (⟨[(0, .i i), (1, .i k), (2, .ep [.sl (.calls h)])], [], [999]⟩) rfl ?_
  refine W.K cok tab100 hnt [] [0, 1, 2] (⟨[(0, .i i), (1, .i k), (2, .ep [.sl (.calls h)])], [], [999]⟩)
    (True ∧ True) (by kernel_rfl)
    ⟨trivial, trivial⟩ ?_
  refine W.KA cok tab100 hnt [] [5] (⟨[(5, .b (isBefore (List.getD h (Int.toNat k) default) (List.getD h (Int.toNat i) default)))], [], [999]⟩)
    (True ∧ (True ∧ ((True ∧ (True ∧ ((0 ≤ k) ∧ (k < (((List.length h) : Nat) : Int))))) ∧ (True ∧ (True ∧ (True ∧ ((True ∧ (True ∧ ((0 ≤ i) ∧ (i < (((List.length h) : Nat) : Int))))) ∧ (True ∧ ((True ∧ ((True ∧ (True ∧ True)) ∧ True)) ∧ (True ∧ True)))))))))) (by kernel_rfl) (by kernel_rfl)
    ⟨trivial, ⟨trivial, ⟨⟨trivial, ⟨trivial, ⟨(by omega), (by omega)⟩⟩⟩, ⟨trivial, ⟨trivial, ⟨trivial, ⟨⟨trivial, ⟨trivial, ⟨(by omega), (by omega)⟩⟩⟩, ⟨trivial, ⟨⟨trivial, ⟨⟨trivial, ⟨trivial, trivial⟩⟩, trivial⟩⟩, ⟨trivial, trivial⟩⟩⟩⟩⟩⟩⟩⟩⟩⟩ ?_
  refine W.ret ?_
  exact endQ_ret (.b (isBefore (List.getD h (Int.toNat k) default) (List.getD h (Int.toNat i) default))) (by kernel_rfl) (@cast ((.bool (isBefore (List.getD h (Int.toNat k) default) (List.getD h (Int.toNat i) default)) : Value) = .bool (aheadF h i.toNat k.toNat)) _ (by kernel_rfl) (congrArg Value.bool (by first | rfl | simp_all)))
theorem ent100 : Entr prog 100 := ⟨_, func100, rfl, by decide⟩

end Go.Proofs.Try
