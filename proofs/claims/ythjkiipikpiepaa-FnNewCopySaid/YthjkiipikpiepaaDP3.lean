import Derived.Test.YthjkiipikpiepaaDS
import Derived.Test.YthjkiipikpiepaaM9
import Derived.Test.YthjkiipikpiepaaDP4
import Derived.Test.YthjkiipikpiepaaDP6
import Derived.Test.YthjkiipikpiepaaDP5new
import Derived.Test.YthjkiipikpiepaaDP7
import Derived.Test.YthjkiipikpiepaaDP8
import Derived.Test.YthjkiipikpiepaaDP9zero
set_option linter.unusedSimpArgs false
set_option linter.unusedVariables false
namespace Go.Proofs.Try
open Go.Ab Go.RowKit
/-- laws.FnNewCopy -/
def fs3 : FnS := fnS [.s .bytes] [.bytes] (fun _ (code, _) => (.b true, [], True))
abbrev T3 : Tab := lk [(4, fs4), (5, fs5new), (6, fs6), (7, fs7), (8, fs8), (9, fs9zero)]
theorem tab3 : TabOK prog T3 := (TabOK.cons ok4 ent4 (TabOK.cons ok5new ent5new (TabOK.cons ok6 ent6 (TabOK.cons ok7 ent7 (TabOK.cons ok8 ent8 (TabOK.cons ok9zero ent9zero TabOK.nil))))))
set_option maxRecDepth 100000 in
set_option maxHeartbeats 1000000 in
theorem ok3 : FnOK prog 3 fs3 := by
  refine FnOK.mk cok func3 rfl rfl rfl ?_
  rintro fl ⟨(code : List UInt8), _⟩ hpre F hnt0 _
  have hnt : F.nt = 25 := hnt0.trans ntmps3
  clear hpre
  refine W.to (⟨[(0, .sl (.bytes code))], [], [999]⟩) rfl ?_
  refine W.lenOf 0 (.bytes code) (by kernel_rfl) ?_
  intro hl_code; replace hl_code : List.length code ≤ 9223372036854775807 := hl_code
  refine W.K cok tab3 hnt [] [0] (⟨[(0, .sl (.bytes code))], [], [999]⟩)
    (True ∧ True) (by kernel_rfl)
    ⟨trivial, trivial⟩ ?_
  refine W.seq ?_
  refine W.K cok tab3 hnt [] [6] (⟨[(6, .b (decide ((1048576 : Int) < (((List.length code) : Nat) : Int))))], [], [999]⟩)
    (True ∧ (True ∧ ((True ∧ (True ∧ True)) ∧ True))) (by kernel_rfl)
    ⟨trivial, ⟨trivial, ⟨⟨trivial, ⟨trivial, trivial⟩⟩, trivial⟩⟩⟩ ?_
  refine W.ifP ((1048576 : Int) < (((List.length code) : Nat) : Int)) (.b (decide ((1048576 : Int) < (((List.length code) : Nat) : Int)))) (by kernel_rfl) rfl trivial ?_ ?_
  · intro h6
    refine W.K cok tab3 hnt [] [2] (⟨[(2, .b true)], [], [999]⟩)
      (True ∧ True) (by kernel_rfl)
      ⟨trivial, trivial⟩ ?_
    refine W.ret (thenQ_ret ?_)
    exact endQ_ret (.b true) (by kernel_rfl) (@cast ((.bool true : Value) = .bool true) _ (by kernel_rfl) rfl)
  · intro n6
    refine W.skip (thenQ_normal ?_)
    refine W.K cok tab3 hnt [] [3] (⟨[(3, .ptr 3 0)], [(3, ⟨26, .fix [.sl (.ints newC.up), .sl (.ints newC.down), .i newC.value, .i newC.time, .i newC.proc, .sl (.marks newC.marks)]⟩)], [3, 999]⟩)
      ((True ∧ (True ∧ True)) ∧ (True ∧ ((True ∧ True) ∧ True))) (by kernel_rfl)
      ⟨⟨trivial, ⟨trivial, trivial⟩⟩, ⟨trivial, ⟨⟨trivial, trivial⟩, trivial⟩⟩⟩ ?_
    refine W.seq ?_
    refine W.KA cok tab3 hnt [] [3, 11] (⟨[(3, .ptr 3 0), (11, .b (!((((decide (newC.up = newC.up) && decide (newC.down = newC.down)) && decide (newC.value = newC.value)) && decide (newC.time = newC.time)) && decide (newC.proc = newC.proc))))], [(3, ⟨26, .fix [.sl (.ints newC.up), .sl (.ints newC.down), .i newC.value, .i newC.time, .i newC.proc, .sl (.marks newC.marks)]⟩)], [3, 999]⟩)
      (True ∧ ((True ∧ (True ∧ True)) ∧ ((True ∧ (((True ∧ (True ∧ (True ∧ (True ∧ (True ∧ (True ∧ (True ∧ True))))))) ∧ ((True ∧ (True ∧ (True ∧ (True ∧ (True ∧ (True ∧ (True ∧ True))))))) ∧ True)) ∧ ((newC.marks.length = 0) ∧ (newC.marks.length = 0)))) ∧ (True ∧ True)))) (by kernel_rfl) (by kernel_rfl)
      ⟨trivial, ⟨⟨trivial, ⟨trivial, trivial⟩⟩, ⟨⟨trivial, ⟨⟨⟨trivial, ⟨trivial, ⟨trivial, ⟨trivial, ⟨trivial, ⟨trivial, ⟨trivial, trivial⟩⟩⟩⟩⟩⟩⟩, ⟨⟨trivial, ⟨trivial, ⟨trivial, ⟨trivial, ⟨trivial, ⟨trivial, ⟨trivial, trivial⟩⟩⟩⟩⟩⟩⟩, trivial⟩⟩, ⟨(by rfl), (by rfl)⟩⟩⟩, ⟨trivial, trivial⟩⟩⟩⟩ ?_
    refine W.if' (!((((decide (newC.up = newC.up) && decide (newC.down = newC.down)) && decide (newC.value = newC.value)) && decide (newC.time = newC.time)) && decide (newC.proc = newC.proc))) (.b (!((((decide (newC.up = newC.up) && decide (newC.down = newC.down)) && decide (newC.value = newC.value)) && decide (newC.time = newC.time)) && decide (newC.proc = newC.proc)))) (by kernel_rfl) rfl trivial ?_ ?_
    · intro h11
      exact (show False from (by simp at h11)).elim
    · intro n11
      refine W.skip (thenQ_normal ?_)
      refine W.K cok tab3 hnt [] [2] (⟨[(2, .b (((validCopy newC) && (decide ((totalOf newC) = (0 : Int)))) && (decide ((((List.length ([] : List Int)) : Nat) : Int) = (0 : Int)))))], [(3, ⟨26, .fix [.sl (.ints newC.up), .sl (.ints newC.down), .i newC.value, .i newC.time, .i newC.proc, .sl (.marks newC.marks)]⟩)], [3, 999]⟩)
        (True ∧ ((True ∧ (((True ∧ (True ∧ (True ∧ (True ∧ (True ∧ (True ∧ (True ∧ True))))))) ∧ True) ∧ True)) ∧ (True ∧ (((validCopy newC) = true → True) ∧ (((validCopy newC) = true → (True ∧ ((((((validCopy newC) = true) ∧ True) ∧ (True ∧ (True ∧ (True ∧ (True ∧ (True ∧ (True ∧ True))))))) ∧ True) ∧ True))) ∧ (((validCopy newC) = true → ((((validCopy newC) = true) ∧ True) ∧ (True ∧ True))) ∧ ((True ∧ (((validCopy newC) = true → ((validCopy newC) = true) ∧ True) ∧ ((validCopy newC) = false → True))) ∧ (True ∧ ((((validCopy newC) && (decide ((totalOf newC) = (0 : Int)))) = true → True) ∧ ((((validCopy newC) && (decide ((totalOf newC) = (0 : Int)))) = true → (True ∧ (((((((validCopy newC) && (decide ((totalOf newC) = (0 : Int)))) = true) ∧ True) ∧ (True ∧ (True ∧ (True ∧ (True ∧ (True ∧ (True ∧ True))))))) ∧ True) ∧ ((validCopy newC = true) ∧ (newC.marks.length = 0))))) ∧ ((((validCopy newC) && (decide ((totalOf newC) = (0 : Int)))) = true → ((((validCopy newC) && (decide ((totalOf newC) = (0 : Int)))) = true) ∧ True)) ∧ ((((validCopy newC) && (decide ((totalOf newC) = (0 : Int)))) = true → (((((validCopy newC) && (decide ((totalOf newC) = (0 : Int)))) = true) ∧ True) ∧ (True ∧ True))) ∧ ((True ∧ ((((validCopy newC) && (decide ((totalOf newC) = (0 : Int)))) = true → (((validCopy newC) && (decide ((totalOf newC) = (0 : Int)))) = true) ∧ True) ∧ (((validCopy newC) && (decide ((totalOf newC) = (0 : Int)))) = false → True))) ∧ (True ∧ True)))))))))))))) (by kernel_rfl)
        ⟨trivial, ⟨⟨trivial, ⟨⟨⟨trivial, ⟨trivial, ⟨trivial, ⟨trivial, ⟨trivial, ⟨trivial, ⟨trivial, trivial⟩⟩⟩⟩⟩⟩⟩, trivial⟩, trivial⟩⟩, ⟨trivial, ⟨(fun _ => trivial), ⟨(fun hG => ⟨trivial, ⟨⟨⟨⟨hG, trivial⟩, ⟨trivial, ⟨trivial, ⟨trivial, ⟨trivial, ⟨trivial, ⟨trivial, trivial⟩⟩⟩⟩⟩⟩⟩, trivial⟩, trivial⟩⟩), ⟨(fun hG => ⟨⟨hG, trivial⟩, ⟨trivial, trivial⟩⟩), ⟨⟨trivial, ⟨(fun hp => ⟨hp, trivial⟩), (fun _ => trivial)⟩⟩, ⟨trivial, ⟨(fun _ => trivial), ⟨(fun hG => ⟨trivial, ⟨⟨⟨⟨hG, trivial⟩, ⟨trivial, ⟨trivial, ⟨trivial, ⟨trivial, ⟨trivial, ⟨trivial, trivial⟩⟩⟩⟩⟩⟩⟩, trivial⟩, ⟨(by have hg0 : (totalOf newC) = (0 : Int) := of_decide_eq_true (and_r hG); exact newC_valid), (by have hg0 : (totalOf newC) = (0 : Int) := of_decide_eq_true (and_r hG); rfl)⟩⟩⟩), ⟨(fun hG => ⟨hG, trivial⟩), ⟨(fun hG => ⟨⟨hG, trivial⟩, ⟨trivial, trivial⟩⟩), ⟨⟨trivial, ⟨(fun hp => ⟨hp, trivial⟩), (fun _ => trivial)⟩⟩, ⟨trivial, trivial⟩⟩⟩⟩⟩⟩⟩⟩⟩⟩⟩⟩⟩⟩ ?_
      refine W.ret ?_
      exact endQ_ret (.b (((validCopy newC) && (decide ((totalOf newC) = (0 : Int)))) && (decide ((((List.length ([] : List Int)) : Nat) : Int) = (0 : Int))))) (by kernel_rfl) (@cast ((.bool (((validCopy newC) && (decide ((totalOf newC) = (0 : Int)))) && (decide ((((List.length ([] : List Int)) : Nat) : Int) = (0 : Int)))) : Value) = .bool true) _ (by kernel_rfl) (congrArg Value.bool (by first | rfl | exact new_final | (simp; done))))
theorem ent3 : Entr prog 3 := ⟨_, func3, rfl, by decide⟩

end Go.Proofs.Try
