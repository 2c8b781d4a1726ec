import Derived.Test.YtcjnccepckdiaaaAS
import Derived.Test.YtcjnccepckdiaaaM1
import Derived.Test.YtcjnccepckdiaaaAP120
set_option linter.unusedSimpArgs false
set_option linter.unusedVariables false
namespace Go.Proofs.Try
open Go.Ab Go.RowKit
/-- spec.aName -/
def pre67 : List AV → List AV → Prop := preP [] [.bytes, .int] (fun _ (l, p, _) => (0 ≤ p ∧ p ≤ 1000000))
def rel67 : RelS := relP [] [.bytes, .int] (ι := ByteArray × Int) (fun _ (l, p, _) (v, q) => (q = p + 1)) (fun _ (l, p, _) (v, q) => (.v (.string v), [], [.sl (.bytes l), .i q]))
abbrev T67 : Tab := lk []
theorem tab67 : TabOK prog T67 := TabOK.nil
set_option maxRecDepth 100000 in
set_option maxHeartbeats 1000000 in
theorem rok67 : RelOK prog 67 (some 86) [] pre67 rel67 := by
  refine RelOK.mk cok func67 rfl rfl rfl ?_
  rintro _ ⟨(l : List UInt8), (p : Int), _⟩ hpre F hnt0
  have hnt : F.nt = 6 := hnt0.trans ntmps67
  replace hpre : (0 ≤ p ∧ p ≤ 1000000) := hpre
  have hp := hpre
  refine W.to (⟨[(0, .ptr 998 0)], [(998, ⟨86, .fix [.sl (.bytes l), .i p]⟩)], [998, 999]⟩) rfl ?_
  refine W.K cok tab67 hnt [] [0] (⟨[(0, .ptr 998 0)], [(998, ⟨86, .fix [.sl (.bytes l), .i p]⟩)], [998, 999]⟩)
    (True ∧ True) (by kernel_rfl)
    ⟨trivial, trivial⟩ ?_
  refine W.seq (W.wi ?_)
  refine WI.run cok tab67 hnt [] 2 (⟨[(0, .ptr 998 0), (3, .ptr 998 0), (4, .sl (.strs ([nRegister, nQueue, nStack, nCounter, nSet, nMost, nRegister, nQueue, nStack, nCounter, nSet, nEmpty])))], [(998, ⟨86, .fix [.sl (.bytes l), .i p]⟩)], [4, 998, 999]⟩)
    (True ∧ ((True ∧ (True ∧ (True ∧ (True ∧ (True ∧ (True ∧ (True ∧ (True ∧ (True ∧ (True ∧ (True ∧ (True ∧ True)))))))))))) ∧ True)) (by kernel_rfl)
    ⟨trivial, ⟨⟨trivial, ⟨trivial, ⟨trivial, ⟨trivial, ⟨trivial, ⟨trivial, ⟨trivial, ⟨trivial, ⟨trivial, ⟨trivial, ⟨trivial, ⟨trivial, trivial⟩⟩⟩⟩⟩⟩⟩⟩⟩⟩⟩⟩, trivial⟩⟩ ?_
  refine WI.to (⟨[(0, .ptr 998 0), (3, .ptr 998 0), (4, .sl (.strs ([nRegister, nQueue, nStack, nCounter, nSet, nMost, nRegister, nQueue, nStack, nCounter, nSet, nEmpty])))], [(998, ⟨86, .fix [.sl (.bytes l), .i p]⟩)], [4, 998, 999]⟩) 2 rfl rfl ?_
  refine WI.call [.ptr 998 0, .sl (.strs ([nRegister, nQueue, nStack, nCounter, nSet, nMost, nRegister, nQueue, nStack, nCounter, nSet, nEmpty]))] [.sl (.bytes l), .i p] [.sl (.strs ([nRegister, nQueue, nStack, nCounter, nSet, nMost, nRegister, nQueue, nStack, nCounter, nSet, nEmpty]))] [.sl (.strs ([nRegister, nQueue, nStack, nCounter, nSet, nMost, nRegister, nQueue, nStack, nCounter, nSet, nEmpty]))] (some (86, 998)) (True) (True ∧ True) none rok120 ent120 hnt rfl rfl (wanted_none rfl) (by kernel_rfl) (by kernel_rfl) (by kernel_rfl) ⟨trivial, ⟨trivial, trivial⟩⟩
    (@cast ((0 ≤ p ∧ p ≤ 1000000) ∧ ((0 < ([nRegister, nQueue, nStack, nCounter, nSet, nMost, nRegister, nQueue, nStack, nCounter, nSet, nEmpty]).length) ∧ (([nRegister, nQueue, nStack, nCounter, nSet, nMost, nRegister, nQueue, nStack, nCounter, nSet, nEmpty]).length ≤ 1000))) _ (by kernel_rfl) ⟨(by omega), ⟨(by (first | omega | (simp only [List.length_append, List.length_cons, List.length_nil, List.length_take, List.length_drop, List.length_set, List.length_replicate, List.length_map] at *; omega) | assumption)), (by (first | omega | (simp only [List.length_append, List.length_cons, List.length_nil, List.length_take, List.length_drop, List.length_set, List.length_replicate, List.length_map] at *; omega) | assumption))⟩⟩) (Or.inl rfl) rfl ?_
  rintro r bl fx2 hR
  obtain ⟨⟨v5, q5⟩, hq5, rfl, rfl, rfl⟩ := (@cast _ (∃ x : ByteArray × Int, ((x.1 ∈ ([nRegister, nQueue, nStack, nCounter, nSet, nMost, nRegister, nQueue, nStack, nCounter, nSet, nEmpty])) ∧ (x.2 = p + 1)) ∧ r = (.v (.string x.1)) ∧ bl = ([]) ∧ fx2 = ([.sl (.bytes l), .i x.2])) (by kernel_rfl) hR)
  clear hR
  replace hq5 : (v5 ∈ ([nRegister, nQueue, nStack, nCounter, nSet, nMost, nRegister, nQueue, nStack, nCounter, nSet, nEmpty])) ∧ (q5 = p + 1) := hq5
  obtain ⟨hv5, hq15⟩ := hq5
  simp only [List.mem_cons, List.not_mem_nil, or_false] at hv5
  refine ⟨by kernel_rfl, WI.to (⟨[(0, .ptr 998 0), (3, .ptr 998 0), (4, .sl (.strs ([nRegister, nQueue, nStack, nCounter, nSet, nMost, nRegister, nQueue, nStack, nCounter, nSet, nEmpty]))), (5, .v (.string v5))], [(998, ⟨86, .fix [.sl (.bytes l), .i q5]⟩)], [5, 4, 998, 999]⟩) 3 (by kernel_rfl) rfl ?_⟩
  refine WI.run cok tab67 hnt [] 1 (⟨[(0, .ptr 998 0), (2, .v (.string v5)), (3, .ptr 998 0), (4, .sl (.strs ([nRegister, nQueue, nStack, nCounter, nSet, nMost, nRegister, nQueue, nStack, nCounter, nSet, nEmpty]))), (5, .v (.string v5))], [(998, ⟨86, .fix [.sl (.bytes l), .i q5]⟩)], [5, 4, 998, 999]⟩)
    (True ∧ True) (by kernel_rfl)
    ⟨trivial, trivial⟩ ?_
  refine WI.to (⟨[(0, .ptr 998 0), (2, .v (.string v5)), (3, .ptr 998 0), (4, .sl (.strs ([nRegister, nQueue, nStack, nCounter, nSet, nMost, nRegister, nQueue, nStack, nCounter, nSet, nEmpty]))), (5, .v (.string v5))], [(998, ⟨86, .fix [.sl (.bytes l), .i q5]⟩)], [5, 4, 998, 999]⟩) 4 rfl rfl ?_
  refine WI.nil rfl (thenQ_normal ?_)
  refine W.keepE [2] [(2, .v (.string v5))] (by kernel_rfl) ?_
  refine W.to (⟨[(2, .v (.string v5))], [(998, ⟨86, .fix [.sl (.bytes l), .i q5]⟩)], [5, 4, 998, 999]⟩) rfl ?_
  refine W.ret ?_
  exact endP_ret (v5, q5) (show (q5 = p + 1) from (by first | assumption | omega | rfl | (simp; done) | (simp; omega))) [(0, 998)] (.v (.string v5)) (by kernel_rfl) (@cast ((((.string v5) : Value) = (.string v5)) ∧ (((((86 : Nat) = 86) ∧ ((((.bytes l : Dat) = .bytes l) ∧ (((.int .i64 q5 : Value) = .int .i64 q5) ∧ True)) ∧ ((0 : Nat) ∈ ([0] : List Nat)))) ∧ True) ∧ ((true = true) ∧ (((([] : List Nat) = []) ∧ True) ∧ (true = true → (998 : Nat) = 998))))) _ (by kernel_rfl) ⟨rfl, ⟨⟨⟨rfl, ⟨⟨rfl, ⟨rfl, trivial⟩⟩, (by decide)⟩⟩, trivial⟩, ⟨rfl, ⟨⟨rfl, trivial⟩, (fun _ => rfl)⟩⟩⟩⟩)
theorem ent67 : Entr prog 67 := ⟨_, func67, rfl, by decide⟩

end Go.Proofs.Try
