import Derived.Test.YtcjnccepckdiaaaAS
import Derived.Test.YtcjnccepckdiaaaM1
set_option linter.unusedSimpArgs false
set_option linter.unusedVariables false
namespace Go.Proofs.Try
open Go.Ab Go.RowKit
/-- spec.newReader -/
def pre64 : List AV → List AV → Prop := preP [.bytes] [] (fun (code, _) _ => True)
def rel64 : RelS := relP [.bytes] [] (ι := (List UInt8)) (fun (code, _) _ l => True) (fun (code, _) _ l => (.ptr 0 0, [⟨86, .fix [.sl (.bytes l), .i (0 : Int)]⟩], []))
abbrev T64 : Tab := lk []
theorem tab64 : TabOK prog T64 := TabOK.nil
set_option maxRecDepth 100000 in
set_option maxHeartbeats 1000000 in
theorem rok64 : RelOK prog 64 none [.s .bytes] pre64 rel64 := by
  refine RelOK.mk cok func64 rfl rfl rfl ?_
  rintro ⟨(code : List UInt8), _⟩ _ hpre F hnt0
  have hnt : F.nt = 11 := hnt0.trans ntmps64
  clear hpre
  refine W.to (⟨[(0, .sl (.bytes code))], [], [998, 999]⟩) rfl ?_
  refine W.K cok tab64 hnt [] [0] (⟨[(0, .sl (.bytes code))], [], [998, 999]⟩)
    (True ∧ True) (by kernel_rfl)
    ⟨trivial, trivial⟩ ?_
  refine W.seq ?_
  refine W.K cok tab64 hnt [] [0, 5] (⟨[(0, .sl (.bytes code)), (5, .b (decide ((2000 : Int) < (((List.length code) : Nat) : Int))))], [], [998, 999]⟩)
    (True ∧ (True ∧ ((True ∧ (True ∧ True)) ∧ True))) (by kernel_rfl)
    ⟨trivial, ⟨trivial, ⟨⟨trivial, ⟨trivial, trivial⟩⟩, trivial⟩⟩⟩ ?_
  refine W.ifP ((2000 : Int) < (((List.length code) : Nat) : Int)) (.b (decide ((2000 : Int) < (((List.length code) : Nat) : Int)))) (by kernel_rfl) rfl trivial ?_ ?_
  · intro h5
    refine W.L cok tab64 hnt [] (⟨[(0, .sl (.bytes (List.take 2000 code))), (5, .b (decide ((2000 : Int) < (((List.length code) : Nat) : Int)))), (6, .sl (.bytes code)), (7, .sl (.bytes (List.take 2000 code)))], [], [998, 999]⟩)
      (True ∧ ((True ∧ (True ∧ (True ∧ ((0 ≤ (0 : Int)) ∧ (((0 : Int) ≤ (2000 : Int)) ∧ ((2000 : Int) ≤ (((List.length code) : Nat) : Int))))))) ∧ (True ∧ True))) (by kernel_rfl)
      ⟨trivial, ⟨⟨trivial, ⟨trivial, ⟨trivial, ⟨(by omega), ⟨(by omega), (by omega)⟩⟩⟩⟩⟩, ⟨trivial, trivial⟩⟩⟩ ?_
    refine thenQ_normal ?_
    refine W.K cok tab64 hnt [] [2] (⟨[(2, .ptr 10 0)], [(10, ⟨86, .fix [.sl (.bytes (List.take 2000 code)), .i (0 : Int)]⟩)], [10, 998, 999]⟩)
      (True ∧ ((True ∧ True) ∧ (True ∧ (True ∧ True)))) (by kernel_rfl)
      ⟨trivial, ⟨⟨trivial, trivial⟩, ⟨trivial, ⟨trivial, trivial⟩⟩⟩⟩ ?_
    refine W.ret ?_
    exact endP_ret ((List.take 2000 code)) (show True from trivial) [(0, 10)] (.ptr 10 0) (by kernel_rfl) (@cast ((((10 : Nat) = 10) ∧ (((0 : Nat) = 0) ∧ ((0 : Nat) ∈ ([0] : List Nat)))) ∧ (((((86 : Nat) = 86) ∧ ((((.bytes (List.take 2000 code) : Dat) = .bytes (List.take 2000 code)) ∧ (((.int .i64 (0 : Int) : Value) = .int .i64 (0 : Int)) ∧ True)) ∧ ((0 : Nat) ∈ ([0] : List Nat)))) ∧ True) ∧ ((true = true) ∧ (((([] : List Nat) = []) ∧ True) ∧ (false = true → (10 : Nat) = 998))))) _ (by kernel_rfl) ⟨⟨rfl, ⟨rfl, (by decide)⟩⟩, ⟨⟨⟨rfl, ⟨⟨rfl, ⟨rfl, trivial⟩⟩, (by decide)⟩⟩, trivial⟩, ⟨rfl, ⟨⟨rfl, trivial⟩, (fun h => by cases h)⟩⟩⟩⟩)
  · intro n5
    refine W.skip (thenQ_normal ?_)
    refine W.K cok tab64 hnt [] [2] (⟨[(2, .ptr 10 0)], [(10, ⟨86, .fix [.sl (.bytes code), .i (0 : Int)]⟩)], [10, 998, 999]⟩)
      (True ∧ ((True ∧ True) ∧ (True ∧ (True ∧ True)))) (by kernel_rfl)
      ⟨trivial, ⟨⟨trivial, trivial⟩, ⟨trivial, ⟨trivial, trivial⟩⟩⟩⟩ ?_
    refine W.ret ?_
    exact endP_ret (code) (show True from trivial) [(0, 10)] (.ptr 10 0) (by kernel_rfl) (@cast ((((10 : Nat) = 10) ∧ (((0 : Nat) = 0) ∧ ((0 : Nat) ∈ ([0] : List Nat)))) ∧ (((((86 : Nat) = 86) ∧ ((((.bytes code : Dat) = .bytes code) ∧ (((.int .i64 (0 : Int) : Value) = .int .i64 (0 : Int)) ∧ True)) ∧ ((0 : Nat) ∈ ([0] : List Nat)))) ∧ True) ∧ ((true = true) ∧ (((([] : List Nat) = []) ∧ True) ∧ (false = true → (10 : Nat) = 998))))) _ (by kernel_rfl) ⟨⟨rfl, ⟨rfl, (by decide)⟩⟩, ⟨⟨⟨rfl, ⟨⟨rfl, ⟨rfl, trivial⟩⟩, (by decide)⟩⟩, trivial⟩, ⟨rfl, ⟨⟨rfl, trivial⟩, (fun h => by cases h)⟩⟩⟩⟩)
theorem ent64 : Entr prog 64 := ⟨_, func64, rfl, by decide⟩

end Go.Proofs.Try
