import Derived.Test.YthjkiipikpiepaaDS
import Derived.Test.YthjkiipikpiepaaM9
set_option linter.unusedSimpArgs false
set_option linter.unusedVariables false
namespace Go.Proofs.Try
open Go.Ab Go.RowKit
/-- spec.newCopy -/
def fs11 : FnS := fnS [] [] (fun _ _ => (.agg [.sl (.ints newC.up), .sl (.ints newC.down), .i newC.value, .i newC.time, .i newC.proc, .sl (.marks newC.marks)], [], True))
abbrev T11 : Tab := lk []
theorem tab11 : TabOK prog T11 := TabOK.nil
set_option maxRecDepth 100000 in
set_option maxHeartbeats 1000000 in
theorem ok11 : FnOK prog 11 fs11 := by
  refine FnOK.mk cok func11 rfl rfl rfl ?_
  rintro fl _ hpre F hnt0 _
  have hnt : F.nt = 5 := hnt0.trans ntmps11
  clear hpre
  refine W.to (⟨[], [], [999]⟩) rfl ?_
  refine W.K cok tab11 hnt [] [0] (⟨[(0, .ptr 0 0)], [(0, ⟨26, .fix [.v (.slice none 0 0), .v (.slice none 0 0), .i (0 : Int), .i (0 : Int), .i (0 : Int), .v (.slice none 0 0)]⟩)], [0, 999]⟩)
    (True ∧ True) (by kernel_rfl)
    ⟨trivial, trivial⟩ ?_
  refine W.subS [(997, 0)] (⟨[(0, .ptr 997 0)], [(997, ⟨26, .fix [.v (.slice none 0 0), .v (.slice none 0 0), .i (0 : Int), .i (0 : Int), .i (0 : Int), .v (.slice none 0 0)]⟩)], [997, 999]⟩) (@cast (((((0 : Nat) = 0) ∧ (((0 : Nat) = 0) ∧ ((997 : Nat) ∈ ([997, 999] : List Nat)))) ∧ True) ∧ (((((26 : Nat) = 26) ∧ (((((.slice none 0 0) : Value) = (.slice none 0 0)) ∧ ((((.slice none 0 0) : Value) = (.slice none 0 0)) ∧ (((.int .i64 (0 : Int) : Value) = .int .i64 (0 : Int)) ∧ (((.int .i64 (0 : Int) : Value) = .int .i64 (0 : Int)) ∧ (((.int .i64 (0 : Int) : Value) = .int .i64 (0 : Int)) ∧ ((((.slice none 0 0) : Value) = (.slice none 0 0)) ∧ True)))))) ∧ ((997 : Nat) ∈ ([997, 999] : List Nat)))) ∧ True) ∧ ((true = true) ∧ (true = true)))) _ (by kernel_rfl) ⟨⟨⟨rfl, ⟨rfl, (by decide)⟩⟩, trivial⟩, ⟨⟨⟨rfl, ⟨⟨rfl, ⟨rfl, ⟨rfl, ⟨rfl, ⟨rfl, ⟨rfl, trivial⟩⟩⟩⟩⟩⟩, (by decide)⟩⟩, trivial⟩, ⟨rfl, rfl⟩⟩⟩) ?_
  refine W.KA cok tab11 hnt [] [0] (⟨[(0, .ptr 997 0)], [(997, ⟨26, .fix [.sl (.ints (List.replicate 3 (0 : Int))), .sl (.ints (List.replicate 3 (0 : Int))), .i (0 : Int), .i (0 : Int), .i (0 : Int), .sl (.marks ([] : List MarkD))]⟩)], [3, 2, 1, 997, 999]⟩)
    ((True ∧ (True ∧ (((3 : Int) = (3 : Int)) ∧ ((0 ≤ (3 : Int)) ∧ ((3 : Int) * 8 ≤ 281474976710656))))) ∧ ((True ∧ (True ∧ (((3 : Int) = (3 : Int)) ∧ ((0 ≤ (3 : Int)) ∧ ((3 : Int) * 8 ≤ 281474976710656))))) ∧ (True ∧ ((True ∧ (True ∧ (True ∧ True))) ∧ ((True ∧ True) ∧ True))))) (by kernel_rfl) (by kernel_rfl)
    ⟨⟨trivial, ⟨trivial, ⟨rfl, ⟨(by omega), (by omega)⟩⟩⟩⟩, ⟨⟨trivial, ⟨trivial, ⟨rfl, ⟨(by omega), (by omega)⟩⟩⟩⟩, ⟨trivial, ⟨⟨trivial, ⟨trivial, ⟨trivial, trivial⟩⟩⟩, ⟨⟨trivial, trivial⟩, trivial⟩⟩⟩⟩⟩ ?_
  refine W.ret ?_
  exact endQ_ret (.agg [.sl (.ints (List.replicate 3 (0 : Int))), .sl (.ints (List.replicate 3 (0 : Int))), .i (0 : Int), .i (0 : Int), .i (0 : Int), .sl (.marks ([] : List MarkD))]) (by kernel_rfl) (@cast (((.ints (List.replicate 3 (0 : Int)) : Dat) = .ints newC.up) ∧ (((.ints (List.replicate 3 (0 : Int)) : Dat) = .ints newC.down) ∧ (((.int .i64 (0 : Int) : Value) = .int .i64 newC.value) ∧ (((.int .i64 (0 : Int) : Value) = .int .i64 newC.time) ∧ (((.int .i64 (0 : Int) : Value) = .int .i64 newC.proc) ∧ (((.marks ([] : List MarkD) : Dat) = .marks newC.marks) ∧ True)))))) _ (by kernel_rfl) ⟨(congrArg Dat.ints (by rfl)), ⟨(congrArg Dat.ints (by rfl)), ⟨(congrArg (Value.int .i64) (by rfl)), ⟨(congrArg (Value.int .i64) (by rfl)), ⟨(congrArg (Value.int .i64) (by rfl)), ⟨(congrArg Dat.marks (by rfl)), trivial⟩⟩⟩⟩⟩⟩)
theorem ent11 : Entr prog 11 := ⟨_, func11, rfl, by decide⟩

end Go.Proofs.Try
