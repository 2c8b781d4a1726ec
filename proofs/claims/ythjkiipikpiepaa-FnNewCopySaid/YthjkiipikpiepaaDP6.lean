import Derived.Test.YthjkiipikpiepaaDS
import Derived.Test.YthjkiipikpiepaaM9
import Derived.Test.YthjkiipikpiepaaDP11
set_option linter.unusedSimpArgs false
set_option linter.unusedVariables false
namespace Go.Proofs.Try
open Go.Ab Go.RowKit
/-- spec.NewCopy -/
def fs6 : FnS := fnS [] [] (fun _ _ => (.agg [.sl (.ints newC.up), .sl (.ints newC.down), .i newC.value, .i newC.time, .i newC.proc, .sl (.marks newC.marks)], [], True))
abbrev T6 : Tab := lk [(11, fs11)]
theorem tab6 : TabOK prog T6 := (TabOK.cons ok11 ent11 TabOK.nil)
set_option maxRecDepth 100000 in
set_option maxHeartbeats 1000000 in
theorem ok6 : FnOK prog 6 fs6 := by
  refine FnOK.mk cok func6 rfl rfl rfl ?_
  rintro fl _ hpre F hnt0 _
  have hnt : F.nt = 2 := hnt0.trans ntmps6
  clear hpre
  refine W.to (⟨[], [], [999]⟩) rfl ?_
  refine W.K cok tab6 hnt [] [0] (⟨[(0, .ptr 0 0)], [(0, ⟨26, .fix [.v (.slice none 0 0), .v (.slice none 0 0), .i (0 : Int), .i (0 : Int), .i (0 : Int), .v (.slice none 0 0)]⟩)], [0, 999]⟩)
    (True ∧ True) (by kernel_rfl)
    ⟨trivial, trivial⟩ ?_
  refine W.subS [(997, 0)] (⟨[(0, .ptr 997 0)], [(997, ⟨26, .fix [.v (.slice none 0 0), .v (.slice none 0 0), .i (0 : Int), .i (0 : Int), .i (0 : Int), .v (.slice none 0 0)]⟩)], [997, 999]⟩) (@cast (((((0 : Nat) = 0) ∧ (((0 : Nat) = 0) ∧ ((997 : Nat) ∈ ([997, 999] : List Nat)))) ∧ True) ∧ (((((26 : Nat) = 26) ∧ (((((.slice none 0 0) : Value) = (.slice none 0 0)) ∧ ((((.slice none 0 0) : Value) = (.slice none 0 0)) ∧ (((.int .i64 (0 : Int) : Value) = .int .i64 (0 : Int)) ∧ (((.int .i64 (0 : Int) : Value) = .int .i64 (0 : Int)) ∧ (((.int .i64 (0 : Int) : Value) = .int .i64 (0 : Int)) ∧ ((((.slice none 0 0) : Value) = (.slice none 0 0)) ∧ True)))))) ∧ ((997 : Nat) ∈ ([997, 999] : List Nat)))) ∧ True) ∧ ((true = true) ∧ (true = true)))) _ (by kernel_rfl) ⟨⟨⟨rfl, ⟨rfl, (by decide)⟩⟩, trivial⟩, ⟨⟨⟨rfl, ⟨⟨rfl, ⟨rfl, ⟨rfl, ⟨rfl, ⟨rfl, ⟨rfl, trivial⟩⟩⟩⟩⟩⟩, (by decide)⟩⟩, trivial⟩, ⟨rfl, rfl⟩⟩⟩) ?_
  refine W.K cok tab6 hnt [] [0] (⟨[(0, .ptr 997 0)], [(997, ⟨26, .fix [.sl (.ints newC.up), .sl (.ints newC.down), .i newC.value, .i newC.time, .i newC.proc, .sl (.marks newC.marks)]⟩)], [997, 999]⟩)
    ((True ∧ (True ∧ True)) ∧ ((True ∧ True) ∧ True)) (by kernel_rfl)
    ⟨⟨trivial, ⟨trivial, trivial⟩⟩, ⟨⟨trivial, trivial⟩, trivial⟩⟩ ?_
  refine W.ret ?_
  exact endQ_ret (.agg [.sl (.ints newC.up), .sl (.ints newC.down), .i newC.value, .i newC.time, .i newC.proc, .sl (.marks newC.marks)]) (by kernel_rfl) (@cast (((.ints newC.up : Dat) = .ints newC.up) ∧ (((.ints newC.down : Dat) = .ints newC.down) ∧ (((.int .i64 newC.value : Value) = .int .i64 newC.value) ∧ (((.int .i64 newC.time : Value) = .int .i64 newC.time) ∧ (((.int .i64 newC.proc : Value) = .int .i64 newC.proc) ∧ (((.marks newC.marks : Dat) = .marks newC.marks) ∧ True)))))) _ (by kernel_rfl) ⟨rfl, ⟨rfl, ⟨rfl, ⟨rfl, ⟨rfl, ⟨rfl, trivial⟩⟩⟩⟩⟩⟩)
theorem ent6 : Entr prog 6 := ⟨_, func6, rfl, by decide⟩

end Go.Proofs.Try
