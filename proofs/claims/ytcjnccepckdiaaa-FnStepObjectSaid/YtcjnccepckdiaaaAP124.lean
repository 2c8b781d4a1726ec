import Derived.Test.YtcjnccepckdiaaaAS
import Derived.Test.YtcjnccepckdiaaaAb31
set_option linter.unusedSimpArgs false
set_option linter.unusedVariables false
namespace Go.Proofs.Try
open Go.Ab Go.RowKit Go.Shelf Go.Proofs
/-- slices.Clone[[]int,int] -/
def fs124 : FnS := fnS [.s .ints] [.ints] (fun _ (l, _) => (.own 0 (List.length l), [(3, .ints l)], (l.length * 8 ≤ 140737488355328)))
def ren15 : Go.Shelf.Ren := ⟨fun _ => 124, fun k => bif Nat.beq k 22 then 30 else bif Nat.beq k 3 then 3 else bif Nat.beq k 4 then 4 else k, fun k => k⟩
set_option maxRecDepth 100000 in
theorem lays15 : Lays2.n15 prog ren15 where
  mixed := by kernel_rfl
  f15 := by kernel_rfl
  t3 := underlying3
  a3 := isAgg3
  z3 := sizeOf3
  v3 := zeroValue3
  t4 := underlying4
  a4 := isAgg4
  z4 := sizeOf4
  v4 := zeroValue4
  t22 := underlying30
  a22 := isAgg30
  z22 := sizeOf30
  v22 := zeroValue30
  i3 := by kernel_rfl
theorem ok124 : FnOK prog 124 fs124 := clone_ok lays15
theorem ent124 : Entr prog 124 := ⟨_, func124, rfl, by decide⟩

end Go.Proofs.Try
