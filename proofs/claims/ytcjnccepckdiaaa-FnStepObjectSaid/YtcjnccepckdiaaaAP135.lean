import Derived.Test.YtcjnccepckdiaaaAS
import Derived.Test.YtcjnccepckdiaaaAb30
set_option linter.unusedSimpArgs false
set_option linter.unusedVariables false
namespace Go.Proofs.Try
open Go.Ab Go.RowKit Go.Shelf Go.Proofs
/-- slices.Delete[[]int,int] -/
def fs135 : FnS := fnS [.c .ints 3, .o, .o] [.ints, .int, .int] (fun _ (l, i, j, _) => (.own 0 (List.length (l.take i.toNat ++ l.drop j.toNat)), [(3, .ints (l.take i.toNat ++ l.drop j.toNat))], (0 ≤ i) ∧ (i < j) ∧ (j ≤ l.length)))
def ren23 : Go.Shelf.Ren := ⟨fun _ => 135, fun k => bif Nat.beq k 22 then 30 else bif Nat.beq k 3 then 3 else bif Nat.beq k 4 then 4 else k, fun k => k⟩
set_option maxRecDepth 100000 in
theorem lays23 : Lays2.n23 prog ren23 where
  mixed := by kernel_rfl
  f23 := by kernel_rfl
  t0 := underlying0
  a0 := isAgg0
  z0 := sizeOf0
  v0 := zeroValue0
  t3 := underlying3
  a3 := isAgg3
  z3 := sizeOf3
  v3 := zeroValue3
  t4 := underlying4
  a4 := isAgg4
  z4 := sizeOf4
  v4 := zeroValue4
  t22 := underlying30
  a22 := isAgg30
  z22 := sizeOf30
  v22 := zeroValue30
  i3 := by kernel_rfl
theorem ok135 : FnOK prog 135 fs135 := delete_ok lays23
theorem ent135 : Entr prog 135 := ⟨_, func135, rfl, by decide⟩

end Go.Proofs.Try
