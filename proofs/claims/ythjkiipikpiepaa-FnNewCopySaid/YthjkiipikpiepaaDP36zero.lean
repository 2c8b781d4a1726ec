import Derived.Test.YthjkiipikpiepaaDS
import Derived.Test.YthjkiipikpiepaaM9
set_option linter.unusedSimpArgs false
set_option linter.unusedVariables false
namespace Go.Proofs.Try
open Go.Ab Go.RowKit
/-- math/bits.Len64@0 -/
def fs36zero : FnS := fnS [.o] [.u64] (fun _ (x, _) => (.i 0, [], (x = 0)))
abbrev T36zero : Tab := lk []
theorem tab36zero : TabOK prog T36zero := TabOK.nil
set_option maxRecDepth 100000 in
set_option maxHeartbeats 1000000 in
theorem ok36zero : FnOK prog 36 fs36zero := by
  refine FnOK.mk cok func36 rfl rfl rfl ?_
  rintro fl ⟨(x : Int), _⟩ hpre F hnt0 _
  have hnt : F.nt = 25 := hnt0.trans ntmps36
  replace hpre : (x = 0) := hpre
  have hx := hpre
  refine W.to (⟨[(0, .v (.int .u64 x))], [], [999]⟩) rfl ?_
  refine W.K cok tab36zero hnt [] [0, 2] (⟨[(0, .v (.int .u64 x)), (2, .i (0 : Int))], [], [999]⟩)
    (True ∧ True) (by kernel_rfl)
    ⟨trivial, trivial⟩ ?_
  refine W.seq ?_
  refine W.K cok tab36zero hnt [] [0, 2, 4] (⟨[(0, .v (.int .u64 x)), (2, .i (0 : Int)), (4, .b (decide ((4294967296 : Int) ≤ x)))], [], [999]⟩)
    (True ∧ ((True ∧ (True ∧ True)) ∧ True)) (by kernel_rfl)
    ⟨trivial, ⟨⟨trivial, ⟨trivial, trivial⟩⟩, trivial⟩⟩ ?_
  refine W.ifP ((4294967296 : Int) ≤ x) (.b (decide ((4294967296 : Int) ≤ x))) (by kernel_rfl) rfl trivial ?_ ?_
  · intro h4
    exact (show False from (by omega)).elim
  · intro n4
    refine W.skip (thenQ_normal ?_)
    refine W.seq ?_
    refine W.K cok tab36zero hnt [] [0, 2, 8] (⟨[(0, .v (.int .u64 x)), (2, .i (0 : Int)), (8, .b (decide ((65536 : Int) ≤ x)))], [], [999]⟩)
      (True ∧ ((True ∧ (True ∧ True)) ∧ True)) (by kernel_rfl)
      ⟨trivial, ⟨⟨trivial, ⟨trivial, trivial⟩⟩, trivial⟩⟩ ?_
    refine W.ifP ((65536 : Int) ≤ x) (.b (decide ((65536 : Int) ≤ x))) (by kernel_rfl) rfl trivial ?_ ?_
    · intro h8
      exact (show False from (by omega)).elim
    · intro n8
      refine W.skip (thenQ_normal ?_)
      refine W.seq ?_
      refine W.K cok tab36zero hnt [] [0, 2, 14] (⟨[(0, .v (.int .u64 x)), (2, .i (0 : Int)), (14, .b (decide ((256 : Int) ≤ x)))], [], [999]⟩)
        (True ∧ ((True ∧ (True ∧ True)) ∧ True)) (by kernel_rfl)
        ⟨trivial, ⟨⟨trivial, ⟨trivial, trivial⟩⟩, trivial⟩⟩ ?_
      refine W.ifP ((256 : Int) ≤ x) (.b (decide ((256 : Int) ≤ x))) (by kernel_rfl) rfl trivial ?_ ?_
      · intro h14
        exact (show False from (by omega)).elim
      · intro n14
        refine W.skip (thenQ_normal ?_)
        refine W.K cok tab36zero hnt [] [2] (⟨[(2, .i ((0 : Int) + (((UInt8.toNat (List.getD lenTab.data.toList (Int.toNat x) 0)) : Nat) : Int)))], [], [999]⟩)
          (True ∧ (True ∧ ((True ∧ (Fits .u8 x)) ∧ ((True ∧ (True ∧ ((0 ≤ x) ∧ (x < ((lenTab.size : Nat) : Int))))) ∧ ((True ∧ (Fits .i64 (((UInt8.toNat (List.getD lenTab.data.toList (Int.toNat x) 0)) : Nat) : Int))) ∧ ((True ∧ (True ∧ (Fits .i64 ((0 : Int) + (((UInt8.toNat (List.getD lenTab.data.toList (Int.toNat x) 0)) : Nat) : Int))))) ∧ (True ∧ True))))))) (by kernel_rfl)
          ⟨trivial, ⟨trivial, ⟨⟨trivial, (by exact fits_u8 (by omega) (by omega))⟩, ⟨⟨trivial, ⟨trivial, ⟨(by omega), (by subst hx; first | exact fits_i64 (by decide) (by decide) | decide)⟩⟩⟩, ⟨⟨trivial, (by subst hx; first | exact fits_i64 (by decide) (by decide) | decide)⟩, ⟨⟨trivial, ⟨trivial, (by subst hx; first | exact fits_i64 (by decide) (by decide) | decide)⟩⟩, ⟨trivial, trivial⟩⟩⟩⟩⟩⟩⟩ ?_
        refine W.ret ?_
        exact endQ_ret (.i ((0 : Int) + (((UInt8.toNat (List.getD lenTab.data.toList (Int.toNat x) 0)) : Nat) : Int))) (by kernel_rfl) (@cast ((.int .i64 ((0 : Int) + (((UInt8.toNat (List.getD lenTab.data.toList (Int.toNat x) 0)) : Nat) : Int)) : Value) = .int .i64 0) _ (by kernel_rfl) (congrArg (Value.int .i64) (by subst hx; rfl)))
theorem ent36zero : Entr prog 36 := ⟨_, func36, rfl, by decide⟩

end Go.Proofs.Try
