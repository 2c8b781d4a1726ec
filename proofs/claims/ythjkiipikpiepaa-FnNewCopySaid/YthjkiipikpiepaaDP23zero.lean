import Derived.Test.YthjkiipikpiepaaDS
import Derived.Test.YthjkiipikpiepaaM9
import Derived.Test.YthjkiipikpiepaaDP36zero
set_option linter.unusedSimpArgs false
set_option linter.unusedVariables false
namespace Go.Proofs.Try
open Go.Ab Go.RowKit
/-- math/bits.Len@0 -/
def fs23zero : FnS := fnS [.o] [.u64] (fun _ (x, _) => (.i 0, [], (x = 0)))
abbrev T23zero : Tab := lk [(36, fs36zero)]
theorem tab23zero : TabOK prog T23zero := (TabOK.cons ok36zero ent36zero TabOK.nil)
set_option maxRecDepth 100000 in
set_option maxHeartbeats 1000000 in
theorem ok23zero : FnOK prog 23 fs23zero := by
  refine FnOK.mk cok func23 rfl rfl rfl ?_
  rintro fl ⟨(x : Int), _⟩ hpre F hnt0 _
  have hnt : F.nt = 8 := hnt0.trans ntmps23
  replace hpre : (x = 0) := hpre
  have hx := hpre
  refine W.to (⟨[(0, .v (.int .u64 x))], [], [999]⟩) rfl ?_
  refine W.K cok tab23zero hnt [] [0] (⟨[(0, .v (.int .u64 x))], [], [999]⟩)
    (True ∧ True) (by kernel_rfl)
    ⟨trivial, trivial⟩ ?_
  refine W.seq ?_
  refine W.ifF (.b false) (by kernel_rfl) rfl trivial ?_
  refine W.skip (thenQ_normal ?_)
  refine W.K cok tab23zero hnt [] [2] (⟨[(2, .i 0)], [], [999]⟩)
    (True ∧ ((True ∧ ((True ∧ True) ∧ (x = 0))) ∧ (True ∧ True))) (by kernel_rfl)
    ⟨trivial, ⟨⟨trivial, ⟨⟨trivial, trivial⟩, (by omega)⟩⟩, ⟨trivial, trivial⟩⟩⟩ ?_
  refine W.ret ?_
  exact endQ_ret (.i 0) (by kernel_rfl) (@cast ((.int .i64 0 : Value) = .int .i64 0) _ (by kernel_rfl) rfl)
theorem ent23zero : Entr prog 23 := ⟨_, func23, rfl, by decide⟩

end Go.Proofs.Try
