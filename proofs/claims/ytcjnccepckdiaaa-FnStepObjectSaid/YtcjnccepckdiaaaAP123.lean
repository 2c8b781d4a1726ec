import Derived.Test.YtcjnccepckdiaaaAS
import Derived.Test.YtcjnccepckdiaaaM10
set_option linter.unusedSimpArgs false
set_option linter.unusedVariables false
namespace Go.Proofs.Try
open Go.Ab Go.RowKit
/-- impl.isSingle -/
def fs123 : FnS := fnS [.o] [.str] (fun _ (s, _) => (.b (isSingle s), [], True))
abbrev T123 : Tab := lk []
theorem tab123 : TabOK prog T123 := TabOK.nil
set_option maxRecDepth 100000 in
set_option maxHeartbeats 1000000 in
theorem ok123 : FnOK prog 123 fs123 := by
  refine FnOK.mk cok func123 rfl rfl rfl ?_
  rintro fl ⟨(s : ByteArray), _⟩ hpre F hnt0 _
  have hnt : F.nt = 13 := hnt0.trans ntmps123
  clear hpre
  refine W.to (⟨[(0, .v (.string s))], [], [999]⟩) rfl ?_
  refine W.K cok tab123 hnt [] [0] (⟨[(0, .v (.string s))], [], [999]⟩)
    (True ∧ True) (by kernel_rfl)
    ⟨trivial, trivial⟩ ?_
  refine W.K cok tab123 hnt [] [2] (⟨[(2, .b (((eqS s nRegister) || (eqS s nCounter)) || (eqS s nMost)))], [], [999]⟩)
    (True ∧ ((True ∧ (True ∧ True)) ∧ (True ∧ (((!(eqS s nRegister)) = true → True) ∧ (((!(eqS s nRegister)) = true → ((((!(eqS s nRegister)) = true) ∧ True) ∧ (True ∧ True))) ∧ ((True ∧ (((eqS s nRegister) = true → True) ∧ ((eqS s nRegister) = false → ((!(eqS s nRegister)) = true) ∧ True))) ∧ (True ∧ (((!((eqS s nRegister) || (eqS s nCounter))) = true → True) ∧ (((!((eqS s nRegister) || (eqS s nCounter))) = true → ((((!((eqS s nRegister) || (eqS s nCounter))) = true) ∧ True) ∧ (True ∧ True))) ∧ ((True ∧ ((((eqS s nRegister) || (eqS s nCounter)) = true → True) ∧ (((eqS s nRegister) || (eqS s nCounter)) = false → ((!((eqS s nRegister) || (eqS s nCounter))) = true) ∧ True))) ∧ (True ∧ True))))))))))) (by kernel_rfl)
    ⟨trivial, ⟨⟨trivial, ⟨trivial, trivial⟩⟩, ⟨trivial, ⟨(fun _ => trivial), ⟨(fun hG => ⟨⟨hG, trivial⟩, ⟨trivial, trivial⟩⟩), ⟨⟨trivial, ⟨(fun _ => trivial), (fun hp => ⟨(not_t hp), trivial⟩)⟩⟩, ⟨trivial, ⟨(fun _ => trivial), ⟨(fun hG => ⟨⟨hG, trivial⟩, ⟨trivial, trivial⟩⟩), ⟨⟨trivial, ⟨(fun _ => trivial), (fun hp => ⟨(not_t hp), trivial⟩)⟩⟩, ⟨trivial, trivial⟩⟩⟩⟩⟩⟩⟩⟩⟩⟩⟩ ?_
  refine W.ret ?_
  exact endQ_ret (.b (((eqS s nRegister) || (eqS s nCounter)) || (eqS s nMost))) (by kernel_rfl) (@cast ((.bool (((eqS s nRegister) || (eqS s nCounter)) || (eqS s nMost)) : Value) = .bool (isSingle s)) _ (by kernel_rfl) (congrArg Value.bool (by first | rfl | simp_all)))
theorem ent123 : Entr prog 123 := ⟨_, func123, rfl, by decide⟩

end Go.Proofs.Try
