import Derived.Test.YtcjnccepckdiaaaAS
import Derived.Test.YtcjnccepckdiaaaM1
set_option linter.unusedSimpArgs false
set_option linter.unusedVariables false
namespace Go.Proofs.Try
open Go.Ab Go.RowKit
/-- spec.isObject -/
def fs73 : FnS := fnS [.o] [.str] (fun _ (s, _) => (.b (isObject s), [], True))
abbrev T73 : Tab := lk []
theorem tab73 : TabOK prog T73 := TabOK.nil
set_option maxRecDepth 100000 in
set_option maxHeartbeats 1000000 in
theorem ok73 : FnOK prog 73 fs73 := by
  refine FnOK.mk cok func73 rfl rfl rfl ?_
  rintro fl ⟨(s : ByteArray), _⟩ hpre F hnt0 _
  have hnt : F.nt = 25 := hnt0.trans ntmps73
  clear hpre
  refine W.to (⟨[(0, .v (.string s))], [], [999]⟩) rfl ?_
  refine W.K cok tab73 hnt [] [0] (⟨[(0, .v (.string s))], [], [999]⟩)
    (True ∧ True) (by kernel_rfl)
    ⟨trivial, trivial⟩ ?_
  refine W.K cok tab73 hnt [] [2] (⟨[(2, .b ((((((eqS s nRegister) || (eqS s nQueue)) || (eqS s nStack)) || (eqS s nCounter)) || (eqS s nSet)) || (eqS s nMost)))], [], [999]⟩)
    (True ∧ ((True ∧ (True ∧ True)) ∧ (True ∧ (((!(eqS s nRegister)) = true → True) ∧ (((!(eqS s nRegister)) = true → ((((!(eqS s nRegister)) = true) ∧ True) ∧ (True ∧ True))) ∧ ((True ∧ (((eqS s nRegister) = true → True) ∧ ((eqS s nRegister) = false → ((!(eqS s nRegister)) = true) ∧ True))) ∧ (True ∧ (((!((eqS s nRegister) || (eqS s nQueue))) = true → True) ∧ (((!((eqS s nRegister) || (eqS s nQueue))) = true → ((((!((eqS s nRegister) || (eqS s nQueue))) = true) ∧ True) ∧ (True ∧ True))) ∧ ((True ∧ ((((eqS s nRegister) || (eqS s nQueue)) = true → True) ∧ (((eqS s nRegister) || (eqS s nQueue)) = false → ((!((eqS s nRegister) || (eqS s nQueue))) = true) ∧ True))) ∧ (True ∧ (((!(((eqS s nRegister) || (eqS s nQueue)) || (eqS s nStack))) = true → True) ∧ (((!(((eqS s nRegister) || (eqS s nQueue)) || (eqS s nStack))) = true → ((((!(((eqS s nRegister) || (eqS s nQueue)) || (eqS s nStack))) = true) ∧ True) ∧ (True ∧ True))) ∧ ((True ∧ (((((eqS s nRegister) || (eqS s nQueue)) || (eqS s nStack)) = true → True) ∧ ((((eqS s nRegister) || (eqS s nQueue)) || (eqS s nStack)) = false → ((!(((eqS s nRegister) || (eqS s nQueue)) || (eqS s nStack))) = true) ∧ True))) ∧ (True ∧ (((!((((eqS s nRegister) || (eqS s nQueue)) || (eqS s nStack)) || (eqS s nCounter))) = true → True) ∧ (((!((((eqS s nRegister) || (eqS s nQueue)) || (eqS s nStack)) || (eqS s nCounter))) = true → ((((!((((eqS s nRegister) || (eqS s nQueue)) || (eqS s nStack)) || (eqS s nCounter))) = true) ∧ True) ∧ (True ∧ True))) ∧ ((True ∧ ((((((eqS s nRegister) || (eqS s nQueue)) || (eqS s nStack)) || (eqS s nCounter)) = true → True) ∧ (((((eqS s nRegister) || (eqS s nQueue)) || (eqS s nStack)) || (eqS s nCounter)) = false → ((!((((eqS s nRegister) || (eqS s nQueue)) || (eqS s nStack)) || (eqS s nCounter))) = true) ∧ True))) ∧ (True ∧ (((!(((((eqS s nRegister) || (eqS s nQueue)) || (eqS s nStack)) || (eqS s nCounter)) || (eqS s nSet))) = true → True) ∧ (((!(((((eqS s nRegister) || (eqS s nQueue)) || (eqS s nStack)) || (eqS s nCounter)) || (eqS s nSet))) = true → ((((!(((((eqS s nRegister) || (eqS s nQueue)) || (eqS s nStack)) || (eqS s nCounter)) || (eqS s nSet))) = true) ∧ True) ∧ (True ∧ True))) ∧ ((True ∧ (((((((eqS s nRegister) || (eqS s nQueue)) || (eqS s nStack)) || (eqS s nCounter)) || (eqS s nSet)) = true → True) ∧ ((((((eqS s nRegister) || (eqS s nQueue)) || (eqS s nStack)) || (eqS s nCounter)) || (eqS s nSet)) = false → ((!(((((eqS s nRegister) || (eqS s nQueue)) || (eqS s nStack)) || (eqS s nCounter)) || (eqS s nSet))) = true) ∧ True))) ∧ (True ∧ True))))))))))))))))))))))) (by kernel_rfl)
    ⟨trivial, ⟨⟨trivial, ⟨trivial, trivial⟩⟩, ⟨trivial, ⟨(fun _ => trivial), ⟨(fun hG => ⟨⟨hG, trivial⟩, ⟨trivial, trivial⟩⟩), ⟨⟨trivial, ⟨(fun _ => trivial), (fun hp => ⟨(not_t hp), trivial⟩)⟩⟩, ⟨trivial, ⟨(fun _ => trivial), ⟨(fun hG => ⟨⟨hG, trivial⟩, ⟨trivial, trivial⟩⟩), ⟨⟨trivial, ⟨(fun _ => trivial), (fun hp => ⟨(not_t hp), trivial⟩)⟩⟩, ⟨trivial, ⟨(fun _ => trivial), ⟨(fun hG => ⟨⟨hG, trivial⟩, ⟨trivial, trivial⟩⟩), ⟨⟨trivial, ⟨(fun _ => trivial), (fun hp => ⟨(not_t hp), trivial⟩)⟩⟩, ⟨trivial, ⟨(fun _ => trivial), ⟨(fun hG => ⟨⟨hG, trivial⟩, ⟨trivial, trivial⟩⟩), ⟨⟨trivial, ⟨(fun _ => trivial), (fun hp => ⟨(not_t hp), trivial⟩)⟩⟩, ⟨trivial, ⟨(fun _ => trivial), ⟨(fun hG => ⟨⟨hG, trivial⟩, ⟨trivial, trivial⟩⟩), ⟨⟨trivial, ⟨(fun _ => trivial), (fun hp => ⟨(not_t hp), trivial⟩)⟩⟩, ⟨trivial, trivial⟩⟩⟩⟩⟩⟩⟩⟩⟩⟩⟩⟩⟩⟩⟩⟩⟩⟩⟩⟩⟩⟩⟩ ?_
  refine W.ret ?_
  exact endQ_ret (.b ((((((eqS s nRegister) || (eqS s nQueue)) || (eqS s nStack)) || (eqS s nCounter)) || (eqS s nSet)) || (eqS s nMost))) (by kernel_rfl) (@cast ((.bool ((((((eqS s nRegister) || (eqS s nQueue)) || (eqS s nStack)) || (eqS s nCounter)) || (eqS s nSet)) || (eqS s nMost)) : Value) = .bool (isObject s)) _ (by kernel_rfl) (congrArg Value.bool (by first | rfl | simp_all)))
theorem ent73 : Entr prog 73 := ⟨_, func73, rfl, by decide⟩

end Go.Proofs.Try
