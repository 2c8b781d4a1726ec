import Derived.Test.YtcjnccepckdiaaaAS
import Derived.Test.YtcjnccepckdiaaaM10
import Derived.Test.YtcjnccepckdiaaaAP123
set_option linter.unusedSimpArgs false
set_option linter.unusedVariables false
namespace Go.Proofs.Try
open Go.Ab Go.RowKit
/-- impl.isObject -/
def fs122 : FnS := fnS [.o] [.str] (fun _ (s, _) => (.b (isObject s), [], True))
abbrev T122 : Tab := lk [(123, fs123)]
theorem tab122 : TabOK prog T122 := (TabOK.cons ok123 ent123 TabOK.nil)
set_option maxRecDepth 100000 in
set_option maxHeartbeats 1000000 in
theorem ok122 : FnOK prog 122 fs122 := by
  refine FnOK.mk cok func122 rfl rfl rfl ?_
  rintro fl ⟨(s : ByteArray), _⟩ hpre F hnt0 _
  have hnt : F.nt = 17 := hnt0.trans ntmps122
  clear hpre
  refine W.to (⟨[(0, .v (.string s))], [], [999]⟩) rfl ?_
  refine W.K cok tab122 hnt [] [0] (⟨[(0, .v (.string s))], [], [999]⟩)
    (True ∧ True) (by kernel_rfl)
    ⟨trivial, trivial⟩ ?_
  refine W.K cok tab122 hnt [] [2] (⟨[(2, .b ((((isSingle s) || (eqS s nQueue)) || (eqS s nStack)) || (eqS s nSet)))], [], [999]⟩)
    (True ∧ ((True ∧ ((True ∧ True) ∧ True)) ∧ (True ∧ (((!(isSingle s)) = true → True) ∧ (((!(isSingle s)) = true → ((((!(isSingle s)) = true) ∧ True) ∧ (True ∧ True))) ∧ ((True ∧ (((isSingle s) = true → True) ∧ ((isSingle s) = false → ((!(isSingle s)) = true) ∧ True))) ∧ (True ∧ (((!((isSingle s) || (eqS s nQueue))) = true → True) ∧ (((!((isSingle s) || (eqS s nQueue))) = true → ((((!((isSingle s) || (eqS s nQueue))) = true) ∧ True) ∧ (True ∧ True))) ∧ ((True ∧ ((((isSingle s) || (eqS s nQueue)) = true → True) ∧ (((isSingle s) || (eqS s nQueue)) = false → ((!((isSingle s) || (eqS s nQueue))) = true) ∧ True))) ∧ (True ∧ (((!(((isSingle s) || (eqS s nQueue)) || (eqS s nStack))) = true → True) ∧ (((!(((isSingle s) || (eqS s nQueue)) || (eqS s nStack))) = true → ((((!(((isSingle s) || (eqS s nQueue)) || (eqS s nStack))) = true) ∧ True) ∧ (True ∧ True))) ∧ ((True ∧ (((((isSingle s) || (eqS s nQueue)) || (eqS s nStack)) = true → True) ∧ ((((isSingle s) || (eqS s nQueue)) || (eqS s nStack)) = false → ((!(((isSingle s) || (eqS s nQueue)) || (eqS s nStack))) = true) ∧ True))) ∧ (True ∧ True))))))))))))))) (by kernel_rfl)
    ⟨trivial, ⟨⟨trivial, ⟨⟨trivial, trivial⟩, trivial⟩⟩, ⟨trivial, ⟨(fun _ => trivial), ⟨(fun hG => ⟨⟨hG, trivial⟩, ⟨trivial, trivial⟩⟩), ⟨⟨trivial, ⟨(fun _ => trivial), (fun hp => ⟨(not_t hp), trivial⟩)⟩⟩, ⟨trivial, ⟨(fun _ => trivial), ⟨(fun hG => ⟨⟨hG, trivial⟩, ⟨trivial, trivial⟩⟩), ⟨⟨trivial, ⟨(fun _ => trivial), (fun hp => ⟨(not_t hp), trivial⟩)⟩⟩, ⟨trivial, ⟨(fun _ => trivial), ⟨(fun hG => ⟨⟨hG, trivial⟩, ⟨trivial, trivial⟩⟩), ⟨⟨trivial, ⟨(fun _ => trivial), (fun hp => ⟨(not_t hp), trivial⟩)⟩⟩, ⟨trivial, trivial⟩⟩⟩⟩⟩⟩⟩⟩⟩⟩⟩⟩⟩⟩⟩ ?_
  refine W.ret ?_
  exact endQ_ret (.b ((((isSingle s) || (eqS s nQueue)) || (eqS s nStack)) || (eqS s nSet))) (by kernel_rfl) (@cast ((.bool ((((isSingle s) || (eqS s nQueue)) || (eqS s nStack)) || (eqS s nSet)) : Value) = .bool (isObject s)) _ (by kernel_rfl) (congrArg Value.bool (by exact single_obj s)))
theorem ent122 : Entr prog 122 := ⟨_, func122, rfl, by decide⟩

end Go.Proofs.Try
