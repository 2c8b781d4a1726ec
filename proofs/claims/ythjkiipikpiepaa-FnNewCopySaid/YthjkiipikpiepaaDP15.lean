import Derived.Test.YthjkiipikpiepaaDS
import Derived.Test.YthjkiipikpiepaaM8
import Derived.Test.YthjkiipikpiepaaDP20counts
set_option linter.unusedSimpArgs false
set_option linter.unusedVariables false
namespace Go.Proofs.Try
open Go.Ab Go.RowKit
/-- impl.areCounts -/
def fs15 : FnS := fnS [.s .ints] [.ints] (fun _ (l, _) => (.b (countsOK l), [], True))
abbrev T15 : Tab := lk [(20, fs20counts)]
theorem tab15 : TabOK prog T15 := (TabOK.cons ok20counts ent20counts TabOK.nil)
set_option maxRecDepth 100000 in
set_option maxHeartbeats 1000000 in
theorem ok15 : FnOK prog 15 fs15 := by
  refine FnOK.mk cok func15 rfl rfl rfl ?_
  rintro fl ⟨(l : List Int), _⟩ hpre F hnt0 _
  have hnt : F.nt = 11 := hnt0.trans ntmps15
  clear hpre
  refine W.to (⟨[(0, .sl (.ints l))], [], [999]⟩) rfl ?_
  refine W.lenOf 0 (.ints l) (by kernel_rfl) ?_
  intro hl_l; replace hl_l : List.length l ≤ 9223372036854775807 := hl_l
  refine W.K cok tab15 hnt [] [0] (⟨[(0, .sl (.ints l))], [], [999]⟩)
    (True ∧ True) (by kernel_rfl)
    ⟨trivial, trivial⟩ ?_
  refine W.K cok tab15 hnt [] [2] (⟨[(2, .b ((decide ((((List.length l) : Nat) : Int) = (3 : Int))) && (!(anyN l.length (fun jj => !within (l.getD jj 0) 0 20)))))], [], [999]⟩)
    (True ∧ (True ∧ ((True ∧ (True ∧ True)) ∧ (True ∧ (((decide ((((List.length l) : Nat) : Int) = (3 : Int))) = true → True) ∧ (((decide ((((List.length l) : Nat) : Int) = (3 : Int))) = true → (True ∧ (((((decide ((((List.length l) : Nat) : Int) = (3 : Int))) = true) ∧ True) ∧ (True ∧ True)) ∧ True))) ∧ (((decide ((((List.length l) : Nat) : Int) = (3 : Int))) = true → (((decide ((((List.length l) : Nat) : Int) = (3 : Int))) = true) ∧ True)) ∧ ((True ∧ (((decide ((((List.length l) : Nat) : Int) = (3 : Int))) = true → ((decide ((((List.length l) : Nat) : Int) = (3 : Int))) = true) ∧ True) ∧ ((decide ((((List.length l) : Nat) : Int) = (3 : Int))) = false → True))) ∧ (True ∧ True))))))))) (by kernel_rfl)
    ⟨trivial, ⟨trivial, ⟨⟨trivial, ⟨trivial, trivial⟩⟩, ⟨trivial, ⟨(fun _ => trivial), ⟨(fun hG => ⟨trivial, ⟨⟨⟨hG, trivial⟩, ⟨trivial, trivial⟩⟩, trivial⟩⟩), ⟨(fun hG => ⟨hG, trivial⟩), ⟨⟨trivial, ⟨(fun hp => ⟨hp, trivial⟩), (fun _ => trivial)⟩⟩, ⟨trivial, trivial⟩⟩⟩⟩⟩⟩⟩⟩⟩ ?_
  refine W.ret ?_
  exact endQ_ret (.b ((decide ((((List.length l) : Nat) : Int) = (3 : Int))) && (!(anyN l.length (fun jj => !within (l.getD jj 0) 0 20))))) (by kernel_rfl) (@cast ((.bool ((decide ((((List.length l) : Nat) : Int) = (3 : Int))) && (!(anyN l.length (fun jj => !within (l.getD jj 0) 0 20)))) : Value) = .bool (countsOK l)) _ (by kernel_rfl) (congrArg Value.bool (by exact counts_impl l)))
theorem ent15 : Entr prog 15 := ⟨_, func15, rfl, by decide⟩

end Go.Proofs.Try
