import Derived.Test.YtcjnccepckdiaaaAS
import Derived.Test.YtcjnccepckdiaaaM4
import Derived.Test.YtcjnccepckdiaaaAP19
import Derived.Test.YtcjnccepckdiaaaAP93
set_option linter.unusedSimpArgs false
set_option linter.unusedVariables false
namespace Go.Proofs.Try
open Go.Ab Go.RowKit
/-- impl.LevelsOf -/
def fs33 : FnS := fnS [.s .calls] [.calls] (fun _ (h, _) => (.sl (.ints (levelsOf h)), [], True))
abbrev T33 : Tab := lk [(19, fs19), (93, fs93)]
theorem tab33 : TabOK prog T33 := (TabOK.cons ok19 ent19 (TabOK.cons ok93 ent93 TabOK.nil))
set_option maxRecDepth 100000 in
set_option maxHeartbeats 1000000 in
theorem ok33 : FnOK prog 33 fs33 := by
  refine FnOK.mk func33 rfl rfl rfl ?_
  rintro fl ⟨(h : List CallD), _⟩ hpre F hnt0 _
  have hnt : F.nt = 8 := hnt0.trans ntmps33
  clear hpre
  refine W.to (⟨[(0, .sl (.calls h))], [], [999]⟩) rfl ?_
  refine W.lenOf 0 (.calls h) (by kernel_rfl) ?_
  intro hl_h; replace hl_h : List.length h ≤ 9223372036854775807 := hl_h
  refine W.K cok tab33 hnt [] [0] (⟨[(0, .sl (.calls h))], [], [999]⟩)
    (True ∧ True) (by kernel_rfl)
    ⟨trivial, trivial⟩ ?_
  refine W.seq ?_
  refine W.K cok tab33 hnt [] [0, 5] (⟨[(0, .sl (.calls h)), (5, .b (!(validHistory h)))], [], [999]⟩)
    (True ∧ ((True ∧ ((True ∧ True) ∧ True)) ∧ (True ∧ True))) (by kernel_rfl)
    ⟨trivial, ⟨⟨trivial, ⟨⟨trivial, trivial⟩, trivial⟩⟩, ⟨trivial, trivial⟩⟩⟩ ?_
  refine W.if' (!(validHistory h)) (.b (!(validHistory h))) (by kernel_rfl) rfl trivial ?_ ?_
  · intro h5
    refine W.K cok tab33 hnt [] [2] (⟨[(2, .v (.slice none 0 0))], [], [999]⟩)
      (True ∧ True) (by kernel_rfl)
      ⟨trivial, trivial⟩ ?_
    refine W.ret (thenQ_ret ?_)
    exact endQ_ret (.v (.slice none 0 0)) (by kernel_rfl) (@cast (((Value.slice none 0 0 : Value) = .slice none 0 0) ∧ ((Dat.ints (levelsOf h)).len = 0)) _ (by kernel_rfl) ⟨rfl, (by show List.length (levelsOf h) = 0; unfold levelsOf; rw [not_f h5]; rfl)⟩)
  · intro n5
    refine W.skip (thenQ_normal ?_)
    refine W.K cok tab33 hnt [] [2] (⟨[(2, .sl (.ints (levOf h)))], [], [999]⟩)
      (True ∧ ((True ∧ ((True ∧ True) ∧ (validHistory h = true))) ∧ (True ∧ True))) (by kernel_rfl)
      ⟨trivial, ⟨⟨trivial, ⟨⟨trivial, trivial⟩, (by exact not_g n5)⟩⟩, ⟨trivial, trivial⟩⟩⟩ ?_
    refine W.ret ?_
    exact endQ_ret (.sl (.ints (levOf h))) (by kernel_rfl) (@cast ((.ints (levOf h) : Dat) = .ints (levelsOf h)) _ (by kernel_rfl) (congrArg Dat.ints (by unfold levelsOf; rw [not_g n5]; rfl)))
theorem ent33 : Entr prog 33 := ⟨_, func33, rfl, by decide⟩

end Go.Proofs.Try
