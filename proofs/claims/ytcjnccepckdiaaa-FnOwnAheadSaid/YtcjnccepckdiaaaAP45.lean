import Derived.Test.YtcjnccepckdiaaaAS
import Derived.Test.YtcjnccepckdiaaaM2
import Derived.Test.YtcjnccepckdiaaaAP91
import Derived.Test.YtcjnccepckdiaaaAP103
set_option linter.unusedSimpArgs false
set_option linter.unusedVariables false
namespace Go.Proofs.Try
open Go.Ab Go.RowKit
/-- spec.OwnAhead -/
def fs45 : FnS := fnS [.s .calls] [.calls] (fun _ (h, _) => (.sl (.ints (ownAhead h)), [], True))
abbrev T45 : Tab := lk [(91, fs91), (103, fs103)]
theorem tab45 : TabOK prog T45 := (TabOK.cons ok91 ent91 (TabOK.cons ok103 ent103 TabOK.nil))
set_option maxRecDepth 100000 in
set_option maxHeartbeats 1000000 in
theorem ok45 : FnOK prog 45 fs45 := by
  refine FnOK.mk func45 rfl rfl rfl ?_
  rintro fl ⟨(h : List CallD), _⟩ hpre F hnt0 _
  have hnt : F.nt = 8 := hnt0.trans ntmps45
  clear hpre
  refine W.to (⟨[(0, .sl (.calls h))], [], [999]⟩) rfl ?_
  refine W.lenOf 0 (.calls h) (by kernel_rfl) ?_
  intro hl_h; replace hl_h : List.length h ≤ 9223372036854775807 := hl_h
  refine W.K cok tab45 hnt [] [0] (⟨[(0, .sl (.calls h))], [], [999]⟩)
    (True ∧ True) (by kernel_rfl)
    ⟨trivial, trivial⟩ ?_
  refine W.seq ?_
  refine W.K cok tab45 hnt [] [0, 5] (⟨[(0, .sl (.calls h)), (5, .b (!(validHistory h)))], [], [999]⟩)
    (True ∧ ((True ∧ ((True ∧ True) ∧ True)) ∧ (True ∧ True))) (by kernel_rfl)
    ⟨trivial, ⟨⟨trivial, ⟨⟨trivial, trivial⟩, trivial⟩⟩, ⟨trivial, trivial⟩⟩⟩ ?_
  refine W.if' (!(validHistory h)) (.b (!(validHistory h))) (by kernel_rfl) rfl trivial ?_ ?_
  · intro h5
    refine W.K cok tab45 hnt [] [2] (⟨[(2, .v (.slice none 0 0))], [], [999]⟩)
      (True ∧ True) (by kernel_rfl)
      ⟨trivial, trivial⟩ ?_
    refine W.ret (thenQ_ret ?_)
    exact endQ_ret (.v (.slice none 0 0)) (by kernel_rfl) (@cast (((Value.slice none 0 0 : Value) = .slice none 0 0) ∧ ((Dat.ints (ownAhead h)).len = 0)) _ (by kernel_rfl) ⟨rfl, (by show List.length (ownAhead h) = 0; unfold ownAhead; rw [not_f h5]; rfl)⟩)
  · intro n5
    refine W.skip (thenQ_normal ?_)
    refine W.K cok tab45 hnt [] [2] (⟨[(2, .sl (.ints (rowsOf h.length (ownF h))))], [], [999]⟩)
      (True ∧ ((True ∧ ((True ∧ True) ∧ (h.length ≤ 60))) ∧ (True ∧ True))) (by kernel_rfl)
      ⟨trivial, ⟨⟨trivial, ⟨⟨trivial, trivial⟩, (by have hv := (valid_iff.1 (not_g n5)).1; omega)⟩⟩, ⟨trivial, trivial⟩⟩⟩ ?_
    refine W.ret ?_
    exact endQ_ret (.sl (.ints (rowsOf h.length (ownF h)))) (by kernel_rfl) (@cast ((.ints (rowsOf h.length (ownF h)) : Dat) = .ints (ownAhead h)) _ (by kernel_rfl) (congrArg Dat.ints (by unfold ownAhead; rw [not_g n5]; rfl)))
theorem ent45 : Entr prog 45 := ⟨_, func45, rfl, by decide⟩

end Go.Proofs.Try
