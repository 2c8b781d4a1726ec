import Derived.Test.YtcjnccepckdiaaaAS
import Derived.Test.YtcjnccepckdiaaaM6
import Derived.Test.YtcjnccepckdiaaaAP91
import Derived.Test.YtcjnccepckdiaaaAP106
set_option linter.unusedSimpArgs false
set_option linter.unusedVariables false
namespace Go.Proofs.Try
open Go.Ab Go.RowKit
/-- spec.QuietAhead -/
def fs50 : FnS := fnS [.s .calls] [.calls] (fun _ (h, _) => (.sl (.ints (quietAhead h)), [], True))
abbrev T50 : Tab := lk [(91, fs91), (106, fs106)]
theorem tab50 : TabOK prog T50 := (TabOK.cons ok91 ent91 (TabOK.cons ok106 ent106 TabOK.nil))
set_option maxRecDepth 100000 in
set_option maxHeartbeats 1000000 in
theorem ok50 : FnOK prog 50 fs50 := by
  refine FnOK.mk func50 rfl rfl rfl ?_
  rintro fl ⟨(h : List CallD), _⟩ hpre F hnt0 _
  have hnt : F.nt = 8 := hnt0.trans ntmps50
  clear hpre
  refine W.to (⟨[(0, .sl (.calls h))], [], [999]⟩) rfl ?_
  refine W.lenOf 0 (.calls h) (by kernel_rfl) ?_
  intro hl_h; replace hl_h : List.length h ≤ 9223372036854775807 := hl_h
  refine W.K cok tab50 hnt [] [0] (⟨[(0, .sl (.calls h))], [], [999]⟩)
    (True ∧ True) (by kernel_rfl)
    ⟨trivial, trivial⟩ ?_
  refine W.seq ?_
  refine W.K cok tab50 hnt [] [0, 5] (⟨[(0, .sl (.calls h)), (5, .b (!(validHistory h)))], [], [999]⟩)
    (True ∧ ((True ∧ ((True ∧ True) ∧ True)) ∧ (True ∧ True))) (by kernel_rfl)
    ⟨trivial, ⟨⟨trivial, ⟨⟨trivial, trivial⟩, trivial⟩⟩, ⟨trivial, trivial⟩⟩⟩ ?_
  refine W.if' (!(validHistory h)) (.b (!(validHistory h))) (by kernel_rfl) rfl trivial ?_ ?_
  · intro h5
    refine W.K cok tab50 hnt [] [2] (⟨[(2, .v (.slice none 0 0))], [], [999]⟩)
      (True ∧ True) (by kernel_rfl)
      ⟨trivial, trivial⟩ ?_
    refine W.ret (thenQ_ret ?_)
    exact endQ_ret (.v (.slice none 0 0)) (by kernel_rfl) (@cast (((Value.slice none 0 0 : Value) = .slice none 0 0) ∧ ((Dat.ints (quietAhead h)).len = 0)) _ (by kernel_rfl) ⟨rfl, (by show List.length (quietAhead h) = 0; unfold quietAhead; rw [not_f h5]; rfl)⟩)
  · intro n5
    refine W.skip (thenQ_normal ?_)
    refine W.K cok tab50 hnt [] [2] (⟨[(2, .sl (.ints (rowsOf h.length (quietF h))))], [], [999]⟩)
      (True ∧ ((True ∧ ((True ∧ True) ∧ (validHistory h = true))) ∧ (True ∧ True))) (by kernel_rfl)
      ⟨trivial, ⟨⟨trivial, ⟨⟨trivial, trivial⟩, (by exact not_g n5)⟩⟩, ⟨trivial, trivial⟩⟩⟩ ?_
    refine W.ret ?_
    exact endQ_ret (.sl (.ints (rowsOf h.length (quietF h)))) (by kernel_rfl) (@cast ((.ints (rowsOf h.length (quietF h)) : Dat) = .ints (quietAhead h)) _ (by kernel_rfl) (congrArg Dat.ints (by unfold quietAhead; rw [not_g n5]; rfl)))
theorem ent50 : Entr prog 50 := ⟨_, func50, rfl, by decide⟩

end Go.Proofs.Try
