import Derived.Test.YtcjnccepckdiaaaAS
import Derived.Test.YtcjnccepckdiaaaM2
import Derived.Test.YtcjnccepckdiaaaAP19
import Derived.Test.YtcjnccepckdiaaaAP99AheadOf
set_option linter.unusedSimpArgs false
set_option linter.unusedVariables false
namespace Go.Proofs.Try
open Go.Ab Go.RowKit
/-- impl.AheadOf -/
def fs40 : FnS := fnS [.s .calls] [.calls] (fun _ (h, _) => (.sl (.ints (aheadOf h)), [], True))
abbrev T40 : Tab := lk [(19, fs19), (99, fs99AheadOf)]
theorem tab40 : TabOK prog T40 := (TabOK.cons ok19 ent19 (TabOK.cons ok99AheadOf ent99AheadOf TabOK.nil))
set_option maxRecDepth 100000 in
set_option maxHeartbeats 1000000 in
theorem ok40 : FnOK prog 40 fs40 := by
  refine FnOK.mk func40 rfl rfl rfl ?_
  rintro fl ⟨(h : List CallD), _⟩ hpre F hnt0 _
  have hnt : F.nt = 10 := hnt0.trans ntmps40
  clear hpre
  refine W.to (⟨[(0, .sl (.calls h))], [], [999]⟩) rfl ?_
  refine W.lenOf 0 (.calls h) (by kernel_rfl) ?_
  intro hl_h; replace hl_h : List.length h ≤ 9223372036854775807 := hl_h
  refine W.K cok tab40 hnt [] [1] (⟨[(1, .ptr 1 0)], [(1, ⟨23, .fix [.sl (.calls h)]⟩)], [1, 999]⟩)
    (True ∧ (True ∧ True)) (by kernel_rfl)
    ⟨trivial, ⟨trivial, trivial⟩⟩ ?_
  refine W.subS [] (⟨[(1, .ep [.sl (.calls h)])], [], [999]⟩) (@cast ((((([.sl (.calls h)] : List AV) = [.sl (.calls h)]) ∧ ((([] : List Nat) = []) ∧ ((1 : Nat) ∉ ([] : List Nat)))) ∧ True) ∧ (True ∧ ((true = true) ∧ (true = true)))) _ (by kernel_rfl) ⟨⟨⟨rfl, ⟨rfl, (by decide)⟩⟩, trivial⟩, ⟨trivial, ⟨rfl, rfl⟩⟩⟩) ?_
  refine W.seq ?_
  refine W.K cok tab40 hnt [] [1, 5] (⟨[(1, .ep [.sl (.calls h)]), (5, .b (!(validHistory h)))], [], [999]⟩)
    (True ∧ ((True ∧ ((True ∧ True) ∧ True)) ∧ (True ∧ True))) (by kernel_rfl)
    ⟨trivial, ⟨⟨trivial, ⟨⟨trivial, trivial⟩, trivial⟩⟩, ⟨trivial, trivial⟩⟩⟩ ?_
  refine W.if' (!(validHistory h)) (.b (!(validHistory h))) (by kernel_rfl) rfl trivial ?_ ?_
  · intro h5
    refine W.K cok tab40 hnt [] [2] (⟨[(2, .v (.slice none 0 0))], [], [999]⟩)
      (True ∧ True) (by kernel_rfl)
      ⟨trivial, trivial⟩ ?_
    refine W.ret (thenQ_ret ?_)
    exact endQ_ret (.v (.slice none 0 0)) (by kernel_rfl) (@cast (((Value.slice none 0 0 : Value) = .slice none 0 0) ∧ ((Dat.ints (aheadOf h)).len = 0)) _ (by kernel_rfl) ⟨rfl, (by show List.length (aheadOf h) = 0; unfold aheadOf; rw [not_f h5]; rfl)⟩)
  · intro n5
    refine W.skip (thenQ_normal ?_)
    refine W.K cok tab40 hnt [] [2] (⟨[(2, .sl (.ints (rowsOf (((List.length h) : Nat) : Int).toNat (aheadF h))))], [], [999]⟩)
      (True ∧ (True ∧ (True ∧ ((True ∧ ((True ∧ (True ∧ True)) ∧ (0 ≤ (((List.length h) : Nat) : Int) ∧ (((List.length h) : Nat) : Int) ≤ 60 ∧ (((List.length h) : Nat) : Int) = h.length))) ∧ (True ∧ True))))) (by kernel_rfl)
      ⟨trivial, ⟨trivial, ⟨trivial, ⟨⟨trivial, ⟨⟨trivial, ⟨trivial, trivial⟩⟩, (by have hv := (valid_iff.1 (not_g n5)).1; omega)⟩⟩, ⟨trivial, trivial⟩⟩⟩⟩⟩ ?_
    refine W.ret ?_
    exact endQ_ret (.sl (.ints (rowsOf (((List.length h) : Nat) : Int).toNat (aheadF h)))) (by kernel_rfl) (@cast ((.ints (rowsOf (((List.length h) : Nat) : Int).toNat (aheadF h)) : Dat) = .ints (aheadOf h)) _ (by kernel_rfl) (congrArg Dat.ints (by unfold aheadOf; rw [not_g n5]; rfl)))
theorem ent40 : Entr prog 40 := ⟨_, func40, rfl, by decide⟩

end Go.Proofs.Try
