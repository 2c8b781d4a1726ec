import Derived.Test.YtcjnccepckdiaaaAS
import Derived.Test.YtcjnccepckdiaaaM1
import Derived.Test.YtcjnccepckdiaaaAP64
import Derived.Test.YtcjnccepckdiaaaAP89
set_option linter.unusedSimpArgs false
set_option linter.unusedVariables false
namespace Go.Proofs.Try
open Go.Ab Go.RowKit
/-- spec.DrawQuietAhead -/
def pre48 : List AV → List AV → Prop := preP [.bytes] [] (fun (code, _) _ => True)
def rel48 : RelS := relP [.bytes] [] (ι := (List CallD)) (fun (code, _) _ g => (g.length ≤ 6)) (fun (code, _) _ g => (.sl (.calls g), [], []))
abbrev T48 : Tab := lk []
theorem tab48 : TabOK prog T48 := TabOK.nil
set_option maxRecDepth 100000 in
set_option maxHeartbeats 1000000 in
theorem rok48 : RelOK prog 48 none [.s .bytes] pre48 rel48 := by
  refine RelOK.mk func48 rfl rfl rfl ?_
  rintro ⟨(code : List UInt8), _⟩ _ hpre F hnt0
  have hnt : F.nt = 6 := hnt0.trans ntmps48
  clear hpre
  refine W.to (⟨[(0, .sl (.bytes code))], [], [998, 999]⟩) rfl ?_
  refine W.K cok tab48 hnt [] [0] (⟨[(0, .sl (.bytes code))], [], [998, 999]⟩)
    (True ∧ True) (by kernel_rfl)
    ⟨trivial, trivial⟩ ?_
  refine W.seq (W.wi ?_)
  refine WI.run cok tab48 hnt [] 1 (⟨[(0, .sl (.bytes code)), (3, .sl (.bytes code))], [], [998, 999]⟩)
    (True ∧ True) (by kernel_rfl)
    ⟨trivial, trivial⟩ ?_
  refine WI.to (⟨[(0, .sl (.bytes code)), (3, .sl (.bytes code))], [], [998, 999]⟩) 1 rfl rfl ?_
  refine WI.call [.sl (.bytes code)] [] [.sl (.bytes code)] [.sl (.bytes code)] none (True) (True ∧ True) none rok64 ent64 hnt rfl rfl (wanted_none rfl) (by kernel_rfl) (by kernel_rfl) (by kernel_rfl) ⟨trivial, ⟨trivial, trivial⟩⟩
    (@cast (True) _ (by kernel_rfl) trivial) (Or.inl rfl) rfl ?_
  rintro r bl fx2 hR
  obtain ⟨l4, hq4, rfl, rfl, rfl⟩ := (@cast _ (∃ x : (List UInt8), (True) ∧ r = (.ptr 0 0) ∧ bl = ([⟨86, .fix [.sl (.bytes x), .i (0 : Int)]⟩]) ∧ fx2 = ([])) (by kernel_rfl) hR)
  clear hR
  replace hq4 : True := hq4
  refine ⟨by kernel_rfl, WI.to (⟨[(0, .sl (.bytes code)), (3, .sl (.bytes code)), (4, .ptr 4 0)], [(4, ⟨86, .fix [.sl (.bytes l4), .i (0 : Int)]⟩)], [4, 998, 999]⟩) 2 (by kernel_rfl) rfl ?_⟩
  refine WI.call [.ptr 4 0] [.sl (.bytes l4), .i (0 : Int)] [] [] (some (86, 4)) (True) (True) none rok89 ent89 hnt rfl rfl (wanted_none rfl) (by kernel_rfl) (by kernel_rfl) (by kernel_rfl) ⟨trivial, trivial⟩
    (@cast (0 ≤ (0 : Int) ∧ (0 : Int) ≤ 700000) _ (by kernel_rfl) (by omega)) (Or.inl rfl) rfl ?_
  rintro r bl fx2 hR
  obtain ⟨⟨g5, q5⟩, hq5, rfl, rfl, rfl⟩ := (@cast _ (∃ x : (List CallD) × Int, ((x.1.length ≤ 6) ∧ ((0 : Int) ≤ x.2 ∧ x.2 ≤ (0 : Int) + 1300)) ∧ r = (.own 1 (List.length x.1)) ∧ bl = ([⟨27, .row (.calls x.1)⟩]) ∧ fx2 = ([.sl (.bytes l4), .i x.2])) (by kernel_rfl) hR)
  clear hR
  replace hq5 : (g5.length ≤ 6) ∧ ((0 : Int) ≤ q5 ∧ q5 ≤ (0 : Int) + 1300) := hq5
  obtain ⟨hg5, hq15⟩ := hq5
  refine ⟨by kernel_rfl, WI.to (⟨[(0, .sl (.bytes code)), (3, .sl (.bytes code)), (4, .ptr 4 0), (5, .own 1005 (List.length g5))], [(4, ⟨86, .fix [.sl (.bytes l4), .i q5]⟩), (1005, ⟨27, .row (.calls g5)⟩)], [1005, 5, 4, 998, 999]⟩) 3 (by kernel_rfl) rfl ?_⟩
  refine WI.run cok tab48 hnt [] 1 (⟨[(0, .sl (.bytes code)), (2, .own 1005 (List.length g5)), (3, .sl (.bytes code)), (4, .ptr 4 0), (5, .own 1005 (List.length g5))], [(4, ⟨86, .fix [.sl (.bytes l4), .i q5]⟩), (1005, ⟨27, .row (.calls g5)⟩)], [1005, 5, 4, 998, 999]⟩)
    (True ∧ True) (by kernel_rfl)
    ⟨trivial, trivial⟩ ?_
  refine WI.to (⟨[(0, .sl (.bytes code)), (2, .own 1005 (List.length g5)), (3, .sl (.bytes code)), (4, .ptr 4 0), (5, .own 1005 (List.length g5))], [(4, ⟨86, .fix [.sl (.bytes l4), .i q5]⟩), (1005, ⟨27, .row (.calls g5)⟩)], [1005, 5, 4, 998, 999]⟩) 4 rfl rfl ?_
  refine WI.nil rfl (thenQ_normal ?_)
  refine W.keepE [2] [(2, .own 1005 (List.length g5))] (by kernel_rfl) ?_
  refine W.to (⟨[(2, .own 1005 (List.length g5))], [(4, ⟨86, .fix [.sl (.bytes l4), .i q5]⟩), (1005, ⟨27, .row (.calls g5)⟩)], [1005, 5, 4, 998, 999]⟩) rfl ?_
  refine W.ret ?_
  exact endP_ret (g5) (show (g5.length ≤ 6) from (by first | assumption | omega | rfl | (simp; done) | (simp; omega))) [] (.own 1005 (List.length g5)) (by kernel_rfl) (@cast ((((List.length g5) = (List.length g5)) ∧ (((.calls g5 : Dat) = .calls g5) ∧ ((1005 : Nat) ∉ ([] : List Nat)))) ∧ (True ∧ ((true = true) ∧ (True ∧ (false = true → (0 : Nat) = 998))))) _ (by kernel_rfl) ⟨⟨rfl, ⟨rfl, (by decide)⟩⟩, ⟨trivial, ⟨rfl, ⟨trivial, (fun h => by cases h)⟩⟩⟩⟩)
theorem ent48 : Entr prog 48 := ⟨_, func48, rfl, by decide⟩

end Go.Proofs.Try
