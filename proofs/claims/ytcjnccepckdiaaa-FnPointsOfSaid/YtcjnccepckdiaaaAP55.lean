import Derived.Test.YtcjnccepckdiaaaAS
import Derived.Test.YtcjnccepckdiaaaM7
import Derived.Test.YtcjnccepckdiaaaAP64
import Derived.Test.YtcjnccepckdiaaaAP89
import Derived.Test.YtcjnccepckdiaaaAP109
set_option linter.unusedSimpArgs false
set_option linter.unusedVariables false
namespace Go.Proofs.Try
open Go.Ab Go.RowKit
/-- spec.DrawPointsOf -/
def pre55 : List AV → List AV → Prop := preP [.bytes] [] (fun (code, _) _ => True)
def rel55 : RelS := relP [.bytes] [] (ι := (List CallD) × (List Int)) (fun (code, _) _ (g, l) => (g.length ≤ 6) ∧ (l.length ≤ 7) ∧ (l.length = g.length → GoodO l g.length)) (fun (code, _) _ (g, l) => (.tup [.sl (.calls g), .sl (.ints l)], [], []))
abbrev T55 : Tab := lk []
theorem tab55 : TabOK prog T55 := TabOK.nil
set_option maxRecDepth 100000 in
set_option maxHeartbeats 1000000 in
theorem rok55 : RelOK prog 55 none [.s .bytes] pre55 rel55 := by
  refine RelOK.mk func55 rfl rfl rfl ?_
  rintro ⟨(code : List UInt8), _⟩ _ hpre F hnt0
  have hnt : F.nt = 15 := hnt0.trans ntmps55
  clear hpre
  refine W.to (⟨[(0, .sl (.bytes code))], [], [998, 999]⟩) rfl ?_
  refine W.K cok tab55 hnt [] [0] (⟨[(0, .sl (.bytes code))], [], [998, 999]⟩)
    (True ∧ (True ∧ True)) (by kernel_rfl)
    ⟨trivial, ⟨trivial, trivial⟩⟩ ?_
  refine W.seq (W.wi ?_)
  refine WI.run cok tab55 hnt [] 1 (⟨[(0, .sl (.bytes code)), (6, .sl (.bytes code))], [], [998, 999]⟩)
    (True ∧ True) (by kernel_rfl)
    ⟨trivial, trivial⟩ ?_
  refine WI.to (⟨[(0, .sl (.bytes code)), (6, .sl (.bytes code))], [], [998, 999]⟩) 1 rfl rfl ?_
  refine WI.call [.sl (.bytes code)] [] [.sl (.bytes code)] [.sl (.bytes code)] none (True) (True ∧ True) none rok64 ent64 hnt rfl rfl (wanted_none rfl) (by kernel_rfl) (by kernel_rfl) (by kernel_rfl) ⟨trivial, ⟨trivial, trivial⟩⟩
    (@cast (True) _ (by kernel_rfl) trivial) (Or.inl rfl) rfl ?_
  rintro r bl fx2 hR
  obtain ⟨l7, hq7, rfl, rfl, rfl⟩ := (@cast _ (∃ x : (List UInt8), (True) ∧ r = (.ptr 0 0) ∧ bl = ([⟨86, .fix [.sl (.bytes x), .i (0 : Int)]⟩]) ∧ fx2 = ([])) (by kernel_rfl) hR)
  clear hR
  replace hq7 : True := hq7
  refine ⟨by kernel_rfl, WI.to (⟨[(0, .sl (.bytes code)), (6, .sl (.bytes code)), (7, .ptr 7 0)], [(7, ⟨86, .fix [.sl (.bytes l7), .i (0 : Int)]⟩)], [7, 998, 999]⟩) 2 (by kernel_rfl) rfl ?_⟩
  refine WI.run cok tab55 hnt [] 1 (⟨[(0, .sl (.bytes code)), (4, .ptr 7 0), (6, .sl (.bytes code)), (7, .ptr 7 0)], [(7, ⟨86, .fix [.sl (.bytes l7), .i (0 : Int)]⟩)], [7, 998, 999]⟩)
    (True ∧ True) (by kernel_rfl)
    ⟨trivial, trivial⟩ ?_
  refine WI.to (⟨[(0, .sl (.bytes code)), (4, .ptr 7 0), (6, .sl (.bytes code)), (7, .ptr 7 0)], [(7, ⟨86, .fix [.sl (.bytes l7), .i (0 : Int)]⟩)], [7, 998, 999]⟩) 3 rfl rfl ?_
  refine WI.nil rfl (thenQ_normal ?_)
  refine W.keepE [4] [(4, .ptr 7 0)] (by kernel_rfl) ?_
  refine W.to (⟨[(4, .ptr 7 0)], [(7, ⟨86, .fix [.sl (.bytes l7), .i (0 : Int)]⟩)], [7, 998, 999]⟩) rfl ?_
  refine W.seq (W.wi ?_)
  refine WI.run cok tab55 hnt [] 1 (⟨[(4, .ptr 7 0), (8, .ptr 7 0)], [(7, ⟨86, .fix [.sl (.bytes l7), .i (0 : Int)]⟩)], [7, 998, 999]⟩)
    (True ∧ True) (by kernel_rfl)
    ⟨trivial, trivial⟩ ?_
  refine WI.to (⟨[(4, .ptr 7 0), (8, .ptr 7 0)], [(7, ⟨86, .fix [.sl (.bytes l7), .i (0 : Int)]⟩)], [7, 998, 999]⟩) 1 rfl rfl ?_
  refine WI.call [.ptr 7 0] [.sl (.bytes l7), .i (0 : Int)] [] [] (some (86, 7)) (True) (True) none rok89 ent89 hnt rfl rfl (wanted_none rfl) (by kernel_rfl) (by kernel_rfl) (by kernel_rfl) ⟨trivial, trivial⟩
    (@cast (0 ≤ (0 : Int) ∧ (0 : Int) ≤ 700000) _ (by kernel_rfl) (by omega)) (Or.inl rfl) rfl ?_
  rintro r bl fx2 hR
  obtain ⟨⟨g9, q9⟩, hq9, rfl, rfl, rfl⟩ := (@cast _ (∃ x : (List CallD) × Int, ((x.1.length ≤ 6) ∧ ((0 : Int) ≤ x.2 ∧ x.2 ≤ (0 : Int) + 1300)) ∧ r = (.own 1 (List.length x.1)) ∧ bl = ([⟨27, .row (.calls x.1)⟩]) ∧ fx2 = ([.sl (.bytes l7), .i x.2])) (by kernel_rfl) hR)
  clear hR
  replace hq9 : (g9.length ≤ 6) ∧ ((0 : Int) ≤ q9 ∧ q9 ≤ (0 : Int) + 1300) := hq9
  obtain ⟨hg9, hq19⟩ := hq9
  refine ⟨by kernel_rfl, WI.to (⟨[(4, .ptr 7 0), (8, .ptr 7 0), (9, .own 1009 (List.length g9))], [(7, ⟨86, .fix [.sl (.bytes l7), .i q9]⟩), (1009, ⟨27, .row (.calls g9)⟩)], [1009, 9, 7, 998, 999]⟩) 2 (by kernel_rfl) rfl ?_⟩
  refine WI.run cok tab55 hnt [] 1 (⟨[(4, .ptr 7 0), (5, .own 1009 (List.length g9)), (8, .ptr 7 0), (9, .own 1009 (List.length g9))], [(7, ⟨86, .fix [.sl (.bytes l7), .i q9]⟩), (1009, ⟨27, .row (.calls g9)⟩)], [1009, 9, 7, 998, 999]⟩)
    (True ∧ True) (by kernel_rfl)
    ⟨trivial, trivial⟩ ?_
  refine WI.to (⟨[(4, .ptr 7 0), (5, .own 1009 (List.length g9)), (8, .ptr 7 0), (9, .own 1009 (List.length g9))], [(7, ⟨86, .fix [.sl (.bytes l7), .i q9]⟩), (1009, ⟨27, .row (.calls g9)⟩)], [1009, 9, 7, 998, 999]⟩) 3 rfl rfl ?_
  refine WI.nil rfl (thenQ_normal ?_)
  refine W.keepE [4, 5] [(4, .ptr 7 0), (5, .own 1009 (List.length g9))] (by kernel_rfl) ?_
  refine W.to (⟨[(4, .ptr 7 0), (5, .own 1009 (List.length g9))], [(7, ⟨86, .fix [.sl (.bytes l7), .i q9]⟩), (1009, ⟨27, .row (.calls g9)⟩)], [1009, 9, 7, 998, 999]⟩) rfl ?_
  refine W.seq (W.wi ?_)
  refine WI.run cok tab55 hnt [] 4 (⟨[(4, .ptr 7 0), (5, .own 1009 (List.length g9)), (10, .own 1009 (List.length g9)), (11, .ptr 7 0), (12, .own 1009 (List.length g9)), (13, .i (((List.length g9) : Nat) : Int))], [(7, ⟨86, .fix [.sl (.bytes l7), .i q9]⟩), (1009, ⟨27, .row (.calls g9)⟩)], [1009, 9, 7, 998, 999]⟩)
    (True ∧ (True ∧ (True ∧ (True ∧ True)))) (by kernel_rfl)
    ⟨trivial, ⟨trivial, ⟨trivial, ⟨trivial, trivial⟩⟩⟩⟩ ?_
  refine WI.to (⟨[(4, .ptr 7 0), (5, .own 1009 (List.length g9)), (10, .own 1009 (List.length g9)), (11, .ptr 7 0), (12, .own 1009 (List.length g9)), (13, .i (((List.length g9) : Nat) : Int))], [(7, ⟨86, .fix [.sl (.bytes l7), .i q9]⟩), (1009, ⟨27, .row (.calls g9)⟩)], [1009, 9, 7, 998, 999]⟩) 4 rfl rfl ?_
  refine WI.call [.ptr 7 0, .i (((List.length g9) : Nat) : Int)] [.sl (.bytes l7), .i q9] [.i (((List.length g9) : Nat) : Int)] [.i (((List.length g9) : Nat) : Int)] (some (86, 7)) (True) (True ∧ True) none rok109 ent109 hnt rfl rfl (wanted_none rfl) (by kernel_rfl) (by kernel_rfl) (by kernel_rfl) ⟨trivial, ⟨trivial, trivial⟩⟩
    (@cast ((0 ≤ q9 ∧ q9 ≤ 800000) ∧ (0 ≤ (((List.length g9) : Nat) : Int) ∧ (((List.length g9) : Nat) : Int) ≤ 6)) _ (by kernel_rfl) ⟨(by omega), (by omega)⟩) (Or.inl rfl) rfl ?_
  rintro r bl fx2 hR
  obtain ⟨⟨l14, q14⟩, hq14, rfl, rfl, rfl⟩ := (@cast _ (∃ x : (List Int) × Int, ((((x.1.length : Nat) : Int) = (((List.length g9) : Nat) : Int) → GoodO x.1 (((List.length g9) : Nat) : Int).toNat) ∧ (x.1.length ≤ 7) ∧ (q9 ≤ x.2 ∧ x.2 ≤ q9 + 20)) ∧ r = (.own 1 (List.length x.1)) ∧ bl = ([⟨3, .row (.ints x.1)⟩]) ∧ fx2 = ([.sl (.bytes l7), .i x.2])) (by kernel_rfl) hR)
  clear hR
  replace hq14 : (((l14.length : Nat) : Int) = (((List.length g9) : Nat) : Int) → GoodO l14 (((List.length g9) : Nat) : Int).toNat) ∧ (l14.length ≤ 7) ∧ (q9 ≤ q14 ∧ q14 ≤ q9 + 20) := hq14
  obtain ⟨hg14, hl14, hq114⟩ := hq14
  refine ⟨by kernel_rfl, WI.to (⟨[(4, .ptr 7 0), (5, .own 1009 (List.length g9)), (10, .own 1009 (List.length g9)), (11, .ptr 7 0), (12, .own 1009 (List.length g9)), (13, .i (((List.length g9) : Nat) : Int)), (14, .own 1014 (List.length l14))], [(7, ⟨86, .fix [.sl (.bytes l7), .i q14]⟩), (1009, ⟨27, .row (.calls g9)⟩), (1014, ⟨3, .row (.ints l14)⟩)], [1014, 14, 1009, 9, 7, 998, 999]⟩) 5 (by kernel_rfl) rfl ?_⟩
  refine WI.run cok tab55 hnt [] 2 (⟨[(2, .own 1009 (List.length g9)), (3, .own 1014 (List.length l14)), (4, .ptr 7 0), (5, .own 1009 (List.length g9)), (10, .own 1009 (List.length g9)), (11, .ptr 7 0), (12, .own 1009 (List.length g9)), (13, .i (((List.length g9) : Nat) : Int)), (14, .own 1014 (List.length l14))], [(7, ⟨86, .fix [.sl (.bytes l7), .i q14]⟩), (1009, ⟨27, .row (.calls g9)⟩), (1014, ⟨3, .row (.ints l14)⟩)], [1014, 14, 1009, 9, 7, 998, 999]⟩)
    (True ∧ (True ∧ True)) (by kernel_rfl)
    ⟨trivial, ⟨trivial, trivial⟩⟩ ?_
  refine WI.to (⟨[(2, .own 1009 (List.length g9)), (3, .own 1014 (List.length l14)), (4, .ptr 7 0), (5, .own 1009 (List.length g9)), (10, .own 1009 (List.length g9)), (11, .ptr 7 0), (12, .own 1009 (List.length g9)), (13, .i (((List.length g9) : Nat) : Int)), (14, .own 1014 (List.length l14))], [(7, ⟨86, .fix [.sl (.bytes l7), .i q14]⟩), (1009, ⟨27, .row (.calls g9)⟩), (1014, ⟨3, .row (.ints l14)⟩)], [1014, 14, 1009, 9, 7, 998, 999]⟩) 7 rfl rfl ?_
  refine WI.nil rfl (thenQ_normal ?_)
  refine W.keepE [2, 3] [(2, .own 1009 (List.length g9)), (3, .own 1014 (List.length l14))] (by kernel_rfl) ?_
  refine W.to (⟨[(2, .own 1009 (List.length g9)), (3, .own 1014 (List.length l14))], [(7, ⟨86, .fix [.sl (.bytes l7), .i q14]⟩), (1009, ⟨27, .row (.calls g9)⟩), (1014, ⟨3, .row (.ints l14)⟩)], [1014, 14, 1009, 9, 7, 998, 999]⟩) rfl ?_
  refine W.ret ?_
  exact endP_ret (g9, l14) (show (g9.length ≤ 6) ∧ (l14.length ≤ 7) ∧ (l14.length = g9.length → GoodO l14 g9.length) from ⟨(by first | assumption | omega | rfl | (simp; done) | (simp; omega)), (by first | assumption | omega | rfl | (simp; done) | (simp; omega)), (by intro hh; have := hg14 (by omega); exact this)⟩) [] (.tup [.own 1009 (List.length g9), .own 1014 (List.length l14)]) (by kernel_rfl) (@cast (((((List.length g9) = (List.length g9)) ∧ (((.calls g9 : Dat) = .calls g9) ∧ ((1009 : Nat) ∉ ([] : List Nat)))) ∧ ((((List.length l14) = (List.length l14)) ∧ (((.ints l14 : Dat) = .ints l14) ∧ ((1014 : Nat) ∉ ([] : List Nat)))) ∧ True)) ∧ (True ∧ ((true = true) ∧ (True ∧ (false = true → (0 : Nat) = 998))))) _ (by kernel_rfl) ⟨⟨⟨rfl, ⟨rfl, (by decide)⟩⟩, ⟨⟨rfl, ⟨rfl, (by decide)⟩⟩, trivial⟩⟩, ⟨trivial, ⟨rfl, ⟨trivial, (fun h => by cases h)⟩⟩⟩⟩)
theorem ent55 : Entr prog 55 := ⟨_, func55, rfl, by decide⟩

end Go.Proofs.Try
