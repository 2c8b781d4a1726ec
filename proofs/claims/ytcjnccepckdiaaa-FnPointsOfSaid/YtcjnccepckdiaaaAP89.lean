import Derived.Test.YtcjnccepckdiaaaAS
import Derived.Test.YtcjnccepckdiaaaM1
import Derived.Test.YtcjnccepckdiaaaAP67
import Derived.Test.YtcjnccepckdiaaaAP119
import Derived.Test.YtcjnccepckdiaaaAP118
set_option linter.unusedSimpArgs false
set_option linter.unusedVariables false
namespace Go.Proofs.Try
open Go.Ab Go.RowKit
/-- spec.someHistory -/
def pre89 : List AV → List AV → Prop := preP [] [.bytes, .int] (fun _ (l, p, _) => (0 ≤ p ∧ p ≤ 700000))
def rel89 : RelS := relP [] [.bytes, .int] (ι := (List CallD) × Int) (fun _ (l, p, _) (g, q) => (g.length ≤ 6) ∧ (p ≤ q ∧ q ≤ p + 1300)) (fun _ (l, p, _) (g, q) => (.own 1 (List.length g), [⟨27, .row (.calls g)⟩], [.sl (.bytes l), .i q]))
abbrev T89 : Tab := lk []
theorem tab89 : TabOK prog T89 := TabOK.nil
set_option maxRecDepth 100000 in
set_option maxHeartbeats 1000000 in
theorem rok89 : RelOK prog 89 (some 86) [] pre89 rel89 := by
  refine RelOK.mk func89 rfl rfl rfl ?_
  rintro _ ⟨(l : List UInt8), (p : Int), _⟩ hpre F hnt0
  have hnt : F.nt = 9 := hnt0.trans ntmps89
  replace hpre : (0 ≤ p ∧ p ≤ 700000) := hpre
  have hp := hpre
  refine W.to (⟨[(0, .ptr 998 0)], [(998, ⟨86, .fix [.sl (.bytes l), .i p]⟩)], [998, 999]⟩) rfl ?_
  refine W.K cok tab89 hnt [] [0] (⟨[(0, .ptr 998 0)], [(998, ⟨86, .fix [.sl (.bytes l), .i p]⟩)], [998, 999]⟩)
    (True ∧ True) (by kernel_rfl)
    ⟨trivial, trivial⟩ ?_
  refine W.seq (W.wi ?_)
  refine WI.run cok tab89 hnt [] 3 (⟨[(0, .ptr 998 0), (3, .ptr 998 0), (4, .ptr 998 0), (5, .ptr 998 0)], [(998, ⟨86, .fix [.sl (.bytes l), .i p]⟩)], [998, 999]⟩)
    (True ∧ (True ∧ (True ∧ True))) (by kernel_rfl)
    ⟨trivial, ⟨trivial, ⟨trivial, trivial⟩⟩⟩ ?_
  refine WI.to (⟨[(0, .ptr 998 0), (3, .ptr 998 0), (4, .ptr 998 0), (5, .ptr 998 0)], [(998, ⟨86, .fix [.sl (.bytes l), .i p]⟩)], [998, 999]⟩) 3 rfl rfl ?_
  refine WI.call [.ptr 998 0] [.sl (.bytes l), .i p] [] [] (some (86, 998)) (True) (True) none rok67 ent67 hnt rfl rfl (wanted_none rfl) (by kernel_rfl) (by kernel_rfl) (by kernel_rfl) ⟨trivial, trivial⟩
    (@cast (0 ≤ p ∧ p ≤ 1000000) _ (by kernel_rfl) (by omega)) (Or.inl rfl) rfl ?_
  rintro r bl fx2 hR
  obtain ⟨⟨v6, q6⟩, hq6, rfl, rfl, rfl⟩ := (@cast _ (∃ x : ByteArray × Int, ((x.2 = p + 1)) ∧ r = (.v (.string x.1)) ∧ bl = ([]) ∧ fx2 = ([.sl (.bytes l), .i x.2])) (by kernel_rfl) hR)
  clear hR
  replace hq6 : (q6 = p + 1) := hq6
  have hq16 := hq6
  refine ⟨by kernel_rfl, WI.to (⟨[(0, .ptr 998 0), (3, .ptr 998 0), (4, .ptr 998 0), (5, .ptr 998 0), (6, .v (.string v6))], [(998, ⟨86, .fix [.sl (.bytes l), .i q6]⟩)], [6, 998, 999]⟩) 4 (by kernel_rfl) rfl ?_⟩
  refine WI.call [.ptr 998 0, .v (.string v6)] [.sl (.bytes l), .i q6] [.v (.string v6)] [.v (.string v6)] (some (86, 998)) (True) (True ∧ True) none rok119 ent119 hnt rfl rfl (wanted_none rfl) (by kernel_rfl) (by kernel_rfl) (by kernel_rfl) ⟨trivial, ⟨trivial, trivial⟩⟩
    (@cast (0 ≤ q6 ∧ q6 ≤ 800000) _ (by kernel_rfl) (by omega)) (Or.inl rfl) rfl ?_
  rintro r bl fx2 hR
  obtain ⟨⟨g7, q7⟩, hq7, rfl, rfl, rfl⟩ := (@cast _ (∃ x : (List CallD) × Int, ((GoodH x.1) ∧ (q6 ≤ x.2 ∧ x.2 ≤ q6 + 1200)) ∧ r = (.own 1 (List.length x.1)) ∧ bl = ([⟨27, .row (.calls x.1)⟩]) ∧ fx2 = ([.sl (.bytes l), .i x.2])) (by kernel_rfl) hR)
  clear hR
  replace hq7 : (GoodH g7) ∧ (q6 ≤ q7 ∧ q7 ≤ q6 + 1200) := hq7
  obtain ⟨hg7, hq17⟩ := hq7
  refine ⟨by kernel_rfl, WI.to (⟨[(0, .ptr 998 0), (3, .ptr 998 0), (4, .ptr 998 0), (5, .ptr 998 0), (6, .v (.string v6)), (7, .own 1007 (List.length g7))], [(998, ⟨86, .fix [.sl (.bytes l), .i q7]⟩), (1007, ⟨27, .row (.calls g7)⟩)], [1007, 7, 6, 998, 999]⟩) 5 (by kernel_rfl) rfl ?_⟩
  refine WI.call [.ptr 998 0, .own 1007 (List.length g7)] [.sl (.bytes l), .i q7] [.own 1007 (List.length g7)] [.sl (.calls g7)] (some (86, 998)) (True) ((True ∧ ((List.length g7) = (List.length g7))) ∧ True) (some 1007) rok118 ent118 hnt rfl rfl (wanted_none rfl) (by kernel_rfl) (by kernel_rfl) (by kernel_rfl) ⟨trivial, ⟨⟨trivial, rfl⟩, trivial⟩⟩
    (@cast ((0 ≤ q7 ∧ q7 ≤ 900000) ∧ (GoodH g7)) _ (by kernel_rfl) ⟨(by omega), (by omega)⟩) (Or.inr (by decide)) rfl ?_
  rintro r bl fx2 hR
  obtain ⟨⟨g8, q8⟩, hq8, rfl, rfl, rfl⟩ := (@cast _ (∃ x : (List CallD) × Int, ((x.1.length = g7.length) ∧ (q7 ≤ x.2 ∧ x.2 ≤ q7 + 10)) ∧ r = (.own 1 (List.length x.1)) ∧ bl = ([⟨27, .row (.calls x.1)⟩]) ∧ fx2 = ([.sl (.bytes l), .i x.2])) (by kernel_rfl) hR)
  clear hR
  replace hq8 : (g8.length = g7.length) ∧ (q7 ≤ q8 ∧ q8 ≤ q7 + 10) := hq8
  obtain ⟨hg8, hq18⟩ := hq8
  refine ⟨by kernel_rfl, WI.to (⟨[(0, .ptr 998 0), (3, .ptr 998 0), (4, .ptr 998 0), (5, .ptr 998 0), (6, .v (.string v6)), (7, .own 1007 (List.length g7)), (8, .own 1008 (List.length g8))], [(998, ⟨86, .fix [.sl (.bytes l), .i q8]⟩), (1008, ⟨27, .row (.calls g8)⟩)], [1008, 8, 1007, 7, 6, 998, 999]⟩) 6 (by kernel_rfl) rfl ?_⟩
  refine WI.run cok tab89 hnt [] 1 (⟨[(0, .ptr 998 0), (2, .own 1008 (List.length g8)), (3, .ptr 998 0), (4, .ptr 998 0), (5, .ptr 998 0), (6, .v (.string v6)), (7, .own 1007 (List.length g7)), (8, .own 1008 (List.length g8))], [(998, ⟨86, .fix [.sl (.bytes l), .i q8]⟩), (1008, ⟨27, .row (.calls g8)⟩)], [1008, 8, 1007, 7, 6, 998, 999]⟩)
    (True ∧ True) (by kernel_rfl)
    ⟨trivial, trivial⟩ ?_
  refine WI.to (⟨[(0, .ptr 998 0), (2, .own 1008 (List.length g8)), (3, .ptr 998 0), (4, .ptr 998 0), (5, .ptr 998 0), (6, .v (.string v6)), (7, .own 1007 (List.length g7)), (8, .own 1008 (List.length g8))], [(998, ⟨86, .fix [.sl (.bytes l), .i q8]⟩), (1008, ⟨27, .row (.calls g8)⟩)], [1008, 8, 1007, 7, 6, 998, 999]⟩) 7 rfl rfl ?_
  refine WI.nil rfl (thenQ_normal ?_)
  refine W.keepE [2] [(2, .own 1008 (List.length g8))] (by kernel_rfl) ?_
  refine W.to (⟨[(2, .own 1008 (List.length g8))], [(998, ⟨86, .fix [.sl (.bytes l), .i q8]⟩), (1008, ⟨27, .row (.calls g8)⟩)], [1008, 8, 1007, 7, 6, 998, 999]⟩) rfl ?_
  refine W.ret ?_
  exact endP_ret (g8, q8) (show (g8.length ≤ 6) ∧ (p ≤ q8 ∧ q8 ≤ p + 1300) from ⟨(by have hh := hg7.1; omega), (by first | assumption | omega | rfl | (simp; done) | (simp; omega))⟩) [(1, 1008), (0, 998)] (.own 1008 (List.length g8)) (by kernel_rfl) (@cast ((((1008 : Nat) = 1008) ∧ (((List.length g8) = (List.length g8)) ∧ ((1 : Nat) ∈ ([0, 1] : List Nat)))) ∧ (((((86 : Nat) = 86) ∧ ((((.bytes l : Dat) = .bytes l) ∧ (((.int .i64 q8 : Value) = .int .i64 q8) ∧ True)) ∧ ((0 : Nat) ∈ ([0, 1] : List Nat)))) ∧ ((((27 : Nat) = 27) ∧ (((.calls g8 : Dat) = .calls g8) ∧ ((1 : Nat) ∈ ([0, 1] : List Nat)))) ∧ True)) ∧ ((true = true) ∧ (((([] : List Nat) = []) ∧ True) ∧ (true = true → (998 : Nat) = 998))))) _ (by kernel_rfl) ⟨⟨rfl, ⟨rfl, (by decide)⟩⟩, ⟨⟨⟨rfl, ⟨⟨rfl, ⟨rfl, trivial⟩⟩, (by decide)⟩⟩, ⟨⟨rfl, ⟨rfl, (by decide)⟩⟩, trivial⟩⟩, ⟨rfl, ⟨⟨rfl, trivial⟩, (fun _ => rfl)⟩⟩⟩⟩)
theorem ent89 : Entr prog 89 := ⟨_, func89, rfl, by decide⟩

end Go.Proofs.Try
