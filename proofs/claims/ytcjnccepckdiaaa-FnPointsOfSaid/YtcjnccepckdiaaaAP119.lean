import Derived.Test.YtcjnccepckdiaaaAS
import Derived.Test.YtcjnccepckdiaaaM1
import Derived.Test.YtcjnccepckdiaaaAP133
import Derived.Test.YtcjnccepckdiaaaAP117
set_option linter.unusedSimpArgs false
set_option linter.unusedVariables false
namespace Go.Proofs.Try
open Go.Ab Go.RowKit
/-- spec.goodHistory -/
def pre119 : List AV → List AV → Prop := preP [.str] [.bytes, .int] (fun (name, _) (l, p, _) => (0 ≤ p ∧ p ≤ 800000))
def rel119 : RelS := relP [.str] [.bytes, .int] (ι := (List CallD) × Int) (fun (name, _) (l, p, _) (g, q) => (GoodH g) ∧ (p ≤ q ∧ q ≤ p + 1200)) (fun (name, _) (l, p, _) (g, q) => (.own 1 (List.length g), [⟨27, .row (.calls g)⟩], [.sl (.bytes l), .i q]))
abbrev T119 : Tab := lk []
theorem tab119 : TabOK prog T119 := TabOK.nil
set_option maxRecDepth 100000 in
set_option maxHeartbeats 1000000 in
theorem rok119 : RelOK prog 119 (some 86) [.o] pre119 rel119 := by
  refine RelOK.mk func119 rfl rfl rfl ?_
  rintro ⟨(name : ByteArray), _⟩ ⟨(l : List UInt8), (p : Int), _⟩ hpre F hnt0
  have hnt : F.nt = 10 := hnt0.trans ntmps119
  replace hpre : (0 ≤ p ∧ p ≤ 800000) := hpre
  have hp := hpre
  refine W.to (⟨[(0, .ptr 998 0), (1, .v (.string name))], [(998, ⟨86, .fix [.sl (.bytes l), .i p]⟩)], [998, 999]⟩) rfl ?_
  refine W.K cok tab119 hnt [] [0, 1] (⟨[(0, .ptr 998 0), (1, .v (.string name))], [(998, ⟨86, .fix [.sl (.bytes l), .i p]⟩)], [998, 999]⟩)
    (True ∧ True) (by kernel_rfl)
    ⟨trivial, trivial⟩ ?_
  refine W.seq (W.wi ?_)
  refine WI.run cok tab119 hnt [] 3 (⟨[(0, .ptr 998 0), (1, .v (.string name)), (5, .ptr 998 0), (6, .ptr 998 0), (7, .v (.string name))], [(998, ⟨86, .fix [.sl (.bytes l), .i p]⟩)], [998, 999]⟩)
    (True ∧ (True ∧ (True ∧ True))) (by kernel_rfl)
    ⟨trivial, ⟨trivial, ⟨trivial, trivial⟩⟩⟩ ?_
  refine WI.to (⟨[(0, .ptr 998 0), (1, .v (.string name)), (5, .ptr 998 0), (6, .ptr 998 0), (7, .v (.string name))], [(998, ⟨86, .fix [.sl (.bytes l), .i p]⟩)], [998, 999]⟩) 3 rfl rfl ?_
  refine WI.call [.ptr 998 0, .v (.string name), .i (6 : Int)] [.sl (.bytes l), .i p] [.v (.string name), .i (6 : Int)] [.v (.string name), .i (6 : Int)] (some (86, 998)) (True) (True ∧ (True ∧ True)) none rok133 ent133 hnt rfl rfl (wanted_none rfl) (by kernel_rfl) (by kernel_rfl) (by kernel_rfl) ⟨trivial, ⟨trivial, ⟨trivial, trivial⟩⟩⟩
    (@cast ((0 ≤ p ∧ p ≤ 900000) ∧ ((6 : Int) = 6)) _ (by kernel_rfl) ⟨(by omega), (by omega)⟩) (Or.inl rfl) rfl ?_
  rintro r bl fx2 hR
  obtain ⟨⟨g8, q8⟩, hq8, rfl, rfl, rfl⟩ := (@cast _ (∃ x : (List CallD) × Int, ((GoodH x.1) ∧ (p ≤ x.2 ∧ x.2 ≤ p + 100)) ∧ r = (.own 1 (List.length x.1)) ∧ bl = ([⟨27, .row (.calls x.1)⟩]) ∧ fx2 = ([.sl (.bytes l), .i x.2])) (by kernel_rfl) hR)
  clear hR
  replace hq8 : (GoodH g8) ∧ (p ≤ q8 ∧ q8 ≤ p + 100) := hq8
  obtain ⟨hg8, hq18⟩ := hq8
  refine ⟨by kernel_rfl, WI.to (⟨[(0, .ptr 998 0), (1, .v (.string name)), (5, .ptr 998 0), (6, .ptr 998 0), (7, .v (.string name)), (8, .own 1008 (List.length g8))], [(998, ⟨86, .fix [.sl (.bytes l), .i q8]⟩), (1008, ⟨27, .row (.calls g8)⟩)], [1008, 8, 998, 999]⟩) 4 (by kernel_rfl) rfl ?_⟩
  refine WI.call [.ptr 998 0, .own 1008 (List.length g8)] [.sl (.bytes l), .i q8] [.own 1008 (List.length g8)] [.sl (.calls g8)] (some (86, 998)) (True) ((True ∧ ((List.length g8) = (List.length g8))) ∧ True) (some 1008) rok117 ent117 hnt rfl rfl (wanted_none rfl) (by kernel_rfl) (by kernel_rfl) (by kernel_rfl) ⟨trivial, ⟨⟨trivial, rfl⟩, trivial⟩⟩
    (@cast ((0 ≤ q8 ∧ q8 ≤ 900000) ∧ (GoodH g8)) _ (by kernel_rfl) ⟨(by omega), (by omega)⟩) (Or.inr (by decide)) rfl ?_
  rintro r bl fx2 hR
  obtain ⟨⟨g9, q9⟩, hq9, rfl, rfl, rfl⟩ := (@cast _ (∃ x : (List CallD) × Int, ((GoodH x.1) ∧ (q8 ≤ x.2 ∧ x.2 ≤ q8 + 1000)) ∧ r = (.own 1 (List.length x.1)) ∧ bl = ([⟨27, .row (.calls x.1)⟩]) ∧ fx2 = ([.sl (.bytes l), .i x.2])) (by kernel_rfl) hR)
  clear hR
  replace hq9 : (GoodH g9) ∧ (q8 ≤ q9 ∧ q9 ≤ q8 + 1000) := hq9
  obtain ⟨hg9, hq19⟩ := hq9
  refine ⟨by kernel_rfl, WI.to (⟨[(0, .ptr 998 0), (1, .v (.string name)), (5, .ptr 998 0), (6, .ptr 998 0), (7, .v (.string name)), (8, .own 1008 (List.length g8)), (9, .own 1009 (List.length g9))], [(998, ⟨86, .fix [.sl (.bytes l), .i q9]⟩), (1009, ⟨27, .row (.calls g9)⟩)], [1009, 9, 1008, 8, 998, 999]⟩) 5 (by kernel_rfl) rfl ?_⟩
  refine WI.run cok tab119 hnt [] 1 (⟨[(0, .ptr 998 0), (1, .v (.string name)), (4, .own 1009 (List.length g9)), (5, .ptr 998 0), (6, .ptr 998 0), (7, .v (.string name)), (8, .own 1008 (List.length g8)), (9, .own 1009 (List.length g9))], [(998, ⟨86, .fix [.sl (.bytes l), .i q9]⟩), (1009, ⟨27, .row (.calls g9)⟩)], [1009, 9, 1008, 8, 998, 999]⟩)
    (True ∧ True) (by kernel_rfl)
    ⟨trivial, trivial⟩ ?_
  refine WI.to (⟨[(0, .ptr 998 0), (1, .v (.string name)), (4, .own 1009 (List.length g9)), (5, .ptr 998 0), (6, .ptr 998 0), (7, .v (.string name)), (8, .own 1008 (List.length g8)), (9, .own 1009 (List.length g9))], [(998, ⟨86, .fix [.sl (.bytes l), .i q9]⟩), (1009, ⟨27, .row (.calls g9)⟩)], [1009, 9, 1008, 8, 998, 999]⟩) 6 rfl rfl ?_
  refine WI.nil rfl (thenQ_normal ?_)
  refine W.keepE [4] [(4, .own 1009 (List.length g9))] (by kernel_rfl) ?_
  refine W.to (⟨[(4, .own 1009 (List.length g9))], [(998, ⟨86, .fix [.sl (.bytes l), .i q9]⟩), (1009, ⟨27, .row (.calls g9)⟩)], [1009, 9, 1008, 8, 998, 999]⟩) rfl ?_
  refine W.ret ?_
  exact endP_ret (g9, q9) (show (GoodH g9) ∧ (p ≤ q9 ∧ q9 ≤ p + 1200) from ⟨(by first | assumption | omega | rfl | (simp; done) | (simp; omega)), (by first | assumption | omega | rfl | (simp; done) | (simp; omega))⟩) [(1, 1009), (0, 998)] (.own 1009 (List.length g9)) (by kernel_rfl) (@cast ((((1009 : Nat) = 1009) ∧ (((List.length g9) = (List.length g9)) ∧ ((1 : Nat) ∈ ([0, 1] : List Nat)))) ∧ (((((86 : Nat) = 86) ∧ ((((.bytes l : Dat) = .bytes l) ∧ (((.int .i64 q9 : Value) = .int .i64 q9) ∧ True)) ∧ ((0 : Nat) ∈ ([0, 1] : List Nat)))) ∧ ((((27 : Nat) = 27) ∧ (((.calls g9 : Dat) = .calls g9) ∧ ((1 : Nat) ∈ ([0, 1] : List Nat)))) ∧ True)) ∧ ((true = true) ∧ (((([] : List Nat) = []) ∧ True) ∧ (true = true → (998 : Nat) = 998))))) _ (by kernel_rfl) ⟨⟨rfl, ⟨rfl, (by decide)⟩⟩, ⟨⟨⟨rfl, ⟨⟨rfl, ⟨rfl, trivial⟩⟩, (by decide)⟩⟩, ⟨⟨rfl, ⟨rfl, (by decide)⟩⟩, trivial⟩⟩, ⟨rfl, ⟨⟨rfl, trivial⟩, (fun _ => rfl)⟩⟩⟩⟩)
theorem ent119 : Entr prog 119 := ⟨_, func119, rfl, by decide⟩

end Go.Proofs.Try
