import Derived.Test.YtcjnccepckdiaaaAS
import Derived.Test.YtcjnccepckdiaaaM1
import Derived.Test.YtcjnccepckdiaaaAP69
set_option linter.unusedSimpArgs false
set_option linter.unusedVariables false
namespace Go.Proofs.Try
open Go.Ab Go.RowKit
/-- (*spec.reader).of -/
def pre120 : List AV → List AV → Prop := preP [.strs] [.bytes, .int] (fun (xs, _) (l, p, _) => (0 ≤ p ∧ p ≤ 1000000) ∧ (0 < xs.length) ∧ (xs.length ≤ 1000))
def rel120 : RelS := relP [.strs] [.bytes, .int] (ι := ByteArray × Int) (fun (xs, _) (l, p, _) (v, q) => (v ∈ xs) ∧ (q = p + 1)) (fun (xs, _) (l, p, _) (v, q) => (.v (.string v), [], [.sl (.bytes l), .i q]))
abbrev T120 : Tab := lk []
theorem tab120 : TabOK prog T120 := TabOK.nil
set_option maxRecDepth 100000 in
set_option maxHeartbeats 1000000 in
theorem rok120 : RelOK prog 120 (some 86) [.s .strs] pre120 rel120 := by
  refine RelOK.mk cok func120 rfl rfl rfl ?_
  rintro ⟨(xs : List ByteArray), _⟩ ⟨(l : List UInt8), (p : Int), _⟩ hpre F hnt0
  have hnt : F.nt = 12 := hnt0.trans ntmps120
  replace hpre : (0 ≤ p ∧ p ≤ 1000000) ∧ (0 < xs.length) ∧ (xs.length ≤ 1000) := hpre
  obtain ⟨hp, hx, hx2⟩ := hpre
  refine W.to (⟨[(0, .ptr 998 0), (1, .sl (.strs xs))], [(998, ⟨86, .fix [.sl (.bytes l), .i p]⟩)], [998, 999]⟩) rfl ?_
  refine W.K cok tab120 hnt [] [0, 1] (⟨[(0, .ptr 998 0), (1, .sl (.strs xs))], [(998, ⟨86, .fix [.sl (.bytes l), .i p]⟩)], [998, 999]⟩)
    (True ∧ True) (by kernel_rfl)
    ⟨trivial, trivial⟩ ?_
  refine W.seq (W.wi ?_)
  refine WI.run cok tab120 hnt [] 4 (⟨[(0, .ptr 998 0), (1, .sl (.strs xs)), (5, .sl (.strs xs)), (6, .ptr 998 0), (7, .sl (.strs xs)), (8, .i (((List.length xs) : Nat) : Int))], [(998, ⟨86, .fix [.sl (.bytes l), .i p]⟩)], [998, 999]⟩)
    (True ∧ (True ∧ (True ∧ (True ∧ True)))) (by kernel_rfl)
    ⟨trivial, ⟨trivial, ⟨trivial, ⟨trivial, trivial⟩⟩⟩⟩ ?_
  refine WI.to (⟨[(0, .ptr 998 0), (1, .sl (.strs xs)), (5, .sl (.strs xs)), (6, .ptr 998 0), (7, .sl (.strs xs)), (8, .i (((List.length xs) : Nat) : Int))], [(998, ⟨86, .fix [.sl (.bytes l), .i p]⟩)], [998, 999]⟩) 4 rfl rfl ?_
  refine WI.call [.ptr 998 0, .i (((List.length xs) : Nat) : Int)] [.sl (.bytes l), .i p] [.i (((List.length xs) : Nat) : Int)] [.i (((List.length xs) : Nat) : Int)] (some (86, 998)) (True) (True ∧ True) none rok69 ent69 hnt rfl rfl (wanted_none rfl) (by kernel_rfl) (by kernel_rfl) (by kernel_rfl) ⟨trivial, ⟨trivial, trivial⟩⟩
    (@cast (0 ≤ p ∧ p ≤ 1000000) _ (by kernel_rfl) (by omega)) (Or.inl rfl) rfl ?_
  rintro r bl fx2 hR
  obtain ⟨⟨v9, q9⟩, hq9, rfl, rfl, rfl⟩ := (@cast _ (∃ x : Int × Int, ((0 ≤ x.1 ∧ x.1 < max (((List.length xs) : Nat) : Int) 1) ∧ (x.2 = p + 1)) ∧ r = (.i x.1) ∧ bl = ([]) ∧ fx2 = ([.sl (.bytes l), .i x.2])) (by kernel_rfl) hR)
  clear hR
  replace hq9 : (0 ≤ v9 ∧ v9 < max (((List.length xs) : Nat) : Int) 1) ∧ (q9 = p + 1) := hq9
  obtain ⟨hv9, hq19⟩ := hq9
  refine ⟨by kernel_rfl, WI.to (⟨[(0, .ptr 998 0), (1, .sl (.strs xs)), (5, .sl (.strs xs)), (6, .ptr 998 0), (7, .sl (.strs xs)), (8, .i (((List.length xs) : Nat) : Int)), (9, .i v9)], [(998, ⟨86, .fix [.sl (.bytes l), .i q9]⟩)], [9, 998, 999]⟩) 5 (by kernel_rfl) rfl ?_⟩
  refine WI.run cok tab120 hnt [] 3 (⟨[(0, .ptr 998 0), (1, .sl (.strs xs)), (4, .v (.string (List.getD xs (Int.toNat v9) default))), (5, .sl (.strs xs)), (6, .ptr 998 0), (7, .sl (.strs xs)), (8, .i (((List.length xs) : Nat) : Int)), (9, .i v9), (10, .ep [.v (.string (List.getD xs (Int.toNat v9) default))]), (11, .v (.string (List.getD xs (Int.toNat v9) default)))], [(998, ⟨86, .fix [.sl (.bytes l), .i q9]⟩)], [9, 998, 999]⟩)
    ((True ∧ (True ∧ ((0 ≤ v9) ∧ (v9 < (((List.length xs) : Nat) : Int))))) ∧ (True ∧ (True ∧ True))) (by kernel_rfl)
    ⟨⟨trivial, ⟨trivial, ⟨(by omega), (by omega)⟩⟩⟩, ⟨trivial, ⟨trivial, trivial⟩⟩⟩ ?_
  refine WI.to (⟨[(0, .ptr 998 0), (1, .sl (.strs xs)), (4, .v (.string (List.getD xs (Int.toNat v9) default))), (5, .sl (.strs xs)), (6, .ptr 998 0), (7, .sl (.strs xs)), (8, .i (((List.length xs) : Nat) : Int)), (9, .i v9), (10, .ep [.v (.string (List.getD xs (Int.toNat v9) default))]), (11, .v (.string (List.getD xs (Int.toNat v9) default)))], [(998, ⟨86, .fix [.sl (.bytes l), .i q9]⟩)], [9, 998, 999]⟩) 8 rfl rfl ?_
  refine WI.nil rfl (thenQ_normal ?_)
  refine W.keepE [4] [(4, .v (.string (List.getD xs (Int.toNat v9) default)))] (by kernel_rfl) ?_
  refine W.to (⟨[(4, .v (.string (List.getD xs (Int.toNat v9) default)))], [(998, ⟨86, .fix [.sl (.bytes l), .i q9]⟩)], [9, 998, 999]⟩) rfl ?_
  refine W.ret ?_
  exact endP_ret ((List.getD xs (Int.toNat v9) default), q9) (show ((List.getD xs (Int.toNat v9) default) ∈ xs) ∧ (q9 = p + 1) from ⟨(by exact getD_mem xs default (by omega)), (by first | assumption | omega | rfl | (simp; done) | (simp; omega))⟩) [(0, 998)] (.v (.string (List.getD xs (Int.toNat v9) default))) (by kernel_rfl) (@cast ((((.string (List.getD xs (Int.toNat v9) default)) : Value) = (.string (List.getD xs (Int.toNat v9) default))) ∧ (((((86 : Nat) = 86) ∧ ((((.bytes l : Dat) = .bytes l) ∧ (((.int .i64 q9 : Value) = .int .i64 q9) ∧ True)) ∧ ((0 : Nat) ∈ ([0] : List Nat)))) ∧ True) ∧ ((true = true) ∧ (((([] : List Nat) = []) ∧ True) ∧ (true = true → (998 : Nat) = 998))))) _ (by kernel_rfl) ⟨rfl, ⟨⟨⟨rfl, ⟨⟨rfl, ⟨rfl, trivial⟩⟩, (by decide)⟩⟩, trivial⟩, ⟨rfl, ⟨⟨rfl, trivial⟩, (fun _ => rfl)⟩⟩⟩⟩)
theorem ent120 : Entr prog 120 := ⟨_, func120, rfl, by decide⟩

end Go.Proofs.Try
