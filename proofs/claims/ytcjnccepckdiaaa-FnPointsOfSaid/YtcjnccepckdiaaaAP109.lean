import Derived.Test.YtcjnccepckdiaaaAS
import Derived.Test.YtcjnccepckdiaaaM7
import Derived.Test.YtcjnccepckdiaaaAP69
set_option linter.unusedSimpArgs false
set_option linter.unusedVariables false
namespace Go.Proofs.Try
open Go.Ab Go.RowKit
/-- spec.orderOf -/
def pre109 : List AV → List AV → Prop := preP [.int] [.bytes, .int] (fun (n, _) (ll, p, _) => (0 ≤ p ∧ p ≤ 800000) ∧ (0 ≤ n ∧ n ≤ 6))
def rel109 : RelS := relP [.int] [.bytes, .int] (ι := (List Int) × Int) (fun (n, _) (ll, p, _) (l, q) => (((l.length : Nat) : Int) = n → GoodO l n.toNat) ∧ (l.length ≤ 7) ∧ (p ≤ q ∧ q ≤ p + 20)) (fun (n, _) (ll, p, _) (l, q) => (.own 1 (List.length l), [⟨3, .row (.ints l)⟩], [.sl (.bytes ll), .i q]))
abbrev T109 : Tab := lk []
theorem tab109 : TabOK prog T109 := TabOK.nil
set_option maxRecDepth 100000 in
set_option maxHeartbeats 1000000 in
theorem rok109 : RelOK prog 109 (some 86) [.o] pre109 rel109 := by
  refine RelOK.mk func109 rfl rfl rfl ?_
  rintro ⟨(n : Int), _⟩ ⟨(ll : List UInt8), (p : Int), _⟩ hpre F hnt0
  have hnt : F.nt = 45 := hnt0.trans ntmps109
  replace hpre : (0 ≤ p ∧ p ≤ 800000) ∧ (0 ≤ n ∧ n ≤ 6) := hpre
  obtain ⟨hp, hn⟩ := hpre
  refine W.to (⟨[(0, .ptr 998 0), (1, .i n)], [(998, ⟨86, .fix [.sl (.bytes ll), .i p]⟩)], [998, 999]⟩) rfl ?_
  refine W.K cok tab109 hnt [] [0, 1] (⟨[(0, .ptr 998 0), (1, .i n)], [(998, ⟨86, .fix [.sl (.bytes ll), .i p]⟩)], [998, 999]⟩)
    (True ∧ True) (by kernel_rfl)
    ⟨trivial, trivial⟩ ?_
  refine W.K cok tab109 hnt [9] [0, 1, 5] (⟨[(0, .ptr 998 0), (1, .i n), (5, .own 9 (List.length ([] : List Int)))], [(9, ⟨3, .row (.ints ([] : List Int))⟩), (998, ⟨86, .fix [.sl (.bytes ll), .i p]⟩)], [9, 998, 999]⟩)
    (True ∧ (True ∧ True)) (by kernel_rfl)
    ⟨trivial, ⟨trivial, trivial⟩⟩ ?_
  refine W.seq (W.wi ?_)
  refine WI.run cok tab109 hnt [] 1 (⟨[(0, .ptr 998 0), (1, .i n), (5, .own 9 (List.length ([] : List Int))), (10, .ptr 998 0)], [(9, ⟨3, .row (.ints ([] : List Int))⟩), (998, ⟨86, .fix [.sl (.bytes ll), .i p]⟩)], [9, 998, 999]⟩)
    (True ∧ True) (by kernel_rfl)
    ⟨trivial, trivial⟩ ?_
  refine WI.to (⟨[(0, .ptr 998 0), (1, .i n), (5, .own 9 (List.length ([] : List Int))), (10, .ptr 998 0)], [(9, ⟨3, .row (.ints ([] : List Int))⟩), (998, ⟨86, .fix [.sl (.bytes ll), .i p]⟩)], [9, 998, 999]⟩) 1 rfl rfl ?_
  refine WI.call [.ptr 998 0, .i (3 : Int)] [.sl (.bytes ll), .i p] [.i (3 : Int)] [.i (3 : Int)] (some (86, 998)) (True) (True ∧ True) none rok69 ent69 hnt rfl rfl (wanted_none rfl) (by kernel_rfl) (by kernel_rfl) (by kernel_rfl) ⟨trivial, ⟨trivial, trivial⟩⟩
    (@cast (0 ≤ p ∧ p ≤ 1000000) _ (by kernel_rfl) (by omega)) (Or.inl rfl) rfl ?_
  rintro r bl fx2 hR
  obtain ⟨⟨v11, q11⟩, hq11, rfl, rfl, rfl⟩ := (@cast _ (∃ x : Int × Int, ((0 ≤ x.1 ∧ x.1 < max (3 : Int) 1) ∧ (x.2 = p + 1)) ∧ r = (.i x.1) ∧ bl = ([]) ∧ fx2 = ([.sl (.bytes ll), .i x.2])) (by kernel_rfl) hR)
  clear hR
  replace hq11 : (0 ≤ v11 ∧ v11 < max (3 : Int) 1) ∧ (q11 = p + 1) := hq11
  obtain ⟨hv11, hq111⟩ := hq11
  refine ⟨by kernel_rfl, WI.to (⟨[(0, .ptr 998 0), (1, .i n), (5, .own 9 (List.length ([] : List Int))), (10, .ptr 998 0), (11, .i v11)], [(9, ⟨3, .row (.ints ([] : List Int))⟩), (998, ⟨86, .fix [.sl (.bytes ll), .i q11]⟩)], [11, 9, 998, 999]⟩) 2 (by kernel_rfl) rfl ?_⟩
  refine WI.run cok tab109 hnt [] 2 (⟨[(0, .ptr 998 0), (1, .i n), (5, .own 9 (List.length ([] : List Int))), (6, .b (decide (v11 = (0 : Int)))), (10, .ptr 998 0), (11, .i v11), (12, .b (decide (v11 = (0 : Int))))], [(9, ⟨3, .row (.ints ([] : List Int))⟩), (998, ⟨86, .fix [.sl (.bytes ll), .i q11]⟩)], [11, 9, 998, 999]⟩)
    ((True ∧ (True ∧ True)) ∧ (True ∧ True)) (by kernel_rfl)
    ⟨⟨trivial, ⟨trivial, trivial⟩⟩, ⟨trivial, trivial⟩⟩ ?_
  refine WI.to (⟨[(0, .ptr 998 0), (1, .i n), (5, .own 9 (List.length ([] : List Int))), (6, .b (decide (v11 = (0 : Int)))), (10, .ptr 998 0), (11, .i v11), (12, .b (decide (v11 = (0 : Int))))], [(9, ⟨3, .row (.ints ([] : List Int))⟩), (998, ⟨86, .fix [.sl (.bytes ll), .i q11]⟩)], [11, 9, 998, 999]⟩) 4 rfl rfl ?_
  refine WI.nil rfl (thenQ_normal ?_)
  refine W.keepE [0, 1, 5, 6] [(0, .ptr 998 0), (1, .i n), (5, .own 9 (List.length ([] : List Int))), (6, .b (decide (v11 = (0 : Int))))] (by kernel_rfl) ?_
  refine W.to (⟨[(0, .ptr 998 0), (1, .i n), (5, .own 9 (List.length ([] : List Int))), (6, .b (decide (v11 = (0 : Int))))], [(9, ⟨3, .row (.ints ([] : List Int))⟩), (998, ⟨86, .fix [.sl (.bytes ll), .i q11]⟩)], [11, 9, 998, 999]⟩) rfl ?_
  refine W.seq ?_
  refine W.K cok tab109 hnt [] [0, 1, 5, 6, 7] (⟨[(0, .ptr 998 0), (1, .i n), (5, .own 9 (List.length ([] : List Int))), (6, .b (decide (v11 = (0 : Int)))), (7, .i (0 : Int))], [(9, ⟨3, .row (.ints ([] : List Int))⟩), (998, ⟨86, .fix [.sl (.bytes ll), .i q11]⟩)], [11, 9, 998, 999]⟩)
    (True ∧ True) (by kernel_rfl)
    ⟨trivial, trivial⟩ ?_
  refine W.block ?_
  refine W.loop (ι := (List Int) × Nat × Int) (fun (x : (List Int) × Nat × Int) => match x with | (o, i, p1) => (⟨[(0, .ptr 998 0), (1, .i n), (5, .own 9 (List.length o)), (6, .b (decide (v11 = (0 : Int)))), (7, .i ((i : Nat) : Int))], [(9, ⟨3, .row (.ints o)⟩), (998, ⟨86, .fix [.sl (.bytes ll), .i p1]⟩)], [9, 998, 999]⟩ : St))
    (fun (x : (List Int) × Nat × Int) => match x with | (o, i, p1) => (i ≤ n.toNat) ∧ (GoodO o i) ∧ (p + 1 ≤ p1 ∧ p1 ≤ p + 1 + i))
    (fun (x : (List Int) × Nat × Int) => match x with | (o, i, p1) => (n.toNat - i : Nat)) (([] : List Int), 0, q11) ?_ ?_ ?_
  · exact (show (0 ≤ n.toNat) ∧ (GoodO ([] : List Int) 0) ∧ (p + 1 ≤ q11 ∧ q11 ≤ p + 1 + 0) from ⟨(by first | assumption | omega | rfl | (intro _ hjj; omega) | (simp; done) | (simp; omega)), (by exact GoodO.nil), (by first | assumption | omega | rfl | (intro _ hjj; omega) | (simp; done) | (simp; omega))⟩)
  · exact Sub.of [] (@cast (((((998 : Nat) = 998) ∧ (((0 : Nat) = 0) ∧ ((998 : Nat) ∈ ([9, 998, 999] : List Nat)))) ∧ (((.int .i64 n : Value) = .int .i64 n) ∧ ((((9 : Nat) = 9) ∧ (((List.length ([] : List Int)) = (List.length ([] : List Int))) ∧ ((9 : Nat) ∈ ([9, 998, 999] : List Nat)))) ∧ (((.bool (decide (v11 = (0 : Int))) : Value) = .bool (decide (v11 = (0 : Int)))) ∧ (((.int .i64 (0 : Int) : Value) = .int .i64 ((0 : Nat) : Int)) ∧ True))))) ∧ (((((3 : Nat) = 3) ∧ (((.ints ([] : List Int) : Dat) = .ints ([] : List Int)) ∧ ((9 : Nat) ∈ ([9, 998, 999] : List Nat)))) ∧ ((((86 : Nat) = 86) ∧ ((((.bytes ll : Dat) = .bytes ll) ∧ (((.int .i64 q11 : Value) = .int .i64 q11) ∧ True)) ∧ ((998 : Nat) ∈ ([9, 998, 999] : List Nat)))) ∧ True)) ∧ ((true = true) ∧ (true = true)))) _ (by kernel_rfl) ⟨⟨⟨rfl, ⟨rfl, (by decide)⟩⟩, ⟨rfl, ⟨⟨rfl, ⟨rfl, (by decide)⟩⟩, ⟨rfl, ⟨(congrArg (Value.int .i64) (by first | rfl | omega | assumption | simp | simp_all)), trivial⟩⟩⟩⟩⟩, ⟨⟨⟨rfl, ⟨rfl, (by decide)⟩⟩, ⟨⟨rfl, ⟨⟨rfl, ⟨rfl, trivial⟩⟩, (by decide)⟩⟩, trivial⟩⟩, ⟨rfl, rfl⟩⟩⟩)
  · rintro ⟨o, i, p1⟩ hC0
    have hC : (i ≤ n.toNat) ∧ (GoodO o i) ∧ (p + 1 ≤ p1 ∧ p1 ≤ p + 1 + i) := hC0
    clear hC0
    obtain ⟨hi, ho, hq⟩ := hC
    refine W.to (⟨[(0, .ptr 998 0), (1, .i n), (5, .own 9 (List.length o)), (6, .b (decide (v11 = (0 : Int)))), (7, .i ((i : Nat) : Int))], [(9, ⟨3, .row (.ints o)⟩), (998, ⟨86, .fix [.sl (.bytes ll), .i p1]⟩)], [9, 998, 999]⟩) rfl ?_
    have hol := ho.1
    refine W.seq ?_
    refine W.K cok tab109 hnt [] [0, 1, 5, 6, 7, 15] (⟨[(0, .ptr 998 0), (1, .i n), (5, .own 9 (List.length o)), (6, .b (decide (v11 = (0 : Int)))), (7, .i ((i : Nat) : Int)), (15, .b (decide (((i : Nat) : Int) < n)))], [(9, ⟨3, .row (.ints o)⟩), (998, ⟨86, .fix [.sl (.bytes ll), .i p1]⟩)], [9, 998, 999]⟩)
      (True ∧ (True ∧ ((True ∧ (True ∧ True)) ∧ True))) (by kernel_rfl)
      ⟨trivial, ⟨trivial, ⟨⟨trivial, ⟨trivial, trivial⟩⟩, trivial⟩⟩⟩ ?_
    refine W.ifP (((i : Nat) : Int) < n) (.b (decide (((i : Nat) : Int) < n))) (by kernel_rfl) rfl trivial ?_ ?_
    · intro h15
      refine W.skip (thenQ_normal ?_)
      refine W.seq ?_
      refine W.block ?_
      refine W.K cok tab109 hnt [] [0, 1, 5, 6, 7, 8] (⟨[(0, .ptr 998 0), (1, .i n), (5, .own 9 (List.length o)), (6, .b (decide (v11 = (0 : Int)))), (7, .i ((i : Nat) : Int)), (8, .i (((List.length o) : Nat) : Int))], [(9, ⟨3, .row (.ints o)⟩), (998, ⟨86, .fix [.sl (.bytes ll), .i p1]⟩)], [9, 998, 999]⟩)
        (True ∧ (True ∧ (True ∧ True))) (by kernel_rfl)
        ⟨trivial, ⟨trivial, ⟨trivial, trivial⟩⟩⟩ ?_
      refine W.subS [] (⟨[(0, .ptr 998 0), (1, .i n), (5, .sl (.ints o)), (6, .b (decide (v11 = (0 : Int)))), (7, .i ((i : Nat) : Int)), (8, .i (((List.length o) : Nat) : Int))], [(998, ⟨86, .fix [.sl (.bytes ll), .i p1]⟩)], [998, 999]⟩) (@cast (((((998 : Nat) = 998) ∧ (((0 : Nat) = 0) ∧ ((998 : Nat) ∈ ([998, 999] : List Nat)))) ∧ (((.int .i64 n : Value) = .int .i64 n) ∧ ((((List.length o) = (List.length o)) ∧ (((.ints o : Dat) = .ints o) ∧ ((9 : Nat) ∉ ([998] : List Nat)))) ∧ (((.bool (decide (v11 = (0 : Int))) : Value) = .bool (decide (v11 = (0 : Int)))) ∧ (((.int .i64 ((i : Nat) : Int) : Value) = .int .i64 ((i : Nat) : Int)) ∧ (((.int .i64 (((List.length o) : Nat) : Int) : Value) = .int .i64 (((List.length o) : Nat) : Int)) ∧ True)))))) ∧ (((((86 : Nat) = 86) ∧ ((((.bytes ll : Dat) = .bytes ll) ∧ (((.int .i64 p1 : Value) = .int .i64 p1) ∧ True)) ∧ ((998 : Nat) ∈ ([998, 999] : List Nat)))) ∧ True) ∧ ((true = true) ∧ (true = true)))) _ (by kernel_rfl) ⟨⟨⟨rfl, ⟨rfl, (by decide)⟩⟩, ⟨rfl, ⟨⟨rfl, ⟨rfl, (by decide)⟩⟩, ⟨rfl, ⟨rfl, ⟨rfl, trivial⟩⟩⟩⟩⟩⟩, ⟨⟨⟨rfl, ⟨⟨rfl, ⟨rfl, trivial⟩⟩, (by decide)⟩⟩, trivial⟩, ⟨rfl, rfl⟩⟩⟩) ?_
      refine W.seq ?_
      refine W.K cok tab109 hnt [] [0, 1, 5, 6, 7, 8, 20] (⟨[(0, .ptr 998 0), (1, .i n), (5, .sl (.ints o)), (6, .b (decide (v11 = (0 : Int)))), (7, .i ((i : Nat) : Int)), (8, .i (((List.length o) : Nat) : Int)), (20, .b (decide (v11 = (0 : Int))))], [(998, ⟨86, .fix [.sl (.bytes ll), .i p1]⟩)], [998, 999]⟩)
        (True ∧ True) (by kernel_rfl)
        ⟨trivial, trivial⟩ ?_
      refine W.meetT (ι := Int × Int) (fun (x : Int × Int) => match x with | (at_, p2) => (⟨[(0, .ptr 998 0), (1, .i n), (5, .sl (.ints o)), (6, .b (decide (v11 = (0 : Int)))), (7, .i ((i : Nat) : Int)), (8, .i at_)], [(998, ⟨86, .fix [.sl (.bytes ll), .i p2]⟩)], [998, 999]⟩ : St)) (fun (x : Int × Int) => match x with | (at_, p2) => (0 ≤ at_ ∧ at_ ≤ o.length) ∧ (p1 ≤ p2 ∧ p2 ≤ p1 + 1)) ?_ ?_
      · skip
        refine W.ifP (v11 = (0 : Int)) (.b (decide (v11 = (0 : Int)))) (by kernel_rfl) rfl trivial ?_ ?_
        · intro h20
          refine W.wi ?_
          refine WI.run cok tab109 hnt [] 4 (⟨[(0, .ptr 998 0), (1, .i n), (5, .sl (.ints o)), (6, .b (decide (v11 = (0 : Int)))), (7, .i ((i : Nat) : Int)), (8, .i (((List.length o) : Nat) : Int)), (20, .b (decide (v11 = (0 : Int)))), (21, .ptr 998 0), (22, .sl (.ints o)), (23, .i (((List.length o) : Nat) : Int)), (24, .i ((((List.length o) + 1) : Nat) : Int))], [(998, ⟨86, .fix [.sl (.bytes ll), .i p1]⟩)], [998, 999]⟩)
            (True ∧ (True ∧ (True ∧ ((True ∧ (True ∧ (Fits .i64 ((((List.length o) + 1) : Nat) : Int)))) ∧ True)))) (by kernel_rfl)
            ⟨trivial, ⟨trivial, ⟨trivial, ⟨⟨trivial, ⟨trivial, (by exact fits_i64 (by omega) (by omega))⟩⟩, trivial⟩⟩⟩⟩ ?_
          refine WI.to (⟨[(0, .ptr 998 0), (1, .i n), (5, .sl (.ints o)), (6, .b (decide (v11 = (0 : Int)))), (7, .i ((i : Nat) : Int)), (8, .i (((List.length o) : Nat) : Int)), (20, .b (decide (v11 = (0 : Int)))), (21, .ptr 998 0), (22, .sl (.ints o)), (23, .i (((List.length o) : Nat) : Int)), (24, .i ((((List.length o) + 1) : Nat) : Int))], [(998, ⟨86, .fix [.sl (.bytes ll), .i p1]⟩)], [998, 999]⟩) 4 rfl rfl ?_
          refine WI.call [.ptr 998 0, .i ((((List.length o) + 1) : Nat) : Int)] [.sl (.bytes ll), .i p1] [.i ((((List.length o) + 1) : Nat) : Int)] [.i ((((List.length o) + 1) : Nat) : Int)] (some (86, 998)) (True) (True ∧ True) none rok69 ent69 hnt rfl rfl (wanted_none rfl) (by kernel_rfl) (by kernel_rfl) (by kernel_rfl) ⟨trivial, ⟨trivial, trivial⟩⟩
            (@cast (0 ≤ p1 ∧ p1 ≤ 1000000) _ (by kernel_rfl) (by omega)) (Or.inl rfl) rfl ?_
          rintro r bl fx2 hR
          obtain ⟨⟨v25, q25⟩, hq25, rfl, rfl, rfl⟩ := (@cast _ (∃ x : Int × Int, ((0 ≤ x.1 ∧ x.1 < max ((((List.length o) + 1) : Nat) : Int) 1) ∧ (x.2 = p1 + 1)) ∧ r = (.i x.1) ∧ bl = ([]) ∧ fx2 = ([.sl (.bytes ll), .i x.2])) (by kernel_rfl) hR)
          clear hR
          replace hq25 : (0 ≤ v25 ∧ v25 < max ((((List.length o) + 1) : Nat) : Int) 1) ∧ (q25 = p1 + 1) := hq25
          obtain ⟨hv25, hq125⟩ := hq25
          refine ⟨by kernel_rfl, WI.to (⟨[(0, .ptr 998 0), (1, .i n), (5, .sl (.ints o)), (6, .b (decide (v11 = (0 : Int)))), (7, .i ((i : Nat) : Int)), (8, .i (((List.length o) : Nat) : Int)), (20, .b (decide (v11 = (0 : Int)))), (21, .ptr 998 0), (22, .sl (.ints o)), (23, .i (((List.length o) : Nat) : Int)), (24, .i ((((List.length o) + 1) : Nat) : Int)), (25, .i v25)], [(998, ⟨86, .fix [.sl (.bytes ll), .i q25]⟩)], [25, 998, 999]⟩) 5 (by kernel_rfl) rfl ?_⟩
          refine WI.run cok tab109 hnt [] 1 (⟨[(0, .ptr 998 0), (1, .i n), (5, .sl (.ints o)), (6, .b (decide (v11 = (0 : Int)))), (7, .i ((i : Nat) : Int)), (8, .i v25), (20, .b (decide (v11 = (0 : Int)))), (21, .ptr 998 0), (22, .sl (.ints o)), (23, .i (((List.length o) : Nat) : Int)), (24, .i ((((List.length o) + 1) : Nat) : Int)), (25, .i v25)], [(998, ⟨86, .fix [.sl (.bytes ll), .i q25]⟩)], [25, 998, 999]⟩)
            (True ∧ True) (by kernel_rfl)
            ⟨trivial, trivial⟩ ?_
          refine WI.to (⟨[(0, .ptr 998 0), (1, .i n), (5, .sl (.ints o)), (6, .b (decide (v11 = (0 : Int)))), (7, .i ((i : Nat) : Int)), (8, .i v25), (20, .b (decide (v11 = (0 : Int)))), (21, .ptr 998 0), (22, .sl (.ints o)), (23, .i (((List.length o) : Nat) : Int)), (24, .i ((((List.length o) + 1) : Nat) : Int)), (25, .i v25)], [(998, ⟨86, .fix [.sl (.bytes ll), .i q25]⟩)], [25, 998, 999]⟩) 6 rfl rfl ?_
          refine WI.nil rfl ?_
          refine thenQ_normal ?_
          refine ⟨(v25, q25), (show (0 ≤ v25 ∧ v25 ≤ o.length) ∧ (p1 ≤ q25 ∧ q25 ≤ p1 + 1) from ⟨(by first | assumption | omega | rfl | (intro _ hjj; omega) | (simp; done) | (simp; omega)), (by first | assumption | omega | rfl | (intro _ hjj; omega) | (simp; done) | (simp; omega))⟩), ?_⟩
          exact Sub.of [] (@cast (((((998 : Nat) = 998) ∧ (((0 : Nat) = 0) ∧ ((998 : Nat) ∈ ([998, 999] : List Nat)))) ∧ (((.int .i64 n : Value) = .int .i64 n) ∧ (((.ints o : Dat) = .ints o) ∧ (((.bool (decide (v11 = (0 : Int))) : Value) = .bool (decide (v11 = (0 : Int)))) ∧ (((.int .i64 ((i : Nat) : Int) : Value) = .int .i64 ((i : Nat) : Int)) ∧ (((.int .i64 v25 : Value) = .int .i64 v25) ∧ True)))))) ∧ (((((86 : Nat) = 86) ∧ ((((.bytes ll : Dat) = .bytes ll) ∧ (((.int .i64 q25 : Value) = .int .i64 q25) ∧ True)) ∧ ((998 : Nat) ∈ ([998, 999] : List Nat)))) ∧ True) ∧ ((true = true) ∧ (true = true)))) _ (by kernel_rfl) ⟨⟨⟨rfl, ⟨rfl, (by decide)⟩⟩, ⟨rfl, ⟨rfl, ⟨rfl, ⟨rfl, ⟨rfl, trivial⟩⟩⟩⟩⟩⟩, ⟨⟨⟨rfl, ⟨⟨rfl, ⟨rfl, trivial⟩⟩, (by decide)⟩⟩, trivial⟩, ⟨rfl, rfl⟩⟩⟩)
        · intro n20
          refine W.skip (thenQ_normal ?_)
          refine ⟨((((List.length o) : Nat) : Int), p1), (show (0 ≤ (((List.length o) : Nat) : Int) ∧ (((List.length o) : Nat) : Int) ≤ o.length) ∧ (p1 ≤ p1 ∧ p1 ≤ p1 + 1) from ⟨(by first | assumption | omega | rfl | (intro _ hjj; omega) | (simp; done) | (simp; omega)), (by first | assumption | omega | rfl | (intro _ hjj; omega) | (simp; done) | (simp; omega))⟩), ?_⟩
          exact Sub.of [] (@cast (((((998 : Nat) = 998) ∧ (((0 : Nat) = 0) ∧ ((998 : Nat) ∈ ([998, 999] : List Nat)))) ∧ (((.int .i64 n : Value) = .int .i64 n) ∧ (((.ints o : Dat) = .ints o) ∧ (((.bool (decide (v11 = (0 : Int))) : Value) = .bool (decide (v11 = (0 : Int)))) ∧ (((.int .i64 ((i : Nat) : Int) : Value) = .int .i64 ((i : Nat) : Int)) ∧ (((.int .i64 (((List.length o) : Nat) : Int) : Value) = .int .i64 (((List.length o) : Nat) : Int)) ∧ True)))))) ∧ (((((86 : Nat) = 86) ∧ ((((.bytes ll : Dat) = .bytes ll) ∧ (((.int .i64 p1 : Value) = .int .i64 p1) ∧ True)) ∧ ((998 : Nat) ∈ ([998, 999] : List Nat)))) ∧ True) ∧ ((true = true) ∧ (true = true)))) _ (by kernel_rfl) ⟨⟨⟨rfl, ⟨rfl, (by decide)⟩⟩, ⟨rfl, ⟨rfl, ⟨rfl, ⟨rfl, ⟨rfl, trivial⟩⟩⟩⟩⟩⟩, ⟨⟨⟨rfl, ⟨⟨rfl, ⟨rfl, trivial⟩⟩, (by decide)⟩⟩, trivial⟩, ⟨rfl, rfl⟩⟩⟩)
      · rintro ⟨at_, p2⟩ hC0
        have hC : (0 ≤ at_ ∧ at_ ≤ o.length) ∧ (p1 ≤ p2 ∧ p2 ≤ p1 + 1) := hC0
        clear hC0
        obtain ⟨hat, hq2⟩ := hC
        refine W.to (⟨[(0, .ptr 998 0), (1, .i n), (5, .sl (.ints o)), (6, .b (decide (v11 = (0 : Int)))), (7, .i ((i : Nat) : Int)), (8, .i at_)], [(998, ⟨86, .fix [.sl (.bytes ll), .i p2]⟩)], [998, 999]⟩) rfl ?_
        refine W.LA cok tab109 hnt [26, 30, 33, 37] (⟨[(0, .ptr 998 0), (1, .i n), (5, .own 37 (List.length (((List.take (Int.toNat at_) o) ++ ([((i : Nat) : Int)])) ++ (List.drop (Int.toNat at_) (List.take (List.length o) o))))), (6, .b (decide (v11 = (0 : Int)))), (7, .i ((i : Nat) : Int)), (8, .i at_), (26, .own 26 (List.length ([] : List Int))), (27, .sl (.ints o)), (28, .i at_), (29, .sl (.ints (List.take (Int.toNat at_) o))), (30, .own 30 (List.length (List.take (Int.toNat at_) o))), (31, .i ((i : Nat) : Int)), (32, .sl (.ints ([((i : Nat) : Int)]))), (33, .own 33 (List.length ((List.take (Int.toNat at_) o) ++ ([((i : Nat) : Int)])))), (34, .sl (.ints o)), (35, .i at_), (36, .sl (.ints (List.drop (Int.toNat at_) (List.take (List.length o) o)))), (37, .own 37 (List.length (((List.take (Int.toNat at_) o) ++ ([((i : Nat) : Int)])) ++ (List.drop (Int.toNat at_) (List.take (List.length o) o)))))], [(37, ⟨3, .row (.ints (((List.take (Int.toNat at_) o) ++ ([((i : Nat) : Int)])) ++ (List.drop (Int.toNat at_) (List.take (List.length o) o))))⟩), (998, ⟨86, .fix [.sl (.bytes ll), .i p2]⟩)], [37, 33, 32, 30, 26, 998, 999]⟩)
          (True ∧ (True ∧ (True ∧ ((True ∧ (True ∧ (True ∧ ((0 ≤ (0 : Int)) ∧ (((0 : Int) ≤ at_) ∧ (at_ ≤ (((List.length o) : Nat) : Int))))))) ∧ (((True ∧ ((List.length ([] : List Int)) = (List.length ([] : List Int)))) ∧ (True ∧ (((List.length ([] : List Int)) + (List.length (List.take (Int.toNat at_) o))) * 8 ≤ 140737488355328))) ∧ (True ∧ ((True ∧ True) ∧ (((True ∧ ((List.length (List.take (Int.toNat at_) o)) = (List.length (List.take (Int.toNat at_) o)))) ∧ (True ∧ (((List.length (List.take (Int.toNat at_) o)) + (List.length ([((i : Nat) : Int)]))) * 8 ≤ 140737488355328))) ∧ (True ∧ (True ∧ ((True ∧ (True ∧ (True ∧ ((0 ≤ at_) ∧ ((at_ ≤ (((List.length o) : Nat) : Int)) ∧ ((((List.length o) : Nat) : Int) ≤ (((List.length o) : Nat) : Int))))))) ∧ (((True ∧ ((List.length ((List.take (Int.toNat at_) o) ++ ([((i : Nat) : Int)]))) = (List.length ((List.take (Int.toNat at_) o) ++ ([((i : Nat) : Int)]))))) ∧ (True ∧ (((List.length ((List.take (Int.toNat at_) o) ++ ([((i : Nat) : Int)]))) + (List.length (List.drop (Int.toNat at_) (List.take (List.length o) o)))) * 8 ≤ 140737488355328))) ∧ (True ∧ True))))))))))))) (by kernel_rfl) (by kernel_rfl)
          ⟨trivial, ⟨trivial, ⟨trivial, ⟨⟨trivial, ⟨trivial, ⟨trivial, ⟨(by omega), ⟨(by omega), (by omega)⟩⟩⟩⟩⟩, ⟨⟨⟨trivial, rfl⟩, ⟨trivial, (by (first | omega | (simp only [List.length_append, List.length_cons, List.length_nil, List.length_take, List.length_drop, List.length_set, List.length_replicate, List.length_map] at *; omega) | assumption))⟩⟩, ⟨trivial, ⟨⟨trivial, trivial⟩, ⟨⟨⟨trivial, rfl⟩, ⟨trivial, (by (first | omega | (simp only [List.length_append, List.length_cons, List.length_nil, List.length_take, List.length_drop, List.length_set, List.length_replicate, List.length_map] at *; omega) | assumption))⟩⟩, ⟨trivial, ⟨trivial, ⟨⟨trivial, ⟨trivial, ⟨trivial, ⟨(by omega), ⟨(by omega), (by omega)⟩⟩⟩⟩⟩, ⟨⟨⟨trivial, rfl⟩, ⟨trivial, (by (first | omega | (simp only [List.length_append, List.length_cons, List.length_nil, List.length_take, List.length_drop, List.length_set, List.length_replicate, List.length_map] at *; omega) | assumption))⟩⟩, ⟨trivial, trivial⟩⟩⟩⟩⟩⟩⟩⟩⟩⟩⟩⟩⟩ ?_
        refine blockQ_normal (thenQ_normal ?_)
        refine W.L cok tab109 hnt [] (⟨[(0, .ptr 998 0), (1, .i n), (5, .own 37 (List.length (((List.take (Int.toNat at_) o) ++ ([((i : Nat) : Int)])) ++ (List.drop (Int.toNat at_) (List.take (List.length o) o))))), (6, .b (decide (v11 = (0 : Int)))), (7, .i (((i + 1) : Nat) : Int)), (8, .i at_), (16, .i ((i : Nat) : Int)), (17, .i (((i + 1) : Nat) : Int)), (26, .own 26 (List.length ([] : List Int))), (27, .sl (.ints o)), (28, .i at_), (29, .sl (.ints (List.take (Int.toNat at_) o))), (30, .own 30 (List.length (List.take (Int.toNat at_) o))), (31, .i ((i : Nat) : Int)), (32, .sl (.ints ([((i : Nat) : Int)]))), (33, .own 33 (List.length ((List.take (Int.toNat at_) o) ++ ([((i : Nat) : Int)])))), (34, .sl (.ints o)), (35, .i at_), (36, .sl (.ints (List.drop (Int.toNat at_) (List.take (List.length o) o)))), (37, .own 37 (List.length (((List.take (Int.toNat at_) o) ++ ([((i : Nat) : Int)])) ++ (List.drop (Int.toNat at_) (List.take (List.length o) o)))))], [(37, ⟨3, .row (.ints (((List.take (Int.toNat at_) o) ++ ([((i : Nat) : Int)])) ++ (List.drop (Int.toNat at_) (List.take (List.length o) o))))⟩), (998, ⟨86, .fix [.sl (.bytes ll), .i p2]⟩)], [37, 33, 32, 30, 26, 998, 999]⟩)
          (True ∧ ((True ∧ (True ∧ (Fits .i64 (((i + 1) : Nat) : Int)))) ∧ (True ∧ True))) (by kernel_rfl)
          ⟨trivial, ⟨⟨trivial, ⟨trivial, (by exact fits_i64 (by omega) (by omega))⟩⟩, ⟨trivial, trivial⟩⟩⟩ ?_
        refine thenQ_normal ?_
        refine ⟨((((List.take (Int.toNat at_) o) ++ ([((i : Nat) : Int)])) ++ (List.drop (Int.toNat at_) (List.take (List.length o) o))), (i + 1), p2), (show ((i + 1) ≤ n.toNat) ∧ (GoodO (((List.take (Int.toNat at_) o) ++ ([((i : Nat) : Int)])) ++ (List.drop (Int.toNat at_) (List.take (List.length o) o))) (i + 1)) ∧ (p + 1 ≤ p2 ∧ p2 ≤ p + 1 + (i + 1)) from ⟨(by first | assumption | omega | rfl | (intro _ hjj; omega) | (simp; done) | (simp; omega)), (by have h9 := ho.put (Int.toNat at_); rw [← List.take_length (l := o)] at h9; first | exact h9 | (simp only [List.take_length] at h9 ⊢; exact h9)), (by first | assumption | omega | rfl | (intro _ hjj; omega) | (simp; done) | (simp; omega))⟩), (show n.toNat - (i + 1) < n.toNat - i from (by first | omega | (simp_all; omega))), ?_⟩
        exact Sub.of [(9, 37)] (@cast (((((998 : Nat) = 998) ∧ (((0 : Nat) = 0) ∧ ((998 : Nat) ∈ ([9, 998, 999] : List Nat)))) ∧ (((.int .i64 n : Value) = .int .i64 n) ∧ ((((37 : Nat) = 37) ∧ (((List.length (((List.take (Int.toNat at_) o) ++ ([((i : Nat) : Int)])) ++ (List.drop (Int.toNat at_) (List.take (List.length o) o)))) = (List.length (((List.take (Int.toNat at_) o) ++ ([((i : Nat) : Int)])) ++ (List.drop (Int.toNat at_) (List.take (List.length o) o))))) ∧ ((9 : Nat) ∈ ([9, 998, 999] : List Nat)))) ∧ (((.bool (decide (v11 = (0 : Int))) : Value) = .bool (decide (v11 = (0 : Int)))) ∧ (((.int .i64 (((i + 1) : Nat) : Int) : Value) = .int .i64 (((i + 1) : Nat) : Int)) ∧ True))))) ∧ (((((3 : Nat) = 3) ∧ (((.ints (((List.take (Int.toNat at_) o) ++ ([((i : Nat) : Int)])) ++ (List.drop (Int.toNat at_) (List.take (List.length o) o))) : Dat) = .ints (((List.take (Int.toNat at_) o) ++ ([((i : Nat) : Int)])) ++ (List.drop (Int.toNat at_) (List.take (List.length o) o)))) ∧ ((9 : Nat) ∈ ([9, 998, 999] : List Nat)))) ∧ ((((86 : Nat) = 86) ∧ ((((.bytes ll : Dat) = .bytes ll) ∧ (((.int .i64 p2 : Value) = .int .i64 p2) ∧ True)) ∧ ((998 : Nat) ∈ ([9, 998, 999] : List Nat)))) ∧ True)) ∧ ((true = true) ∧ (true = true)))) _ (by kernel_rfl) ⟨⟨⟨rfl, ⟨rfl, (by decide)⟩⟩, ⟨rfl, ⟨⟨rfl, ⟨rfl, (by decide)⟩⟩, ⟨rfl, ⟨rfl, trivial⟩⟩⟩⟩⟩, ⟨⟨⟨rfl, ⟨rfl, (by decide)⟩⟩, ⟨⟨rfl, ⟨⟨rfl, ⟨rfl, trivial⟩⟩, (by decide)⟩⟩, trivial⟩⟩, ⟨rfl, rfl⟩⟩⟩)
    · intro n15
      refine W.exit (thenQ_exit (thenQ_exit (blockQ_hit ?_)))
      refine thenQ_normal ?_
      refine W.seq ?_
      refine W.seq (W.wi ?_)
      refine WI.run cok tab109 hnt [] 1 (⟨[(0, .ptr 998 0), (1, .i n), (5, .own 9 (List.length o)), (6, .b (decide (v11 = (0 : Int)))), (7, .i ((i : Nat) : Int)), (15, .b (decide (((i : Nat) : Int) < n))), (38, .ptr 998 0)], [(9, ⟨3, .row (.ints o)⟩), (998, ⟨86, .fix [.sl (.bytes ll), .i p1]⟩)], [9, 998, 999]⟩)
        (True ∧ True) (by kernel_rfl)
        ⟨trivial, trivial⟩ ?_
      refine WI.to (⟨[(0, .ptr 998 0), (1, .i n), (5, .own 9 (List.length o)), (6, .b (decide (v11 = (0 : Int)))), (7, .i ((i : Nat) : Int)), (15, .b (decide (((i : Nat) : Int) < n))), (38, .ptr 998 0)], [(9, ⟨3, .row (.ints o)⟩), (998, ⟨86, .fix [.sl (.bytes ll), .i p1]⟩)], [9, 998, 999]⟩) 1 rfl rfl ?_
      refine WI.call [.ptr 998 0, .i (24 : Int)] [.sl (.bytes ll), .i p1] [.i (24 : Int)] [.i (24 : Int)] (some (86, 998)) (True) (True ∧ True) none rok69 ent69 hnt rfl rfl (wanted_none rfl) (by kernel_rfl) (by kernel_rfl) (by kernel_rfl) ⟨trivial, ⟨trivial, trivial⟩⟩
        (@cast (0 ≤ p1 ∧ p1 ≤ 1000000) _ (by kernel_rfl) (by omega)) (Or.inl rfl) rfl ?_
      rintro r bl fx2 hR
      obtain ⟨⟨v39, q39⟩, hq39, rfl, rfl, rfl⟩ := (@cast _ (∃ x : Int × Int, ((0 ≤ x.1 ∧ x.1 < max (24 : Int) 1) ∧ (x.2 = p1 + 1)) ∧ r = (.i x.1) ∧ bl = ([]) ∧ fx2 = ([.sl (.bytes ll), .i x.2])) (by kernel_rfl) hR)
      clear hR
      replace hq39 : (0 ≤ v39 ∧ v39 < max (24 : Int) 1) ∧ (q39 = p1 + 1) := hq39
      obtain ⟨hv39, hq139⟩ := hq39
      refine ⟨by kernel_rfl, WI.to (⟨[(0, .ptr 998 0), (1, .i n), (5, .own 9 (List.length o)), (6, .b (decide (v11 = (0 : Int)))), (7, .i ((i : Nat) : Int)), (15, .b (decide (((i : Nat) : Int) < n))), (38, .ptr 998 0), (39, .i v39)], [(9, ⟨3, .row (.ints o)⟩), (998, ⟨86, .fix [.sl (.bytes ll), .i q39]⟩)], [39, 9, 998, 999]⟩) 2 (by kernel_rfl) rfl ?_⟩
      refine WI.run cok tab109 hnt [] 1 (⟨[(0, .ptr 998 0), (1, .i n), (5, .own 9 (List.length o)), (6, .b (decide (v11 = (0 : Int)))), (7, .i ((i : Nat) : Int)), (15, .b (decide (((i : Nat) : Int) < n))), (38, .ptr 998 0), (39, .i v39), (40, .b (decide (v39 = (0 : Int))))], [(9, ⟨3, .row (.ints o)⟩), (998, ⟨86, .fix [.sl (.bytes ll), .i q39]⟩)], [39, 9, 998, 999]⟩)
        ((True ∧ (True ∧ True)) ∧ True) (by kernel_rfl)
        ⟨⟨trivial, ⟨trivial, trivial⟩⟩, trivial⟩ ?_
      refine WI.to (⟨[(0, .ptr 998 0), (1, .i n), (5, .own 9 (List.length o)), (6, .b (decide (v11 = (0 : Int)))), (7, .i ((i : Nat) : Int)), (15, .b (decide (((i : Nat) : Int) < n))), (38, .ptr 998 0), (39, .i v39), (40, .b (decide (v39 = (0 : Int))))], [(9, ⟨3, .row (.ints o)⟩), (998, ⟨86, .fix [.sl (.bytes ll), .i q39]⟩)], [39, 9, 998, 999]⟩) 3 rfl rfl ?_
      refine WI.nil rfl (thenQ_normal ?_)
      refine W.keepE [5, 40] [(5, .own 9 (List.length o)), (40, .b (decide (v39 = (0 : Int))))] (by kernel_rfl) ?_
      refine W.to (⟨[(5, .own 9 (List.length o)), (40, .b (decide (v39 = (0 : Int))))], [(9, ⟨3, .row (.ints o)⟩), (998, ⟨86, .fix [.sl (.bytes ll), .i q39]⟩)], [39, 9, 998, 999]⟩) rfl ?_
      refine W.ifP (v39 = (0 : Int)) (.b (decide (v39 = (0 : Int)))) (by kernel_rfl) rfl trivial ?_ ?_
      · intro h40
        refine W.K cok tab109 hnt [43] [4] (⟨[(4, .own 43 (List.length (o ++ ([(0 : Int)]))))], [(43, ⟨3, .row (.ints (o ++ ([(0 : Int)])))⟩), (998, ⟨86, .fix [.sl (.bytes ll), .i q39]⟩)], [43, 42, 39, 9, 998, 999]⟩)
          (True ∧ ((True ∧ True) ∧ (((True ∧ ((List.length o) = (List.length o))) ∧ (True ∧ (((List.length o) + (List.length ([(0 : Int)]))) * 8 ≤ 140737488355328))) ∧ (True ∧ True)))) (by kernel_rfl)
          ⟨trivial, ⟨⟨trivial, trivial⟩, ⟨⟨⟨trivial, rfl⟩, ⟨trivial, (by (first | omega | (simp only [List.length_append, List.length_cons, List.length_nil, List.length_take, List.length_drop, List.length_set, List.length_replicate, List.length_map] at *; omega) | assumption))⟩⟩, ⟨trivial, trivial⟩⟩⟩⟩ ?_
        refine W.ret (thenQ_ret ?_)
        exact endP_ret ((o ++ ([(0 : Int)])), q39) (show ((((o ++ ([(0 : Int)])).length : Nat) : Int) = n → GoodO (o ++ ([(0 : Int)])) n.toNat) ∧ ((o ++ ([(0 : Int)])).length ≤ 7) ∧ (p ≤ q39 ∧ q39 ≤ p + 20) from ⟨(by intro hh; simp at hh; omega), (by simp; omega), (by first | assumption | omega | rfl | (simp; done) | (simp; omega))⟩) [(1, 43), (0, 998)] (.own 43 (List.length (o ++ ([(0 : Int)])))) (by kernel_rfl) (@cast ((((43 : Nat) = 43) ∧ (((List.length (o ++ ([(0 : Int)]))) = (List.length (o ++ ([(0 : Int)])))) ∧ ((1 : Nat) ∈ ([0, 1] : List Nat)))) ∧ (((((86 : Nat) = 86) ∧ ((((.bytes ll : Dat) = .bytes ll) ∧ (((.int .i64 q39 : Value) = .int .i64 q39) ∧ True)) ∧ ((0 : Nat) ∈ ([0, 1] : List Nat)))) ∧ ((((3 : Nat) = 3) ∧ (((.ints (o ++ ([(0 : Int)])) : Dat) = .ints (o ++ ([(0 : Int)]))) ∧ ((1 : Nat) ∈ ([0, 1] : List Nat)))) ∧ True)) ∧ ((true = true) ∧ (((([] : List Nat) = []) ∧ True) ∧ (true = true → (998 : Nat) = 998))))) _ (by kernel_rfl) ⟨⟨rfl, ⟨rfl, (by decide)⟩⟩, ⟨⟨⟨rfl, ⟨⟨rfl, ⟨rfl, trivial⟩⟩, (by decide)⟩⟩, ⟨⟨rfl, ⟨rfl, (by decide)⟩⟩, trivial⟩⟩, ⟨rfl, ⟨⟨rfl, trivial⟩, (fun _ => rfl)⟩⟩⟩⟩)
      · intro n40
        refine W.skip (thenQ_normal ?_)
        refine W.K cok tab109 hnt [] [4] (⟨[(4, .own 9 (List.length o))], [(9, ⟨3, .row (.ints o)⟩), (998, ⟨86, .fix [.sl (.bytes ll), .i q39]⟩)], [39, 9, 998, 999]⟩)
          (True ∧ (True ∧ True)) (by kernel_rfl)
          ⟨trivial, ⟨trivial, trivial⟩⟩ ?_
        refine W.ret ?_
        exact endP_ret (o, q39) (show (((o.length : Nat) : Int) = n → GoodO o n.toNat) ∧ (o.length ≤ 7) ∧ (p ≤ q39 ∧ q39 ≤ p + 20) from ⟨(by intro _; rw [show n.toNat = i by omega]; exact ho), (by omega), (by first | assumption | omega | rfl | (simp; done) | (simp; omega))⟩) [(1, 9), (0, 998)] (.own 9 (List.length o)) (by kernel_rfl) (@cast ((((9 : Nat) = 9) ∧ (((List.length o) = (List.length o)) ∧ ((1 : Nat) ∈ ([0, 1] : List Nat)))) ∧ (((((86 : Nat) = 86) ∧ ((((.bytes ll : Dat) = .bytes ll) ∧ (((.int .i64 q39 : Value) = .int .i64 q39) ∧ True)) ∧ ((0 : Nat) ∈ ([0, 1] : List Nat)))) ∧ ((((3 : Nat) = 3) ∧ (((.ints o : Dat) = .ints o) ∧ ((1 : Nat) ∈ ([0, 1] : List Nat)))) ∧ True)) ∧ ((true = true) ∧ (((([] : List Nat) = []) ∧ True) ∧ (true = true → (998 : Nat) = 998))))) _ (by kernel_rfl) ⟨⟨rfl, ⟨rfl, (by decide)⟩⟩, ⟨⟨⟨rfl, ⟨⟨rfl, ⟨rfl, trivial⟩⟩, (by decide)⟩⟩, ⟨⟨rfl, ⟨rfl, (by decide)⟩⟩, trivial⟩⟩, ⟨rfl, ⟨⟨rfl, trivial⟩, (fun _ => rfl)⟩⟩⟩⟩)
theorem ent109 : Entr prog 109 := ⟨_, func109, rfl, by decide⟩

end Go.Proofs.Try
