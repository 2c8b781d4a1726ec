import Derived.Test.YtggcajkjoaichaaIF3S0
import Derived.Test.YtggcajkjoaichaaIF3S1
import Derived.Test.YtggcajkjoaichaaIF3S7
import Derived.Test.YtggcajkjoaichaaIF3S10
import Derived.Test.YtggcajkjoaichaaIF3S4
import Derived.Test.YtggcajkjoaichaaIF3S2
set_option linter.unusedSimpArgs false
set_option linter.unusedVariables false
namespace Go.Proofs.Try
open Go.Ab Go.RowKit
/-- spec.orderOf -/
def pre38 : List AV → List AV → Prop := preP [.int] [.bytes, .int] (fun (n, _) (ll, p, _) => (0 ≤ p ∧ p ≤ 800000) ∧ (0 ≤ n ∧ n ≤ 6))
def rel38 : RelS := relP [.int] [.bytes, .int] (ι := (List Int) × Int) (fun (n, _) (ll, p, _) (l, q) => (((l.length : Nat) : Int) = n → GoodO l n.toNat) ∧ (l.length ≤ 7) ∧ (p ≤ q ∧ q ≤ p + 20)) (fun (n, _) (ll, p, _) (l, q) => (.own 1 (List.length l), [⟨3, .row (.ints l)⟩], [.sl (.bytes ll), .i q]))
abbrev T38 : Tab := lk []
theorem tab38 : TabOK prog T38 := TabOK.nil
set_option maxRecDepth 100000 in
set_option maxHeartbeats 1000000 in
theorem rok38 : RelOK prog 38 (some 69) [.o] pre38 rel38 := by
  refine RelOK.mk cok func38 rfl rfl rfl ?_
  rintro ⟨(n : Int), _⟩ ⟨(ll : List UInt8), (p : Int), _⟩ hpre F hnt0
  have hnt : F.nt = 45 := hnt0.trans ntmps38
  replace hpre : (0 ≤ p ∧ p ≤ 800000) ∧ (0 ≤ n ∧ n ≤ 6) := hpre
  obtain ⟨hp, hn⟩ := hpre
  refine W.to (⟨[(0, .ptr 998 0), (1, .i n)], [(998, ⟨69, .fix [.sl (.bytes ll), .i p]⟩)], [998, 999]⟩) rfl ?_
  refine W.K cok tab38 hnt [] [0, 1] (⟨[(0, .ptr 998 0), (1, .i n)], [(998, ⟨69, .fix [.sl (.bytes ll), .i p]⟩)], [998, 999]⟩)
    (True ∧ True) (by kernel_rfl)
    ⟨trivial, trivial⟩ ?_
  refine W.K cok tab38 hnt [9] [0, 1, 5] (⟨[(0, .ptr 998 0), (1, .i n), (5, .own 9 (List.length ([] : List Int)))], [(9, ⟨3, .row (.ints ([] : List Int))⟩), (998, ⟨69, .fix [.sl (.bytes ll), .i p]⟩)], [9, 998, 999]⟩)
    (True ∧ (True ∧ True)) (by kernel_rfl)
    ⟨trivial, ⟨trivial, trivial⟩⟩ ?_
  refine W.seq (W.wi ?_)
  refine WI.run cok tab38 hnt [] 1 (⟨[(0, .ptr 998 0), (1, .i n), (5, .own 9 (List.length ([] : List Int))), (10, .ptr 998 0)], [(9, ⟨3, .row (.ints ([] : List Int))⟩), (998, ⟨69, .fix [.sl (.bytes ll), .i p]⟩)], [9, 998, 999]⟩)
    (True ∧ True) (by kernel_rfl)
    ⟨trivial, trivial⟩ ?_
  refine WI.to (⟨[(0, .ptr 998 0), (1, .i n), (5, .own 9 (List.length ([] : List Int))), (10, .ptr 998 0)], [(9, ⟨3, .row (.ints ([] : List Int))⟩), (998, ⟨69, .fix [.sl (.bytes ll), .i p]⟩)], [9, 998, 999]⟩) 1 rfl rfl ?_
  refine WI.call [.ptr 998 0, .i (3 : Int)] [.sl (.bytes ll), .i p] [.i (3 : Int)] [.i (3 : Int)] (some (69, 998)) (True) (True ∧ True) none rok68 ent68 hnt rfl rfl (wanted_none rfl) (by kernel_rfl) (by kernel_rfl) (by kernel_rfl) ⟨trivial, ⟨trivial, trivial⟩⟩
    (@cast (0 ≤ p ∧ p ≤ 1000000) _ (by kernel_rfl) (by omega)) (Or.inl rfl) rfl ?_
  rintro r bl fx2 hR
  obtain ⟨⟨v11, q11⟩, hq11, rfl, rfl, rfl⟩ := (@cast _ (∃ x : Int × Int, ((0 ≤ x.1 ∧ x.1 < max (3 : Int) 1) ∧ (x.2 = p + 1)) ∧ r = (.i x.1) ∧ bl = ([]) ∧ fx2 = ([.sl (.bytes ll), .i x.2])) (by kernel_rfl) hR)
  clear hR
  replace hq11 : (0 ≤ v11 ∧ v11 < max (3 : Int) 1) ∧ (q11 = p + 1) := hq11
  obtain ⟨hv11, hq111⟩ := hq11
  refine ⟨by kernel_rfl, WI.to (⟨[(0, .ptr 998 0), (1, .i n), (5, .own 9 (List.length ([] : List Int))), (10, .ptr 998 0), (11, .i v11)], [(9, ⟨3, .row (.ints ([] : List Int))⟩), (998, ⟨69, .fix [.sl (.bytes ll), .i q11]⟩)], [11, 9, 998, 999]⟩) 2 (by kernel_rfl) rfl ?_⟩
  refine WI.run cok tab38 hnt [] 2 (⟨[(0, .ptr 998 0), (1, .i n), (5, .own 9 (List.length ([] : List Int))), (6, .b (decide (v11 = (0 : Int)))), (10, .ptr 998 0), (11, .i v11), (12, .b (decide (v11 = (0 : Int))))], [(9, ⟨3, .row (.ints ([] : List Int))⟩), (998, ⟨69, .fix [.sl (.bytes ll), .i q11]⟩)], [11, 9, 998, 999]⟩)
    ((True ∧ (True ∧ True)) ∧ (True ∧ True)) (by kernel_rfl)
    ⟨⟨trivial, ⟨trivial, trivial⟩⟩, ⟨trivial, trivial⟩⟩ ?_
  refine WI.to (⟨[(0, .ptr 998 0), (1, .i n), (5, .own 9 (List.length ([] : List Int))), (6, .b (decide (v11 = (0 : Int)))), (10, .ptr 998 0), (11, .i v11), (12, .b (decide (v11 = (0 : Int))))], [(9, ⟨3, .row (.ints ([] : List Int))⟩), (998, ⟨69, .fix [.sl (.bytes ll), .i q11]⟩)], [11, 9, 998, 999]⟩) 4 rfl rfl ?_
  refine WI.nil rfl (thenQ_normal ?_)
  refine W.keepE [0, 1, 5, 6] [(0, .ptr 998 0), (1, .i n), (5, .own 9 (List.length ([] : List Int))), (6, .b (decide (v11 = (0 : Int))))] (by kernel_rfl) ?_
  refine W.to (⟨[(0, .ptr 998 0), (1, .i n), (5, .own 9 (List.length ([] : List Int))), (6, .b (decide (v11 = (0 : Int))))], [(9, ⟨3, .row (.ints ([] : List Int))⟩), (998, ⟨69, .fix [.sl (.bytes ll), .i q11]⟩)], [11, 9, 998, 999]⟩) rfl ?_
  refine W.seq ?_
  refine W.K cok tab38 hnt [] [0, 1, 5, 6, 7] (⟨[(0, .ptr 998 0), (1, .i n), (5, .own 9 (List.length ([] : List Int))), (6, .b (decide (v11 = (0 : Int)))), (7, .i (0 : Int))], [(9, ⟨3, .row (.ints ([] : List Int))⟩), (998, ⟨69, .fix [.sl (.bytes ll), .i q11]⟩)], [11, 9, 998, 999]⟩)
    (True ∧ True) (by kernel_rfl)
    ⟨trivial, trivial⟩ ?_
  refine W.block ?_
  refine W.loop (ι := (List Int) × Nat × Int) (fun (x : (List Int) × Nat × Int) => match x with | (o, i, p1) => (⟨[(0, .ptr 998 0), (1, .i n), (5, .own 9 (List.length o)), (6, .b (decide (v11 = (0 : Int)))), (7, .i ((i : Nat) : Int))], [(9, ⟨3, .row (.ints o)⟩), (998, ⟨69, .fix [.sl (.bytes ll), .i p1]⟩)], [9, 998, 999]⟩ : St))
    (fun (x : (List Int) × Nat × Int) => match x with | (o, i, p1) => (i ≤ n.toNat) ∧ (GoodO o i) ∧ (p + 1 ≤ p1 ∧ p1 ≤ p + 1 + i))
    (fun (x : (List Int) × Nat × Int) => match x with | (o, i, p1) => (n.toNat - i : Nat)) (([] : List Int), 0, q11) ?_ ?_ ?_
  · exact (show (0 ≤ n.toNat) ∧ (GoodO ([] : List Int) 0) ∧ (p + 1 ≤ q11 ∧ q11 ≤ p + 1 + 0) from ⟨(by first | assumption | omega | rfl | (intro _ hjj; omega) | (simp; done) | (simp; omega)), (by exact GoodO.nil), (by first | assumption | omega | rfl | (intro _ hjj; omega) | (simp; done) | (simp; omega))⟩)
  · exact Sub.of [] (@cast (((((998 : Nat) = 998) ∧ (((0 : Nat) = 0) ∧ ((998 : Nat) ∈ ([9, 998, 999] : List Nat)))) ∧ (((.int .i64 n : Value) = .int .i64 n) ∧ ((((9 : Nat) = 9) ∧ (((List.length ([] : List Int)) = (List.length ([] : List Int))) ∧ ((9 : Nat) ∈ ([9, 998, 999] : List Nat)))) ∧ (((.bool (decide (v11 = (0 : Int))) : Value) = .bool (decide (v11 = (0 : Int)))) ∧ (((.int .i64 (0 : Int) : Value) = .int .i64 ((0 : Nat) : Int)) ∧ True))))) ∧ (((((3 : Nat) = 3) ∧ (((.ints ([] : List Int) : Dat) = .ints ([] : List Int)) ∧ ((9 : Nat) ∈ ([9, 998, 999] : List Nat)))) ∧ ((((69 : Nat) = 69) ∧ ((((.bytes ll : Dat) = .bytes ll) ∧ (((.int .i64 q11 : Value) = .int .i64 q11) ∧ True)) ∧ ((998 : Nat) ∈ ([9, 998, 999] : List Nat)))) ∧ True)) ∧ ((true = true) ∧ (true = true)))) _ (by kernel_rfl) ⟨⟨⟨rfl, ⟨rfl, (by decide)⟩⟩, ⟨rfl, ⟨⟨rfl, ⟨rfl, (by decide)⟩⟩, ⟨rfl, ⟨(congrArg (Value.int .i64) (by first | rfl | omega | assumption | simp | simp_all)), trivial⟩⟩⟩⟩⟩, ⟨⟨⟨rfl, ⟨rfl, (by decide)⟩⟩, ⟨⟨rfl, ⟨⟨rfl, ⟨rfl, trivial⟩⟩, (by decide)⟩⟩, trivial⟩⟩, ⟨rfl, rfl⟩⟩⟩)
  · rintro ⟨o, i, p1⟩ hC0
    have hC : (i ≤ n.toNat) ∧ (GoodO o i) ∧ (p + 1 ≤ p1 ∧ p1 ≤ p + 1 + i) := hC0
    clear hC0
    obtain ⟨hi, ho, hq⟩ := hC
    refine W.to (⟨[(0, .ptr 998 0), (1, .i n), (5, .own 9 (List.length o)), (6, .b (decide (v11 = (0 : Int)))), (7, .i ((i : Nat) : Int))], [(9, ⟨3, .row (.ints o)⟩), (998, ⟨69, .fix [.sl (.bytes ll), .i p1]⟩)], [9, 998, 999]⟩) rfl ?_
    have hol := ho.1
    refine W.seq ?_
    refine W.K cok tab38 hnt [] [0, 1, 5, 6, 7, 15] (⟨[(0, .ptr 998 0), (1, .i n), (5, .own 9 (List.length o)), (6, .b (decide (v11 = (0 : Int)))), (7, .i ((i : Nat) : Int)), (15, .b (decide (((i : Nat) : Int) < n)))], [(9, ⟨3, .row (.ints o)⟩), (998, ⟨69, .fix [.sl (.bytes ll), .i p1]⟩)], [9, 998, 999]⟩)
      (True ∧ (True ∧ ((True ∧ (True ∧ True)) ∧ True))) (by kernel_rfl)
      ⟨trivial, ⟨trivial, ⟨⟨trivial, ⟨trivial, trivial⟩⟩, trivial⟩⟩⟩ ?_
    refine W.ifP (((i : Nat) : Int) < n) (.b (decide (((i : Nat) : Int) < n))) (by kernel_rfl) rfl trivial ?_ ?_
    · intro h15
      refine W.skip (thenQ_normal ?_)
      refine W.seq ?_
      refine W.block ?_
      refine W.K cok tab38 hnt [] [0, 1, 5, 6, 7, 8] (⟨[(0, .ptr 998 0), (1, .i n), (5, .own 9 (List.length o)), (6, .b (decide (v11 = (0 : Int)))), (7, .i ((i : Nat) : Int)), (8, .i (((List.length o) : Nat) : Int))], [(9, ⟨3, .row (.ints o)⟩), (998, ⟨69, .fix [.sl (.bytes ll), .i p1]⟩)], [9, 998, 999]⟩)
        (True ∧ (True ∧ (True ∧ True))) (by kernel_rfl)
        ⟨trivial, ⟨trivial, ⟨trivial, trivial⟩⟩⟩ ?_
      refine W.subS [] (⟨[(0, .ptr 998 0), (1, .i n), (5, .sl (.ints o)), (6, .b (decide (v11 = (0 : Int)))), (7, .i ((i : Nat) : Int)), (8, .i (((List.length o) : Nat) : Int))], [(998, ⟨69, .fix [.sl (.bytes ll), .i p1]⟩)], [998, 999]⟩) (@cast (((((998 : Nat) = 998) ∧ (((0 : Nat) = 0) ∧ ((998 : Nat) ∈ ([998, 999] : List Nat)))) ∧ (((.int .i64 n : Value) = .int .i64 n) ∧ ((((List.length o) = (List.length o)) ∧ (((.ints o : Dat) = .ints o) ∧ ((9 : Nat) ∉ ([998] : List Nat)))) ∧ (((.bool (decide (v11 = (0 : Int))) : Value) = .bool (decide (v11 = (0 : Int)))) ∧ (((.int .i64 ((i : Nat) : Int) : Value) = .int .i64 ((i : Nat) : Int)) ∧ (((.int .i64 (((List.length o) : Nat) : Int) : Value) = .int .i64 (((List.length o) : Nat) : Int)) ∧ True)))))) ∧ (((((69 : Nat) = 69) ∧ ((((.bytes ll : Dat) = .bytes ll) ∧ (((.int .i64 p1 : Value) = .int .i64 p1) ∧ True)) ∧ ((998 : Nat) ∈ ([998, 999] : List Nat)))) ∧ True) ∧ ((true = true) ∧ (true = true)))) _ (by kernel_rfl) ⟨⟨⟨rfl, ⟨rfl, (by decide)⟩⟩, ⟨rfl, ⟨⟨rfl, ⟨rfl, (by decide)⟩⟩, ⟨rfl, ⟨rfl, ⟨rfl, trivial⟩⟩⟩⟩⟩⟩, ⟨⟨⟨rfl, ⟨⟨rfl, ⟨rfl, trivial⟩⟩, (by decide)⟩⟩, trivial⟩, ⟨rfl, rfl⟩⟩⟩) ?_
      refine W.seq ?_
      refine W.K cok tab38 hnt [] [0, 1, 5, 6, 7, 8, 20] (⟨[(0, .ptr 998 0), (1, .i n), (5, .sl (.ints o)), (6, .b (decide (v11 = (0 : Int)))), (7, .i ((i : Nat) : Int)), (8, .i (((List.length o) : Nat) : Int)), (20, .b (decide (v11 = (0 : Int))))], [(998, ⟨69, .fix [.sl (.bytes ll), .i p1]⟩)], [998, 999]⟩)
        (True ∧ True) (by kernel_rfl)
        ⟨trivial, trivial⟩ ?_
      refine W.meetT (ι := Int × Int) (fun (x : Int × Int) => match x with | (at_, p2) => (⟨[(0, .ptr 998 0), (1, .i n), (5, .sl (.ints o)), (6, .b (decide (v11 = (0 : Int)))), (7, .i ((i : Nat) : Int)), (8, .i at_)], [(998, ⟨69, .fix [.sl (.bytes ll), .i p2]⟩)], [998, 999]⟩ : St)) (fun (x : Int × Int) => match x with | (at_, p2) => (0 ≤ at_ ∧ at_ ≤ o.length) ∧ (p1 ≤ p2 ∧ p2 ≤ p1 + 1)) ?_ ?_
      · skip
        refine W.ifP (v11 = (0 : Int)) (.b (decide (v11 = (0 : Int)))) (by kernel_rfl) rfl trivial ?_ ?_
        · intro h20
          refine W.wi ?_
          refine WI.run cok tab38 hnt [] 4 (⟨[(0, .ptr 998 0), (1, .i n), (5, .sl (.ints o)), (6, .b (decide (v11 = (0 : Int)))), (7, .i ((i : Nat) : Int)), (8, .i (((List.length o) : Nat) : Int)), (20, .b (decide (v11 = (0 : Int)))), (21, .ptr 998 0), (22, .sl (.ints o)), (23, .i (((List.length o) : Nat) : Int)), (24, .i ((((List.length o) + 1) : Nat) : Int))], [(998, ⟨69, .fix [.sl (.bytes ll), .i p1]⟩)], [998, 999]⟩)
            (True ∧ (True ∧ (True ∧ ((True ∧ (True ∧ (Fits .i64 ((((List.length o) + 1) : Nat) : Int)))) ∧ True)))) (by kernel_rfl)
            ⟨trivial, ⟨trivial, ⟨trivial, ⟨⟨trivial, ⟨trivial, (by exact fits_i64 (by omega) (by omega))⟩⟩, trivial⟩⟩⟩⟩ ?_
          refine WI.to (⟨[(0, .ptr 998 0), (1, .i n), (5, .sl (.ints o)), (6, .b (decide (v11 = (0 : Int)))), (7, .i ((i : Nat) : Int)), (8, .i (((List.length o) : Nat) : Int)), (20, .b (decide (v11 = (0 : Int)))), (21, .ptr 998 0), (22, .sl (.ints o)), (23, .i (((List.length o) : Nat) : Int)), (24, .i ((((List.length o) + 1) : Nat) : Int))], [(998, ⟨69, .fix [.sl (.bytes ll), .i p1]⟩)], [998, 999]⟩) 4 rfl rfl ?_
          refine WI.call [.ptr 998 0, .i ((((List.length o) + 1) : Nat) : Int)] [.sl (.bytes ll), .i p1] [.i ((((List.length o) + 1) : Nat) : Int)] [.i ((((List.length o) + 1) : Nat) : Int)] (some (69, 998)) (True) (True ∧ True) none rok68 ent68 hnt rfl rfl (wanted_none rfl) (by kernel_rfl) (by kernel_rfl) (by kernel_rfl) ⟨trivial, ⟨trivial, trivial⟩⟩
            (@cast (0 ≤ p1 ∧ p1 ≤ 1000000) _ (by kernel_rfl) (by omega)) (Or.inl rfl) rfl ?_
          rintro r bl fx2 hR
          obtain ⟨⟨v25, q25⟩, hq25, rfl, rfl, rfl⟩ := (@cast _ (∃ x : Int × Int, ((0 ≤ x.1 ∧ x.1 < max ((((List.length o) + 1) : Nat) : Int) 1) ∧ (x.2 = p1 + 1)) ∧ r = (.i x.1) ∧ bl = ([]) ∧ fx2 = ([.sl (.bytes ll), .i x.2])) (by kernel_rfl) hR)
          clear hR
          replace hq25 : (0 ≤ v25 ∧ v25 < max ((((List.length o) + 1) : Nat) : Int) 1) ∧ (q25 = p1 + 1) := hq25
          obtain ⟨hv25, hq125⟩ := hq25
          refine ⟨by kernel_rfl, WI.to (⟨[(0, .ptr 998 0), (1, .i n), (5, .sl (.ints o)), (6, .b (decide (v11 = (0 : Int)))), (7, .i ((i : Nat) : Int)), (8, .i (((List.length o) : Nat) : Int)), (20, .b (decide (v11 = (0 : Int)))), (21, .ptr 998 0), (22, .sl (.ints o)), (23, .i (((List.length o) : Nat) : Int)), (24, .i ((((List.length o) + 1) : Nat) : Int)), (25, .i v25)], [(998, ⟨69, .fix [.sl (.bytes ll), .i q25]⟩)], [25, 998, 999]⟩) 5 (by kernel_rfl) rfl ?_⟩
          refine WI.run cok tab38 hnt [] 1 (⟨[(0, .ptr 998 0), (1, .i n), (5, .sl (.ints o)), (6, .b (decide (v11 = (0 : Int)))), (7, .i ((i : Nat) : Int)), (8, .i v25), (20, .b (decide (v11 = (0 : Int)))), (21, .ptr 998 0), (22, .sl (.ints o)), (23, .i (((List.length o) : Nat) : Int)), (24, .i ((((List.length o) + 1) : Nat) : Int)), (25, .i v25)], [(998, ⟨69, .fix [.sl (.bytes ll), .i q25]⟩)], [25, 998, 999]⟩)
            (True ∧ True) (by kernel_rfl)
            ⟨trivial, trivial⟩ ?_
          refine WI.to (⟨[(0, .ptr 998 0), (1, .i n), (5, .sl (.ints o)), (6, .b (decide (v11 = (0 : Int)))), (7, .i ((i : Nat) : Int)), (8, .i v25), (20, .b (decide (v11 = (0 : Int)))), (21, .ptr 998 0), (22, .sl (.ints o)), (23, .i (((List.length o) : Nat) : Int)), (24, .i ((((List.length o) + 1) : Nat) : Int)), (25, .i v25)], [(998, ⟨69, .fix [.sl (.bytes ll), .i q25]⟩)], [25, 998, 999]⟩) 6 rfl rfl ?_
          refine WI.nil rfl ?_
          refine thenQ_normal ?_
          refine ⟨(v25, q25), (show (0 ≤ v25 ∧ v25 ≤ o.length) ∧ (p1 ≤ q25 ∧ q25 ≤ p1 + 1) from ⟨(by first | assumption | omega | rfl | (intro _ hjj; omega) | (simp; done) | (simp; omega)), (by first | assumption | omega | rfl | (intro _ hjj; omega) | (simp; done) | (simp; omega))⟩), ?_⟩
          exact Sub.of [] (@cast (((((998 : Nat) = 998) ∧ (((0 : Nat) = 0) ∧ ((998 : Nat) ∈ ([998, 999] : List Nat)))) ∧ (((.int .i64 n : Value) = .int .i64 n) ∧ (((.ints o : Dat) = .ints o) ∧ (((.bool (decide (v11 = (0 : Int))) : Value) = .bool (decide (v11 = (0 : Int)))) ∧ (((.int .i64 ((i : Nat) : Int) : Value) = .int .i64 ((i : Nat) : Int)) ∧ (((.int .i64 v25 : Value) = .int .i64 v25) ∧ True)))))) ∧ (((((69 : Nat) = 69) ∧ ((((.bytes ll : Dat) = .bytes ll) ∧ (((.int .i64 q25 : Value) = .int .i64 q25) ∧ True)) ∧ ((998 : Nat) ∈ ([998, 999] : List Nat)))) ∧ True) ∧ ((true = true) ∧ (true = true)))) _ (by kernel_rfl) ⟨⟨⟨rfl, ⟨rfl, (by decide)⟩⟩, ⟨rfl, ⟨rfl, ⟨rfl, ⟨rfl, ⟨rfl, trivial⟩⟩⟩⟩⟩⟩, ⟨⟨⟨rfl, ⟨⟨rfl, ⟨rfl, trivial⟩⟩, (by decide)⟩⟩, trivial⟩, ⟨rfl, rfl⟩⟩⟩)
        · intro n20
          refine W.skip (thenQ_normal ?_)
          refine ⟨((((List.length o) : Nat) : Int), p1), (show (0 ≤ (((List.length o) : Nat) : Int) ∧ (((List.length o) : Nat) : Int) ≤ o.length) ∧ (p1 ≤ p1 ∧ p1 ≤ p1 + 1) from ⟨(by first | assumption | omega | rfl | (intro _ hjj; omega) | (simp; done) | (simp; omega)), (by first | assumption | omega | rfl | (intro _ hjj; omega) | (simp; done) | (simp; omega))⟩), ?_⟩
          exact Sub.of [] (@cast (((((998 : Nat) = 998) ∧ (((0 : Nat) = 0) ∧ ((998 : Nat) ∈ ([998, 999] : List Nat)))) ∧ (((.int .i64 n : Value) = .int .i64 n) ∧ (((.ints o : Dat) = .ints o) ∧ (((.bool (decide (v11 = (0 : Int))) : Value) = .bool (decide (v11 = (0 : Int)))) ∧ (((.int .i64 ((i : Nat) : Int) : Value) = .int .i64 ((i : Nat) : Int)) ∧ (((.int .i64 (((List.length o) : Nat) : Int) : Value) = .int .i64 (((List.length o) : Nat) : Int)) ∧ True)))))) ∧ (((((69 : Nat) = 69) ∧ ((((.bytes ll : Dat) = .bytes ll) ∧ (((.int .i64 p1 : Value) = .int .i64 p1) ∧ True)) ∧ ((998 : Nat) ∈ ([998, 999] : List Nat)))) ∧ True) ∧ ((true = true) ∧ (true = true)))) _ (by kernel_rfl) ⟨⟨⟨rfl, ⟨rfl, (by decide)⟩⟩, ⟨rfl, ⟨rfl, ⟨rfl, ⟨rfl, ⟨rfl, trivial⟩⟩⟩⟩⟩⟩, ⟨⟨⟨rfl, ⟨⟨rfl, ⟨rfl, trivial⟩⟩, (by decide)⟩⟩, trivial⟩, ⟨rfl, rfl⟩⟩⟩)
      · rintro ⟨at_, p2⟩ hC0
        have hC : (0 ≤ at_ ∧ at_ ≤ o.length) ∧ (p1 ≤ p2 ∧ p2 ≤ p1 + 1) := hC0
        clear hC0
        obtain ⟨hat, hq2⟩ := hC
        refine W.to (⟨[(0, .ptr 998 0), (1, .i n), (5, .sl (.ints o)), (6, .b (decide (v11 = (0 : Int)))), (7, .i ((i : Nat) : Int)), (8, .i at_)], [(998, ⟨69, .fix [.sl (.bytes ll), .i p2]⟩)], [998, 999]⟩) rfl ?_
        refine W.LA cok tab38 hnt [26, 30, 33, 37] (⟨[(0, .ptr 998 0), (1, .i n), (5, .own 37 (List.length (((List.take (Int.toNat at_) o) ++ ([((i : Nat) : Int)])) ++ (List.drop (Int.toNat at_) (List.take (List.length o) o))))), (6, .b (decide (v11 = (0 : Int)))), (7, .i ((i : Nat) : Int)), (8, .i at_), (26, .own 26 (List.length ([] : List Int))), (27, .sl (.ints o)), (28, .i at_), (29, .sl (.ints (List.take (Int.toNat at_) o))), (30, .own 30 (List.length (List.take (Int.toNat at_) o))), (31, .i ((i : Nat) : Int)), (32, .sl (.ints ([((i : Nat) : Int)]))), (33, .own 33 (List.length ((List.take (Int.toNat at_) o) ++ ([((i : Nat) : Int)])))), (34, .sl (.ints o)), (35, .i at_), (36, .sl (.ints (List.drop (Int.toNat at_) (List.take (List.length o) o)))), (37, .own 37 (List.length (((List.take (Int.toNat at_) o) ++ ([((i : Nat) : Int)])) ++ (List.drop (Int.toNat at_) (List.take (List.length o) o)))))], [(37, ⟨3, .row (.ints (((List.take (Int.toNat at_) o) ++ ([((i : Nat) : Int)])) ++ (List.drop (Int.toNat at_) (List.take (List.length o) o))))⟩), (998, ⟨69, .fix [.sl (.bytes ll), .i p2]⟩)], [37, 33, 32, 30, 26, 998, 999]⟩)
          (True ∧ (True ∧ (True ∧ ((True ∧ (True ∧ (True ∧ ((0 ≤ (0 : Int)) ∧ (((0 : Int) ≤ at_) ∧ (at_ ≤ (((List.length o) : Nat) : Int))))))) ∧ (((True ∧ ((List.length ([] : List Int)) = (List.length ([] : List Int)))) ∧ (True ∧ (((List.length ([] : List Int)) + (List.length (List.take (Int.toNat at_) o))) * 8 ≤ 140737488355328))) ∧ (True ∧ ((True ∧ True) ∧ (((True ∧ ((List.length (List.take (Int.toNat at_) o)) = (List.length (List.take (Int.toNat at_) o)))) ∧ (True ∧ (((List.length (List.take (Int.toNat at_) o)) + (List.length ([((i : Nat) : Int)]))) * 8 ≤ 140737488355328))) ∧ (True ∧ (True ∧ ((True ∧ (True ∧ (True ∧ ((0 ≤ at_) ∧ ((at_ ≤ (((List.length o) : Nat) : Int)) ∧ ((((List.length o) : Nat) : Int) ≤ (((List.length o) : Nat) : Int))))))) ∧ (((True ∧ ((List.length ((List.take (Int.toNat at_) o) ++ ([((i : Nat) : Int)]))) = (List.length ((List.take (Int.toNat at_) o) ++ ([((i : Nat) : Int)]))))) ∧ (True ∧ (((List.length ((List.take (Int.toNat at_) o) ++ ([((i : Nat) : Int)]))) + (List.length (List.drop (Int.toNat at_) (List.take (List.length o) o)))) * 8 ≤ 140737488355328))) ∧ (True ∧ True))))))))))))) (by kernel_rfl) (by kernel_rfl)
          ⟨trivial, ⟨trivial, ⟨trivial, ⟨⟨trivial, ⟨trivial, ⟨trivial, ⟨(by omega), ⟨(by omega), (by omega)⟩⟩⟩⟩⟩, ⟨⟨⟨trivial, rfl⟩, ⟨trivial, (by (first | omega | (simp only [List.length_append, List.length_cons, List.length_nil, List.length_take, List.length_drop, List.length_set, List.length_replicate, List.length_map] at *; omega) | assumption))⟩⟩, ⟨trivial, ⟨⟨trivial, trivial⟩, ⟨⟨⟨trivial, rfl⟩, ⟨trivial, (by (first | omega | (simp only [List.length_append, List.length_cons, List.length_nil, List.length_take, List.length_drop, List.length_set, List.length_replicate, List.length_map] at *; omega) | assumption))⟩⟩, ⟨trivial, ⟨trivial, ⟨⟨trivial, ⟨trivial, ⟨trivial, ⟨(by omega), ⟨(by omega), (by omega)⟩⟩⟩⟩⟩, ⟨⟨⟨trivial, rfl⟩, ⟨trivial, (by (first | omega | (simp only [List.length_append, List.length_cons, List.length_nil, List.length_take, List.length_drop, List.length_set, List.length_replicate, List.length_map] at *; omega) | assumption))⟩⟩, ⟨trivial, trivial⟩⟩⟩⟩⟩⟩⟩⟩⟩⟩⟩⟩⟩ ?_
        refine blockQ_normal (thenQ_normal ?_)
        refine W.L cok tab38 hnt [] (⟨[(0, .ptr 998 0), (1, .i n), (5, .own 37 (List.length (((List.take (Int.toNat at_) o) ++ ([((i : Nat) : Int)])) ++ (List.drop (Int.toNat at_) (List.take (List.length o) o))))), (6, .b (decide (v11 = (0 : Int)))), (7, .i (((i + 1) : Nat) : Int)), (8, .i at_), (16, .i ((i : Nat) : Int)), (17, .i (((i + 1) : Nat) : Int)), (26, .own 26 (List.length ([] : List Int))), (27, .sl (.ints o)), (28, .i at_), (29, .sl (.ints (List.take (Int.toNat at_) o))), (30, .own 30 (List.length (List.take (Int.toNat at_) o))), (31, .i ((i : Nat) : Int)), (32, .sl (.ints ([((i : Nat) : Int)]))), (33, .own 33 (List.length ((List.take (Int.toNat at_) o) ++ ([((i : Nat) : Int)])))), (34, .sl (.ints o)), (35, .i at_), (36, .sl (.ints (List.drop (Int.toNat at_) (List.take (List.length o) o)))), (37, .own 37 (List.length (((List.take (Int.toNat at_) o) ++ ([((i : Nat) : Int)])) ++ (List.drop (Int.toNat at_) (List.take (List.length o) o)))))], [(37, ⟨3, .row (.ints (((List.take (Int.toNat at_) o) ++ ([((i : Nat) : Int)])) ++ (List.drop (Int.toNat at_) (List.take (List.length o) o))))⟩), (998, ⟨69, .fix [.sl (.bytes ll), .i p2]⟩)], [37, 33, 32, 30, 26, 998, 999]⟩)
          (True ∧ ((True ∧ (True ∧ (Fits .i64 (((i + 1) : Nat) : Int)))) ∧ (True ∧ True))) (by kernel_rfl)
          ⟨trivial, ⟨⟨trivial, ⟨trivial, (by exact fits_i64 (by omega) (by omega))⟩⟩, ⟨trivial, trivial⟩⟩⟩ ?_
        refine thenQ_normal ?_
        refine ⟨((((List.take (Int.toNat at_) o) ++ ([((i : Nat) : Int)])) ++ (List.drop (Int.toNat at_) (List.take (List.length o) o))), (i + 1), p2), (show ((i + 1) ≤ n.toNat) ∧ (GoodO (((List.take (Int.toNat at_) o) ++ ([((i : Nat) : Int)])) ++ (List.drop (Int.toNat at_) (List.take (List.length o) o))) (i + 1)) ∧ (p + 1 ≤ p2 ∧ p2 ≤ p + 1 + (i + 1)) from ⟨(by first | assumption | omega | rfl | (intro _ hjj; omega) | (simp; done) | (simp; omega)), (by have h9 := ho.put (Int.toNat at_); rw [← List.take_length (l := o)] at h9; first | exact h9 | (simp only [List.take_length] at h9 ⊢; exact h9)), (by first | assumption | omega | rfl | (intro _ hjj; omega) | (simp; done) | (simp; omega))⟩), (show n.toNat - (i + 1) < n.toNat - i from (by first | omega | (simp_all; omega))), ?_⟩
        exact Sub.of [(9, 37)] (@cast (((((998 : Nat) = 998) ∧ (((0 : Nat) = 0) ∧ ((998 : Nat) ∈ ([9, 998, 999] : List Nat)))) ∧ (((.int .i64 n : Value) = .int .i64 n) ∧ ((((37 : Nat) = 37) ∧ (((List.length (((List.take (Int.toNat at_) o) ++ ([((i : Nat) : Int)])) ++ (List.drop (Int.toNat at_) (List.take (List.length o) o)))) = (List.length (((List.take (Int.toNat at_) o) ++ ([((i : Nat) : Int)])) ++ (List.drop (Int.toNat at_) (List.take (List.length o) o))))) ∧ ((9 : Nat) ∈ ([9, 998, 999] : List Nat)))) ∧ (((.bool (decide (v11 = (0 : Int))) : Value) = .bool (decide (v11 = (0 : Int)))) ∧ (((.int .i64 (((i + 1) : Nat) : Int) : Value) = .int .i64 (((i + 1) : Nat) : Int)) ∧ True))))) ∧ (((((3 : Nat) = 3) ∧ (((.ints (((List.take (Int.toNat at_) o) ++ ([((i : Nat) : Int)])) ++ (List.drop (Int.toNat at_) (List.take (List.length o) o))) : Dat) = .ints (((List.take (Int.toNat at_) o) ++ ([((i : Nat) : Int)])) ++ (List.drop (Int.toNat at_) (List.take (List.length o) o)))) ∧ ((9 : Nat) ∈ ([9, 998, 999] : List Nat)))) ∧ ((((69 : Nat) = 69) ∧ ((((.bytes ll : Dat) = .bytes ll) ∧ (((.int .i64 p2 : Value) = .int .i64 p2) ∧ True)) ∧ ((998 : Nat) ∈ ([9, 998, 999] : List Nat)))) ∧ True)) ∧ ((true = true) ∧ (true = true)))) _ (by kernel_rfl) ⟨⟨⟨rfl, ⟨rfl, (by decide)⟩⟩, ⟨rfl, ⟨⟨rfl, ⟨rfl, (by decide)⟩⟩, ⟨rfl, ⟨rfl, trivial⟩⟩⟩⟩⟩, ⟨⟨⟨rfl, ⟨rfl, (by decide)⟩⟩, ⟨⟨rfl, ⟨⟨rfl, ⟨rfl, trivial⟩⟩, (by decide)⟩⟩, trivial⟩⟩, ⟨rfl, rfl⟩⟩⟩)
    · intro n15
      refine W.exit (thenQ_exit (thenQ_exit (blockQ_hit ?_)))
      refine thenQ_normal ?_
      refine W.seq ?_
      refine W.seq (W.wi ?_)
      refine WI.run cok tab38 hnt [] 1 (⟨[(0, .ptr 998 0), (1, .i n), (5, .own 9 (List.length o)), (6, .b (decide (v11 = (0 : Int)))), (7, .i ((i : Nat) : Int)), (15, .b (decide (((i : Nat) : Int) < n))), (38, .ptr 998 0)], [(9, ⟨3, .row (.ints o)⟩), (998, ⟨69, .fix [.sl (.bytes ll), .i p1]⟩)], [9, 998, 999]⟩)
        (True ∧ True) (by kernel_rfl)
        ⟨trivial, trivial⟩ ?_
      refine WI.to (⟨[(0, .ptr 998 0), (1, .i n), (5, .own 9 (List.length o)), (6, .b (decide (v11 = (0 : Int)))), (7, .i ((i : Nat) : Int)), (15, .b (decide (((i : Nat) : Int) < n))), (38, .ptr 998 0)], [(9, ⟨3, .row (.ints o)⟩), (998, ⟨69, .fix [.sl (.bytes ll), .i p1]⟩)], [9, 998, 999]⟩) 1 rfl rfl ?_
      refine WI.call [.ptr 998 0, .i (24 : Int)] [.sl (.bytes ll), .i p1] [.i (24 : Int)] [.i (24 : Int)] (some (69, 998)) (True) (True ∧ True) none rok68 ent68 hnt rfl rfl (wanted_none rfl) (by kernel_rfl) (by kernel_rfl) (by kernel_rfl) ⟨trivial, ⟨trivial, trivial⟩⟩
        (@cast (0 ≤ p1 ∧ p1 ≤ 1000000) _ (by kernel_rfl) (by omega)) (Or.inl rfl) rfl ?_
      rintro r bl fx2 hR
      obtain ⟨⟨v39, q39⟩, hq39, rfl, rfl, rfl⟩ := (@cast _ (∃ x : Int × Int, ((0 ≤ x.1 ∧ x.1 < max (24 : Int) 1) ∧ (x.2 = p1 + 1)) ∧ r = (.i x.1) ∧ bl = ([]) ∧ fx2 = ([.sl (.bytes ll), .i x.2])) (by kernel_rfl) hR)
      clear hR
      replace hq39 : (0 ≤ v39 ∧ v39 < max (24 : Int) 1) ∧ (q39 = p1 + 1) := hq39
      obtain ⟨hv39, hq139⟩ := hq39
      refine ⟨by kernel_rfl, WI.to (⟨[(0, .ptr 998 0), (1, .i n), (5, .own 9 (List.length o)), (6, .b (decide (v11 = (0 : Int)))), (7, .i ((i : Nat) : Int)), (15, .b (decide (((i : Nat) : Int) < n))), (38, .ptr 998 0), (39, .i v39)], [(9, ⟨3, .row (.ints o)⟩), (998, ⟨69, .fix [.sl (.bytes ll), .i q39]⟩)], [39, 9, 998, 999]⟩) 2 (by kernel_rfl) rfl ?_⟩
      refine WI.run cok tab38 hnt [] 1 (⟨[(0, .ptr 998 0), (1, .i n), (5, .own 9 (List.length o)), (6, .b (decide (v11 = (0 : Int)))), (7, .i ((i : Nat) : Int)), (15, .b (decide (((i : Nat) : Int) < n))), (38, .ptr 998 0), (39, .i v39), (40, .b (decide (v39 = (0 : Int))))], [(9, ⟨3, .row (.ints o)⟩), (998, ⟨69, .fix [.sl (.bytes ll), .i q39]⟩)], [39, 9, 998, 999]⟩)
        ((True ∧ (True ∧ True)) ∧ True) (by kernel_rfl)
        ⟨⟨trivial, ⟨trivial, trivial⟩⟩, trivial⟩ ?_
      refine WI.to (⟨[(0, .ptr 998 0), (1, .i n), (5, .own 9 (List.length o)), (6, .b (decide (v11 = (0 : Int)))), (7, .i ((i : Nat) : Int)), (15, .b (decide (((i : Nat) : Int) < n))), (38, .ptr 998 0), (39, .i v39), (40, .b (decide (v39 = (0 : Int))))], [(9, ⟨3, .row (.ints o)⟩), (998, ⟨69, .fix [.sl (.bytes ll), .i q39]⟩)], [39, 9, 998, 999]⟩) 3 rfl rfl ?_
      refine WI.nil rfl (thenQ_normal ?_)
      refine W.keepE [5, 40] [(5, .own 9 (List.length o)), (40, .b (decide (v39 = (0 : Int))))] (by kernel_rfl) ?_
      refine W.to (⟨[(5, .own 9 (List.length o)), (40, .b (decide (v39 = (0 : Int))))], [(9, ⟨3, .row (.ints o)⟩), (998, ⟨69, .fix [.sl (.bytes ll), .i q39]⟩)], [39, 9, 998, 999]⟩) rfl ?_
      refine W.ifP (v39 = (0 : Int)) (.b (decide (v39 = (0 : Int)))) (by kernel_rfl) rfl trivial ?_ ?_
      · intro h40
        refine W.K cok tab38 hnt [43] [4] (⟨[(4, .own 43 (List.length (o ++ ([(0 : Int)]))))], [(43, ⟨3, .row (.ints (o ++ ([(0 : Int)])))⟩), (998, ⟨69, .fix [.sl (.bytes ll), .i q39]⟩)], [43, 42, 39, 9, 998, 999]⟩)
          (True ∧ ((True ∧ True) ∧ (((True ∧ ((List.length o) = (List.length o))) ∧ (True ∧ (((List.length o) + (List.length ([(0 : Int)]))) * 8 ≤ 140737488355328))) ∧ (True ∧ True)))) (by kernel_rfl)
          ⟨trivial, ⟨⟨trivial, trivial⟩, ⟨⟨⟨trivial, rfl⟩, ⟨trivial, (by (first | omega | (simp only [List.length_append, List.length_cons, List.length_nil, List.length_take, List.length_drop, List.length_set, List.length_replicate, List.length_map] at *; omega) | assumption))⟩⟩, ⟨trivial, trivial⟩⟩⟩⟩ ?_
        refine W.ret (thenQ_ret ?_)
        exact endP_ret ((o ++ ([(0 : Int)])), q39) (show ((((o ++ ([(0 : Int)])).length : Nat) : Int) = n → GoodO (o ++ ([(0 : Int)])) n.toNat) ∧ ((o ++ ([(0 : Int)])).length ≤ 7) ∧ (p ≤ q39 ∧ q39 ≤ p + 20) from ⟨(by intro hh; simp at hh; omega), (by simp; omega), (by first | assumption | omega | rfl | (simp; done) | (simp; omega))⟩) [(1, 43), (0, 998)] (.own 43 (List.length (o ++ ([(0 : Int)])))) (by kernel_rfl) (@cast ((((43 : Nat) = 43) ∧ (((List.length (o ++ ([(0 : Int)]))) = (List.length (o ++ ([(0 : Int)])))) ∧ ((1 : Nat) ∈ ([0, 1] : List Nat)))) ∧ (((((69 : Nat) = 69) ∧ ((((.bytes ll : Dat) = .bytes ll) ∧ (((.int .i64 q39 : Value) = .int .i64 q39) ∧ True)) ∧ ((0 : Nat) ∈ ([0, 1] : List Nat)))) ∧ ((((3 : Nat) = 3) ∧ (((.ints (o ++ ([(0 : Int)])) : Dat) = .ints (o ++ ([(0 : Int)]))) ∧ ((1 : Nat) ∈ ([0, 1] : List Nat)))) ∧ True)) ∧ ((true = true) ∧ (((([] : List Nat) = []) ∧ True) ∧ (true = true → (998 : Nat) = 998))))) _ (by kernel_rfl) ⟨⟨rfl, ⟨rfl, (by decide)⟩⟩, ⟨⟨⟨rfl, ⟨⟨rfl, ⟨rfl, trivial⟩⟩, (by decide)⟩⟩, ⟨⟨rfl, ⟨rfl, (by decide)⟩⟩, trivial⟩⟩, ⟨rfl, ⟨⟨rfl, trivial⟩, (fun _ => rfl)⟩⟩⟩⟩)
      · intro n40
        refine W.skip (thenQ_normal ?_)
        refine W.K cok tab38 hnt [] [4] (⟨[(4, .own 9 (List.length o))], [(9, ⟨3, .row (.ints o)⟩), (998, ⟨69, .fix [.sl (.bytes ll), .i q39]⟩)], [39, 9, 998, 999]⟩)
          (True ∧ (True ∧ True)) (by kernel_rfl)
          ⟨trivial, ⟨trivial, trivial⟩⟩ ?_
        refine W.ret ?_
        exact endP_ret (o, q39) (show (((o.length : Nat) : Int) = n → GoodO o n.toNat) ∧ (o.length ≤ 7) ∧ (p ≤ q39 ∧ q39 ≤ p + 20) from ⟨(by intro _; rw [show n.toNat = i by omega]; exact ho), (by omega), (by first | assumption | omega | rfl | (simp; done) | (simp; omega))⟩) [(1, 9), (0, 998)] (.own 9 (List.length o)) (by kernel_rfl) (@cast ((((9 : Nat) = 9) ∧ (((List.length o) = (List.length o)) ∧ ((1 : Nat) ∈ ([0, 1] : List Nat)))) ∧ (((((69 : Nat) = 69) ∧ ((((.bytes ll : Dat) = .bytes ll) ∧ (((.int .i64 q39 : Value) = .int .i64 q39) ∧ True)) ∧ ((0 : Nat) ∈ ([0, 1] : List Nat)))) ∧ ((((3 : Nat) = 3) ∧ (((.ints o : Dat) = .ints o) ∧ ((1 : Nat) ∈ ([0, 1] : List Nat)))) ∧ True)) ∧ ((true = true) ∧ (((([] : List Nat) = []) ∧ True) ∧ (true = true → (998 : Nat) = 998))))) _ (by kernel_rfl) ⟨⟨rfl, ⟨rfl, (by decide)⟩⟩, ⟨⟨⟨rfl, ⟨⟨rfl, ⟨rfl, trivial⟩⟩, (by decide)⟩⟩, ⟨⟨rfl, ⟨rfl, (by decide)⟩⟩, trivial⟩⟩, ⟨rfl, ⟨⟨rfl, trivial⟩, (fun _ => rfl)⟩⟩⟩⟩)
theorem ent38 : Entr prog 38 := ⟨_, func38, rfl, by decide⟩

end Go.Proofs.Try

set_option linter.unusedSimpArgs false
set_option linter.unusedVariables false
namespace Go.Proofs.Try
open Go.Ab Go.RowKit
/-- spec.DrawIsRight -/
def pre9 : List AV → List AV → Prop := preP [.bytes] [] (fun (code, _) _ => True)
def rel9 : RelS := relP [.bytes] [] (ι := ByteArray × (List CallD) × (List Int)) (fun (code, _) _ (nm, g, l) => (g.length ≤ 6) ∧ (l.length ≤ 7)) (fun (code, _) _ (nm, g, l) => (.tup [.v (.string nm), .sl (.calls g), .sl (.ints l)], [], []))
abbrev T9 : Tab := lk []
theorem tab9 : TabOK prog T9 := TabOK.nil
set_option maxRecDepth 100000 in
set_option maxHeartbeats 1000000 in
theorem rok9 : RelOK prog 9 none [.s .bytes] pre9 rel9 := by
  refine RelOK.mk cok func9 rfl rfl rfl ?_
  rintro ⟨(code : List UInt8), _⟩ _ hpre F hnt0
  have hnt : F.nt = 21 := hnt0.trans ntmps9
  clear hpre
  refine W.to (⟨[(0, .sl (.bytes code))], [], [998, 999]⟩) rfl ?_
  refine W.K cok tab9 hnt [] [0] (⟨[(0, .sl (.bytes code))], [], [998, 999]⟩)
    (True ∧ (True ∧ (True ∧ True))) (by kernel_rfl)
    ⟨trivial, ⟨trivial, ⟨trivial, trivial⟩⟩⟩ ?_
  refine W.seq (W.wi ?_)
  refine WI.run cok tab9 hnt [] 1 (⟨[(0, .sl (.bytes code)), (8, .sl (.bytes code))], [], [998, 999]⟩)
    (True ∧ True) (by kernel_rfl)
    ⟨trivial, trivial⟩ ?_
  refine WI.to (⟨[(0, .sl (.bytes code)), (8, .sl (.bytes code))], [], [998, 999]⟩) 1 rfl rfl ?_
  refine WI.call [.sl (.bytes code)] [] [.sl (.bytes code)] [.sl (.bytes code)] none (True) (True ∧ True) none rok36 ent36 hnt rfl rfl (wanted_none rfl) (by kernel_rfl) (by kernel_rfl) (by kernel_rfl) ⟨trivial, ⟨trivial, trivial⟩⟩
    (@cast (True) _ (by kernel_rfl) trivial) (Or.inl rfl) rfl ?_
  rintro r bl fx2 hR
  obtain ⟨l9, hq9, rfl, rfl, rfl⟩ := (@cast _ (∃ x : (List UInt8), (True) ∧ r = (.ptr 0 0) ∧ bl = ([⟨69, .fix [.sl (.bytes x), .i (0 : Int)]⟩]) ∧ fx2 = ([])) (by kernel_rfl) hR)
  clear hR
  replace hq9 : True := hq9
  refine ⟨by kernel_rfl, WI.to (⟨[(0, .sl (.bytes code)), (8, .sl (.bytes code)), (9, .ptr 9 0)], [(9, ⟨69, .fix [.sl (.bytes l9), .i (0 : Int)]⟩)], [9, 998, 999]⟩) 2 (by kernel_rfl) rfl ?_⟩
  refine WI.run cok tab9 hnt [] 1 (⟨[(0, .sl (.bytes code)), (5, .ptr 9 0), (8, .sl (.bytes code)), (9, .ptr 9 0)], [(9, ⟨69, .fix [.sl (.bytes l9), .i (0 : Int)]⟩)], [9, 998, 999]⟩)
    (True ∧ True) (by kernel_rfl)
    ⟨trivial, trivial⟩ ?_
  refine WI.to (⟨[(0, .sl (.bytes code)), (5, .ptr 9 0), (8, .sl (.bytes code)), (9, .ptr 9 0)], [(9, ⟨69, .fix [.sl (.bytes l9), .i (0 : Int)]⟩)], [9, 998, 999]⟩) 3 rfl rfl ?_
  refine WI.nil rfl (thenQ_normal ?_)
  refine W.keepE [5] [(5, .ptr 9 0)] (by kernel_rfl) ?_
  refine W.to (⟨[(5, .ptr 9 0)], [(9, ⟨69, .fix [.sl (.bytes l9), .i (0 : Int)]⟩)], [9, 998, 999]⟩) rfl ?_
  refine W.seq (W.wi ?_)
  refine WI.run cok tab9 hnt [] 1 (⟨[(5, .ptr 9 0), (11, .ptr 9 0)], [(9, ⟨69, .fix [.sl (.bytes l9), .i (0 : Int)]⟩)], [9, 998, 999]⟩)
    (True ∧ True) (by kernel_rfl)
    ⟨trivial, trivial⟩ ?_
  refine WI.to (⟨[(5, .ptr 9 0), (11, .ptr 9 0)], [(9, ⟨69, .fix [.sl (.bytes l9), .i (0 : Int)]⟩)], [9, 998, 999]⟩) 1 rfl rfl ?_
  refine WI.call [.ptr 9 0] [.sl (.bytes l9), .i (0 : Int)] [] [] (some (69, 9)) (True) (True) none rok37 ent37 hnt rfl rfl (wanted_none rfl) (by kernel_rfl) (by kernel_rfl) (by kernel_rfl) ⟨trivial, trivial⟩
    (@cast (0 ≤ (0 : Int) ∧ (0 : Int) ≤ 600000) _ (by kernel_rfl) (by omega)) (Or.inl rfl) rfl ?_
  rintro r bl fx2 hR
  obtain ⟨⟨nm12, g12, q12⟩, hq12, rfl, rfl, rfl⟩ := (@cast _ (∃ x : ByteArray × (List CallD) × Int, ((x.2.1.length ≤ 6) ∧ ((0 : Int) ≤ x.2.2 ∧ x.2.2 ≤ (0 : Int) + 1300)) ∧ r = (.tup [.v (.string x.1), .own 1 (List.length x.2.1)]) ∧ bl = ([⟨36, .row (.calls x.2.1)⟩]) ∧ fx2 = ([.sl (.bytes l9), .i x.2.2])) (by kernel_rfl) hR)
  clear hR
  replace hq12 : (g12.length ≤ 6) ∧ ((0 : Int) ≤ q12 ∧ q12 ≤ (0 : Int) + 1300) := hq12
  obtain ⟨hg12, hq112⟩ := hq12
  refine ⟨by kernel_rfl, WI.to (⟨[(5, .ptr 9 0), (11, .ptr 9 0), (12, .tup [.v (.string nm12), .own 1012 (List.length g12)])], [(9, ⟨69, .fix [.sl (.bytes l9), .i q12]⟩), (1012, ⟨36, .row (.calls g12)⟩)], [1012, 12, 9, 998, 999]⟩) 2 (by kernel_rfl) rfl ?_⟩
  refine WI.run cok tab9 hnt [] 5 (⟨[(5, .ptr 9 0), (6, .v (.string nm12)), (7, .own 1012 (List.length g12)), (10, .tup [.v (.string nm12), .own 1012 (List.length g12)]), (11, .ptr 9 0), (12, .tup [.v (.string nm12), .own 1012 (List.length g12)]), (13, .v (.string nm12)), (14, .own 1012 (List.length g12))], [(9, ⟨69, .fix [.sl (.bytes l9), .i q12]⟩), (1012, ⟨36, .row (.calls g12)⟩)], [1012, 12, 9, 998, 999]⟩)
    (True ∧ (True ∧ (True ∧ (True ∧ (True ∧ True))))) (by kernel_rfl)
    ⟨trivial, ⟨trivial, ⟨trivial, ⟨trivial, ⟨trivial, trivial⟩⟩⟩⟩⟩ ?_
  refine WI.to (⟨[(5, .ptr 9 0), (6, .v (.string nm12)), (7, .own 1012 (List.length g12)), (10, .tup [.v (.string nm12), .own 1012 (List.length g12)]), (11, .ptr 9 0), (12, .tup [.v (.string nm12), .own 1012 (List.length g12)]), (13, .v (.string nm12)), (14, .own 1012 (List.length g12))], [(9, ⟨69, .fix [.sl (.bytes l9), .i q12]⟩), (1012, ⟨36, .row (.calls g12)⟩)], [1012, 12, 9, 998, 999]⟩) 7 rfl rfl ?_
  refine WI.nil rfl (thenQ_normal ?_)
  refine W.keepE [5, 6, 7] [(5, .ptr 9 0), (6, .v (.string nm12)), (7, .own 1012 (List.length g12))] (by kernel_rfl) ?_
  refine W.to (⟨[(5, .ptr 9 0), (6, .v (.string nm12)), (7, .own 1012 (List.length g12))], [(9, ⟨69, .fix [.sl (.bytes l9), .i q12]⟩), (1012, ⟨36, .row (.calls g12)⟩)], [1012, 12, 9, 998, 999]⟩) rfl ?_
  refine W.seq (W.wi ?_)
  refine WI.run cok tab9 hnt [] 5 (⟨[(5, .ptr 9 0), (6, .v (.string nm12)), (7, .own 1012 (List.length g12)), (15, .v (.string nm12)), (16, .own 1012 (List.length g12)), (17, .ptr 9 0), (18, .own 1012 (List.length g12)), (19, .i (((List.length g12) : Nat) : Int))], [(9, ⟨69, .fix [.sl (.bytes l9), .i q12]⟩), (1012, ⟨36, .row (.calls g12)⟩)], [1012, 12, 9, 998, 999]⟩)
    (True ∧ (True ∧ (True ∧ (True ∧ (True ∧ True))))) (by kernel_rfl)
    ⟨trivial, ⟨trivial, ⟨trivial, ⟨trivial, ⟨trivial, trivial⟩⟩⟩⟩⟩ ?_
  refine WI.to (⟨[(5, .ptr 9 0), (6, .v (.string nm12)), (7, .own 1012 (List.length g12)), (15, .v (.string nm12)), (16, .own 1012 (List.length g12)), (17, .ptr 9 0), (18, .own 1012 (List.length g12)), (19, .i (((List.length g12) : Nat) : Int))], [(9, ⟨69, .fix [.sl (.bytes l9), .i q12]⟩), (1012, ⟨36, .row (.calls g12)⟩)], [1012, 12, 9, 998, 999]⟩) 5 rfl rfl ?_
  refine WI.call [.ptr 9 0, .i (((List.length g12) : Nat) : Int)] [.sl (.bytes l9), .i q12] [.i (((List.length g12) : Nat) : Int)] [.i (((List.length g12) : Nat) : Int)] (some (69, 9)) (True) (True ∧ True) none rok38 ent38 hnt rfl rfl (wanted_none rfl) (by kernel_rfl) (by kernel_rfl) (by kernel_rfl) ⟨trivial, ⟨trivial, trivial⟩⟩
    (@cast ((0 ≤ q12 ∧ q12 ≤ 800000) ∧ (0 ≤ (((List.length g12) : Nat) : Int) ∧ (((List.length g12) : Nat) : Int) ≤ 6)) _ (by kernel_rfl) ⟨(by omega), (by omega)⟩) (Or.inl rfl) rfl ?_
  rintro r bl fx2 hR
  obtain ⟨⟨l20, q20⟩, hq20, rfl, rfl, rfl⟩ := (@cast _ (∃ x : (List Int) × Int, ((((x.1.length : Nat) : Int) = (((List.length g12) : Nat) : Int) → GoodO x.1 (((List.length g12) : Nat) : Int).toNat) ∧ (x.1.length ≤ 7) ∧ (q12 ≤ x.2 ∧ x.2 ≤ q12 + 20)) ∧ r = (.own 1 (List.length x.1)) ∧ bl = ([⟨3, .row (.ints x.1)⟩]) ∧ fx2 = ([.sl (.bytes l9), .i x.2])) (by kernel_rfl) hR)
  clear hR
  replace hq20 : (((l20.length : Nat) : Int) = (((List.length g12) : Nat) : Int) → GoodO l20 (((List.length g12) : Nat) : Int).toNat) ∧ (l20.length ≤ 7) ∧ (q12 ≤ q20 ∧ q20 ≤ q12 + 20) := hq20
  obtain ⟨hg20, hl20, hq120⟩ := hq20
  refine ⟨by kernel_rfl, WI.to (⟨[(5, .ptr 9 0), (6, .v (.string nm12)), (7, .own 1012 (List.length g12)), (15, .v (.string nm12)), (16, .own 1012 (List.length g12)), (17, .ptr 9 0), (18, .own 1012 (List.length g12)), (19, .i (((List.length g12) : Nat) : Int)), (20, .own 1020 (List.length l20))], [(9, ⟨69, .fix [.sl (.bytes l9), .i q20]⟩), (1012, ⟨36, .row (.calls g12)⟩), (1020, ⟨3, .row (.ints l20)⟩)], [1020, 20, 1012, 12, 9, 998, 999]⟩) 6 (by kernel_rfl) rfl ?_⟩
  refine WI.run cok tab9 hnt [] 3 (⟨[(2, .v (.string nm12)), (3, .own 1012 (List.length g12)), (4, .own 1020 (List.length l20)), (5, .ptr 9 0), (6, .v (.string nm12)), (7, .own 1012 (List.length g12)), (15, .v (.string nm12)), (16, .own 1012 (List.length g12)), (17, .ptr 9 0), (18, .own 1012 (List.length g12)), (19, .i (((List.length g12) : Nat) : Int)), (20, .own 1020 (List.length l20))], [(9, ⟨69, .fix [.sl (.bytes l9), .i q20]⟩), (1012, ⟨36, .row (.calls g12)⟩), (1020, ⟨3, .row (.ints l20)⟩)], [1020, 20, 1012, 12, 9, 998, 999]⟩)
    (True ∧ (True ∧ (True ∧ True))) (by kernel_rfl)
    ⟨trivial, ⟨trivial, ⟨trivial, trivial⟩⟩⟩ ?_
  refine WI.to (⟨[(2, .v (.string nm12)), (3, .own 1012 (List.length g12)), (4, .own 1020 (List.length l20)), (5, .ptr 9 0), (6, .v (.string nm12)), (7, .own 1012 (List.length g12)), (15, .v (.string nm12)), (16, .own 1012 (List.length g12)), (17, .ptr 9 0), (18, .own 1012 (List.length g12)), (19, .i (((List.length g12) : Nat) : Int)), (20, .own 1020 (List.length l20))], [(9, ⟨69, .fix [.sl (.bytes l9), .i q20]⟩), (1012, ⟨36, .row (.calls g12)⟩), (1020, ⟨3, .row (.ints l20)⟩)], [1020, 20, 1012, 12, 9, 998, 999]⟩) 9 rfl rfl ?_
  refine WI.nil rfl (thenQ_normal ?_)
  refine W.keepE [2, 3, 4] [(2, .v (.string nm12)), (3, .own 1012 (List.length g12)), (4, .own 1020 (List.length l20))] (by kernel_rfl) ?_
  refine W.to (⟨[(2, .v (.string nm12)), (3, .own 1012 (List.length g12)), (4, .own 1020 (List.length l20))], [(9, ⟨69, .fix [.sl (.bytes l9), .i q20]⟩), (1012, ⟨36, .row (.calls g12)⟩), (1020, ⟨3, .row (.ints l20)⟩)], [1020, 20, 1012, 12, 9, 998, 999]⟩) rfl ?_
  refine W.ret ?_
  exact endP_ret (nm12, g12, l20) (show (g12.length ≤ 6) ∧ (l20.length ≤ 7) from ⟨(by first | assumption | omega | rfl | (simp; done) | (simp; omega)), (by first | assumption | omega | rfl | (simp; done) | (simp; omega))⟩) [] (.tup [.v (.string nm12), .own 1012 (List.length g12), .own 1020 (List.length l20)]) (by kernel_rfl) (@cast (((((.string nm12) : Value) = (.string nm12)) ∧ ((((List.length g12) = (List.length g12)) ∧ (((.calls g12 : Dat) = .calls g12) ∧ ((1012 : Nat) ∉ ([] : List Nat)))) ∧ ((((List.length l20) = (List.length l20)) ∧ (((.ints l20 : Dat) = .ints l20) ∧ ((1020 : Nat) ∉ ([] : List Nat)))) ∧ True))) ∧ (True ∧ ((true = true) ∧ (True ∧ (false = true → (0 : Nat) = 998))))) _ (by kernel_rfl) ⟨⟨rfl, ⟨⟨rfl, ⟨rfl, (by decide)⟩⟩, ⟨⟨rfl, ⟨rfl, (by decide)⟩⟩, trivial⟩⟩⟩, ⟨trivial, ⟨rfl, ⟨trivial, (fun h => by cases h)⟩⟩⟩⟩)
theorem ent9 : Entr prog 9 := ⟨_, func9, rfl, by decide⟩

end Go.Proofs.Try

set_option linter.unusedSimpArgs false
set_option linter.unusedVariables false
namespace Go.Proofs.Try
open Go.Ab Go.RowKit
/-- laws.FnIsRight -/
def fs3 : FnS := fnS [.s .bytes] [.bytes] (fun _ (code, _) => (.b true, [], True))
abbrev T3 : Tab := lk [(10, fs10), (11, fs11), (12, fs12), (13, fs13), (14, fs14)]
theorem tab3 : TabOK prog T3 := (TabOK.cons ok10 ent10 (TabOK.cons ok11 ent11 (TabOK.cons ok12 ent12 (TabOK.cons ok13 ent13 (TabOK.cons ok14 ent14 TabOK.nil)))))
set_option maxRecDepth 100000 in
set_option maxHeartbeats 1000000 in
theorem ok3 : FnOK prog 3 fs3 := by
  refine FnOK.mk cok func3 rfl rfl rfl ?_
  rintro fl ⟨(code : List UInt8), _⟩ hpre F hnt0 _
  have hnt : F.nt = 91 := hnt0.trans ntmps3
  clear hpre
  refine W.to (⟨[(0, .sl (.bytes code))], [], [999]⟩) rfl ?_
  refine W.lenOf 0 (.bytes code) (by kernel_rfl) ?_
  intro hl_code; replace hl_code : List.length code ≤ 9223372036854775807 := hl_code
  refine W.K cok tab3 hnt [] [0] (⟨[(0, .sl (.bytes code))], [], [999]⟩)
    (True ∧ True) (by kernel_rfl)
    ⟨trivial, trivial⟩ ?_
  refine W.seq ?_
  refine W.K cok tab3 hnt [] [0, 14] (⟨[(0, .sl (.bytes code)), (14, .b (decide ((1048576 : Int) < (((List.length code) : Nat) : Int))))], [], [999]⟩)
    (True ∧ (True ∧ ((True ∧ (True ∧ True)) ∧ True))) (by kernel_rfl)
    ⟨trivial, ⟨trivial, ⟨⟨trivial, ⟨trivial, trivial⟩⟩, trivial⟩⟩⟩ ?_
  refine W.ifP ((1048576 : Int) < (((List.length code) : Nat) : Int)) (.b (decide ((1048576 : Int) < (((List.length code) : Nat) : Int)))) (by kernel_rfl) rfl trivial ?_ ?_
  · intro h14
    refine W.K cok tab3 hnt [] [2] (⟨[(2, .b true)], [], [999]⟩)
      (True ∧ True) (by kernel_rfl)
      ⟨trivial, trivial⟩ ?_
    refine W.ret (thenQ_ret ?_)
    exact endQ_ret (.b true) (by kernel_rfl) (@cast ((.bool true : Value) = .bool true) _ (by kernel_rfl) rfl)
  · intro n14
    refine W.skip (thenQ_normal ?_)
    refine W.seq (W.wi ?_)
    refine WI.run cok tab3 hnt [] 1 (⟨[(0, .sl (.bytes code)), (14, .b (decide ((1048576 : Int) < (((List.length code) : Nat) : Int)))), (16, .sl (.bytes code))], [], [999]⟩)
      (True ∧ True) (by kernel_rfl)
      ⟨trivial, trivial⟩ ?_
    refine WI.to (⟨[(0, .sl (.bytes code)), (14, .b (decide ((1048576 : Int) < (((List.length code) : Nat) : Int)))), (16, .sl (.bytes code))], [], [999]⟩) 1 rfl rfl ?_
    refine WI.call [.sl (.bytes code)] [] [.sl (.bytes code)] [.sl (.bytes code)] none (True) (True ∧ True) none rok9 ent9 hnt rfl rfl (wanted_none rfl) (by kernel_rfl) (by kernel_rfl) (by kernel_rfl) ⟨trivial, ⟨trivial, trivial⟩⟩
      (@cast (True) _ (by kernel_rfl) trivial) (Or.inl rfl) rfl ?_
    rintro r bl fx2 hR
    obtain ⟨⟨nm17, g17, l17⟩, hq17, rfl, rfl, rfl⟩ := (@cast _ (∃ x : ByteArray × (List CallD) × (List Int), ((x.2.1.length ≤ 6) ∧ (x.2.2.length ≤ 7)) ∧ r = (.tup [.v (.string x.1), .sl (.calls x.2.1), .sl (.ints x.2.2)]) ∧ bl = ([]) ∧ fx2 = ([])) (by kernel_rfl) hR)
    clear hR
    replace hq17 : (g17.length ≤ 6) ∧ (l17.length ≤ 7) := hq17
    obtain ⟨hg17, hl17⟩ := hq17
    refine ⟨by kernel_rfl, WI.to (⟨[(0, .sl (.bytes code)), (14, .b (decide ((1048576 : Int) < (((List.length code) : Nat) : Int)))), (16, .sl (.bytes code)), (17, .tup [.v (.string nm17), .sl (.calls g17), .sl (.ints l17)])], [], [999]⟩) 2 (by kernel_rfl) rfl ?_⟩
    refine WI.run cok tab3 hnt [] 7 (⟨[(0, .sl (.bytes code)), (3, .v (.string nm17)), (4, .sl (.calls g17)), (5, .sl (.ints l17)), (14, .b (decide ((1048576 : Int) < (((List.length code) : Nat) : Int)))), (15, .tup [.v (.string nm17), .sl (.calls g17), .sl (.ints l17)]), (16, .sl (.bytes code)), (17, .tup [.v (.string nm17), .sl (.calls g17), .sl (.ints l17)]), (18, .v (.string nm17)), (19, .sl (.calls g17)), (20, .sl (.ints l17))], [], [999]⟩)
      (True ∧ (True ∧ (True ∧ (True ∧ (True ∧ (True ∧ (True ∧ True))))))) (by kernel_rfl)
      ⟨trivial, ⟨trivial, ⟨trivial, ⟨trivial, ⟨trivial, ⟨trivial, ⟨trivial, trivial⟩⟩⟩⟩⟩⟩⟩ ?_
    refine WI.to (⟨[(0, .sl (.bytes code)), (3, .v (.string nm17)), (4, .sl (.calls g17)), (5, .sl (.ints l17)), (14, .b (decide ((1048576 : Int) < (((List.length code) : Nat) : Int)))), (15, .tup [.v (.string nm17), .sl (.calls g17), .sl (.ints l17)]), (16, .sl (.bytes code)), (17, .tup [.v (.string nm17), .sl (.calls g17), .sl (.ints l17)]), (18, .v (.string nm17)), (19, .sl (.calls g17)), (20, .sl (.ints l17))], [], [999]⟩) 9 rfl rfl ?_
    refine WI.nil rfl (thenQ_normal ?_)
    refine W.keepE [3, 4, 5] [(3, .v (.string nm17)), (4, .sl (.calls g17)), (5, .sl (.ints l17))] (by kernel_rfl) ?_
    refine W.to (⟨[(3, .v (.string nm17)), (4, .sl (.calls g17)), (5, .sl (.ints l17))], [], [999]⟩) rfl ?_
    refine W.K cok tab3 hnt [] [3, 4, 5, 6] (⟨[(3, .v (.string nm17)), (4, .sl (.calls g17)), (5, .sl (.ints l17)), (6, .b (rightB nm17 g17 l17))], [], [999]⟩)
      (True ∧ (True ∧ (True ∧ ((True ∧ ((True ∧ (True ∧ (True ∧ True))) ∧ True)) ∧ (True ∧ True))))) (by kernel_rfl)
      ⟨trivial, ⟨trivial, ⟨trivial, ⟨⟨trivial, ⟨⟨trivial, ⟨trivial, ⟨trivial, trivial⟩⟩⟩, trivial⟩⟩, ⟨trivial, trivial⟩⟩⟩⟩⟩ ?_
    refine W.seq ?_
    refine W.K cok tab3 hnt [] [3, 4, 5, 6, 35] (⟨[(3, .v (.string nm17)), (4, .sl (.calls g17)), (5, .sl (.ints l17)), (6, .b (rightB nm17 g17 l17)), (35, .b (((rightB nm17 g17 l17) != (rightB nm17 g17 l17)) || (!(validHistory g17))))], [], [999]⟩)
      (True ∧ (True ∧ (True ∧ (True ∧ ((True ∧ ((True ∧ (True ∧ (True ∧ True))) ∧ True)) ∧ ((True ∧ True) ∧ (True ∧ (((!((rightB nm17 g17 l17) != (rightB nm17 g17 l17))) = true → True) ∧ (((!((rightB nm17 g17 l17) != (rightB nm17 g17 l17))) = true → (True ∧ (((((!((rightB nm17 g17 l17) != (rightB nm17 g17 l17))) = true) ∧ True) ∧ True) ∧ True))) ∧ (((!((rightB nm17 g17 l17) != (rightB nm17 g17 l17))) = true → (((!((rightB nm17 g17 l17) != (rightB nm17 g17 l17))) = true) ∧ True)) ∧ ((True ∧ ((((rightB nm17 g17 l17) != (rightB nm17 g17 l17)) = true → True) ∧ (((rightB nm17 g17 l17) != (rightB nm17 g17 l17)) = false → ((!((rightB nm17 g17 l17) != (rightB nm17 g17 l17))) = true) ∧ True))) ∧ True))))))))))) (by kernel_rfl)
      ⟨trivial, ⟨trivial, ⟨trivial, ⟨trivial, ⟨⟨trivial, ⟨⟨trivial, ⟨trivial, ⟨trivial, trivial⟩⟩⟩, trivial⟩⟩, ⟨⟨trivial, trivial⟩, ⟨trivial, ⟨(fun _ => trivial), ⟨(fun hG => ⟨trivial, ⟨⟨⟨hG, trivial⟩, trivial⟩, trivial⟩⟩), ⟨(fun hG => ⟨hG, trivial⟩), ⟨⟨trivial, ⟨(fun _ => trivial), (fun hp => ⟨(not_t hp), trivial⟩)⟩⟩, trivial⟩⟩⟩⟩⟩⟩⟩⟩⟩⟩⟩ ?_
    refine W.if' (((rightB nm17 g17 l17) != (rightB nm17 g17 l17)) || (!(validHistory g17))) (.b (((rightB nm17 g17 l17) != (rightB nm17 g17 l17)) || (!(validHistory g17)))) (by kernel_rfl) rfl trivial ?_ ?_
    · intro h35
      refine W.K cok tab3 hnt [] [2] (⟨[(2, .b ((rightB nm17 g17 l17) == (rightB nm17 g17 l17)))], [], [999]⟩)
        (True ∧ (True ∧ (True ∧ (True ∧ ((True ∧ ((True ∧ (True ∧ (True ∧ True))) ∧ True)) ∧ ((True ∧ True) ∧ (True ∧ True))))))) (by kernel_rfl)
        ⟨trivial, ⟨trivial, ⟨trivial, ⟨trivial, ⟨⟨trivial, ⟨⟨trivial, ⟨trivial, ⟨trivial, trivial⟩⟩⟩, trivial⟩⟩, ⟨⟨trivial, trivial⟩, ⟨trivial, trivial⟩⟩⟩⟩⟩⟩⟩ ?_
      refine W.ret (thenQ_ret ?_)
      exact endQ_ret (.b ((rightB nm17 g17 l17) == (rightB nm17 g17 l17))) (by kernel_rfl) (@cast ((.bool ((rightB nm17 g17 l17) == (rightB nm17 g17 l17)) : Value) = .bool true) _ (by kernel_rfl) (congrArg Value.bool (by simp)))
    · intro n35
      refine W.skip (thenQ_normal ?_)
      refine W.K cok tab3 hnt [] [3, 4, 5, 6, 8] (⟨[(3, .v (.string nm17)), (4, .sl (.calls g17)), (5, .sl (.ints l17)), (6, .b (rightB nm17 g17 l17)), (8, .b ((behind nm17 g17 l17 (0 : Int)).2))], [], [999]⟩)
        (True ∧ (True ∧ (True ∧ ((True ∧ ((True ∧ (True ∧ (True ∧ (True ∧ True)))) ∧ True)) ∧ (True ∧ (True ∧ (True ∧ (True ∧ (True ∧ True))))))))) (by kernel_rfl)
        ⟨trivial, ⟨trivial, ⟨trivial, ⟨⟨trivial, ⟨⟨trivial, ⟨trivial, ⟨trivial, ⟨trivial, trivial⟩⟩⟩⟩, trivial⟩⟩, ⟨trivial, ⟨trivial, ⟨trivial, ⟨trivial, ⟨trivial, trivial⟩⟩⟩⟩⟩⟩⟩⟩⟩ ?_
      refine W.K cok tab3 hnt [] [3, 4, 5, 6, 8, 9] (⟨[(3, .v (.string nm17)), (4, .sl (.calls g17)), (5, .sl (.ints l17)), (6, .b (rightB nm17 g17 l17)), (8, .b ((behind nm17 g17 l17 (0 : Int)).2)), (9, .i (((List.length g17) : Nat) : Int))], [], [999]⟩)
        (True ∧ (True ∧ (True ∧ True))) (by kernel_rfl)
        ⟨trivial, ⟨trivial, ⟨trivial, trivial⟩⟩⟩ ?_
      refine W.K cok tab3 hnt [51] [3, 4, 5, 6, 8, 9, 10] (⟨[(3, .v (.string nm17)), (4, .sl (.calls g17)), (5, .sl (.ints l17)), (6, .b (rightB nm17 g17 l17)), (8, .b ((behind nm17 g17 l17 (0 : Int)).2)), (9, .i (((List.length g17) : Nat) : Int)), (10, .own 51 (List.length ([] : List Int)))], [(51, ⟨3, .row (.ints ([] : List Int))⟩)], [51, 999]⟩)
        (True ∧ (True ∧ True)) (by kernel_rfl)
        ⟨trivial, ⟨trivial, trivial⟩⟩ ?_
      refine W.seq ?_
      refine W.K cok tab3 hnt [] [3, 4, 5, 6, 8, 9, 10, 11] (⟨[(3, .v (.string nm17)), (4, .sl (.calls g17)), (5, .sl (.ints l17)), (6, .b (rightB nm17 g17 l17)), (8, .b ((behind nm17 g17 l17 (0 : Int)).2)), (9, .i (((List.length g17) : Nat) : Int)), (10, .own 51 (List.length ([] : List Int))), (11, .i (0 : Int))], [(51, ⟨3, .row (.ints ([] : List Int))⟩)], [51, 999]⟩)
        (True ∧ True) (by kernel_rfl)
        ⟨trivial, trivial⟩ ?_
      refine W.block ?_
      refine W.loop (ι := Nat × (List Int)) (fun (x : Nat × (List Int)) => match x with | (i, le) => (⟨[(3, .v (.string nm17)), (4, .sl (.calls g17)), (5, .sl (.ints l17)), (6, .b (rightB nm17 g17 l17)), (8, .b ((behind nm17 g17 l17 (0 : Int)).2)), (9, .i (((List.length g17) : Nat) : Int)), (10, .own 51 (List.length le)), (11, .i ((i : Nat) : Int))], [(51, ⟨3, .row (.ints le)⟩)], [51, 999]⟩ : St))
        (fun (x : Nat × (List Int)) => match x with | (i, le) => (i ≤ l17.length) ∧ (le = idx i))
        (fun (x : Nat × (List Int)) => match x with | (i, le) => (l17.length - i : Nat)) (0, ([] : List Int)) ?_ ?_ ?_
      · exact (show (0 ≤ l17.length) ∧ (([] : List Int) = idx 0) from ⟨(by first | assumption | omega | rfl | (intro _ hjj; omega) | (simp; done) | (simp; omega)), (by rfl)⟩)
      · exact Sub.of [] (@cast (((((.string nm17) : Value) = (.string nm17)) ∧ (((.calls g17 : Dat) = .calls g17) ∧ (((.ints l17 : Dat) = .ints l17) ∧ (((.bool (rightB nm17 g17 l17) : Value) = .bool (rightB nm17 g17 l17)) ∧ (((.bool ((behind nm17 g17 l17 (0 : Int)).2) : Value) = .bool ((behind nm17 g17 l17 (0 : Int)).2)) ∧ (((.int .i64 (((List.length g17) : Nat) : Int) : Value) = .int .i64 (((List.length g17) : Nat) : Int)) ∧ ((((51 : Nat) = 51) ∧ (((List.length ([] : List Int)) = (List.length ([] : List Int))) ∧ ((51 : Nat) ∈ ([51, 999] : List Nat)))) ∧ (((.int .i64 (0 : Int) : Value) = .int .i64 ((0 : Nat) : Int)) ∧ True)))))))) ∧ (((((3 : Nat) = 3) ∧ (((.ints ([] : List Int) : Dat) = .ints ([] : List Int)) ∧ ((51 : Nat) ∈ ([51, 999] : List Nat)))) ∧ True) ∧ ((true = true) ∧ (true = true)))) _ (by kernel_rfl) ⟨⟨rfl, ⟨rfl, ⟨rfl, ⟨rfl, ⟨rfl, ⟨rfl, ⟨⟨rfl, ⟨rfl, (by decide)⟩⟩, ⟨(congrArg (Value.int .i64) (by first | rfl | omega | assumption | simp | simp_all)), trivial⟩⟩⟩⟩⟩⟩⟩⟩, ⟨⟨⟨rfl, ⟨rfl, (by decide)⟩⟩, trivial⟩, ⟨rfl, rfl⟩⟩⟩)
      · rintro ⟨i, le⟩ hC0
        have hC : (i ≤ l17.length) ∧ (le = idx i) := hC0
        clear hC0
        obtain ⟨hi, hle⟩ := hC
        refine W.to (⟨[(3, .v (.string nm17)), (4, .sl (.calls g17)), (5, .sl (.ints l17)), (6, .b (rightB nm17 g17 l17)), (8, .b ((behind nm17 g17 l17 (0 : Int)).2)), (9, .i (((List.length g17) : Nat) : Int)), (10, .own 51 (List.length le)), (11, .i ((i : Nat) : Int))], [(51, ⟨3, .row (.ints le)⟩)], [51, 999]⟩) rfl ?_
        have hll : le.length = i := by rw [hle]; exact idx_len i
        refine W.seq ?_
        refine W.K cok tab3 hnt [] [3, 4, 5, 6, 8, 9, 10, 11, 55] (⟨[(3, .v (.string nm17)), (4, .sl (.calls g17)), (5, .sl (.ints l17)), (6, .b (rightB nm17 g17 l17)), (8, .b ((behind nm17 g17 l17 (0 : Int)).2)), (9, .i (((List.length g17) : Nat) : Int)), (10, .own 51 (List.length le)), (11, .i ((i : Nat) : Int)), (55, .b (decide (((i : Nat) : Int) < (((List.length l17) : Nat) : Int))))], [(51, ⟨3, .row (.ints le)⟩)], [51, 999]⟩)
          (True ∧ (True ∧ (True ∧ ((True ∧ (True ∧ True)) ∧ True)))) (by kernel_rfl)
          ⟨trivial, ⟨trivial, ⟨trivial, ⟨⟨trivial, ⟨trivial, trivial⟩⟩, trivial⟩⟩⟩⟩ ?_
        refine W.ifP (((i : Nat) : Int) < (((List.length l17) : Nat) : Int)) (.b (decide (((i : Nat) : Int) < (((List.length l17) : Nat) : Int)))) (by kernel_rfl) rfl trivial ?_ ?_
        · intro h55
          refine W.skip (thenQ_normal ?_)
          refine W.seq ?_
          refine W.block ?_
          refine W.L cok tab3 hnt [61] (⟨[(3, .v (.string nm17)), (4, .sl (.calls g17)), (5, .sl (.ints l17)), (6, .b (rightB nm17 g17 l17)), (8, .b ((behind nm17 g17 l17 (0 : Int)).2)), (9, .i (((List.length g17) : Nat) : Int)), (10, .own 61 (List.length (le ++ ([((i : Nat) : Int)])))), (11, .i ((i : Nat) : Int)), (55, .b (decide (((i : Nat) : Int) < (((List.length l17) : Nat) : Int)))), (58, .own 51 (List.length le)), (59, .i ((i : Nat) : Int)), (60, .sl (.ints ([((i : Nat) : Int)]))), (61, .own 61 (List.length (le ++ ([((i : Nat) : Int)]))))], [(61, ⟨3, .row (.ints (le ++ ([((i : Nat) : Int)])))⟩)], [61, 60, 51, 999]⟩)
            (True ∧ (True ∧ ((True ∧ True) ∧ (((True ∧ ((List.length le) = (List.length le))) ∧ (True ∧ (((List.length le) + (List.length ([((i : Nat) : Int)]))) * 8 ≤ 140737488355328))) ∧ (True ∧ True))))) (by kernel_rfl)
            ⟨trivial, ⟨trivial, ⟨⟨trivial, trivial⟩, ⟨⟨⟨trivial, rfl⟩, ⟨trivial, (by (first | omega | (simp only [List.length_append, List.length_cons, List.length_nil, List.length_take, List.length_drop, List.length_set, List.length_replicate, List.length_map] at *; omega) | assumption))⟩⟩, ⟨trivial, trivial⟩⟩⟩⟩⟩ ?_
          refine blockQ_normal (thenQ_normal ?_)
          refine W.L cok tab3 hnt [] (⟨[(3, .v (.string nm17)), (4, .sl (.calls g17)), (5, .sl (.ints l17)), (6, .b (rightB nm17 g17 l17)), (8, .b ((behind nm17 g17 l17 (0 : Int)).2)), (9, .i (((List.length g17) : Nat) : Int)), (10, .own 61 (List.length (le ++ ([((i : Nat) : Int)])))), (11, .i (((i + 1) : Nat) : Int)), (55, .b (decide (((i : Nat) : Int) < (((List.length l17) : Nat) : Int)))), (56, .i ((i : Nat) : Int)), (57, .i (((i + 1) : Nat) : Int)), (58, .own 51 (List.length le)), (59, .i ((i : Nat) : Int)), (60, .sl (.ints ([((i : Nat) : Int)]))), (61, .own 61 (List.length (le ++ ([((i : Nat) : Int)]))))], [(61, ⟨3, .row (.ints (le ++ ([((i : Nat) : Int)])))⟩)], [61, 60, 51, 999]⟩)
            (True ∧ ((True ∧ (True ∧ (Fits .i64 (((i + 1) : Nat) : Int)))) ∧ (True ∧ True))) (by kernel_rfl)
            ⟨trivial, ⟨⟨trivial, ⟨trivial, (by exact fits_i64 (by omega) (by omega))⟩⟩, ⟨trivial, trivial⟩⟩⟩ ?_
          refine thenQ_normal ?_
          refine ⟨((i + 1), (le ++ ([((i : Nat) : Int)]))), (show ((i + 1) ≤ l17.length) ∧ ((le ++ ([((i : Nat) : Int)])) = idx (i + 1)) from ⟨(by first | assumption | omega | rfl | (intro _ hjj; omega) | (simp; done) | (simp; omega)), (by rw [hle]; rfl)⟩), (show l17.length - (i + 1) < l17.length - i from (by first | omega | (simp_all; omega))), ?_⟩
          exact Sub.of [(51, 61)] (@cast (((((.string nm17) : Value) = (.string nm17)) ∧ (((.calls g17 : Dat) = .calls g17) ∧ (((.ints l17 : Dat) = .ints l17) ∧ (((.bool (rightB nm17 g17 l17) : Value) = .bool (rightB nm17 g17 l17)) ∧ (((.bool ((behind nm17 g17 l17 (0 : Int)).2) : Value) = .bool ((behind nm17 g17 l17 (0 : Int)).2)) ∧ (((.int .i64 (((List.length g17) : Nat) : Int) : Value) = .int .i64 (((List.length g17) : Nat) : Int)) ∧ ((((61 : Nat) = 61) ∧ (((List.length (le ++ ([((i : Nat) : Int)]))) = (List.length (le ++ ([((i : Nat) : Int)])))) ∧ ((51 : Nat) ∈ ([51, 999] : List Nat)))) ∧ (((.int .i64 (((i + 1) : Nat) : Int) : Value) = .int .i64 (((i + 1) : Nat) : Int)) ∧ True)))))))) ∧ (((((3 : Nat) = 3) ∧ (((.ints (le ++ ([((i : Nat) : Int)])) : Dat) = .ints (le ++ ([((i : Nat) : Int)]))) ∧ ((51 : Nat) ∈ ([51, 999] : List Nat)))) ∧ True) ∧ ((true = true) ∧ (true = true)))) _ (by kernel_rfl) ⟨⟨rfl, ⟨rfl, ⟨rfl, ⟨rfl, ⟨rfl, ⟨rfl, ⟨⟨rfl, ⟨rfl, (by decide)⟩⟩, ⟨rfl, trivial⟩⟩⟩⟩⟩⟩⟩⟩, ⟨⟨⟨rfl, ⟨rfl, (by decide)⟩⟩, trivial⟩, ⟨rfl, rfl⟩⟩⟩)
        · intro n55
          refine W.exit (thenQ_exit (thenQ_exit (blockQ_hit ?_)))
          refine thenQ_normal ?_
          refine W.subS [] (⟨[(3, .v (.string nm17)), (4, .sl (.calls g17)), (5, .sl (.ints l17)), (6, .b (rightB nm17 g17 l17)), (8, .b ((behind nm17 g17 l17 (0 : Int)).2)), (9, .i (((List.length g17) : Nat) : Int)), (10, .sl (.ints le)), (11, .i ((i : Nat) : Int)), (55, .b (decide (((i : Nat) : Int) < (((List.length l17) : Nat) : Int))))], [], [999]⟩) (@cast (((((.string nm17) : Value) = (.string nm17)) ∧ (((.calls g17 : Dat) = .calls g17) ∧ (((.ints l17 : Dat) = .ints l17) ∧ (((.bool (rightB nm17 g17 l17) : Value) = .bool (rightB nm17 g17 l17)) ∧ (((.bool ((behind nm17 g17 l17 (0 : Int)).2) : Value) = .bool ((behind nm17 g17 l17 (0 : Int)).2)) ∧ (((.int .i64 (((List.length g17) : Nat) : Int) : Value) = .int .i64 (((List.length g17) : Nat) : Int)) ∧ ((((List.length le) = (List.length le)) ∧ (((.ints le : Dat) = .ints le) ∧ ((51 : Nat) ∉ ([] : List Nat)))) ∧ (((.int .i64 ((i : Nat) : Int) : Value) = .int .i64 ((i : Nat) : Int)) ∧ (((.bool (decide (((i : Nat) : Int) < (((List.length l17) : Nat) : Int))) : Value) = .bool (decide (((i : Nat) : Int) < (((List.length l17) : Nat) : Int)))) ∧ True))))))))) ∧ (True ∧ ((true = true) ∧ (true = true)))) _ (by kernel_rfl) ⟨⟨rfl, ⟨rfl, ⟨rfl, ⟨rfl, ⟨rfl, ⟨rfl, ⟨⟨rfl, ⟨rfl, (by decide)⟩⟩, ⟨rfl, ⟨rfl, trivial⟩⟩⟩⟩⟩⟩⟩⟩⟩, ⟨trivial, ⟨rfl, rfl⟩⟩⟩) ?_
          refine W.KA cok tab3 hnt [] [2] (⟨[(2, .b (((rightB nm17 g17 l17) == ((behind nm17 g17 l17 (0 : Int)).2)) && ((((!(rightB nm17 g17 l17)) || (decide ((((List.length g17) : Nat) : Int) = (0 : Int)))) || (!(decide (l17 = le)))) || (rightB nm17 (List.take (Int.toNat ((((List.length g17) : Nat) : Int) - (1 : Int))) g17) (List.take (Int.toNat ((((List.length g17) : Nat) : Int) - (1 : Int))) le)))))], [], [999]⟩)
            (True ∧ (True ∧ ((True ∧ True) ∧ (True ∧ ((((rightB nm17 g17 l17) == ((behind nm17 g17 l17 (0 : Int)).2)) = true → True) ∧ ((((rightB nm17 g17 l17) == ((behind nm17 g17 l17 (0 : Int)).2)) = true → ((((rightB nm17 g17 l17) == ((behind nm17 g17 l17 (0 : Int)).2)) = true) ∧ True)) ∧ ((((rightB nm17 g17 l17) == ((behind nm17 g17 l17 (0 : Int)).2)) = true → True) ∧ (((((rightB nm17 g17 l17) == ((behind nm17 g17 l17 (0 : Int)).2)) && (((rightB nm17 g17 l17) == ((behind nm17 g17 l17 (0 : Int)).2)) && (!(!(rightB nm17 g17 l17))))) = true → True) ∧ (((((rightB nm17 g17 l17) == ((behind nm17 g17 l17 (0 : Int)).2)) && (((rightB nm17 g17 l17) == ((behind nm17 g17 l17 (0 : Int)).2)) && (!(!(rightB nm17 g17 l17))))) = true → ((((((rightB nm17 g17 l17) == ((behind nm17 g17 l17 (0 : Int)).2)) && (((rightB nm17 g17 l17) == ((behind nm17 g17 l17 (0 : Int)).2)) && (!(!(rightB nm17 g17 l17))))) = true) ∧ True) ∧ (True ∧ True))) ∧ ((((rightB nm17 g17 l17) == ((behind nm17 g17 l17 (0 : Int)).2)) = true → (((((rightB nm17 g17 l17) == ((behind nm17 g17 l17 (0 : Int)).2)) = true) ∧ ((((rightB nm17 g17 l17) == ((behind nm17 g17 l17 (0 : Int)).2)) = true) ∧ True)) ∧ (((!(rightB nm17 g17 l17)) = true → True) ∧ ((!(rightB nm17 g17 l17)) = false → ((((rightB nm17 g17 l17) == ((behind nm17 g17 l17 (0 : Int)).2)) && (((rightB nm17 g17 l17) == ((behind nm17 g17 l17 (0 : Int)).2)) && (!(!(rightB nm17 g17 l17))))) = true) ∧ True)))) ∧ ((((rightB nm17 g17 l17) == ((behind nm17 g17 l17 (0 : Int)).2)) = true → True) ∧ (((((rightB nm17 g17 l17) == ((behind nm17 g17 l17 (0 : Int)).2)) && (((rightB nm17 g17 l17) == ((behind nm17 g17 l17 (0 : Int)).2)) && (!((!(rightB nm17 g17 l17)) || (decide ((((List.length g17) : Nat) : Int) = (0 : Int))))))) = true → True) ∧ (((((rightB nm17 g17 l17) == ((behind nm17 g17 l17 (0 : Int)).2)) && (((rightB nm17 g17 l17) == ((behind nm17 g17 l17 (0 : Int)).2)) && (!((!(rightB nm17 g17 l17)) || (decide ((((List.length g17) : Nat) : Int) = (0 : Int))))))) = true → True) ∧ (((((rightB nm17 g17 l17) == ((behind nm17 g17 l17 (0 : Int)).2)) && (((rightB nm17 g17 l17) == ((behind nm17 g17 l17 (0 : Int)).2)) && (!((!(rightB nm17 g17 l17)) || (decide ((((List.length g17) : Nat) : Int) = (0 : Int))))))) = true → (True ∧ (((((((rightB nm17 g17 l17) == ((behind nm17 g17 l17 (0 : Int)).2)) && (((rightB nm17 g17 l17) == ((behind nm17 g17 l17 (0 : Int)).2)) && (!((!(rightB nm17 g17 l17)) || (decide ((((List.length g17) : Nat) : Int) = (0 : Int))))))) = true) ∧ True) ∧ ((((((rightB nm17 g17 l17) == ((behind nm17 g17 l17 (0 : Int)).2)) && (((rightB nm17 g17 l17) == ((behind nm17 g17 l17 (0 : Int)).2)) && (!((!(rightB nm17 g17 l17)) || (decide ((((List.length g17) : Nat) : Int) = (0 : Int))))))) = true) ∧ True) ∧ True)) ∧ True))) ∧ (((((rightB nm17 g17 l17) == ((behind nm17 g17 l17 (0 : Int)).2)) && (((rightB nm17 g17 l17) == ((behind nm17 g17 l17 (0 : Int)).2)) && (!((!(rightB nm17 g17 l17)) || (decide ((((List.length g17) : Nat) : Int) = (0 : Int))))))) = true → (((((rightB nm17 g17 l17) == ((behind nm17 g17 l17 (0 : Int)).2)) && (((rightB nm17 g17 l17) == ((behind nm17 g17 l17 (0 : Int)).2)) && (!((!(rightB nm17 g17 l17)) || (decide ((((List.length g17) : Nat) : Int) = (0 : Int))))))) = true) ∧ True)) ∧ ((((rightB nm17 g17 l17) == ((behind nm17 g17 l17 (0 : Int)).2)) = true → (((((rightB nm17 g17 l17) == ((behind nm17 g17 l17 (0 : Int)).2)) = true) ∧ ((((rightB nm17 g17 l17) == ((behind nm17 g17 l17 (0 : Int)).2)) = true) ∧ True)) ∧ ((((!(rightB nm17 g17 l17)) || (decide ((((List.length g17) : Nat) : Int) = (0 : Int)))) = true → True) ∧ (((!(rightB nm17 g17 l17)) || (decide ((((List.length g17) : Nat) : Int) = (0 : Int)))) = false → ((((rightB nm17 g17 l17) == ((behind nm17 g17 l17 (0 : Int)).2)) && (((rightB nm17 g17 l17) == ((behind nm17 g17 l17 (0 : Int)).2)) && (!((!(rightB nm17 g17 l17)) || (decide ((((List.length g17) : Nat) : Int) = (0 : Int))))))) = true) ∧ True)))) ∧ ((((rightB nm17 g17 l17) == ((behind nm17 g17 l17 (0 : Int)).2)) = true → True) ∧ (((((rightB nm17 g17 l17) == ((behind nm17 g17 l17 (0 : Int)).2)) && (((rightB nm17 g17 l17) == ((behind nm17 g17 l17 (0 : Int)).2)) && (!(((!(rightB nm17 g17 l17)) || (decide ((((List.length g17) : Nat) : Int) = (0 : Int)))) || (!(decide (l17 = le))))))) = true → True) ∧ (((((rightB nm17 g17 l17) == ((behind nm17 g17 l17 (0 : Int)).2)) && (((rightB nm17 g17 l17) == ((behind nm17 g17 l17 (0 : Int)).2)) && (!(((!(rightB nm17 g17 l17)) || (decide ((((List.length g17) : Nat) : Int) = (0 : Int)))) || (!(decide (l17 = le))))))) = true → True) ∧ (((((rightB nm17 g17 l17) == ((behind nm17 g17 l17 (0 : Int)).2)) && (((rightB nm17 g17 l17) == ((behind nm17 g17 l17 (0 : Int)).2)) && (!(((!(rightB nm17 g17 l17)) || (decide ((((List.length g17) : Nat) : Int) = (0 : Int)))) || (!(decide (l17 = le))))))) = true → True) ∧ (((((rightB nm17 g17 l17) == ((behind nm17 g17 l17 (0 : Int)).2)) && (((rightB nm17 g17 l17) == ((behind nm17 g17 l17 (0 : Int)).2)) && (!(((!(rightB nm17 g17 l17)) || (decide ((((List.length g17) : Nat) : Int) = (0 : Int)))) || (!(decide (l17 = le))))))) = true → ((((((rightB nm17 g17 l17) == ((behind nm17 g17 l17 (0 : Int)).2)) && (((rightB nm17 g17 l17) == ((behind nm17 g17 l17 (0 : Int)).2)) && (!(((!(rightB nm17 g17 l17)) || (decide ((((List.length g17) : Nat) : Int) = (0 : Int)))) || (!(decide (l17 = le))))))) = true) ∧ True) ∧ (True ∧ (Fits .i64 ((((List.length g17) : Nat) : Int) - (1 : Int)))))) ∧ (((((rightB nm17 g17 l17) == ((behind nm17 g17 l17 (0 : Int)).2)) && (((rightB nm17 g17 l17) == ((behind nm17 g17 l17 (0 : Int)).2)) && (!(((!(rightB nm17 g17 l17)) || (decide ((((List.length g17) : Nat) : Int) = (0 : Int)))) || (!(decide (l17 = le))))))) = true → ((((((rightB nm17 g17 l17) == ((behind nm17 g17 l17 (0 : Int)).2)) && (((rightB nm17 g17 l17) == ((behind nm17 g17 l17 (0 : Int)).2)) && (!(((!(rightB nm17 g17 l17)) || (decide ((((List.length g17) : Nat) : Int) = (0 : Int)))) || (!(decide (l17 = le))))))) = true) ∧ True) ∧ (True ∧ ((((((rightB nm17 g17 l17) == ((behind nm17 g17 l17 (0 : Int)).2)) && (((rightB nm17 g17 l17) == ((behind nm17 g17 l17 (0 : Int)).2)) && (!(((!(rightB nm17 g17 l17)) || (decide ((((List.length g17) : Nat) : Int) = (0 : Int)))) || (!(decide (l17 = le))))))) = true) ∧ True) ∧ ((0 ≤ (0 : Int)) ∧ (((0 : Int) ≤ ((((List.length g17) : Nat) : Int) - (1 : Int))) ∧ (((((List.length g17) : Nat) : Int) - (1 : Int)) ≤ (((List.length g17) : Nat) : Int)))))))) ∧ (((((rightB nm17 g17 l17) == ((behind nm17 g17 l17 (0 : Int)).2)) && (((rightB nm17 g17 l17) == ((behind nm17 g17 l17 (0 : Int)).2)) && (!(((!(rightB nm17 g17 l17)) || (decide ((((List.length g17) : Nat) : Int) = (0 : Int)))) || (!(decide (l17 = le))))))) = true → True) ∧ (((((rightB nm17 g17 l17) == ((behind nm17 g17 l17 (0 : Int)).2)) && (((rightB nm17 g17 l17) == ((behind nm17 g17 l17 (0 : Int)).2)) && (!(((!(rightB nm17 g17 l17)) || (decide ((((List.length g17) : Nat) : Int) = (0 : Int)))) || (!(decide (l17 = le))))))) = true → True) ∧ (((((rightB nm17 g17 l17) == ((behind nm17 g17 l17 (0 : Int)).2)) && (((rightB nm17 g17 l17) == ((behind nm17 g17 l17 (0 : Int)).2)) && (!(((!(rightB nm17 g17 l17)) || (decide ((((List.length g17) : Nat) : Int) = (0 : Int)))) || (!(decide (l17 = le))))))) = true → ((((((rightB nm17 g17 l17) == ((behind nm17 g17 l17 (0 : Int)).2)) && (((rightB nm17 g17 l17) == ((behind nm17 g17 l17 (0 : Int)).2)) && (!(((!(rightB nm17 g17 l17)) || (decide ((((List.length g17) : Nat) : Int) = (0 : Int)))) || (!(decide (l17 = le))))))) = true) ∧ True) ∧ (True ∧ (Fits .i64 ((((List.length g17) : Nat) : Int) - (1 : Int)))))) ∧ (((((rightB nm17 g17 l17) == ((behind nm17 g17 l17 (0 : Int)).2)) && (((rightB nm17 g17 l17) == ((behind nm17 g17 l17 (0 : Int)).2)) && (!(((!(rightB nm17 g17 l17)) || (decide ((((List.length g17) : Nat) : Int) = (0 : Int)))) || (!(decide (l17 = le))))))) = true → ((((((rightB nm17 g17 l17) == ((behind nm17 g17 l17 (0 : Int)).2)) && (((rightB nm17 g17 l17) == ((behind nm17 g17 l17 (0 : Int)).2)) && (!(((!(rightB nm17 g17 l17)) || (decide ((((List.length g17) : Nat) : Int) = (0 : Int)))) || (!(decide (l17 = le))))))) = true) ∧ True) ∧ (True ∧ ((((((rightB nm17 g17 l17) == ((behind nm17 g17 l17 (0 : Int)).2)) && (((rightB nm17 g17 l17) == ((behind nm17 g17 l17 (0 : Int)).2)) && (!(((!(rightB nm17 g17 l17)) || (decide ((((List.length g17) : Nat) : Int) = (0 : Int)))) || (!(decide (l17 = le))))))) = true) ∧ True) ∧ ((0 ≤ (0 : Int)) ∧ (((0 : Int) ≤ ((((List.length g17) : Nat) : Int) - (1 : Int))) ∧ (((((List.length g17) : Nat) : Int) - (1 : Int)) ≤ (((List.length le) : Nat) : Int)))))))) ∧ (((((rightB nm17 g17 l17) == ((behind nm17 g17 l17 (0 : Int)).2)) && (((rightB nm17 g17 l17) == ((behind nm17 g17 l17 (0 : Int)).2)) && (!(((!(rightB nm17 g17 l17)) || (decide ((((List.length g17) : Nat) : Int) = (0 : Int)))) || (!(decide (l17 = le))))))) = true → (True ∧ (((((((rightB nm17 g17 l17) == ((behind nm17 g17 l17 (0 : Int)).2)) && (((rightB nm17 g17 l17) == ((behind nm17 g17 l17 (0 : Int)).2)) && (!(((!(rightB nm17 g17 l17)) || (decide ((((List.length g17) : Nat) : Int) = (0 : Int)))) || (!(decide (l17 = le))))))) = true) ∧ True) ∧ ((((((rightB nm17 g17 l17) == ((behind nm17 g17 l17 (0 : Int)).2)) && (((rightB nm17 g17 l17) == ((behind nm17 g17 l17 (0 : Int)).2)) && (!(((!(rightB nm17 g17 l17)) || (decide ((((List.length g17) : Nat) : Int) = (0 : Int)))) || (!(decide (l17 = le))))))) = true) ∧ True) ∧ ((((((rightB nm17 g17 l17) == ((behind nm17 g17 l17 (0 : Int)).2)) && (((rightB nm17 g17 l17) == ((behind nm17 g17 l17 (0 : Int)).2)) && (!(((!(rightB nm17 g17 l17)) || (decide ((((List.length g17) : Nat) : Int) = (0 : Int)))) || (!(decide (l17 = le))))))) = true) ∧ True) ∧ True))) ∧ True))) ∧ ((((rightB nm17 g17 l17) == ((behind nm17 g17 l17 (0 : Int)).2)) = true → (((((rightB nm17 g17 l17) == ((behind nm17 g17 l17 (0 : Int)).2)) = true) ∧ ((((rightB nm17 g17 l17) == ((behind nm17 g17 l17 (0 : Int)).2)) = true) ∧ True)) ∧ (((((!(rightB nm17 g17 l17)) || (decide ((((List.length g17) : Nat) : Int) = (0 : Int)))) || (!(decide (l17 = le)))) = true → True) ∧ ((((!(rightB nm17 g17 l17)) || (decide ((((List.length g17) : Nat) : Int) = (0 : Int)))) || (!(decide (l17 = le)))) = false → ((((rightB nm17 g17 l17) == ((behind nm17 g17 l17 (0 : Int)).2)) && (((rightB nm17 g17 l17) == ((behind nm17 g17 l17 (0 : Int)).2)) && (!(((!(rightB nm17 g17 l17)) || (decide ((((List.length g17) : Nat) : Int) = (0 : Int)))) || (!(decide (l17 = le))))))) = true) ∧ True)))) ∧ ((True ∧ ((((rightB nm17 g17 l17) == ((behind nm17 g17 l17 (0 : Int)).2)) = true → (((rightB nm17 g17 l17) == ((behind nm17 g17 l17 (0 : Int)).2)) = true) ∧ True) ∧ (((rightB nm17 g17 l17) == ((behind nm17 g17 l17 (0 : Int)).2)) = false → True))) ∧ (True ∧ True)))))))))))))))))))))))))))))) (by kernel_rfl) (by kernel_rfl)
            ⟨trivial, ⟨trivial, ⟨⟨trivial, trivial⟩, ⟨trivial, ⟨(fun _ => trivial), ⟨(fun hG => ⟨hG, trivial⟩), ⟨(fun _ => trivial), ⟨(fun _ => trivial), ⟨(fun hG => ⟨⟨hG, trivial⟩, ⟨trivial, trivial⟩⟩), ⟨(fun hG => ⟨⟨hG, ⟨hG, trivial⟩⟩, ⟨(fun _ => trivial), (fun hp => ⟨(and_t hG (and_t hG (not_t hp))), trivial⟩)⟩⟩), ⟨(fun _ => trivial), ⟨(fun _ => trivial), ⟨(fun _ => trivial), ⟨(fun hG => ⟨trivial, ⟨⟨⟨hG, trivial⟩, ⟨⟨hG, trivial⟩, trivial⟩⟩, trivial⟩⟩), ⟨(fun hG => ⟨hG, trivial⟩), ⟨(fun hG => ⟨⟨hG, ⟨hG, trivial⟩⟩, ⟨(fun _ => trivial), (fun hp => ⟨(and_t hG (and_t hG (not_t hp))), trivial⟩)⟩⟩), ⟨(fun _ => trivial), ⟨(fun _ => trivial), ⟨(fun _ => trivial), ⟨(fun _ => trivial), ⟨(fun hG => ⟨⟨hG, trivial⟩, ⟨trivial, (by have hg0 : ¬ ((((List.length g17) : Nat) : Int) = (0 : Int)) := of_decide_eq_false (or_r (or_l (not_f (and_r (and_r hG))))); exact fits_i64 (by omega) (by omega))⟩⟩), ⟨(fun hG => ⟨⟨hG, trivial⟩, ⟨trivial, ⟨⟨hG, trivial⟩, ⟨(by have hg0 : ¬ ((((List.length g17) : Nat) : Int) = (0 : Int)) := of_decide_eq_false (or_r (or_l (not_f (and_r (and_r hG))))); omega), ⟨(by have hg0 : ¬ ((((List.length g17) : Nat) : Int) = (0 : Int)) := of_decide_eq_false (or_r (or_l (not_f (and_r (and_r hG))))); omega), (by have hg0 : ¬ ((((List.length g17) : Nat) : Int) = (0 : Int)) := of_decide_eq_false (or_r (or_l (not_f (and_r (and_r hG))))); omega)⟩⟩⟩⟩⟩), ⟨(fun _ => trivial), ⟨(fun _ => trivial), ⟨(fun hG => ⟨⟨hG, trivial⟩, ⟨trivial, (by have hg0 : ¬ ((((List.length g17) : Nat) : Int) = (0 : Int)) := of_decide_eq_false (or_r (or_l (not_f (and_r (and_r hG))))); exact fits_i64 (by omega) (by omega))⟩⟩), ⟨(fun hG => ⟨⟨hG, trivial⟩, ⟨trivial, ⟨⟨hG, trivial⟩, ⟨(by have hg0 : ¬ ((((List.length g17) : Nat) : Int) = (0 : Int)) := of_decide_eq_false (or_r (or_l (not_f (and_r (and_r hG))))); omega), ⟨(by have hg0 : ¬ ((((List.length g17) : Nat) : Int) = (0 : Int)) := of_decide_eq_false (or_r (or_l (not_f (and_r (and_r hG))))); omega), (by have hg0 : ¬ ((((List.length g17) : Nat) : Int) = (0 : Int)) := of_decide_eq_false (or_r (or_l (not_f (and_r (and_r hG))))); have h9 := isr_g hG; have h6 := isOrd_len (right_ok h9.1).2.2.1; have h5 := congrArg List.length (of_decide_eq_true h9.2); omega)⟩⟩⟩⟩⟩), ⟨(fun hG => ⟨trivial, ⟨⟨⟨hG, trivial⟩, ⟨⟨hG, trivial⟩, ⟨⟨hG, trivial⟩, trivial⟩⟩⟩, trivial⟩⟩), ⟨(fun hG => ⟨⟨hG, ⟨hG, trivial⟩⟩, ⟨(fun _ => trivial), (fun hp => ⟨(and_t hG (and_t hG (not_t hp))), trivial⟩)⟩⟩), ⟨⟨trivial, ⟨(fun hp => ⟨hp, trivial⟩), (fun _ => trivial)⟩⟩, ⟨trivial, trivial⟩⟩⟩⟩⟩⟩⟩⟩⟩⟩⟩⟩⟩⟩⟩⟩⟩⟩⟩⟩⟩⟩⟩⟩⟩⟩⟩⟩⟩⟩ ?_
          refine W.ret ?_
          exact endQ_ret (.b (((rightB nm17 g17 l17) == ((behind nm17 g17 l17 (0 : Int)).2)) && ((((!(rightB nm17 g17 l17)) || (decide ((((List.length g17) : Nat) : Int) = (0 : Int)))) || (!(decide (l17 = le)))) || (rightB nm17 (List.take (Int.toNat ((((List.length g17) : Nat) : Int) - (1 : Int))) g17) (List.take (Int.toNat ((((List.length g17) : Nat) : Int) - (1 : Int))) le))))) (by kernel_rfl) (@cast ((.bool (((rightB nm17 g17 l17) == ((behind nm17 g17 l17 (0 : Int)).2)) && ((((!(rightB nm17 g17 l17)) || (decide ((((List.length g17) : Nat) : Int) = (0 : Int)))) || (!(decide (l17 = le)))) || (rightB nm17 (List.take (Int.toNat ((((List.length g17) : Nat) : Int) - (1 : Int))) g17) (List.take (Int.toNat ((((List.length g17) : Nat) : Int) - (1 : Int))) le)))) : Value) = .bool true) _ (by kernel_rfl) (congrArg Value.bool (by exact right_law (show le = idx l17.length by rw [hle, show i = l17.length by omega]) n35)))
theorem ent3 : Entr prog 3 := ⟨_, func3, rfl, by decide⟩

end Go.Proofs.Try
