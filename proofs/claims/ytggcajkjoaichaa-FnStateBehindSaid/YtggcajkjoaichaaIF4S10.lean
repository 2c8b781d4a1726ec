import Derived.Test.YtggcajkjoaichaaIF4S0
import Derived.Test.YtggcajkjoaichaaIF4S6
import Derived.Test.YtggcajkjoaichaaIF4S5
import Derived.Test.YtggcajkjoaichaaIF4S9
import Derived.Test.YtggcajkjoaichaaIF4S3
set_option linter.unusedSimpArgs false
set_option linter.unusedVariables false
namespace Go.Proofs.Try
open Go.Ab Go.RowKit
def pre38 : List AV → List AV → Prop := preP [.int] [.bytes, .int] (fun (n, _) (ll, p, _) => (0 ≤ p ∧ p ≤ 800000) ∧ (0 ≤ n ∧ n ≤ 6))
def rel38 : RelS := relP [.int] [.bytes, .int] (ι := (List Int) × Int) (fun (n, _) (ll, p, _) (l, q) => (((l.length : Nat) : Int) = n → GoodO l n.toNat) ∧ (l.length ≤ 7) ∧ (p ≤ q ∧ q ≤ p + 20)) (fun (n, _) (ll, p, _) (l, q) => (.own 1 (List.length l), [⟨3, .row (.ints l)⟩], [.sl (.bytes ll), .i q]))
abbrev T38 : Tab := lk []
theorem tab38 : TabOK prog T38 := TabOK.nil
set_option maxRecDepth 100000 in
set_option maxHeartbeats 1000000 in
theorem rok38 : RelOK prog 38 (some 69) [.o] pre38 rel38 := by
  refine RelOK.mk cok func38 rfl rfl rfl ?_
  rintro ⟨(n : Int), _⟩ ⟨(ll : List UInt8), (p : Int), _⟩ hpre F hnt0
  have hnt : F.nt = 45 := hnt0.trans ntmps38
  replace hpre : (0 ≤ p ∧ p ≤ 800000) ∧ (0 ≤ n ∧ n ≤ 6) := hpre
  obtain ⟨hp, hn⟩ := hpre
  refine W.to (⟨[(0, .ptr 998 0), (1, .i n)], [(998, ⟨69, .fix [.sl (.bytes ll), .i p]⟩)], [998, 999]⟩) rfl ?_
  refine W.K cok tab38 hnt [] [0, 1] (⟨[(0, .ptr 998 0), (1, .i n)], [(998, ⟨69, .fix [.sl (.bytes ll), .i p]⟩)], [998, 999]⟩)
    (True ∧ True) (by kernel_rfl)
    ⟨trivial, trivial⟩ ?_
  refine W.K cok tab38 hnt [9] [0, 1, 5] (⟨[(0, .ptr 998 0), (1, .i n), (5, .own 9 (List.length ([] : List Int)))], [(9, ⟨3, .row (.ints ([] : List Int))⟩), (998, ⟨69, .fix [.sl (.bytes ll), .i p]⟩)], [9, 998, 999]⟩)
    (True ∧ (True ∧ True)) (by kernel_rfl)
    ⟨trivial, ⟨trivial, trivial⟩⟩ ?_
  refine W.seq (W.wi ?_)
  refine WI.runT cok tab38 hnt [] 1 1 (⟨[(0, .ptr 998 0), (1, .i n), (5, .own 9 (List.length ([] : List Int))), (10, .ptr 998 0)], [(9, ⟨3, .row (.ints ([] : List Int))⟩), (998, ⟨69, .fix [.sl (.bytes ll), .i p]⟩)], [9, 998, 999]⟩)
    (True ∧ True) (by kernel_rfl) rfl
    ⟨trivial, trivial⟩ ?_
  refine WI.call [.ptr 998 0, .i (3 : Int)] [.sl (.bytes ll), .i p] [.i (3 : Int)] [.i (3 : Int)] (some (69, 998)) (True) (True ∧ True) none rok68 ent68 hnt rfl rfl (wanted_none rfl) (by kernel_rfl) (by kernel_rfl) (by kernel_rfl) ⟨trivial, ⟨trivial, trivial⟩⟩
    (@cast (0 ≤ p ∧ p ≤ 1000000) _ (by kernel_rfl) (by omega)) (Or.inl rfl) rfl ?_
  rintro r bl fx2 hR
  obtain ⟨⟨v11, q11⟩, hq11, rfl, rfl, rfl⟩ := (@cast _ (∃ x : Int × Int, ((0 ≤ x.1 ∧ x.1 < max (3 : Int) 1) ∧ (x.2 = p + 1)) ∧ r = (.i x.1) ∧ bl = ([]) ∧ fx2 = ([.sl (.bytes ll), .i x.2])) (by kernel_rfl) hR)
  clear hR
  replace hq11 : (0 ≤ v11 ∧ v11 < max (3 : Int) 1) ∧ (q11 = p + 1) := hq11
  obtain ⟨hv11, hq111⟩ := hq11
  refine ⟨by kernel_rfl, WI.to (⟨[(0, .ptr 998 0), (1, .i n), (5, .own 9 (List.length ([] : List Int))), (10, .ptr 998 0), (11, .i v11)], [(9, ⟨3, .row (.ints ([] : List Int))⟩), (998, ⟨69, .fix [.sl (.bytes ll), .i q11]⟩)], [11, 9, 998, 999]⟩) 2 (by kernel_rfl) rfl ?_⟩
  refine WI.runT cok tab38 hnt [] 2 4 (⟨[(0, .ptr 998 0), (1, .i n), (5, .own 9 (List.length ([] : List Int))), (6, .b (decide (v11 = (0 : Int)))), (10, .ptr 998 0), (11, .i v11), (12, .b (decide (v11 = (0 : Int))))], [(9, ⟨3, .row (.ints ([] : List Int))⟩), (998, ⟨69, .fix [.sl (.bytes ll), .i q11]⟩)], [11, 9, 998, 999]⟩)
    ((True ∧ (True ∧ True)) ∧ (True ∧ True)) (by kernel_rfl) rfl
    ⟨⟨trivial, ⟨trivial, trivial⟩⟩, ⟨trivial, trivial⟩⟩ ?_
  refine WI.nil rfl (thenQ_normal ?_)
  refine W.keepE [0, 1, 5, 6] [(0, .ptr 998 0), (1, .i n), (5, .own 9 (List.length ([] : List Int))), (6, .b (decide (v11 = (0 : Int))))] (by kernel_rfl) ?_
  refine W.to (⟨[(0, .ptr 998 0), (1, .i n), (5, .own 9 (List.length ([] : List Int))), (6, .b (decide (v11 = (0 : Int))))], [(9, ⟨3, .row (.ints ([] : List Int))⟩), (998, ⟨69, .fix [.sl (.bytes ll), .i q11]⟩)], [11, 9, 998, 999]⟩) rfl ?_
  refine W.seq ?_
  refine W.K cok tab38 hnt [] [0, 1, 5, 6, 7] (⟨[(0, .ptr 998 0), (1, .i n), (5, .own 9 (List.length ([] : List Int))), (6, .b (decide (v11 = (0 : Int)))), (7, .i (0 : Int))], [(9, ⟨3, .row (.ints ([] : List Int))⟩), (998, ⟨69, .fix [.sl (.bytes ll), .i q11]⟩)], [11, 9, 998, 999]⟩)
    (True ∧ True) (by kernel_rfl)
    ⟨trivial, trivial⟩ ?_
  refine W.block ?_
  refine W.loop (ι := (List Int) × Nat × Int) (fun (x : (List Int) × Nat × Int) => match x with | (o, i, p1) => (⟨[(0, .ptr 998 0), (1, .i n), (5, .own 9 (List.length o)), (6, .b (decide (v11 = (0 : Int)))), (7, .i ((i : Nat) : Int))], [(9, ⟨3, .row (.ints o)⟩), (998, ⟨69, .fix [.sl (.bytes ll), .i p1]⟩)], [9, 998, 999]⟩ : St))
    (fun (x : (List Int) × Nat × Int) => match x with | (o, i, p1) => (i ≤ n.toNat) ∧ (GoodO o i) ∧ (p + 1 ≤ p1 ∧ p1 ≤ p + 1 + i))
    (fun (x : (List Int) × Nat × Int) => match x with | (o, i, p1) => (n.toNat - i : Nat)) (([] : List Int), 0, q11) ?_ ?_ ?_
  · exact (show (0 ≤ n.toNat) ∧ (GoodO ([] : List Int) 0) ∧ (p + 1 ≤ q11 ∧ q11 ≤ p + 1 + 0) from ⟨(by first | assumption | omega | rfl | (intro _ hjj; omega) | (simp; done) | (simp; omega)), (by exact GoodO.nil), (by first | assumption | omega | rfl | (intro _ hjj; omega) | (simp; done) | (simp; omega))⟩)
  · exact Sub.of [] (@cast (((((998 : Nat) = 998) ∧ (((0 : Nat) = 0) ∧ ((998 : Nat) ∈ ([9, 998, 999] : List Nat)))) ∧ (((.int .i64 n : Value) = .int .i64 n) ∧ ((((9 : Nat) = 9) ∧ (((List.length ([] : List Int)) = (List.length ([] : List Int))) ∧ ((9 : Nat) ∈ ([9, 998, 999] : List Nat)))) ∧ (((.bool (decide (v11 = (0 : Int))) : Value) = .bool (decide (v11 = (0 : Int)))) ∧ (((.int .i64 (0 : Int) : Value) = .int .i64 ((0 : Nat) : Int)) ∧ True))))) ∧ (((((3 : Nat) = 3) ∧ (((.ints ([] : List Int) : Dat) = .ints ([] : List Int)) ∧ ((9 : Nat) ∈ ([9, 998, 999] : List Nat)))) ∧ ((((69 : Nat) = 69) ∧ ((((.bytes ll : Dat) = .bytes ll) ∧ (((.int .i64 q11 : Value) = .int .i64 q11) ∧ True)) ∧ ((998 : Nat) ∈ ([9, 998, 999] : List Nat)))) ∧ True)) ∧ ((true = true) ∧ (true = true)))) _ (by kernel_rfl) ⟨⟨⟨rfl, ⟨rfl, (by decide)⟩⟩, ⟨rfl, ⟨⟨rfl, ⟨rfl, (by decide)⟩⟩, ⟨rfl, ⟨(congrArg (Value.int .i64) (by first | rfl | omega | assumption | simp | simp_all)), trivial⟩⟩⟩⟩⟩, ⟨⟨⟨rfl, ⟨rfl, (by decide)⟩⟩, ⟨⟨rfl, ⟨⟨rfl, ⟨rfl, trivial⟩⟩, (by decide)⟩⟩, trivial⟩⟩, ⟨rfl, rfl⟩⟩⟩)
  · rintro ⟨o, i, p1⟩ hC0
    have hC : (i ≤ n.toNat) ∧ (GoodO o i) ∧ (p + 1 ≤ p1 ∧ p1 ≤ p + 1 + i) := hC0
    clear hC0
    obtain ⟨hi, ho, hq⟩ := hC
    refine W.to (⟨[(0, .ptr 998 0), (1, .i n), (5, .own 9 (List.length o)), (6, .b (decide (v11 = (0 : Int)))), (7, .i ((i : Nat) : Int))], [(9, ⟨3, .row (.ints o)⟩), (998, ⟨69, .fix [.sl (.bytes ll), .i p1]⟩)], [9, 998, 999]⟩) rfl ?_
    have hol := ho.1
    refine W.seq ?_
    refine W.K cok tab38 hnt [] [0, 1, 5, 6, 7, 15] (⟨[(0, .ptr 998 0), (1, .i n), (5, .own 9 (List.length o)), (6, .b (decide (v11 = (0 : Int)))), (7, .i ((i : Nat) : Int)), (15, .b (decide (((i : Nat) : Int) < n)))], [(9, ⟨3, .row (.ints o)⟩), (998, ⟨69, .fix [.sl (.bytes ll), .i p1]⟩)], [9, 998, 999]⟩)
      (True ∧ (True ∧ ((True ∧ (True ∧ True)) ∧ True))) (by kernel_rfl)
      ⟨trivial, ⟨trivial, ⟨⟨trivial, ⟨trivial, trivial⟩⟩, trivial⟩⟩⟩ ?_
    refine W.ifP (((i : Nat) : Int) < n) (.b (decide (((i : Nat) : Int) < n))) (by kernel_rfl) rfl trivial ?_ ?_
    · intro h15
      refine W.skip (thenQ_normal ?_)
      refine W.seq ?_
      refine W.block ?_
      refine W.K cok tab38 hnt [] [0, 1, 5, 6, 7, 8] (⟨[(0, .ptr 998 0), (1, .i n), (5, .own 9 (List.length o)), (6, .b (decide (v11 = (0 : Int)))), (7, .i ((i : Nat) : Int)), (8, .i (((List.length o) : Nat) : Int))], [(9, ⟨3, .row (.ints o)⟩), (998, ⟨69, .fix [.sl (.bytes ll), .i p1]⟩)], [9, 998, 999]⟩)
        (True ∧ (True ∧ (True ∧ True))) (by kernel_rfl)
        ⟨trivial, ⟨trivial, ⟨trivial, trivial⟩⟩⟩ ?_
      refine W.subS [] (⟨[(0, .ptr 998 0), (1, .i n), (5, .sl (.ints o)), (6, .b (decide (v11 = (0 : Int)))), (7, .i ((i : Nat) : Int)), (8, .i (((List.length o) : Nat) : Int))], [(998, ⟨69, .fix [.sl (.bytes ll), .i p1]⟩)], [998, 999]⟩) (@cast (((((998 : Nat) = 998) ∧ (((0 : Nat) = 0) ∧ ((998 : Nat) ∈ ([998, 999] : List Nat)))) ∧ (((.int .i64 n : Value) = .int .i64 n) ∧ ((((List.length o) = (List.length o)) ∧ (((.ints o : Dat) = .ints o) ∧ ((9 : Nat) ∉ ([998] : List Nat)))) ∧ (((.bool (decide (v11 = (0 : Int))) : Value) = .bool (decide (v11 = (0 : Int)))) ∧ (((.int .i64 ((i : Nat) : Int) : Value) = .int .i64 ((i : Nat) : Int)) ∧ (((.int .i64 (((List.length o) : Nat) : Int) : Value) = .int .i64 (((List.length o) : Nat) : Int)) ∧ True)))))) ∧ (((((69 : Nat) = 69) ∧ ((((.bytes ll : Dat) = .bytes ll) ∧ (((.int .i64 p1 : Value) = .int .i64 p1) ∧ True)) ∧ ((998 : Nat) ∈ ([998, 999] : List Nat)))) ∧ True) ∧ ((true = true) ∧ (true = true)))) _ (by kernel_rfl) ⟨⟨⟨rfl, ⟨rfl, (by decide)⟩⟩, ⟨rfl, ⟨⟨rfl, ⟨rfl, (by decide)⟩⟩, ⟨rfl, ⟨rfl, ⟨rfl, trivial⟩⟩⟩⟩⟩⟩, ⟨⟨⟨rfl, ⟨⟨rfl, ⟨rfl, trivial⟩⟩, (by decide)⟩⟩, trivial⟩, ⟨rfl, rfl⟩⟩⟩) ?_
      refine W.seq ?_
      refine W.K cok tab38 hnt [] [0, 1, 5, 6, 7, 8, 20] (⟨[(0, .ptr 998 0), (1, .i n), (5, .sl (.ints o)), (6, .b (decide (v11 = (0 : Int)))), (7, .i ((i : Nat) : Int)), (8, .i (((List.length o) : Nat) : Int)), (20, .b (decide (v11 = (0 : Int))))], [(998, ⟨69, .fix [.sl (.bytes ll), .i p1]⟩)], [998, 999]⟩)
        (True ∧ True) (by kernel_rfl)
        ⟨trivial, trivial⟩ ?_
      refine W.meetT (ι := Int × Int) (fun (x : Int × Int) => match x with | (at_, p2) => (⟨[(0, .ptr 998 0), (1, .i n), (5, .sl (.ints o)), (6, .b (decide (v11 = (0 : Int)))), (7, .i ((i : Nat) : Int)), (8, .i at_)], [(998, ⟨69, .fix [.sl (.bytes ll), .i p2]⟩)], [998, 999]⟩ : St)) (fun (x : Int × Int) => match x with | (at_, p2) => (0 ≤ at_ ∧ at_ ≤ o.length) ∧ (p1 ≤ p2 ∧ p2 ≤ p1 + 1)) ?_ ?_
      · skip
        refine W.ifP (v11 = (0 : Int)) (.b (decide (v11 = (0 : Int)))) (by kernel_rfl) rfl trivial ?_ ?_
        · intro h20
          refine W.wi ?_
          refine WI.runT cok tab38 hnt [] 4 4 (⟨[(0, .ptr 998 0), (1, .i n), (5, .sl (.ints o)), (6, .b (decide (v11 = (0 : Int)))), (7, .i ((i : Nat) : Int)), (8, .i (((List.length o) : Nat) : Int)), (20, .b (decide (v11 = (0 : Int)))), (21, .ptr 998 0), (22, .sl (.ints o)), (23, .i (((List.length o) : Nat) : Int)), (24, .i ((((List.length o) + 1) : Nat) : Int))], [(998, ⟨69, .fix [.sl (.bytes ll), .i p1]⟩)], [998, 999]⟩)
            (True ∧ (True ∧ (True ∧ ((True ∧ (True ∧ (Fits .i64 ((((List.length o) + 1) : Nat) : Int)))) ∧ True)))) (by kernel_rfl) rfl
            ⟨trivial, ⟨trivial, ⟨trivial, ⟨⟨trivial, ⟨trivial, (by exact fits_i64 (by omega) (by omega))⟩⟩, trivial⟩⟩⟩⟩ ?_
          refine WI.call [.ptr 998 0, .i ((((List.length o) + 1) : Nat) : Int)] [.sl (.bytes ll), .i p1] [.i ((((List.length o) + 1) : Nat) : Int)] [.i ((((List.length o) + 1) : Nat) : Int)] (some (69, 998)) (True) (True ∧ True) none rok68 ent68 hnt rfl rfl (wanted_none rfl) (by kernel_rfl) (by kernel_rfl) (by kernel_rfl) ⟨trivial, ⟨trivial, trivial⟩⟩
            (@cast (0 ≤ p1 ∧ p1 ≤ 1000000) _ (by kernel_rfl) (by omega)) (Or.inl rfl) rfl ?_
          rintro r bl fx2 hR
          obtain ⟨⟨v25, q25⟩, hq25, rfl, rfl, rfl⟩ := (@cast _ (∃ x : Int × Int, ((0 ≤ x.1 ∧ x.1 < max ((((List.length o) + 1) : Nat) : Int) 1) ∧ (x.2 = p1 + 1)) ∧ r = (.i x.1) ∧ bl = ([]) ∧ fx2 = ([.sl (.bytes ll), .i x.2])) (by kernel_rfl) hR)
          clear hR
          replace hq25 : (0 ≤ v25 ∧ v25 < max ((((List.length o) + 1) : Nat) : Int) 1) ∧ (q25 = p1 + 1) := hq25
          obtain ⟨hv25, hq125⟩ := hq25
          refine ⟨by kernel_rfl, WI.to (⟨[(0, .ptr 998 0), (1, .i n), (5, .sl (.ints o)), (6, .b (decide (v11 = (0 : Int)))), (7, .i ((i : Nat) : Int)), (8, .i (((List.length o) : Nat) : Int)), (20, .b (decide (v11 = (0 : Int)))), (21, .ptr 998 0), (22, .sl (.ints o)), (23, .i (((List.length o) : Nat) : Int)), (24, .i ((((List.length o) + 1) : Nat) : Int)), (25, .i v25)], [(998, ⟨69, .fix [.sl (.bytes ll), .i q25]⟩)], [25, 998, 999]⟩) 5 (by kernel_rfl) rfl ?_⟩
          refine WI.runT cok tab38 hnt [] 1 6 (⟨[(0, .ptr 998 0), (1, .i n), (5, .sl (.ints o)), (6, .b (decide (v11 = (0 : Int)))), (7, .i ((i : Nat) : Int)), (8, .i v25), (20, .b (decide (v11 = (0 : Int)))), (21, .ptr 998 0), (22, .sl (.ints o)), (23, .i (((List.length o) : Nat) : Int)), (24, .i ((((List.length o) + 1) : Nat) : Int)), (25, .i v25)], [(998, ⟨69, .fix [.sl (.bytes ll), .i q25]⟩)], [25, 998, 999]⟩)
            (True ∧ True) (by kernel_rfl) rfl
            ⟨trivial, trivial⟩ ?_
          refine WI.nil rfl ?_
          refine thenQ_normal ?_
          refine ⟨(v25, q25), (show (0 ≤ v25 ∧ v25 ≤ o.length) ∧ (p1 ≤ q25 ∧ q25 ≤ p1 + 1) from ⟨(by first | assumption | omega | rfl | (intro _ hjj; omega) | (simp; done) | (simp; omega)), (by first | assumption | omega | rfl | (intro _ hjj; omega) | (simp; done) | (simp; omega))⟩), ?_⟩
          exact Sub.of [] (@cast (((((998 : Nat) = 998) ∧ (((0 : Nat) = 0) ∧ ((998 : Nat) ∈ ([998, 999] : List Nat)))) ∧ (((.int .i64 n : Value) = .int .i64 n) ∧ (((.ints o : Dat) = .ints o) ∧ (((.bool (decide (v11 = (0 : Int))) : Value) = .bool (decide (v11 = (0 : Int)))) ∧ (((.int .i64 ((i : Nat) : Int) : Value) = .int .i64 ((i : Nat) : Int)) ∧ (((.int .i64 v25 : Value) = .int .i64 v25) ∧ True)))))) ∧ (((((69 : Nat) = 69) ∧ ((((.bytes ll : Dat) = .bytes ll) ∧ (((.int .i64 q25 : Value) = .int .i64 q25) ∧ True)) ∧ ((998 : Nat) ∈ ([998, 999] : List Nat)))) ∧ True) ∧ ((true = true) ∧ (true = true)))) _ (by kernel_rfl) ⟨⟨⟨rfl, ⟨rfl, (by decide)⟩⟩, ⟨rfl, ⟨rfl, ⟨rfl, ⟨rfl, ⟨rfl, trivial⟩⟩⟩⟩⟩⟩, ⟨⟨⟨rfl, ⟨⟨rfl, ⟨rfl, trivial⟩⟩, (by decide)⟩⟩, trivial⟩, ⟨rfl, rfl⟩⟩⟩)
        · intro n20
          refine W.skip (thenQ_normal ?_)
          refine ⟨((((List.length o) : Nat) : Int), p1), (show (0 ≤ (((List.length o) : Nat) : Int) ∧ (((List.length o) : Nat) : Int) ≤ o.length) ∧ (p1 ≤ p1 ∧ p1 ≤ p1 + 1) from ⟨(by first | assumption | omega | rfl | (intro _ hjj; omega) | (simp; done) | (simp; omega)), (by first | assumption | omega | rfl | (intro _ hjj; omega) | (simp; done) | (simp; omega))⟩), ?_⟩
          exact Sub.of [] (@cast (((((998 : Nat) = 998) ∧ (((0 : Nat) = 0) ∧ ((998 : Nat) ∈ ([998, 999] : List Nat)))) ∧ (((.int .i64 n : Value) = .int .i64 n) ∧ (((.ints o : Dat) = .ints o) ∧ (((.bool (decide (v11 = (0 : Int))) : Value) = .bool (decide (v11 = (0 : Int)))) ∧ (((.int .i64 ((i : Nat) : Int) : Value) = .int .i64 ((i : Nat) : Int)) ∧ (((.int .i64 (((List.length o) : Nat) : Int) : Value) = .int .i64 (((List.length o) : Nat) : Int)) ∧ True)))))) ∧ (((((69 : Nat) = 69) ∧ ((((.bytes ll : Dat) = .bytes ll) ∧ (((.int .i64 p1 : Value) = .int .i64 p1) ∧ True)) ∧ ((998 : Nat) ∈ ([998, 999] : List Nat)))) ∧ True) ∧ ((true = true) ∧ (true = true)))) _ (by kernel_rfl) ⟨⟨⟨rfl, ⟨rfl, (by decide)⟩⟩, ⟨rfl, ⟨rfl, ⟨rfl, ⟨rfl, ⟨rfl, trivial⟩⟩⟩⟩⟩⟩, ⟨⟨⟨rfl, ⟨⟨rfl, ⟨rfl, trivial⟩⟩, (by decide)⟩⟩, trivial⟩, ⟨rfl, rfl⟩⟩⟩)
      · rintro ⟨at_, p2⟩ hC0
        have hC : (0 ≤ at_ ∧ at_ ≤ o.length) ∧ (p1 ≤ p2 ∧ p2 ≤ p1 + 1) := hC0
        clear hC0
        obtain ⟨hat, hq2⟩ := hC
        refine W.to (⟨[(0, .ptr 998 0), (1, .i n), (5, .sl (.ints o)), (6, .b (decide (v11 = (0 : Int)))), (7, .i ((i : Nat) : Int)), (8, .i at_)], [(998, ⟨69, .fix [.sl (.bytes ll), .i p2]⟩)], [998, 999]⟩) rfl ?_
        refine W.LA cok tab38 hnt [26, 30, 33, 37] (⟨[(0, .ptr 998 0), (1, .i n), (5, .own 37 (List.length (((List.take (Int.toNat at_) o) ++ ([((i : Nat) : Int)])) ++ (List.drop (Int.toNat at_) (List.take (List.length o) o))))), (6, .b (decide (v11 = (0 : Int)))), (7, .i ((i : Nat) : Int)), (8, .i at_), (26, .own 26 (List.length ([] : List Int))), (27, .sl (.ints o)), (28, .i at_), (29, .sl (.ints (List.take (Int.toNat at_) o))), (30, .own 30 (List.length (List.take (Int.toNat at_) o))), (31, .i ((i : Nat) : Int)), (32, .sl (.ints ([((i : Nat) : Int)]))), (33, .own 33 (List.length ((List.take (Int.toNat at_) o) ++ ([((i : Nat) : Int)])))), (34, .sl (.ints o)), (35, .i at_), (36, .sl (.ints (List.drop (Int.toNat at_) (List.take (List.length o) o)))), (37, .own 37 (List.length (((List.take (Int.toNat at_) o) ++ ([((i : Nat) : Int)])) ++ (List.drop (Int.toNat at_) (List.take (List.length o) o)))))], [(37, ⟨3, .row (.ints (((List.take (Int.toNat at_) o) ++ ([((i : Nat) : Int)])) ++ (List.drop (Int.toNat at_) (List.take (List.length o) o))))⟩), (998, ⟨69, .fix [.sl (.bytes ll), .i p2]⟩)], [37, 33, 32, 30, 26, 998, 999]⟩)
          (True ∧ (True ∧ (True ∧ ((True ∧ (True ∧ (True ∧ ((0 ≤ (0 : Int)) ∧ (((0 : Int) ≤ at_) ∧ (at_ ≤ (((List.length o) : Nat) : Int))))))) ∧ (((True ∧ ((List.length ([] : List Int)) = (List.length ([] : List Int)))) ∧ (True ∧ (((List.length ([] : List Int)) + (List.length (List.take (Int.toNat at_) o))) * 8 ≤ 140737488355328))) ∧ (True ∧ ((True ∧ True) ∧ (((True ∧ ((List.length (List.take (Int.toNat at_) o)) = (List.length (List.take (Int.toNat at_) o)))) ∧ (True ∧ (((List.length (List.take (Int.toNat at_) o)) + (List.length ([((i : Nat) : Int)]))) * 8 ≤ 140737488355328))) ∧ (True ∧ (True ∧ ((True ∧ (True ∧ (True ∧ ((0 ≤ at_) ∧ ((at_ ≤ (((List.length o) : Nat) : Int)) ∧ ((((List.length o) : Nat) : Int) ≤ (((List.length o) : Nat) : Int))))))) ∧ (((True ∧ ((List.length ((List.take (Int.toNat at_) o) ++ ([((i : Nat) : Int)]))) = (List.length ((List.take (Int.toNat at_) o) ++ ([((i : Nat) : Int)]))))) ∧ (True ∧ (((List.length ((List.take (Int.toNat at_) o) ++ ([((i : Nat) : Int)]))) + (List.length (List.drop (Int.toNat at_) (List.take (List.length o) o)))) * 8 ≤ 140737488355328))) ∧ (True ∧ True))))))))))))) (by kernel_rfl) (by kernel_rfl)
          ⟨trivial, ⟨trivial, ⟨trivial, ⟨⟨trivial, ⟨trivial, ⟨trivial, ⟨(by omega), ⟨(by omega), (by omega)⟩⟩⟩⟩⟩, ⟨⟨⟨trivial, rfl⟩, ⟨trivial, (by (first | omega | (simp only [List.length_append, List.length_cons, List.length_nil, List.length_take, List.length_drop, List.length_set, List.length_replicate, List.length_map] at *; omega) | assumption))⟩⟩, ⟨trivial, ⟨⟨trivial, trivial⟩, ⟨⟨⟨trivial, rfl⟩, ⟨trivial, (by (first | omega | (simp only [List.length_append, List.length_cons, List.length_nil, List.length_take, List.length_drop, List.length_set, List.length_replicate, List.length_map] at *; omega) | assumption))⟩⟩, ⟨trivial, ⟨trivial, ⟨⟨trivial, ⟨trivial, ⟨trivial, ⟨(by omega), ⟨(by omega), (by omega)⟩⟩⟩⟩⟩, ⟨⟨⟨trivial, rfl⟩, ⟨trivial, (by (first | omega | (simp only [List.length_append, List.length_cons, List.length_nil, List.length_take, List.length_drop, List.length_set, List.length_replicate, List.length_map] at *; omega) | assumption))⟩⟩, ⟨trivial, trivial⟩⟩⟩⟩⟩⟩⟩⟩⟩⟩⟩⟩⟩ ?_
        refine blockQ_normal (thenQ_normal ?_)
        refine W.L cok tab38 hnt [] (⟨[(0, .ptr 998 0), (1, .i n), (5, .own 37 (List.length (((List.take (Int.toNat at_) o) ++ ([((i : Nat) : Int)])) ++ (List.drop (Int.toNat at_) (List.take (List.length o) o))))), (6, .b (decide (v11 = (0 : Int)))), (7, .i (((i + 1) : Nat) : Int)), (8, .i at_), (16, .i ((i : Nat) : Int)), (17, .i (((i + 1) : Nat) : Int)), (26, .own 26 (List.length ([] : List Int))), (27, .sl (.ints o)), (28, .i at_), (29, .sl (.ints (List.take (Int.toNat at_) o))), (30, .own 30 (List.length (List.take (Int.toNat at_) o))), (31, .i ((i : Nat) : Int)), (32, .sl (.ints ([((i : Nat) : Int)]))), (33, .own 33 (List.length ((List.take (Int.toNat at_) o) ++ ([((i : Nat) : Int)])))), (34, .sl (.ints o)), (35, .i at_), (36, .sl (.ints (List.drop (Int.toNat at_) (List.take (List.length o) o)))), (37, .own 37 (List.length (((List.take (Int.toNat at_) o) ++ ([((i : Nat) : Int)])) ++ (List.drop (Int.toNat at_) (List.take (List.length o) o)))))], [(37, ⟨3, .row (.ints (((List.take (Int.toNat at_) o) ++ ([((i : Nat) : Int)])) ++ (List.drop (Int.toNat at_) (List.take (List.length o) o))))⟩), (998, ⟨69, .fix [.sl (.bytes ll), .i p2]⟩)], [37, 33, 32, 30, 26, 998, 999]⟩)
          (True ∧ ((True ∧ (True ∧ (Fits .i64 (((i + 1) : Nat) : Int)))) ∧ (True ∧ True))) (by kernel_rfl)
          ⟨trivial, ⟨⟨trivial, ⟨trivial, (by exact fits_i64 (by omega) (by omega))⟩⟩, ⟨trivial, trivial⟩⟩⟩ ?_
        refine thenQ_normal ?_
        refine ⟨((((List.take (Int.toNat at_) o) ++ ([((i : Nat) : Int)])) ++ (List.drop (Int.toNat at_) (List.take (List.length o) o))), (i + 1), p2), (show ((i + 1) ≤ n.toNat) ∧ (GoodO (((List.take (Int.toNat at_) o) ++ ([((i : Nat) : Int)])) ++ (List.drop (Int.toNat at_) (List.take (List.length o) o))) (i + 1)) ∧ (p + 1 ≤ p2 ∧ p2 ≤ p + 1 + (i + 1)) from ⟨(by first | assumption | omega | rfl | (intro _ hjj; omega) | (simp; done) | (simp; omega)), (by have h9 := ho.put (Int.toNat at_); rw [← List.take_length (l := o)] at h9; first | exact h9 | (simp only [List.take_length] at h9 ⊢; exact h9)), (by first | assumption | omega | rfl | (intro _ hjj; omega) | (simp; done) | (simp; omega))⟩), (show n.toNat - (i + 1) < n.toNat - i from (by first | omega | (simp_all; omega))), ?_⟩
        exact Sub.of [(9, 37)] (@cast (((((998 : Nat) = 998) ∧ (((0 : Nat) = 0) ∧ ((998 : Nat) ∈ ([9, 998, 999] : List Nat)))) ∧ (((.int .i64 n : Value) = .int .i64 n) ∧ ((((37 : Nat) = 37) ∧ (((List.length (((List.take (Int.toNat at_) o) ++ ([((i : Nat) : Int)])) ++ (List.drop (Int.toNat at_) (List.take (List.length o) o)))) = (List.length (((List.take (Int.toNat at_) o) ++ ([((i : Nat) : Int)])) ++ (List.drop (Int.toNat at_) (List.take (List.length o) o))))) ∧ ((9 : Nat) ∈ ([9, 998, 999] : List Nat)))) ∧ (((.bool (decide (v11 = (0 : Int))) : Value) = .bool (decide (v11 = (0 : Int)))) ∧ (((.int .i64 (((i + 1) : Nat) : Int) : Value) = .int .i64 (((i + 1) : Nat) : Int)) ∧ True))))) ∧ (((((3 : Nat) = 3) ∧ (((.ints (((List.take (Int.toNat at_) o) ++ ([((i : Nat) : Int)])) ++ (List.drop (Int.toNat at_) (List.take (List.length o) o))) : Dat) = .ints (((List.take (Int.toNat at_) o) ++ ([((i : Nat) : Int)])) ++ (List.drop (Int.toNat at_) (List.take (List.length o) o)))) ∧ ((9 : Nat) ∈ ([9, 998, 999] : List Nat)))) ∧ ((((69 : Nat) = 69) ∧ ((((.bytes ll : Dat) = .bytes ll) ∧ (((.int .i64 p2 : Value) = .int .i64 p2) ∧ True)) ∧ ((998 : Nat) ∈ ([9, 998, 999] : List Nat)))) ∧ True)) ∧ ((true = true) ∧ (true = true)))) _ (by kernel_rfl) ⟨⟨⟨rfl, ⟨rfl, (by decide)⟩⟩, ⟨rfl, ⟨⟨rfl, ⟨rfl, (by decide)⟩⟩, ⟨rfl, ⟨rfl, trivial⟩⟩⟩⟩⟩, ⟨⟨⟨rfl, ⟨rfl, (by decide)⟩⟩, ⟨⟨rfl, ⟨⟨rfl, ⟨rfl, trivial⟩⟩, (by decide)⟩⟩, trivial⟩⟩, ⟨rfl, rfl⟩⟩⟩)
    · intro n15
      refine W.exit (thenQ_exit (thenQ_exit (blockQ_hit ?_)))
      refine thenQ_normal ?_
      refine W.seq ?_
      refine W.seq (W.wi ?_)
      refine WI.runT cok tab38 hnt [] 1 1 (⟨[(0, .ptr 998 0), (1, .i n), (5, .own 9 (List.length o)), (6, .b (decide (v11 = (0 : Int)))), (7, .i ((i : Nat) : Int)), (15, .b (decide (((i : Nat) : Int) < n))), (38, .ptr 998 0)], [(9, ⟨3, .row (.ints o)⟩), (998, ⟨69, .fix [.sl (.bytes ll), .i p1]⟩)], [9, 998, 999]⟩)
        (True ∧ True) (by kernel_rfl) rfl
        ⟨trivial, trivial⟩ ?_
      refine WI.call [.ptr 998 0, .i (24 : Int)] [.sl (.bytes ll), .i p1] [.i (24 : Int)] [.i (24 : Int)] (some (69, 998)) (True) (True ∧ True) none rok68 ent68 hnt rfl rfl (wanted_none rfl) (by kernel_rfl) (by kernel_rfl) (by kernel_rfl) ⟨trivial, ⟨trivial, trivial⟩⟩
        (@cast (0 ≤ p1 ∧ p1 ≤ 1000000) _ (by kernel_rfl) (by omega)) (Or.inl rfl) rfl ?_
      rintro r bl fx2 hR
      obtain ⟨⟨v39, q39⟩, hq39, rfl, rfl, rfl⟩ := (@cast _ (∃ x : Int × Int, ((0 ≤ x.1 ∧ x.1 < max (24 : Int) 1) ∧ (x.2 = p1 + 1)) ∧ r = (.i x.1) ∧ bl = ([]) ∧ fx2 = ([.sl (.bytes ll), .i x.2])) (by kernel_rfl) hR)
      clear hR
      replace hq39 : (0 ≤ v39 ∧ v39 < max (24 : Int) 1) ∧ (q39 = p1 + 1) := hq39
      obtain ⟨hv39, hq139⟩ := hq39
      refine ⟨by kernel_rfl, WI.to (⟨[(0, .ptr 998 0), (1, .i n), (5, .own 9 (List.length o)), (6, .b (decide (v11 = (0 : Int)))), (7, .i ((i : Nat) : Int)), (15, .b (decide (((i : Nat) : Int) < n))), (38, .ptr 998 0), (39, .i v39)], [(9, ⟨3, .row (.ints o)⟩), (998, ⟨69, .fix [.sl (.bytes ll), .i q39]⟩)], [39, 9, 998, 999]⟩) 2 (by kernel_rfl) rfl ?_⟩
      refine WI.runT cok tab38 hnt [] 1 3 (⟨[(0, .ptr 998 0), (1, .i n), (5, .own 9 (List.length o)), (6, .b (decide (v11 = (0 : Int)))), (7, .i ((i : Nat) : Int)), (15, .b (decide (((i : Nat) : Int) < n))), (38, .ptr 998 0), (39, .i v39), (40, .b (decide (v39 = (0 : Int))))], [(9, ⟨3, .row (.ints o)⟩), (998, ⟨69, .fix [.sl (.bytes ll), .i q39]⟩)], [39, 9, 998, 999]⟩)
        ((True ∧ (True ∧ True)) ∧ True) (by kernel_rfl) rfl
        ⟨⟨trivial, ⟨trivial, trivial⟩⟩, trivial⟩ ?_
      refine WI.nil rfl (thenQ_normal ?_)
      refine W.keepE [5, 40] [(5, .own 9 (List.length o)), (40, .b (decide (v39 = (0 : Int))))] (by kernel_rfl) ?_
      refine W.to (⟨[(5, .own 9 (List.length o)), (40, .b (decide (v39 = (0 : Int))))], [(9, ⟨3, .row (.ints o)⟩), (998, ⟨69, .fix [.sl (.bytes ll), .i q39]⟩)], [39, 9, 998, 999]⟩) rfl ?_
      refine W.ifP (v39 = (0 : Int)) (.b (decide (v39 = (0 : Int)))) (by kernel_rfl) rfl trivial ?_ ?_
      · intro h40
        refine W.K cok tab38 hnt [43] [4] (⟨[(4, .own 43 (List.length (o ++ ([(0 : Int)]))))], [(43, ⟨3, .row (.ints (o ++ ([(0 : Int)])))⟩), (998, ⟨69, .fix [.sl (.bytes ll), .i q39]⟩)], [43, 42, 39, 9, 998, 999]⟩)
          (True ∧ ((True ∧ True) ∧ (((True ∧ ((List.length o) = (List.length o))) ∧ (True ∧ (((List.length o) + (List.length ([(0 : Int)]))) * 8 ≤ 140737488355328))) ∧ (True ∧ True)))) (by kernel_rfl)
          ⟨trivial, ⟨⟨trivial, trivial⟩, ⟨⟨⟨trivial, rfl⟩, ⟨trivial, (by (first | omega | (simp only [List.length_append, List.length_cons, List.length_nil, List.length_take, List.length_drop, List.length_set, List.length_replicate, List.length_map] at *; omega) | assumption))⟩⟩, ⟨trivial, trivial⟩⟩⟩⟩ ?_
        refine W.ret (thenQ_ret ?_)
        exact endP_ret ((o ++ ([(0 : Int)])), q39) (show ((((o ++ ([(0 : Int)])).length : Nat) : Int) = n → GoodO (o ++ ([(0 : Int)])) n.toNat) ∧ ((o ++ ([(0 : Int)])).length ≤ 7) ∧ (p ≤ q39 ∧ q39 ≤ p + 20) from ⟨(by intro hh; simp at hh; omega), (by simp; omega), (by first | assumption | omega | rfl | (simp; done) | (simp; omega))⟩) [(1, 43), (0, 998)] (.own 43 (List.length (o ++ ([(0 : Int)])))) (by kernel_rfl) (@cast ((((43 : Nat) = 43) ∧ (((List.length (o ++ ([(0 : Int)]))) = (List.length (o ++ ([(0 : Int)])))) ∧ ((1 : Nat) ∈ ([0, 1] : List Nat)))) ∧ (((((69 : Nat) = 69) ∧ ((((.bytes ll : Dat) = .bytes ll) ∧ (((.int .i64 q39 : Value) = .int .i64 q39) ∧ True)) ∧ ((0 : Nat) ∈ ([0, 1] : List Nat)))) ∧ ((((3 : Nat) = 3) ∧ (((.ints (o ++ ([(0 : Int)])) : Dat) = .ints (o ++ ([(0 : Int)]))) ∧ ((1 : Nat) ∈ ([0, 1] : List Nat)))) ∧ True)) ∧ ((true = true) ∧ (((([] : List Nat) = []) ∧ True) ∧ (true = true → (998 : Nat) = 998))))) _ (by kernel_rfl) ⟨⟨rfl, ⟨rfl, (by decide)⟩⟩, ⟨⟨⟨rfl, ⟨⟨rfl, ⟨rfl, trivial⟩⟩, (by decide)⟩⟩, ⟨⟨rfl, ⟨rfl, (by decide)⟩⟩, trivial⟩⟩, ⟨rfl, ⟨⟨rfl, trivial⟩, (fun _ => rfl)⟩⟩⟩⟩)
      · intro n40
        refine W.skip (thenQ_normal ?_)
        refine W.K cok tab38 hnt [] [4] (⟨[(4, .own 9 (List.length o))], [(9, ⟨3, .row (.ints o)⟩), (998, ⟨69, .fix [.sl (.bytes ll), .i q39]⟩)], [39, 9, 998, 999]⟩)
          (True ∧ (True ∧ True)) (by kernel_rfl)
          ⟨trivial, ⟨trivial, trivial⟩⟩ ?_
        refine W.ret ?_
        exact endP_ret (o, q39) (show (((o.length : Nat) : Int) = n → GoodO o n.toNat) ∧ (o.length ≤ 7) ∧ (p ≤ q39 ∧ q39 ≤ p + 20) from ⟨(by intro _; rw [show n.toNat = i by omega]; exact ho), (by omega), (by first | assumption | omega | rfl | (simp; done) | (simp; omega))⟩) [(1, 9), (0, 998)] (.own 9 (List.length o)) (by kernel_rfl) (@cast ((((9 : Nat) = 9) ∧ (((List.length o) = (List.length o)) ∧ ((1 : Nat) ∈ ([0, 1] : List Nat)))) ∧ (((((69 : Nat) = 69) ∧ ((((.bytes ll : Dat) = .bytes ll) ∧ (((.int .i64 q39 : Value) = .int .i64 q39) ∧ True)) ∧ ((0 : Nat) ∈ ([0, 1] : List Nat)))) ∧ ((((3 : Nat) = 3) ∧ (((.ints o : Dat) = .ints o) ∧ ((1 : Nat) ∈ ([0, 1] : List Nat)))) ∧ True)) ∧ ((true = true) ∧ (((([] : List Nat) = []) ∧ True) ∧ (true = true → (998 : Nat) = 998))))) _ (by kernel_rfl) ⟨⟨rfl, ⟨rfl, (by decide)⟩⟩, ⟨⟨⟨rfl, ⟨⟨rfl, ⟨rfl, trivial⟩⟩, (by decide)⟩⟩, ⟨⟨rfl, ⟨rfl, (by decide)⟩⟩, trivial⟩⟩, ⟨rfl, ⟨⟨rfl, trivial⟩, (fun _ => rfl)⟩⟩⟩⟩)
theorem ent38 : Entr prog 38 := ⟨_, func38, rfl, by decide⟩
end Go.Proofs.Try

set_option linter.unusedSimpArgs false
set_option linter.unusedVariables false
namespace Go.Proofs.Try
open Go.Ab Go.RowKit
def pre15 : List AV → List AV → Prop := preP [.bytes] [] (fun (code, _) _ => True)
def rel15 : RelS := relP [.bytes] [] (ι := ByteArray × (List CallD) × (List Int) × Int) (fun (code, _) _ (nm, g, l, xx) => (g.length ≤ 6) ∧ (l.length ≤ 7)) (fun (code, _) _ (nm, g, l, xx) => (.tup [.v (.string nm), .sl (.calls g), .sl (.ints l), .i xx], [], []))
abbrev T15 : Tab := lk []
theorem tab15 : TabOK prog T15 := TabOK.nil
set_option maxRecDepth 100000 in
set_option maxHeartbeats 1000000 in
theorem rok15 : RelOK prog 15 none [.s .bytes] pre15 rel15 := by
  refine RelOK.mk cok func15 rfl rfl rfl ?_
  rintro ⟨(code : List UInt8), _⟩ _ hpre F hnt0
  have hnt : F.nt = 25 := hnt0.trans ntmps15
  clear hpre
  refine W.to (⟨[(0, .sl (.bytes code))], [], [998, 999]⟩) rfl ?_
  refine W.K cok tab15 hnt [] [0] (⟨[(0, .sl (.bytes code))], [], [998, 999]⟩)
    (True ∧ (True ∧ (True ∧ (True ∧ True)))) (by kernel_rfl)
    ⟨trivial, ⟨trivial, ⟨trivial, ⟨trivial, trivial⟩⟩⟩⟩ ?_
  refine W.seq (W.wi ?_)
  refine WI.runT cok tab15 hnt [] 1 1 (⟨[(0, .sl (.bytes code)), (9, .sl (.bytes code))], [], [998, 999]⟩)
    (True ∧ True) (by kernel_rfl) rfl
    ⟨trivial, trivial⟩ ?_
  refine WI.call [.sl (.bytes code)] [] [.sl (.bytes code)] [.sl (.bytes code)] none (True) (True ∧ True) none rok36 ent36 hnt rfl rfl (wanted_none rfl) (by kernel_rfl) (by kernel_rfl) (by kernel_rfl) ⟨trivial, ⟨trivial, trivial⟩⟩
    (@cast (True) _ (by kernel_rfl) trivial) (Or.inl rfl) rfl ?_
  rintro r bl fx2 hR
  obtain ⟨l10, hq10, rfl, rfl, rfl⟩ := (@cast _ (∃ x : (List UInt8), (True) ∧ r = (.ptr 0 0) ∧ bl = ([⟨69, .fix [.sl (.bytes x), .i (0 : Int)]⟩]) ∧ fx2 = ([])) (by kernel_rfl) hR)
  clear hR
  replace hq10 : True := hq10
  refine ⟨by kernel_rfl, WI.to (⟨[(0, .sl (.bytes code)), (9, .sl (.bytes code)), (10, .ptr 10 0)], [(10, ⟨69, .fix [.sl (.bytes l10), .i (0 : Int)]⟩)], [10, 998, 999]⟩) 2 (by kernel_rfl) rfl ?_⟩
  refine WI.runT cok tab15 hnt [] 1 3 (⟨[(0, .sl (.bytes code)), (6, .ptr 10 0), (9, .sl (.bytes code)), (10, .ptr 10 0)], [(10, ⟨69, .fix [.sl (.bytes l10), .i (0 : Int)]⟩)], [10, 998, 999]⟩)
    (True ∧ True) (by kernel_rfl) rfl
    ⟨trivial, trivial⟩ ?_
  refine WI.nil rfl (thenQ_normal ?_)
  refine W.keepE [6] [(6, .ptr 10 0)] (by kernel_rfl) ?_
  refine W.to (⟨[(6, .ptr 10 0)], [(10, ⟨69, .fix [.sl (.bytes l10), .i (0 : Int)]⟩)], [10, 998, 999]⟩) rfl ?_
  refine W.seq (W.wi ?_)
  refine WI.runT cok tab15 hnt [] 1 1 (⟨[(6, .ptr 10 0), (12, .ptr 10 0)], [(10, ⟨69, .fix [.sl (.bytes l10), .i (0 : Int)]⟩)], [10, 998, 999]⟩)
    (True ∧ True) (by kernel_rfl) rfl
    ⟨trivial, trivial⟩ ?_
  refine WI.call [.ptr 10 0] [.sl (.bytes l10), .i (0 : Int)] [] [] (some (69, 10)) (True) (True) none rok37 ent37 hnt rfl rfl (wanted_none rfl) (by kernel_rfl) (by kernel_rfl) (by kernel_rfl) ⟨trivial, trivial⟩
    (@cast (0 ≤ (0 : Int) ∧ (0 : Int) ≤ 600000) _ (by kernel_rfl) (by omega)) (Or.inl rfl) rfl ?_
  rintro r bl fx2 hR
  obtain ⟨⟨nm13, g13, q13⟩, hq13, rfl, rfl, rfl⟩ := (@cast _ (∃ x : ByteArray × (List CallD) × Int, ((x.2.1.length ≤ 6) ∧ ((0 : Int) ≤ x.2.2 ∧ x.2.2 ≤ (0 : Int) + 1300)) ∧ r = (.tup [.v (.string x.1), .own 1 (List.length x.2.1)]) ∧ bl = ([⟨36, .row (.calls x.2.1)⟩]) ∧ fx2 = ([.sl (.bytes l10), .i x.2.2])) (by kernel_rfl) hR)
  clear hR
  replace hq13 : (g13.length ≤ 6) ∧ ((0 : Int) ≤ q13 ∧ q13 ≤ (0 : Int) + 1300) := hq13
  obtain ⟨hg13, hq113⟩ := hq13
  refine ⟨by kernel_rfl, WI.to (⟨[(6, .ptr 10 0), (12, .ptr 10 0), (13, .tup [.v (.string nm13), .own 1013 (List.length g13)])], [(10, ⟨69, .fix [.sl (.bytes l10), .i q13]⟩), (1013, ⟨36, .row (.calls g13)⟩)], [1013, 13, 10, 998, 999]⟩) 2 (by kernel_rfl) rfl ?_⟩
  refine WI.runT cok tab15 hnt [] 5 7 (⟨[(6, .ptr 10 0), (7, .v (.string nm13)), (8, .own 1013 (List.length g13)), (11, .tup [.v (.string nm13), .own 1013 (List.length g13)]), (12, .ptr 10 0), (13, .tup [.v (.string nm13), .own 1013 (List.length g13)]), (14, .v (.string nm13)), (15, .own 1013 (List.length g13))], [(10, ⟨69, .fix [.sl (.bytes l10), .i q13]⟩), (1013, ⟨36, .row (.calls g13)⟩)], [1013, 13, 10, 998, 999]⟩)
    (True ∧ (True ∧ (True ∧ (True ∧ (True ∧ True))))) (by kernel_rfl) rfl
    ⟨trivial, ⟨trivial, ⟨trivial, ⟨trivial, ⟨trivial, trivial⟩⟩⟩⟩⟩ ?_
  refine WI.nil rfl (thenQ_normal ?_)
  refine W.keepE [6, 7, 8] [(6, .ptr 10 0), (7, .v (.string nm13)), (8, .own 1013 (List.length g13))] (by kernel_rfl) ?_
  refine W.to (⟨[(6, .ptr 10 0), (7, .v (.string nm13)), (8, .own 1013 (List.length g13))], [(10, ⟨69, .fix [.sl (.bytes l10), .i q13]⟩), (1013, ⟨36, .row (.calls g13)⟩)], [1013, 13, 10, 998, 999]⟩) rfl ?_
  refine W.seq (W.wi ?_)
  refine WI.runT cok tab15 hnt [] 5 5 (⟨[(6, .ptr 10 0), (7, .v (.string nm13)), (8, .own 1013 (List.length g13)), (16, .v (.string nm13)), (17, .own 1013 (List.length g13)), (18, .ptr 10 0), (19, .own 1013 (List.length g13)), (20, .i (((List.length g13) : Nat) : Int))], [(10, ⟨69, .fix [.sl (.bytes l10), .i q13]⟩), (1013, ⟨36, .row (.calls g13)⟩)], [1013, 13, 10, 998, 999]⟩)
    (True ∧ (True ∧ (True ∧ (True ∧ (True ∧ True))))) (by kernel_rfl) rfl
    ⟨trivial, ⟨trivial, ⟨trivial, ⟨trivial, ⟨trivial, trivial⟩⟩⟩⟩⟩ ?_
  refine WI.call [.ptr 10 0, .i (((List.length g13) : Nat) : Int)] [.sl (.bytes l10), .i q13] [.i (((List.length g13) : Nat) : Int)] [.i (((List.length g13) : Nat) : Int)] (some (69, 10)) (True) (True ∧ True) none rok38 ent38 hnt rfl rfl (wanted_none rfl) (by kernel_rfl) (by kernel_rfl) (by kernel_rfl) ⟨trivial, ⟨trivial, trivial⟩⟩
    (@cast ((0 ≤ q13 ∧ q13 ≤ 800000) ∧ (0 ≤ (((List.length g13) : Nat) : Int) ∧ (((List.length g13) : Nat) : Int) ≤ 6)) _ (by kernel_rfl) ⟨(by omega), (by omega)⟩) (Or.inl rfl) rfl ?_
  rintro r bl fx2 hR
  obtain ⟨⟨l21, q21⟩, hq21, rfl, rfl, rfl⟩ := (@cast _ (∃ x : (List Int) × Int, ((((x.1.length : Nat) : Int) = (((List.length g13) : Nat) : Int) → GoodO x.1 (((List.length g13) : Nat) : Int).toNat) ∧ (x.1.length ≤ 7) ∧ (q13 ≤ x.2 ∧ x.2 ≤ q13 + 20)) ∧ r = (.own 1 (List.length x.1)) ∧ bl = ([⟨3, .row (.ints x.1)⟩]) ∧ fx2 = ([.sl (.bytes l10), .i x.2])) (by kernel_rfl) hR)
  clear hR
  replace hq21 : (((l21.length : Nat) : Int) = (((List.length g13) : Nat) : Int) → GoodO l21 (((List.length g13) : Nat) : Int).toNat) ∧ (l21.length ≤ 7) ∧ (q13 ≤ q21 ∧ q21 ≤ q13 + 20) := hq21
  obtain ⟨hg21, hl21, hq121⟩ := hq21
  refine ⟨by kernel_rfl, WI.to (⟨[(6, .ptr 10 0), (7, .v (.string nm13)), (8, .own 1013 (List.length g13)), (16, .v (.string nm13)), (17, .own 1013 (List.length g13)), (18, .ptr 10 0), (19, .own 1013 (List.length g13)), (20, .i (((List.length g13) : Nat) : Int)), (21, .own 1021 (List.length l21))], [(10, ⟨69, .fix [.sl (.bytes l10), .i q21]⟩), (1013, ⟨36, .row (.calls g13)⟩), (1021, ⟨3, .row (.ints l21)⟩)], [1021, 21, 1013, 13, 10, 998, 999]⟩) 6 (by kernel_rfl) rfl ?_⟩
  refine WI.runT cok tab15 hnt [] 2 8 (⟨[(6, .ptr 10 0), (7, .v (.string nm13)), (8, .own 1013 (List.length g13)), (16, .v (.string nm13)), (17, .own 1013 (List.length g13)), (18, .ptr 10 0), (19, .own 1013 (List.length g13)), (20, .i (((List.length g13) : Nat) : Int)), (21, .own 1021 (List.length l21)), (22, .ptr 10 0), (23, .sl (.ints ([(0 : Int), (0 : Int), (1 : Int), (2 : Int)])))], [(10, ⟨69, .fix [.sl (.bytes l10), .i q21]⟩), (1013, ⟨36, .row (.calls g13)⟩), (1021, ⟨3, .row (.ints l21)⟩)], [23, 1021, 21, 1013, 13, 10, 998, 999]⟩)
    (True ∧ ((True ∧ (True ∧ (True ∧ (True ∧ True)))) ∧ True)) (by kernel_rfl) rfl
    ⟨trivial, ⟨⟨trivial, ⟨trivial, ⟨trivial, ⟨trivial, trivial⟩⟩⟩⟩, trivial⟩⟩ ?_
  refine WI.call [.ptr 10 0, .sl (.ints ([(0 : Int), (0 : Int), (1 : Int), (2 : Int)]))] [.sl (.bytes l10), .i q21] [.sl (.ints ([(0 : Int), (0 : Int), (1 : Int), (2 : Int)]))] [.sl (.ints ([(0 : Int), (0 : Int), (1 : Int), (2 : Int)]))] (some (69, 10)) (True) (True ∧ True) none rok49 ent49 hnt rfl rfl (wanted_none rfl) (by kernel_rfl) (by kernel_rfl) (by kernel_rfl) ⟨trivial, ⟨trivial, trivial⟩⟩
    (@cast ((0 ≤ q21 ∧ q21 ≤ 1000000) ∧ ((0 < ([(0 : Int), (0 : Int), (1 : Int), (2 : Int)]).length) ∧ (([(0 : Int), (0 : Int), (1 : Int), (2 : Int)]).length ≤ 1000))) _ (by kernel_rfl) ⟨(by omega), ⟨(by (first | omega | (simp only [List.length_append, List.length_cons, List.length_nil, List.length_take, List.length_drop, List.length_set, List.length_replicate, List.length_map] at *; omega) | assumption)), (by (first | omega | (simp only [List.length_append, List.length_cons, List.length_nil, List.length_take, List.length_drop, List.length_set, List.length_replicate, List.length_map] at *; omega) | assumption))⟩⟩) (Or.inl rfl) rfl ?_
  rintro r bl fx2 hR
  obtain ⟨⟨v24, q24⟩, hq24, rfl, rfl, rfl⟩ := (@cast _ (∃ x : Int × Int, ((x.1 ∈ ([(0 : Int), (0 : Int), (1 : Int), (2 : Int)])) ∧ (x.2 = q21 + 1)) ∧ r = (.i x.1) ∧ bl = ([]) ∧ fx2 = ([.sl (.bytes l10), .i x.2])) (by kernel_rfl) hR)
  clear hR
  replace hq24 : (v24 ∈ ([(0 : Int), (0 : Int), (1 : Int), (2 : Int)])) ∧ (q24 = q21 + 1) := hq24
  obtain ⟨hv24, hq124⟩ := hq24
  simp only [List.mem_cons, List.not_mem_nil, or_false] at hv24
  refine ⟨by kernel_rfl, WI.to (⟨[(6, .ptr 10 0), (7, .v (.string nm13)), (8, .own 1013 (List.length g13)), (16, .v (.string nm13)), (17, .own 1013 (List.length g13)), (18, .ptr 10 0), (19, .own 1013 (List.length g13)), (20, .i (((List.length g13) : Nat) : Int)), (21, .own 1021 (List.length l21)), (22, .ptr 10 0), (23, .sl (.ints ([(0 : Int), (0 : Int), (1 : Int), (2 : Int)]))), (24, .i v24)], [(10, ⟨69, .fix [.sl (.bytes l10), .i q24]⟩), (1013, ⟨36, .row (.calls g13)⟩), (1021, ⟨3, .row (.ints l21)⟩)], [24, 23, 1021, 21, 1013, 13, 10, 998, 999]⟩) 9 (by kernel_rfl) rfl ?_⟩
  refine WI.runT cok tab15 hnt [] 4 13 (⟨[(2, .v (.string nm13)), (3, .own 1013 (List.length g13)), (4, .own 1021 (List.length l21)), (5, .i v24), (6, .ptr 10 0), (7, .v (.string nm13)), (8, .own 1013 (List.length g13)), (16, .v (.string nm13)), (17, .own 1013 (List.length g13)), (18, .ptr 10 0), (19, .own 1013 (List.length g13)), (20, .i (((List.length g13) : Nat) : Int)), (21, .own 1021 (List.length l21)), (22, .ptr 10 0), (23, .sl (.ints ([(0 : Int), (0 : Int), (1 : Int), (2 : Int)]))), (24, .i v24)], [(10, ⟨69, .fix [.sl (.bytes l10), .i q24]⟩), (1013, ⟨36, .row (.calls g13)⟩), (1021, ⟨3, .row (.ints l21)⟩)], [24, 23, 1021, 21, 1013, 13, 10, 998, 999]⟩)
    (True ∧ (True ∧ (True ∧ (True ∧ True)))) (by kernel_rfl) rfl
    ⟨trivial, ⟨trivial, ⟨trivial, ⟨trivial, trivial⟩⟩⟩⟩ ?_
  refine WI.nil rfl (thenQ_normal ?_)
  refine W.keepE [2, 3, 4, 5] [(2, .v (.string nm13)), (3, .own 1013 (List.length g13)), (4, .own 1021 (List.length l21)), (5, .i v24)] (by kernel_rfl) ?_
  refine W.to (⟨[(2, .v (.string nm13)), (3, .own 1013 (List.length g13)), (4, .own 1021 (List.length l21)), (5, .i v24)], [(10, ⟨69, .fix [.sl (.bytes l10), .i q24]⟩), (1013, ⟨36, .row (.calls g13)⟩), (1021, ⟨3, .row (.ints l21)⟩)], [24, 23, 1021, 21, 1013, 13, 10, 998, 999]⟩) rfl ?_
  refine W.ret ?_
  exact endP_ret (nm13, g13, l21, v24) (show (g13.length ≤ 6) ∧ (l21.length ≤ 7) from ⟨(by first | assumption | omega | rfl | (simp; done) | (simp; omega)), (by first | assumption | omega | rfl | (simp; done) | (simp; omega))⟩) [] (.tup [.v (.string nm13), .own 1013 (List.length g13), .own 1021 (List.length l21), .i v24]) (by kernel_rfl) (@cast (((((.string nm13) : Value) = (.string nm13)) ∧ ((((List.length g13) = (List.length g13)) ∧ (((.calls g13 : Dat) = .calls g13) ∧ ((1013 : Nat) ∉ ([] : List Nat)))) ∧ ((((List.length l21) = (List.length l21)) ∧ (((.ints l21 : Dat) = .ints l21) ∧ ((1021 : Nat) ∉ ([] : List Nat)))) ∧ (((.int .i64 v24 : Value) = .int .i64 v24) ∧ True)))) ∧ (True ∧ ((true = true) ∧ (True ∧ (false = true → (0 : Nat) = 998))))) _ (by kernel_rfl) ⟨⟨rfl, ⟨⟨rfl, ⟨rfl, (by decide)⟩⟩, ⟨⟨rfl, ⟨rfl, (by decide)⟩⟩, ⟨rfl, trivial⟩⟩⟩⟩, ⟨trivial, ⟨rfl, ⟨trivial, (fun h => by cases h)⟩⟩⟩⟩)
theorem ent15 : Entr prog 15 := ⟨_, func15, rfl, by decide⟩
end Go.Proofs.Try

set_option linter.unusedSimpArgs false
set_option linter.unusedVariables false
namespace Go.Proofs.Try
open Go.Ab Go.RowKit
def fs4 : FnS := fnS [.s .bytes] [.bytes] (fun _ (code, _) => (.b true, [], True))
abbrev T4 : Tab := lk [(13, fs13), (14, fs14), (16, fs16), (17, fs17)]
theorem tab4 : TabOK prog T4 := (TabOK.cons ok13 ent13 (TabOK.cons ok14 ent14 (TabOK.cons ok16 ent16 (TabOK.cons ok17 ent17 TabOK.nil))))
set_option maxRecDepth 100000 in
set_option maxHeartbeats 1000000 in
theorem ok4 : FnOK prog 4 fs4 := by
  refine FnOK.mk cok func4 rfl rfl rfl ?_
  rintro fl ⟨(code : List UInt8), _⟩ hpre F hnt0 _
  have hnt : F.nt = 98 := hnt0.trans ntmps4
  clear hpre
  refine W.to (⟨[(0, .sl (.bytes code))], [], [999]⟩) rfl ?_
  refine W.lenOf 0 (.bytes code) (by kernel_rfl) ?_
  intro hl_code; replace hl_code : List.length code ≤ 9223372036854775807 := hl_code
  refine W.K cok tab4 hnt [] [0] (⟨[(0, .sl (.bytes code))], [], [999]⟩)
    (True ∧ True) (by kernel_rfl)
    ⟨trivial, trivial⟩ ?_
  refine W.seq ?_
  refine W.K cok tab4 hnt [] [0, 17] (⟨[(0, .sl (.bytes code)), (17, .b (decide ((1048576 : Int) < (((List.length code) : Nat) : Int))))], [], [999]⟩)
    (True ∧ (True ∧ ((True ∧ (True ∧ True)) ∧ True))) (by kernel_rfl)
    ⟨trivial, ⟨trivial, ⟨⟨trivial, ⟨trivial, trivial⟩⟩, trivial⟩⟩⟩ ?_
  refine W.ifP ((1048576 : Int) < (((List.length code) : Nat) : Int)) (.b (decide ((1048576 : Int) < (((List.length code) : Nat) : Int)))) (by kernel_rfl) rfl trivial ?_ ?_
  · intro h17
    refine W.K cok tab4 hnt [] [2] (⟨[(2, .b true)], [], [999]⟩)
      (True ∧ True) (by kernel_rfl)
      ⟨trivial, trivial⟩ ?_
    refine W.ret (thenQ_ret ?_)
    exact endQ_ret (.b true) (by kernel_rfl) (@cast ((.bool true : Value) = .bool true) _ (by kernel_rfl) rfl)
  · intro n17
    refine W.skip (thenQ_normal ?_)
    refine W.seq (W.wi ?_)
    refine WI.runT cok tab4 hnt [] 1 1 (⟨[(0, .sl (.bytes code)), (17, .b (decide ((1048576 : Int) < (((List.length code) : Nat) : Int)))), (19, .sl (.bytes code))], [], [999]⟩)
      (True ∧ True) (by kernel_rfl) rfl
      ⟨trivial, trivial⟩ ?_
    refine WI.call [.sl (.bytes code)] [] [.sl (.bytes code)] [.sl (.bytes code)] none (True) (True ∧ True) none rok15 ent15 hnt rfl rfl (wanted_none rfl) (by kernel_rfl) (by kernel_rfl) (by kernel_rfl) ⟨trivial, ⟨trivial, trivial⟩⟩
      (@cast (True) _ (by kernel_rfl) trivial) (Or.inl rfl) rfl ?_
    rintro r bl fx2 hR
    obtain ⟨⟨nm20, g20, l20, xx20⟩, hq20, rfl, rfl, rfl⟩ := (@cast _ (∃ x : ByteArray × (List CallD) × (List Int) × Int, ((x.2.1.length ≤ 6) ∧ (x.2.2.1.length ≤ 7)) ∧ r = (.tup [.v (.string x.1), .sl (.calls x.2.1), .sl (.ints x.2.2.1), .i x.2.2.2]) ∧ bl = ([]) ∧ fx2 = ([])) (by kernel_rfl) hR)
    clear hR
    replace hq20 : (g20.length ≤ 6) ∧ (l20.length ≤ 7) := hq20
    obtain ⟨hg20, hl20⟩ := hq20
    refine ⟨by kernel_rfl, WI.to (⟨[(0, .sl (.bytes code)), (17, .b (decide ((1048576 : Int) < (((List.length code) : Nat) : Int)))), (19, .sl (.bytes code)), (20, .tup [.v (.string nm20), .sl (.calls g20), .sl (.ints l20), .i xx20])], [], [999]⟩) 2 (by kernel_rfl) rfl ?_⟩
    refine WI.runT cok tab4 hnt [] 9 11 (⟨[(0, .sl (.bytes code)), (3, .v (.string nm20)), (4, .sl (.calls g20)), (5, .sl (.ints l20)), (6, .i xx20), (17, .b (decide ((1048576 : Int) < (((List.length code) : Nat) : Int)))), (18, .tup [.v (.string nm20), .sl (.calls g20), .sl (.ints l20), .i xx20]), (19, .sl (.bytes code)), (20, .tup [.v (.string nm20), .sl (.calls g20), .sl (.ints l20), .i xx20]), (21, .v (.string nm20)), (22, .sl (.calls g20)), (23, .sl (.ints l20)), (24, .i xx20)], [], [999]⟩)
      (True ∧ (True ∧ (True ∧ (True ∧ (True ∧ (True ∧ (True ∧ (True ∧ (True ∧ True))))))))) (by kernel_rfl) rfl
      ⟨trivial, ⟨trivial, ⟨trivial, ⟨trivial, ⟨trivial, ⟨trivial, ⟨trivial, ⟨trivial, ⟨trivial, trivial⟩⟩⟩⟩⟩⟩⟩⟩⟩ ?_
    refine WI.nil rfl (thenQ_normal ?_)
    refine W.keepE [3, 4, 5, 6] [(3, .v (.string nm20)), (4, .sl (.calls g20)), (5, .sl (.ints l20)), (6, .i xx20)] (by kernel_rfl) ?_
    refine W.to (⟨[(3, .v (.string nm20)), (4, .sl (.calls g20)), (5, .sl (.ints l20)), (6, .i xx20)], [], [999]⟩) rfl ?_
    refine W.K cok tab4 hnt [] [3, 4, 5, 6, 7, 8] (⟨[(3, .v (.string nm20)), (4, .sl (.calls g20)), (5, .sl (.ints l20)), (6, .i xx20), (7, .sl (.ints ((behind nm20 g20 l20 xx20).1))), (8, .b ((behind nm20 g20 l20 xx20).2))], [], [999]⟩)
      (True ∧ (True ∧ (True ∧ (True ∧ ((True ∧ ((True ∧ (True ∧ (True ∧ (True ∧ True)))) ∧ True)) ∧ (True ∧ (True ∧ (True ∧ (True ∧ (True ∧ True)))))))))) (by kernel_rfl)
      ⟨trivial, ⟨trivial, ⟨trivial, ⟨trivial, ⟨⟨trivial, ⟨⟨trivial, ⟨trivial, ⟨trivial, ⟨trivial, trivial⟩⟩⟩⟩, trivial⟩⟩, ⟨trivial, ⟨trivial, ⟨trivial, ⟨trivial, ⟨trivial, trivial⟩⟩⟩⟩⟩⟩⟩⟩⟩⟩ ?_
    refine W.K cok tab4 hnt [] [3, 4, 5, 6, 7, 8, 9, 10] (⟨[(3, .v (.string nm20)), (4, .sl (.calls g20)), (5, .sl (.ints l20)), (6, .i xx20), (7, .sl (.ints ((behind nm20 g20 l20 xx20).1))), (8, .b ((behind nm20 g20 l20 xx20).2)), (9, .sl (.ints ((behind nm20 g20 l20 xx20).1))), (10, .b ((behind nm20 g20 l20 xx20).2))], [], [999]⟩)
      (True ∧ (True ∧ (True ∧ (True ∧ ((True ∧ ((True ∧ (True ∧ (True ∧ (True ∧ True)))) ∧ True)) ∧ (True ∧ (True ∧ (True ∧ (True ∧ (True ∧ True)))))))))) (by kernel_rfl)
      ⟨trivial, ⟨trivial, ⟨trivial, ⟨trivial, ⟨⟨trivial, ⟨⟨trivial, ⟨trivial, ⟨trivial, ⟨trivial, trivial⟩⟩⟩⟩, trivial⟩⟩, ⟨trivial, ⟨trivial, ⟨trivial, ⟨trivial, ⟨trivial, trivial⟩⟩⟩⟩⟩⟩⟩⟩⟩⟩ ?_
    refine W.seq ?_
    refine W.K cok tab4 hnt [] [3, 4, 5, 6, 7, 8, 9, 10, 53] (⟨[(3, .v (.string nm20)), (4, .sl (.calls g20)), (5, .sl (.ints l20)), (6, .i xx20), (7, .sl (.ints ((behind nm20 g20 l20 xx20).1))), (8, .b ((behind nm20 g20 l20 xx20).2)), (9, .sl (.ints ((behind nm20 g20 l20 xx20).1))), (10, .b ((behind nm20 g20 l20 xx20).2)), (53, .b (((!(decide (((behind nm20 g20 l20 xx20).1) = ((behind nm20 g20 l20 xx20).1)))) || (((behind nm20 g20 l20 xx20).2) != ((behind nm20 g20 l20 xx20).2))) || (!((behind nm20 g20 l20 xx20).2))))], [], [999]⟩)
      (True ∧ (True ∧ ((True ∧ ((True ∧ (True ∧ True)) ∧ True)) ∧ (True ∧ (True ∧ (((!(!(decide (((behind nm20 g20 l20 xx20).1) = ((behind nm20 g20 l20 xx20).1))))) = true → True) ∧ (((!(!(decide (((behind nm20 g20 l20 xx20).1) = ((behind nm20 g20 l20 xx20).1))))) = true → True) ∧ (((!(!(decide (((behind nm20 g20 l20 xx20).1) = ((behind nm20 g20 l20 xx20).1))))) = true → ((((!(!(decide (((behind nm20 g20 l20 xx20).1) = ((behind nm20 g20 l20 xx20).1))))) = true) ∧ True) ∧ (((!(!(decide (((behind nm20 g20 l20 xx20).1) = ((behind nm20 g20 l20 xx20).1))))) = true) ∧ True))) ∧ ((True ∧ (((!(decide (((behind nm20 g20 l20 xx20).1) = ((behind nm20 g20 l20 xx20).1)))) = true → True) ∧ ((!(decide (((behind nm20 g20 l20 xx20).1) = ((behind nm20 g20 l20 xx20).1)))) = false → ((!(!(decide (((behind nm20 g20 l20 xx20).1) = ((behind nm20 g20 l20 xx20).1))))) = true) ∧ True))) ∧ (True ∧ (((!((!(decide (((behind nm20 g20 l20 xx20).1) = ((behind nm20 g20 l20 xx20).1)))) || (((behind nm20 g20 l20 xx20).2) != ((behind nm20 g20 l20 xx20).2)))) = true → True) ∧ (((!((!(decide (((behind nm20 g20 l20 xx20).1) = ((behind nm20 g20 l20 xx20).1)))) || (((behind nm20 g20 l20 xx20).2) != ((behind nm20 g20 l20 xx20).2)))) = true → (((!((!(decide (((behind nm20 g20 l20 xx20).1) = ((behind nm20 g20 l20 xx20).1)))) || (((behind nm20 g20 l20 xx20).2) != ((behind nm20 g20 l20 xx20).2)))) = true) ∧ True)) ∧ ((True ∧ ((((!(decide (((behind nm20 g20 l20 xx20).1) = ((behind nm20 g20 l20 xx20).1)))) || (((behind nm20 g20 l20 xx20).2) != ((behind nm20 g20 l20 xx20).2))) = true → True) ∧ (((!(decide (((behind nm20 g20 l20 xx20).1) = ((behind nm20 g20 l20 xx20).1)))) || (((behind nm20 g20 l20 xx20).2) != ((behind nm20 g20 l20 xx20).2))) = false → ((!((!(decide (((behind nm20 g20 l20 xx20).1) = ((behind nm20 g20 l20 xx20).1)))) || (((behind nm20 g20 l20 xx20).2) != ((behind nm20 g20 l20 xx20).2)))) = true) ∧ True))) ∧ True))))))))))))) (by kernel_rfl)
      ⟨trivial, ⟨trivial, ⟨⟨trivial, ⟨⟨trivial, ⟨trivial, trivial⟩⟩, trivial⟩⟩, ⟨trivial, ⟨trivial, ⟨(fun _ => trivial), ⟨(fun _ => trivial), ⟨(fun hG => ⟨⟨hG, trivial⟩, ⟨hG, trivial⟩⟩), ⟨⟨trivial, ⟨(fun _ => trivial), (fun hp => ⟨(not_t hp), trivial⟩)⟩⟩, ⟨trivial, ⟨(fun _ => trivial), ⟨(fun hG => ⟨hG, trivial⟩), ⟨⟨trivial, ⟨(fun _ => trivial), (fun hp => ⟨(not_t hp), trivial⟩)⟩⟩, trivial⟩⟩⟩⟩⟩⟩⟩⟩⟩⟩⟩⟩⟩ ?_
    refine W.if' (((!(decide (((behind nm20 g20 l20 xx20).1) = ((behind nm20 g20 l20 xx20).1)))) || (((behind nm20 g20 l20 xx20).2) != ((behind nm20 g20 l20 xx20).2))) || (!((behind nm20 g20 l20 xx20).2))) (.b (((!(decide (((behind nm20 g20 l20 xx20).1) = ((behind nm20 g20 l20 xx20).1)))) || (((behind nm20 g20 l20 xx20).2) != ((behind nm20 g20 l20 xx20).2))) || (!((behind nm20 g20 l20 xx20).2)))) (by kernel_rfl) rfl trivial ?_ ?_
    · intro h53
      refine W.K cok tab4 hnt [] [2] (⟨[(2, .b ((decide (((behind nm20 g20 l20 xx20).1) = ((behind nm20 g20 l20 xx20).1))) && (((behind nm20 g20 l20 xx20).2) == ((behind nm20 g20 l20 xx20).2))))], [], [999]⟩)
        (True ∧ (True ∧ ((True ∧ ((True ∧ (True ∧ True)) ∧ True)) ∧ (True ∧ (((decide (((behind nm20 g20 l20 xx20).1) = ((behind nm20 g20 l20 xx20).1))) = true → True) ∧ (((decide (((behind nm20 g20 l20 xx20).1) = ((behind nm20 g20 l20 xx20).1))) = true → True) ∧ (((decide (((behind nm20 g20 l20 xx20).1) = ((behind nm20 g20 l20 xx20).1))) = true → ((((decide (((behind nm20 g20 l20 xx20).1) = ((behind nm20 g20 l20 xx20).1))) = true) ∧ True) ∧ (((decide (((behind nm20 g20 l20 xx20).1) = ((behind nm20 g20 l20 xx20).1))) = true) ∧ True))) ∧ ((True ∧ (((decide (((behind nm20 g20 l20 xx20).1) = ((behind nm20 g20 l20 xx20).1))) = true → ((decide (((behind nm20 g20 l20 xx20).1) = ((behind nm20 g20 l20 xx20).1))) = true) ∧ True) ∧ ((decide (((behind nm20 g20 l20 xx20).1) = ((behind nm20 g20 l20 xx20).1))) = false → True))) ∧ (True ∧ True))))))))) (by kernel_rfl)
        ⟨trivial, ⟨trivial, ⟨⟨trivial, ⟨⟨trivial, ⟨trivial, trivial⟩⟩, trivial⟩⟩, ⟨trivial, ⟨(fun _ => trivial), ⟨(fun _ => trivial), ⟨(fun hG => ⟨⟨hG, trivial⟩, ⟨hG, trivial⟩⟩), ⟨⟨trivial, ⟨(fun hp => ⟨hp, trivial⟩), (fun _ => trivial)⟩⟩, ⟨trivial, trivial⟩⟩⟩⟩⟩⟩⟩⟩⟩ ?_
      refine W.ret (thenQ_ret ?_)
      exact endQ_ret (.b ((decide (((behind nm20 g20 l20 xx20).1) = ((behind nm20 g20 l20 xx20).1))) && (((behind nm20 g20 l20 xx20).2) == ((behind nm20 g20 l20 xx20).2)))) (by kernel_rfl) (@cast ((.bool ((decide (((behind nm20 g20 l20 xx20).1) = ((behind nm20 g20 l20 xx20).1))) && (((behind nm20 g20 l20 xx20).2) == ((behind nm20 g20 l20 xx20).2))) : Value) = .bool true) _ (by kernel_rfl) (congrArg Value.bool (by simp)))
    · intro n53
      have hgd := behind_ok (sb_guard n53)
      obtain ⟨hs, hv, hio, h6, hrn⟩ := right_ok hgd.1
      have ho := ord_inH hio
      refine W.skip (thenQ_normal ?_)
      refine W.K cok tab4 hnt [62] [3, 4, 5, 6, 7, 11] (⟨[(3, .v (.string nm20)), (4, .sl (.calls g20)), (5, .sl (.ints l20)), (6, .i xx20), (7, .sl (.ints ((behind nm20 g20 l20 xx20).1))), (11, .own 62 (List.length ([] : List Int)))], [(62, ⟨3, .row (.ints ([] : List Int))⟩)], [62, 999]⟩)
        (True ∧ (True ∧ True)) (by kernel_rfl)
        ⟨trivial, ⟨trivial, trivial⟩⟩ ?_
      refine W.seq ?_
      refine W.K cok tab4 hnt [] [3, 4, 5, 6, 7, 11, 12] (⟨[(3, .v (.string nm20)), (4, .sl (.calls g20)), (5, .sl (.ints l20)), (6, .i xx20), (7, .sl (.ints ((behind nm20 g20 l20 xx20).1))), (11, .own 62 (List.length ([] : List Int))), (12, .i (0 : Int))], [(62, ⟨3, .row (.ints ([] : List Int))⟩)], [62, 999]⟩)
        (True ∧ True) (by kernel_rfl)
        ⟨trivial, trivial⟩ ?_
      refine W.block ?_
      refine W.loop (ι := Nat × (List Int)) (fun (x : Nat × (List Int)) => match x with | (i, l) => (⟨[(3, .v (.string nm20)), (4, .sl (.calls g20)), (5, .sl (.ints l20)), (6, .i xx20), (7, .sl (.ints ((behind nm20 g20 l20 xx20).1))), (11, .sl (.ints l)), (12, .i ((i : Nat) : Int))], [], [999]⟩ : St))
        (fun (x : Nat × (List Int)) => match x with | (i, l) => (i ≤ l20.length) ∧ (l = (sts nm20 g20 l20 i).getD xx20.toNat []))
        (fun (x : Nat × (List Int)) => match x with | (i, l) => (l20.length - i : Nat)) (0, ([] : List Int)) ?_ ?_ ?_
      · exact (show (0 ≤ l20.length) ∧ (([] : List Int) = (sts nm20 g20 l20 0).getD xx20.toNat []) from ⟨(by first | assumption | omega | rfl | (intro _ hjj; omega) | (simp; done) | (simp; omega)), (by exact sts_zero hgd.2)⟩)
      · exact Sub.of [] (@cast (((((.string nm20) : Value) = (.string nm20)) ∧ (((.calls g20 : Dat) = .calls g20) ∧ (((.ints l20 : Dat) = .ints l20) ∧ (((.int .i64 xx20 : Value) = .int .i64 xx20) ∧ (((.ints ((behind nm20 g20 l20 xx20).1) : Dat) = .ints ((behind nm20 g20 l20 xx20).1)) ∧ ((((List.length ([] : List Int)) = (List.length ([] : List Int))) ∧ (((.ints ([] : List Int) : Dat) = .ints ([] : List Int)) ∧ ((62 : Nat) ∉ ([] : List Nat)))) ∧ (((.int .i64 (0 : Int) : Value) = .int .i64 ((0 : Nat) : Int)) ∧ True))))))) ∧ (True ∧ ((true = true) ∧ (true = true)))) _ (by kernel_rfl) ⟨⟨rfl, ⟨rfl, ⟨rfl, ⟨rfl, ⟨rfl, ⟨⟨rfl, ⟨rfl, (by decide)⟩⟩, ⟨(congrArg (Value.int .i64) (by first | rfl | omega | assumption | simp | simp_all)), trivial⟩⟩⟩⟩⟩⟩⟩, ⟨trivial, ⟨rfl, rfl⟩⟩⟩)
      · rintro ⟨i, l⟩ hC0
        have hC : (i ≤ l20.length) ∧ (l = (sts nm20 g20 l20 i).getD xx20.toNat []) := hC0
        clear hC0
        obtain ⟨hi, hl⟩ := hC
        refine W.to (⟨[(3, .v (.string nm20)), (4, .sl (.calls g20)), (5, .sl (.ints l20)), (6, .i xx20), (7, .sl (.ints ((behind nm20 g20 l20 xx20).1))), (11, .sl (.ints l)), (12, .i ((i : Nat) : Int))], [], [999]⟩) rfl ?_
        have hri := ho i
        have hoc := fun hi => ord_call hv ho (i := i) hi
        have hx2 := inRange_iff.1 hgd.2
        have hso := fun (hi : i < l20.length) => sts_ok hs hv ho (i := i) (by omega) (by omega) _ (getD_mem (sts nm20 g20 l20 i) [] (show xx20.toNat < _ by rw [sts_len]; omega))
        refine W.seq ?_
        refine W.K cok tab4 hnt [] [3, 4, 5, 6, 7, 11, 12, 66] (⟨[(3, .v (.string nm20)), (4, .sl (.calls g20)), (5, .sl (.ints l20)), (6, .i xx20), (7, .sl (.ints ((behind nm20 g20 l20 xx20).1))), (11, .sl (.ints l)), (12, .i ((i : Nat) : Int)), (66, .b (decide (((i : Nat) : Int) < (((List.length l20) : Nat) : Int))))], [], [999]⟩)
          (True ∧ (True ∧ (True ∧ ((True ∧ (True ∧ True)) ∧ True)))) (by kernel_rfl)
          ⟨trivial, ⟨trivial, ⟨trivial, ⟨⟨trivial, ⟨trivial, trivial⟩⟩, trivial⟩⟩⟩⟩ ?_
        refine W.ifP (((i : Nat) : Int) < (((List.length l20) : Nat) : Int)) (.b (decide (((i : Nat) : Int) < (((List.length l20) : Nat) : Int)))) (by kernel_rfl) rfl trivial ?_ ?_
        · intro h66
          refine W.skip (thenQ_normal ?_)
          refine W.seq ?_
          refine W.block ?_
          refine W.K cok tab4 hnt [] [3, 4, 5, 6, 7, 11, 12, 78] (⟨[(3, .v (.string nm20)), (4, .sl (.calls g20)), (5, .sl (.ints l20)), (6, .i xx20), (7, .sl (.ints ((behind nm20 g20 l20 xx20).1))), (11, .sl (.ints l)), (12, .i ((i : Nat) : Int)), (78, .b (decide (((List.getD g20 (Int.toNat (List.getD l20 i 0)) default).obj) = xx20)))], [], [999]⟩)
            (True ∧ (True ∧ (True ∧ ((True ∧ (True ∧ ((0 ≤ ((i : Nat) : Int)) ∧ (((i : Nat) : Int) < (((List.length l20) : Nat) : Int))))) ∧ (True ∧ ((True ∧ (True ∧ ((0 ≤ (List.getD l20 i 0)) ∧ ((List.getD l20 i 0) < (((List.length g20) : Nat) : Int))))) ∧ (True ∧ (True ∧ (True ∧ ((True ∧ (True ∧ True)) ∧ True)))))))))) (by kernel_rfl)
            ⟨trivial, ⟨trivial, ⟨trivial, ⟨⟨trivial, ⟨trivial, ⟨(by omega), (by omega)⟩⟩⟩, ⟨trivial, ⟨⟨trivial, ⟨trivial, ⟨(by (first | omega | (simp only [List.length_append, List.length_cons, List.length_nil, List.length_take, List.length_drop, List.length_set, List.length_replicate, List.length_map] at *; omega) | assumption)), (by (first | omega | (simp only [List.length_append, List.length_cons, List.length_nil, List.length_take, List.length_drop, List.length_set, List.length_replicate, List.length_map] at *; omega) | assumption))⟩⟩⟩, ⟨trivial, ⟨trivial, ⟨trivial, ⟨⟨trivial, ⟨trivial, trivial⟩⟩, trivial⟩⟩⟩⟩⟩⟩⟩⟩⟩⟩ ?_
          refine W.ifP (((List.getD g20 (Int.toNat (List.getD l20 i 0)) default).obj) = xx20) (.b (decide (((List.getD g20 (Int.toNat (List.getD l20 i 0)) default).obj) = xx20))) (by kernel_rfl) rfl trivial ?_ ?_
          · intro h78
            refine W.K cok tab4 hnt [] [3, 4, 5, 6, 7, 12, 13, 14] (⟨[(3, .v (.string nm20)), (4, .sl (.calls g20)), (5, .sl (.ints l20)), (6, .i xx20), (7, .sl (.ints ((behind nm20 g20 l20 xx20).1))), (12, .i ((i : Nat) : Int)), (13, .sl (.ints ((stepObject nm20 l (List.getD g20 (Int.toNat (List.getD l20 i 0)) default)).1))), (14, .b ((stepObject nm20 l (List.getD g20 (Int.toNat (List.getD l20 i 0)) default)).2))], [], [999]⟩)
              (True ∧ (True ∧ (True ∧ (True ∧ (True ∧ ((True ∧ (True ∧ ((0 ≤ ((i : Nat) : Int)) ∧ (((i : Nat) : Int) < (((List.length l20) : Nat) : Int))))) ∧ (True ∧ ((True ∧ (True ∧ ((0 ≤ (List.getD l20 i 0)) ∧ ((List.getD l20 i 0) < (((List.length g20) : Nat) : Int))))) ∧ (True ∧ ((True ∧ ((True ∧ (True ∧ (True ∧ True))) ∧ True)) ∧ (True ∧ (True ∧ (True ∧ (True ∧ (True ∧ True))))))))))))))) (by kernel_rfl)
              ⟨trivial, ⟨trivial, ⟨trivial, ⟨trivial, ⟨trivial, ⟨⟨trivial, ⟨trivial, ⟨(by omega), (by omega)⟩⟩⟩, ⟨trivial, ⟨⟨trivial, ⟨trivial, ⟨(by (first | omega | (simp only [List.length_append, List.length_cons, List.length_nil, List.length_take, List.length_drop, List.length_set, List.length_replicate, List.length_map] at *; omega) | assumption)), (by (first | omega | (simp only [List.length_append, List.length_cons, List.length_nil, List.length_take, List.length_drop, List.length_set, List.length_replicate, List.length_map] at *; omega) | assumption))⟩⟩⟩, ⟨trivial, ⟨⟨trivial, ⟨⟨trivial, ⟨trivial, ⟨trivial, trivial⟩⟩⟩, trivial⟩⟩, ⟨trivial, ⟨trivial, ⟨trivial, ⟨trivial, ⟨trivial, trivial⟩⟩⟩⟩⟩⟩⟩⟩⟩⟩⟩⟩⟩⟩⟩ ?_
            refine W.seq ?_
            refine W.K cok tab4 hnt [] [3, 4, 5, 6, 7, 12, 13, 93] (⟨[(3, .v (.string nm20)), (4, .sl (.calls g20)), (5, .sl (.ints l20)), (6, .i xx20), (7, .sl (.ints ((behind nm20 g20 l20 xx20).1))), (12, .i ((i : Nat) : Int)), (13, .sl (.ints ((stepObject nm20 l (List.getD g20 (Int.toNat (List.getD l20 i 0)) default)).1))), (93, .b (!((stepObject nm20 l (List.getD g20 (Int.toNat (List.getD l20 i 0)) default)).2)))], [], [999]⟩)
              (True ∧ (True ∧ True)) (by kernel_rfl)
              ⟨trivial, ⟨trivial, trivial⟩⟩ ?_
            refine W.if' (!((stepObject nm20 l (List.getD g20 (Int.toNat (List.getD l20 i 0)) default)).2)) (.b (!((stepObject nm20 l (List.getD g20 (Int.toNat (List.getD l20 i 0)) default)).2))) (by kernel_rfl) rfl trivial ?_ ?_
            · intro h93
              refine W.K cok tab4 hnt [] [2] (⟨[(2, .b false)], [], [999]⟩)
                (True ∧ True) (by kernel_rfl)
                ⟨trivial, trivial⟩ ?_
              refine W.ret (thenQ_ret (blockQ_ret (thenQ_ret (thenQ_ret (blockQ_ret (thenQ_ret ?_))))))
              exact endQ_ret (.b false) (by kernel_rfl) (@cast ((.bool false : Value) = .bool true) _ (by kernel_rfl) (congrArg Value.bool (by exact (sb_bad (k := i) (by rw [hl]; exact hso (by omega)) hs (hoc (by omega)) (allN_get hrn i (by omega)) (by unfold ordAt callAt; omega) hl h93).elim)))
            · intro n93
              refine W.skip (thenQ_normal ?_)
              refine W.L cok tab4 hnt [] (⟨[(3, .v (.string nm20)), (4, .sl (.calls g20)), (5, .sl (.ints l20)), (6, .i xx20), (7, .sl (.ints ((behind nm20 g20 l20 xx20).1))), (11, .sl (.ints ((stepObject nm20 l (List.getD g20 (Int.toNat (List.getD l20 i 0)) default)).1))), (12, .i ((i : Nat) : Int)), (13, .sl (.ints ((stepObject nm20 l (List.getD g20 (Int.toNat (List.getD l20 i 0)) default)).1))), (93, .b (!((stepObject nm20 l (List.getD g20 (Int.toNat (List.getD l20 i 0)) default)).2))), (94, .sl (.ints ((stepObject nm20 l (List.getD g20 (Int.toNat (List.getD l20 i 0)) default)).1)))], [], [999]⟩)
                (True ∧ (True ∧ True)) (by kernel_rfl)
                ⟨trivial, ⟨trivial, trivial⟩⟩ ?_
              refine blockQ_normal (thenQ_normal ?_)
              refine W.L cok tab4 hnt [] (⟨[(3, .v (.string nm20)), (4, .sl (.calls g20)), (5, .sl (.ints l20)), (6, .i xx20), (7, .sl (.ints ((behind nm20 g20 l20 xx20).1))), (11, .sl (.ints ((stepObject nm20 l (List.getD g20 (Int.toNat (List.getD l20 i 0)) default)).1))), (12, .i (((i + 1) : Nat) : Int)), (13, .sl (.ints ((stepObject nm20 l (List.getD g20 (Int.toNat (List.getD l20 i 0)) default)).1))), (67, .i ((i : Nat) : Int)), (68, .i (((i + 1) : Nat) : Int)), (93, .b (!((stepObject nm20 l (List.getD g20 (Int.toNat (List.getD l20 i 0)) default)).2))), (94, .sl (.ints ((stepObject nm20 l (List.getD g20 (Int.toNat (List.getD l20 i 0)) default)).1)))], [], [999]⟩)
                (True ∧ ((True ∧ (True ∧ (Fits .i64 (((i + 1) : Nat) : Int)))) ∧ (True ∧ True))) (by kernel_rfl)
                ⟨trivial, ⟨⟨trivial, ⟨trivial, (by exact fits_i64 (by omega) (by omega))⟩⟩, ⟨trivial, trivial⟩⟩⟩ ?_
              refine thenQ_normal ?_
              refine ⟨((i + 1), ((stepObject nm20 l (List.getD g20 (Int.toNat (List.getD l20 i 0)) default)).1)), (show ((i + 1) ≤ l20.length) ∧ (((stepObject nm20 l (List.getD g20 (Int.toNat (List.getD l20 i 0)) default)).1) = (sts nm20 g20 l20 (i + 1)).getD xx20.toNat []) from ⟨(by first | assumption | omega | rfl | (intro _ hjj; omega) | (simp; done) | (simp; omega)), (by first | (rw [hl]; exact (sts_other hgd.2 (hoc (by omega)) (by unfold ordAt callAt; omega)).symm) | (rw [sts_same hgd.2 (hoc (by omega)) (by unfold ordAt callAt; omega), ← hl]; exact sb_step (k := i) (by rw [hl]; exact hso (by omega)) hs (hoc (by omega))))⟩), (show l20.length - (i + 1) < l20.length - i from (by first | omega | (simp_all; omega))), ?_⟩
              exact Sub.of [] (@cast (((((.string nm20) : Value) = (.string nm20)) ∧ (((.calls g20 : Dat) = .calls g20) ∧ (((.ints l20 : Dat) = .ints l20) ∧ (((.int .i64 xx20 : Value) = .int .i64 xx20) ∧ (((.ints ((behind nm20 g20 l20 xx20).1) : Dat) = .ints ((behind nm20 g20 l20 xx20).1)) ∧ (((.ints ((stepObject nm20 l (List.getD g20 (Int.toNat (List.getD l20 i 0)) default)).1) : Dat) = .ints ((stepObject nm20 l (List.getD g20 (Int.toNat (List.getD l20 i 0)) default)).1)) ∧ (((.int .i64 (((i + 1) : Nat) : Int) : Value) = .int .i64 (((i + 1) : Nat) : Int)) ∧ True))))))) ∧ (True ∧ ((true = true) ∧ (true = true)))) _ (by kernel_rfl) ⟨⟨rfl, ⟨rfl, ⟨rfl, ⟨rfl, ⟨rfl, ⟨rfl, ⟨rfl, trivial⟩⟩⟩⟩⟩⟩⟩, ⟨trivial, ⟨rfl, rfl⟩⟩⟩)
          · intro n78
            refine W.skip (blockQ_normal (thenQ_normal ?_))
            refine W.L cok tab4 hnt [] (⟨[(3, .v (.string nm20)), (4, .sl (.calls g20)), (5, .sl (.ints l20)), (6, .i xx20), (7, .sl (.ints ((behind nm20 g20 l20 xx20).1))), (11, .sl (.ints l)), (12, .i (((i + 1) : Nat) : Int)), (67, .i ((i : Nat) : Int)), (68, .i (((i + 1) : Nat) : Int)), (78, .b (decide (((List.getD g20 (Int.toNat (List.getD l20 i 0)) default).obj) = xx20)))], [], [999]⟩)
              (True ∧ ((True ∧ (True ∧ (Fits .i64 (((i + 1) : Nat) : Int)))) ∧ (True ∧ True))) (by kernel_rfl)
              ⟨trivial, ⟨⟨trivial, ⟨trivial, (by exact fits_i64 (by omega) (by omega))⟩⟩, ⟨trivial, trivial⟩⟩⟩ ?_
            refine thenQ_normal ?_
            refine ⟨((i + 1), l), (show ((i + 1) ≤ l20.length) ∧ (l = (sts nm20 g20 l20 (i + 1)).getD xx20.toNat []) from ⟨(by first | assumption | omega | rfl | (intro _ hjj; omega) | (simp; done) | (simp; omega)), (by first | (rw [hl]; exact (sts_other hgd.2 (hoc (by omega)) (by unfold ordAt callAt; omega)).symm) | (rw [sts_same hgd.2 (hoc (by omega)) (by unfold ordAt callAt; omega), ← hl]; exact sb_step (k := i) (by rw [hl]; exact hso (by omega)) hs (hoc (by omega))))⟩), (show l20.length - (i + 1) < l20.length - i from (by first | omega | (simp_all; omega))), ?_⟩
            exact Sub.of [] (@cast (((((.string nm20) : Value) = (.string nm20)) ∧ (((.calls g20 : Dat) = .calls g20) ∧ (((.ints l20 : Dat) = .ints l20) ∧ (((.int .i64 xx20 : Value) = .int .i64 xx20) ∧ (((.ints ((behind nm20 g20 l20 xx20).1) : Dat) = .ints ((behind nm20 g20 l20 xx20).1)) ∧ (((.ints l : Dat) = .ints l) ∧ (((.int .i64 (((i + 1) : Nat) : Int) : Value) = .int .i64 (((i + 1) : Nat) : Int)) ∧ True))))))) ∧ (True ∧ ((true = true) ∧ (true = true)))) _ (by kernel_rfl) ⟨⟨rfl, ⟨rfl, ⟨rfl, ⟨rfl, ⟨rfl, ⟨rfl, ⟨rfl, trivial⟩⟩⟩⟩⟩⟩⟩, ⟨trivial, ⟨rfl, rfl⟩⟩⟩)
        · intro n66
          refine W.exit (thenQ_exit (thenQ_exit (blockQ_hit ?_)))
          refine thenQ_normal ?_
          refine W.K cok tab4 hnt [] [2] (⟨[(2, .b (decide (((behind nm20 g20 l20 xx20).1) = l)))], [], [999]⟩)
            (True ∧ (True ∧ ((True ∧ ((True ∧ (True ∧ True)) ∧ True)) ∧ (True ∧ True)))) (by kernel_rfl)
            ⟨trivial, ⟨trivial, ⟨⟨trivial, ⟨⟨trivial, ⟨trivial, trivial⟩⟩, trivial⟩⟩, ⟨trivial, trivial⟩⟩⟩⟩ ?_
          refine W.ret ?_
          exact endQ_ret (.b (decide (((behind nm20 g20 l20 xx20).1) = l))) (by kernel_rfl) (@cast ((.bool (decide (((behind nm20 g20 l20 xx20).1) = l)) : Value) = .bool true) _ (by kernel_rfl) (congrArg Value.bool (by exact decide_eq_true (by rw [behind_val hgd.1 hgd.2, hl, show i = l20.length by omega]))))
end Go.Proofs.Try
