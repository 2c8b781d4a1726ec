import Derived.Test.YtcjnccepckdiaaaAS
import Derived.Test.YtcjnccepckdiaaaM2
import Derived.Test.YtcjnccepckdiaaaAP100
set_option linter.unusedSimpArgs false
set_option linter.unusedVariables false
namespace Go.Proofs.Try
open Go.Ab Go.RowKit
/-- impl.sums@AheadOf -/
def fs99AheadOf : FnS := fnS [.o, .o] [.int, (.fn1 100 (.ep .calls))] (fun _ (n, h, _) => (.sl (.ints (rowsOf n.toNat (aheadF h))), [], (0 ≤ n ∧ n ≤ 60 ∧ n = h.length)))
abbrev T99AheadOf : Tab := lk [(100, fs100)]
theorem tab99AheadOf : TabOK prog T99AheadOf := (TabOK.cons ok100 ent100 TabOK.nil)
set_option maxRecDepth 100000 in
set_option maxHeartbeats 1000000 in
theorem ok99AheadOf : FnOK prog 99 fs99AheadOf := by
  refine FnOK.mk func99 rfl rfl rfl ?_
  rintro fl ⟨(n : Int), (h : List CallD), _⟩ hpre F hnt0 _
  have hnt : F.nt = 35 := hnt0.trans ntmps99
  replace hpre : (0 ≤ n ∧ n ≤ 60 ∧ n = h.length) := hpre
  have hn := hpre
  refine W.to (⟨[(0, .i n), (1, .fn 100 [.ep [.sl (.calls h)]])], [], [999]⟩) rfl ?_
  refine W.K cok tab99AheadOf hnt [] [0, 1] (⟨[(0, .i n), (1, .fn 100 [.ep [.sl (.calls h)]])], [], [999]⟩)
    (True ∧ True) (by kernel_rfl)
    ⟨trivial, trivial⟩ ?_
  refine W.K cok tab99AheadOf hnt [9] [0, 1, 5] (⟨[(0, .i n), (1, .fn 100 [.ep [.sl (.calls h)]]), (5, .own 9 (List.length (List.replicate (Int.toNat n) (0 : Int))))], [(9, ⟨3, .row (.ints (List.replicate (Int.toNat n) (0 : Int)))⟩)], [9, 999]⟩)
    (True ∧ ((True ∧ (True ∧ ((n = n) ∧ ((0 ≤ n) ∧ (n * 8 ≤ 281474976710656))))) ∧ (True ∧ True))) (by kernel_rfl)
    ⟨trivial, ⟨⟨trivial, ⟨trivial, ⟨rfl, ⟨(by omega), (by omega)⟩⟩⟩⟩, ⟨trivial, trivial⟩⟩⟩ ?_
  refine W.seq ?_
  refine W.K cok tab99AheadOf hnt [] [0, 1, 5, 11, 12] (⟨[(0, .i n), (1, .fn 100 [.ep [.sl (.calls h)]]), (5, .own 9 (List.length (List.replicate (Int.toNat n) (0 : Int)))), (11, .i (((List.length (List.replicate (Int.toNat n) (0 : Int))) : Nat) : Int)), (12, .i (0 : Int))], [(9, ⟨3, .row (.ints (List.replicate (Int.toNat n) (0 : Int)))⟩)], [9, 999]⟩)
    (True ∧ (True ∧ (True ∧ True))) (by kernel_rfl)
    ⟨trivial, ⟨trivial, ⟨trivial, trivial⟩⟩⟩ ?_
  refine W.block ?_
  refine W.loop (ι := Nat × (List Int)) (fun (x : Nat × (List Int)) => match x with | (i, o) => (⟨[(0, .i n), (1, .fn 100 [.ep [.sl (.calls h)]]), (5, .own 9 (List.length o)), (11, .i (((List.length (List.replicate (Int.toNat n) (0 : Int))) : Nat) : Int)), (12, .i ((i : Nat) : Int))], [(9, ⟨3, .row (.ints o)⟩)], [9, 999]⟩ : St))
    (fun (x : Nat × (List Int)) => match x with | (i, o) => (i ≤ n.toNat) ∧ (o = partRows n.toNat (aheadF h) i 0))
    (fun (x : Nat × (List Int)) => match x with | (i, o) => (n.toNat - i : Nat)) (0, (List.replicate (Int.toNat n) (0 : Int))) ?_ ?_ ?_
  · exact (show (0 ≤ n.toNat) ∧ ((List.replicate (Int.toNat n) (0 : Int)) = partRows n.toNat (aheadF h) 0 0) from ⟨(by first | assumption | omega | rfl | (intro _ hjj; omega) | (simp; done) | (simp; omega)), (by exact partRows_zero _ _)⟩)
  · exact Sub.of [] (@cast ((((.int .i64 n : Value) = .int .i64 n) ∧ ((((100 : Nat) = 100) ∧ ((((.ep [.sl (.calls h)] : AV) = .ep [.sl (.calls h)]) ∧ (([] : List Nat) = [])) ∧ True)) ∧ ((((9 : Nat) = 9) ∧ (((List.length (List.replicate (Int.toNat n) (0 : Int))) = (List.length (List.replicate (Int.toNat n) (0 : Int)))) ∧ ((9 : Nat) ∈ ([9, 999] : List Nat)))) ∧ (((.int .i64 (((List.length (List.replicate (Int.toNat n) (0 : Int))) : Nat) : Int) : Value) = .int .i64 (((List.length (List.replicate (Int.toNat n) (0 : Int))) : Nat) : Int)) ∧ (((.int .i64 (0 : Int) : Value) = .int .i64 ((0 : Nat) : Int)) ∧ True))))) ∧ (((((3 : Nat) = 3) ∧ (((.ints (List.replicate (Int.toNat n) (0 : Int)) : Dat) = .ints (List.replicate (Int.toNat n) (0 : Int))) ∧ ((9 : Nat) ∈ ([9, 999] : List Nat)))) ∧ True) ∧ ((true = true) ∧ (true = true)))) _ (by kernel_rfl) ⟨⟨rfl, ⟨⟨rfl, ⟨⟨rfl, rfl⟩, trivial⟩⟩, ⟨⟨rfl, ⟨rfl, (by decide)⟩⟩, ⟨rfl, ⟨(congrArg (Value.int .i64) (by first | rfl | omega | assumption | simp | simp_all)), trivial⟩⟩⟩⟩⟩, ⟨⟨⟨rfl, ⟨rfl, (by decide)⟩⟩, trivial⟩, ⟨rfl, rfl⟩⟩⟩)
  · rintro ⟨i, o⟩ hC0
    have hC : (i ≤ n.toNat) ∧ (o = partRows n.toNat (aheadF h) i 0) := hC0
    clear hC0
    obtain ⟨hi, ho⟩ := hC
    refine W.to (⟨[(0, .i n), (1, .fn 100 [.ep [.sl (.calls h)]]), (5, .own 9 (List.length o)), (11, .i (((List.length (List.replicate (Int.toNat n) (0 : Int))) : Nat) : Int)), (12, .i ((i : Nat) : Int))], [(9, ⟨3, .row (.ints o)⟩)], [9, 999]⟩) rfl ?_
    have hol : o.length = n.toNat := by rw [ho]; exact partRows_len _ _ _ _
    refine W.K cok tab99AheadOf hnt [] [0, 1, 5, 11, 12, 13] (⟨[(0, .i n), (1, .fn 100 [.ep [.sl (.calls h)]]), (5, .own 9 (List.length o)), (11, .i (((List.length (List.replicate (Int.toNat n) (0 : Int))) : Nat) : Int)), (12, .i ((i : Nat) : Int)), (13, .b (decide (((i : Nat) : Int) < (((List.length (List.replicate (Int.toNat n) (0 : Int))) : Nat) : Int))))], [(9, ⟨3, .row (.ints o)⟩)], [9, 999]⟩)
      ((True ∧ (True ∧ True)) ∧ True) (by kernel_rfl)
      ⟨⟨trivial, ⟨trivial, trivial⟩⟩, trivial⟩ ?_
    refine W.seq ?_
    refine W.ifP (((i : Nat) : Int) < (((List.length (List.replicate (Int.toNat n) (0 : Int))) : Nat) : Int)) (.b (decide (((i : Nat) : Int) < (((List.length (List.replicate (Int.toNat n) (0 : Int))) : Nat) : Int)))) (by kernel_rfl) rfl trivial ?_ ?_
    · intro h13
      have h13' := h13
      simp only [List.length_append, List.length_cons, List.length_nil, List.length_take, List.length_drop, List.length_set, List.length_replicate, List.length_map] at h13'
      refine W.skip (thenQ_normal ?_)
      refine W.seq ?_
      refine W.block ?_
      refine W.K cok tab99AheadOf hnt [] [0, 1, 5, 6, 11, 12] (⟨[(0, .i n), (1, .fn 100 [.ep [.sl (.calls h)]]), (5, .own 9 (List.length o)), (6, .i ((i : Nat) : Int)), (11, .i (((List.length (List.replicate (Int.toNat n) (0 : Int))) : Nat) : Int)), (12, .i ((i : Nat) : Int))], [(9, ⟨3, .row (.ints o)⟩)], [9, 999]⟩)
        (True ∧ (True ∧ True)) (by kernel_rfl)
        ⟨trivial, ⟨trivial, trivial⟩⟩ ?_
      refine W.K cok tab99AheadOf hnt [] [0, 1, 5, 6, 11, 12, 15, 16] (⟨[(0, .i n), (1, .fn 100 [.ep [.sl (.calls h)]]), (5, .own 9 (List.length o)), (6, .i ((i : Nat) : Int)), (11, .i (((List.length (List.replicate (Int.toNat n) (0 : Int))) : Nat) : Int)), (12, .i ((i : Nat) : Int)), (15, .i n), (16, .i (0 : Int))], [(9, ⟨3, .row (.ints o)⟩)], [9, 999]⟩)
        (True ∧ (True ∧ True)) (by kernel_rfl)
        ⟨trivial, ⟨trivial, trivial⟩⟩ ?_
      refine W.block ?_
      refine W.loop (ι := Nat × (List Int)) (fun (x : Nat × (List Int)) => match x with | (k, x) => (⟨[(0, .i n), (1, .fn 100 [.ep [.sl (.calls h)]]), (5, .own 9 (List.length o)), (6, .i ((i : Nat) : Int)), (11, .i (((List.length (List.replicate (Int.toNat n) (0 : Int))) : Nat) : Int)), (12, .i ((i : Nat) : Int)), (15, .i n), (16, .i ((k : Nat) : Int))], [(9, ⟨3, .row (.ints x)⟩)], [9, 999]⟩ : St))
        (fun (x : Nat × (List Int)) => match x with | (k, x) => (k ≤ n.toNat) ∧ (x = partRows n.toNat (aheadF h) i k))
        (fun (x : Nat × (List Int)) => match x with | (k, x) => (n.toNat - k : Nat)) (0, o) ?_ ?_ ?_
      · exact (show (0 ≤ n.toNat) ∧ (o = partRows n.toNat (aheadF h) i 0) from ⟨(by first | assumption | omega | rfl | (intro _ hjj; omega) | (simp; done) | (simp; omega)), (by exact ho)⟩)
      · exact Sub.of [] (@cast ((((.int .i64 n : Value) = .int .i64 n) ∧ ((((100 : Nat) = 100) ∧ ((((.ep [.sl (.calls h)] : AV) = .ep [.sl (.calls h)]) ∧ (([] : List Nat) = [])) ∧ True)) ∧ ((((9 : Nat) = 9) ∧ (((List.length o) = (List.length o)) ∧ ((9 : Nat) ∈ ([9, 999] : List Nat)))) ∧ (((.int .i64 ((i : Nat) : Int) : Value) = .int .i64 ((i : Nat) : Int)) ∧ (((.int .i64 (((List.length (List.replicate (Int.toNat n) (0 : Int))) : Nat) : Int) : Value) = .int .i64 (((List.length (List.replicate (Int.toNat n) (0 : Int))) : Nat) : Int)) ∧ (((.int .i64 ((i : Nat) : Int) : Value) = .int .i64 ((i : Nat) : Int)) ∧ (((.int .i64 n : Value) = .int .i64 n) ∧ (((.int .i64 (0 : Int) : Value) = .int .i64 ((0 : Nat) : Int)) ∧ True)))))))) ∧ (((((3 : Nat) = 3) ∧ (((.ints o : Dat) = .ints o) ∧ ((9 : Nat) ∈ ([9, 999] : List Nat)))) ∧ True) ∧ ((true = true) ∧ (true = true)))) _ (by kernel_rfl) ⟨⟨rfl, ⟨⟨rfl, ⟨⟨rfl, rfl⟩, trivial⟩⟩, ⟨⟨rfl, ⟨rfl, (by decide)⟩⟩, ⟨rfl, ⟨rfl, ⟨rfl, ⟨rfl, ⟨(congrArg (Value.int .i64) (by first | rfl | omega | assumption | simp | simp_all)), trivial⟩⟩⟩⟩⟩⟩⟩⟩, ⟨⟨⟨rfl, ⟨rfl, (by decide)⟩⟩, trivial⟩, ⟨rfl, rfl⟩⟩⟩)
      · rintro ⟨k, x⟩ hC0
        have hC : (k ≤ n.toNat) ∧ (x = partRows n.toNat (aheadF h) i k) := hC0
        clear hC0
        obtain ⟨hk, hx⟩ := hC
        refine W.to (⟨[(0, .i n), (1, .fn 100 [.ep [.sl (.calls h)]]), (5, .own 9 (List.length o)), (6, .i ((i : Nat) : Int)), (11, .i (((List.length (List.replicate (Int.toNat n) (0 : Int))) : Nat) : Int)), (12, .i ((i : Nat) : Int)), (15, .i n), (16, .i ((k : Nat) : Int))], [(9, ⟨3, .row (.ints x)⟩)], [9, 999]⟩) rfl ?_
        have hxl : x.length = n.toNat := by rw [hx]; exact partRows_len _ _ _ _
        refine W.K cok tab99AheadOf hnt [] [0, 1, 5, 6, 11, 12, 15, 16, 17] (⟨[(0, .i n), (1, .fn 100 [.ep [.sl (.calls h)]]), (5, .own 9 (List.length o)), (6, .i ((i : Nat) : Int)), (11, .i (((List.length (List.replicate (Int.toNat n) (0 : Int))) : Nat) : Int)), (12, .i ((i : Nat) : Int)), (15, .i n), (16, .i ((k : Nat) : Int)), (17, .b (decide (((k : Nat) : Int) < n)))], [(9, ⟨3, .row (.ints x)⟩)], [9, 999]⟩)
          ((True ∧ (True ∧ True)) ∧ True) (by kernel_rfl)
          ⟨⟨trivial, ⟨trivial, trivial⟩⟩, trivial⟩ ?_
        refine W.seq ?_
        refine W.ifP (((k : Nat) : Int) < n) (.b (decide (((k : Nat) : Int) < n))) (by kernel_rfl) rfl trivial ?_ ?_
        · intro h17
          refine W.skip (thenQ_normal ?_)
          refine W.seq ?_
          refine W.block ?_
          refine W.K cok tab99AheadOf hnt [] [0, 1, 5, 6, 7, 11, 12, 15, 16] (⟨[(0, .i n), (1, .fn 100 [.ep [.sl (.calls h)]]), (5, .own 9 (List.length o)), (6, .i ((i : Nat) : Int)), (7, .i ((k : Nat) : Int)), (11, .i (((List.length (List.replicate (Int.toNat n) (0 : Int))) : Nat) : Int)), (12, .i ((i : Nat) : Int)), (15, .i n), (16, .i ((k : Nat) : Int))], [(9, ⟨3, .row (.ints x)⟩)], [9, 999]⟩)
            (True ∧ (True ∧ True)) (by kernel_rfl)
            ⟨trivial, ⟨trivial, trivial⟩⟩ ?_
          refine W.K cok tab99AheadOf hnt [] [0, 1, 5, 6, 7, 11, 12, 15, 16, 22] (⟨[(0, .i n), (1, .fn 100 [.ep [.sl (.calls h)]]), (5, .own 9 (List.length o)), (6, .i ((i : Nat) : Int)), (7, .i ((k : Nat) : Int)), (11, .i (((List.length (List.replicate (Int.toNat n) (0 : Int))) : Nat) : Int)), (12, .i ((i : Nat) : Int)), (15, .i n), (16, .i ((k : Nat) : Int)), (22, .b (aheadF h ((i : Nat) : Int).toNat ((k : Nat) : Int).toNat))], [(9, ⟨3, .row (.ints x)⟩)], [9, 999]⟩)
            (True ∧ (True ∧ (True ∧ ((True ∧ ((True ∧ (True ∧ (True ∧ True))) ∧ ((0 ≤ ((i : Nat) : Int) ∧ ((i : Nat) : Int) < h.length) ∧ (0 ≤ ((k : Nat) : Int) ∧ ((k : Nat) : Int) < h.length)))) ∧ True)))) (by kernel_rfl)
            ⟨trivial, ⟨trivial, ⟨trivial, ⟨⟨trivial, ⟨⟨trivial, ⟨trivial, ⟨trivial, trivial⟩⟩⟩, ⟨(by omega), (by omega)⟩⟩⟩, trivial⟩⟩⟩⟩ ?_
          refine W.if' (aheadF h ((i : Nat) : Int).toNat ((k : Nat) : Int).toNat) (.b (aheadF h ((i : Nat) : Int).toNat ((k : Nat) : Int).toNat)) (by kernel_rfl) rfl trivial ?_ ?_
          · intro h22
            refine W.L cok tab99AheadOf hnt [] (⟨[(0, .i n), (1, .fn 100 [.ep [.sl (.calls h)]]), (5, .own 9 (List.length o)), (6, .i ((i : Nat) : Int)), (7, .i ((k : Nat) : Int)), (11, .i (((List.length (List.replicate (Int.toNat n) (0 : Int))) : Nat) : Int)), (12, .i ((i : Nat) : Int)), (15, .i n), (16, .i ((k : Nat) : Int)), (22, .b (aheadF h ((i : Nat) : Int).toNat ((k : Nat) : Int).toNat)), (23, .own 9 (List.length o)), (24, .i ((i : Nat) : Int)), (25, .pel 9 1 i 0), (26, .i (List.getD x i 0)), (27, .i ((k : Nat) : Int)), (28, .v (.int .u64 ((k : Nat) : Int))), (29, .i (shlI .i64 (1 : Int) ((k : Nat) : Int))), (30, .i (bitsI .or .i64 (List.getD x i 0) (shlI .i64 (1 : Int) ((k : Nat) : Int)))), (31, .pel 9 1 i 0)], [(9, ⟨3, .row (.ints (List.set x i (bitsI .or .i64 (List.getD x i 0) (shlI .i64 (1 : Int) ((k : Nat) : Int)))))⟩)], [9, 999]⟩)
              (True ∧ (True ∧ ((True ∧ (True ∧ ((0 ≤ ((i : Nat) : Int)) ∧ (((i : Nat) : Int) < (((List.length o) : Nat) : Int))))) ∧ ((True ∧ (i < (List.length x))) ∧ (True ∧ ((True ∧ (Fits .u64 ((k : Nat) : Int))) ∧ ((True ∧ (True ∧ ((0 ≤ ((k : Nat) : Int)) ∧ (Fits .i64 (shlI .i64 (1 : Int) ((k : Nat) : Int)))))) ∧ ((True ∧ (True ∧ True)) ∧ ((True ∧ (True ∧ ((0 ≤ ((i : Nat) : Int)) ∧ (((i : Nat) : Int) < (((List.length o) : Nat) : Int))))) ∧ ((True ∧ (True ∧ (i < (List.length x)))) ∧ True)))))))))) (by kernel_rfl)
              ⟨trivial, ⟨trivial, ⟨⟨trivial, ⟨trivial, ⟨(by omega), (by omega)⟩⟩⟩, ⟨⟨trivial, (by omega)⟩, ⟨trivial, ⟨⟨trivial, (by exact fits_u64 (by omega) (by omega))⟩, ⟨⟨trivial, ⟨trivial, ⟨(by omega), (by exact fits_shl (by omega))⟩⟩⟩, ⟨⟨trivial, ⟨trivial, trivial⟩⟩, ⟨⟨trivial, ⟨trivial, ⟨(by omega), (by omega)⟩⟩⟩, ⟨⟨trivial, ⟨trivial, (by omega)⟩⟩, trivial⟩⟩⟩⟩⟩⟩⟩⟩⟩⟩ ?_
            refine blockQ_normal (thenQ_normal ?_)
            refine W.L cok tab99AheadOf hnt [] (⟨[(0, .i n), (1, .fn 100 [.ep [.sl (.calls h)]]), (5, .own 9 (List.length o)), (6, .i ((i : Nat) : Int)), (7, .i ((k : Nat) : Int)), (11, .i (((List.length (List.replicate (Int.toNat n) (0 : Int))) : Nat) : Int)), (12, .i ((i : Nat) : Int)), (15, .i n), (16, .i (((k + 1) : Nat) : Int)), (22, .b (aheadF h ((i : Nat) : Int).toNat ((k : Nat) : Int).toNat)), (23, .own 9 (List.length o)), (24, .i ((i : Nat) : Int)), (25, .pel 9 1 i 0), (26, .i (List.getD x i 0)), (27, .i ((k : Nat) : Int)), (28, .v (.int .u64 ((k : Nat) : Int))), (29, .i (shlI .i64 (1 : Int) ((k : Nat) : Int))), (30, .i (bitsI .or .i64 (List.getD x i 0) (shlI .i64 (1 : Int) ((k : Nat) : Int)))), (31, .pel 9 1 i 0), (32, .i (((k + 1) : Nat) : Int))], [(9, ⟨3, .row (.ints (List.set x i (bitsI .or .i64 (List.getD x i 0) (shlI .i64 (1 : Int) ((k : Nat) : Int)))))⟩)], [9, 999]⟩)
              ((True ∧ (True ∧ (Fits .i64 (((k + 1) : Nat) : Int)))) ∧ (True ∧ True)) (by kernel_rfl)
              ⟨⟨trivial, ⟨trivial, (by exact fits_i64 (by omega) (by omega))⟩⟩, ⟨trivial, trivial⟩⟩ ?_
            refine thenQ_normal ?_
            refine ⟨((k + 1), (List.set x i (bitsI .or .i64 (List.getD x i 0) (shlI .i64 (1 : Int) ((k : Nat) : Int))))), (show ((k + 1) ≤ n.toNat) ∧ ((List.set x i (bitsI .or .i64 (List.getD x i 0) (shlI .i64 (1 : Int) ((k : Nat) : Int)))) = partRows n.toNat (aheadF h) i (k + 1)) from ⟨(by first | assumption | omega | rfl | (intro _ hjj; omega) | (simp; done) | (simp; omega)), (by first | (rw [hx]; exact partRows_skip n22) | (rw [hx]; exact partRows_set (by omega) (by rw [partRows_get _ (by omega)]; exact mask_or _ (by omega) h22)))⟩), (show n.toNat - (k + 1) < n.toNat - k from (by first | omega | (simp_all; omega))), ?_⟩
            exact Sub.of [] (@cast ((((.int .i64 n : Value) = .int .i64 n) ∧ ((((100 : Nat) = 100) ∧ ((((.ep [.sl (.calls h)] : AV) = .ep [.sl (.calls h)]) ∧ (([] : List Nat) = [])) ∧ True)) ∧ ((((9 : Nat) = 9) ∧ (((List.length o) = (List.length o)) ∧ ((9 : Nat) ∈ ([9, 999] : List Nat)))) ∧ (((.int .i64 ((i : Nat) : Int) : Value) = .int .i64 ((i : Nat) : Int)) ∧ (((.int .i64 (((List.length (List.replicate (Int.toNat n) (0 : Int))) : Nat) : Int) : Value) = .int .i64 (((List.length (List.replicate (Int.toNat n) (0 : Int))) : Nat) : Int)) ∧ (((.int .i64 ((i : Nat) : Int) : Value) = .int .i64 ((i : Nat) : Int)) ∧ (((.int .i64 n : Value) = .int .i64 n) ∧ (((.int .i64 (((k + 1) : Nat) : Int) : Value) = .int .i64 (((k + 1) : Nat) : Int)) ∧ True)))))))) ∧ (((((3 : Nat) = 3) ∧ (((.ints (List.set x i (bitsI .or .i64 (List.getD x i 0) (shlI .i64 (1 : Int) ((k : Nat) : Int)))) : Dat) = .ints (List.set x i (bitsI .or .i64 (List.getD x i 0) (shlI .i64 (1 : Int) ((k : Nat) : Int))))) ∧ ((9 : Nat) ∈ ([9, 999] : List Nat)))) ∧ True) ∧ ((true = true) ∧ (true = true)))) _ (by kernel_rfl) ⟨⟨rfl, ⟨⟨rfl, ⟨⟨rfl, rfl⟩, trivial⟩⟩, ⟨⟨rfl, ⟨rfl, (by decide)⟩⟩, ⟨rfl, ⟨rfl, ⟨rfl, ⟨rfl, ⟨rfl, trivial⟩⟩⟩⟩⟩⟩⟩⟩, ⟨⟨⟨rfl, ⟨rfl, (by decide)⟩⟩, trivial⟩, ⟨rfl, rfl⟩⟩⟩)
          · intro n22
            refine W.skip (blockQ_normal (thenQ_normal ?_))
            refine W.L cok tab99AheadOf hnt [] (⟨[(0, .i n), (1, .fn 100 [.ep [.sl (.calls h)]]), (5, .own 9 (List.length o)), (6, .i ((i : Nat) : Int)), (7, .i ((k : Nat) : Int)), (11, .i (((List.length (List.replicate (Int.toNat n) (0 : Int))) : Nat) : Int)), (12, .i ((i : Nat) : Int)), (15, .i n), (16, .i (((k + 1) : Nat) : Int)), (22, .b (aheadF h ((i : Nat) : Int).toNat ((k : Nat) : Int).toNat)), (32, .i (((k + 1) : Nat) : Int))], [(9, ⟨3, .row (.ints x)⟩)], [9, 999]⟩)
              ((True ∧ (True ∧ (Fits .i64 (((k + 1) : Nat) : Int)))) ∧ (True ∧ True)) (by kernel_rfl)
              ⟨⟨trivial, ⟨trivial, (by exact fits_i64 (by omega) (by omega))⟩⟩, ⟨trivial, trivial⟩⟩ ?_
            refine thenQ_normal ?_
            refine ⟨((k + 1), x), (show ((k + 1) ≤ n.toNat) ∧ (x = partRows n.toNat (aheadF h) i (k + 1)) from ⟨(by first | assumption | omega | rfl | (intro _ hjj; omega) | (simp; done) | (simp; omega)), (by first | (rw [hx]; exact partRows_skip n22) | (rw [hx]; exact partRows_set (by omega) (by rw [partRows_get _ (by omega)]; exact mask_or _ (by omega) h22)))⟩), (show n.toNat - (k + 1) < n.toNat - k from (by first | omega | (simp_all; omega))), ?_⟩
            exact Sub.of [] (@cast ((((.int .i64 n : Value) = .int .i64 n) ∧ ((((100 : Nat) = 100) ∧ ((((.ep [.sl (.calls h)] : AV) = .ep [.sl (.calls h)]) ∧ (([] : List Nat) = [])) ∧ True)) ∧ ((((9 : Nat) = 9) ∧ (((List.length o) = (List.length o)) ∧ ((9 : Nat) ∈ ([9, 999] : List Nat)))) ∧ (((.int .i64 ((i : Nat) : Int) : Value) = .int .i64 ((i : Nat) : Int)) ∧ (((.int .i64 (((List.length (List.replicate (Int.toNat n) (0 : Int))) : Nat) : Int) : Value) = .int .i64 (((List.length (List.replicate (Int.toNat n) (0 : Int))) : Nat) : Int)) ∧ (((.int .i64 ((i : Nat) : Int) : Value) = .int .i64 ((i : Nat) : Int)) ∧ (((.int .i64 n : Value) = .int .i64 n) ∧ (((.int .i64 (((k + 1) : Nat) : Int) : Value) = .int .i64 (((k + 1) : Nat) : Int)) ∧ True)))))))) ∧ (((((3 : Nat) = 3) ∧ (((.ints x : Dat) = .ints x) ∧ ((9 : Nat) ∈ ([9, 999] : List Nat)))) ∧ True) ∧ ((true = true) ∧ (true = true)))) _ (by kernel_rfl) ⟨⟨rfl, ⟨⟨rfl, ⟨⟨rfl, rfl⟩, trivial⟩⟩, ⟨⟨rfl, ⟨rfl, (by decide)⟩⟩, ⟨rfl, ⟨rfl, ⟨rfl, ⟨rfl, ⟨rfl, trivial⟩⟩⟩⟩⟩⟩⟩⟩, ⟨⟨⟨rfl, ⟨rfl, (by decide)⟩⟩, trivial⟩, ⟨rfl, rfl⟩⟩⟩)
        · intro n17
          refine W.exit (thenQ_exit (thenQ_exit (blockQ_hit ?_)))
          refine blockQ_normal (thenQ_normal ?_)
          refine W.L cok tab99AheadOf hnt [] (⟨[(0, .i n), (1, .fn 100 [.ep [.sl (.calls h)]]), (5, .own 9 (List.length o)), (6, .i ((i : Nat) : Int)), (11, .i (((List.length (List.replicate (Int.toNat n) (0 : Int))) : Nat) : Int)), (12, .i (((i + 1) : Nat) : Int)), (15, .i n), (16, .i ((k : Nat) : Int)), (17, .b (decide (((k : Nat) : Int) < n))), (33, .i (((i + 1) : Nat) : Int))], [(9, ⟨3, .row (.ints x)⟩)], [9, 999]⟩)
            ((True ∧ (True ∧ (Fits .i64 (((i + 1) : Nat) : Int)))) ∧ (True ∧ True)) (by kernel_rfl)
            ⟨⟨trivial, ⟨trivial, (by exact fits_i64 (by omega) (by omega))⟩⟩, ⟨trivial, trivial⟩⟩ ?_
          refine thenQ_normal ?_
          refine ⟨((i + 1), x), (show ((i + 1) ≤ n.toNat) ∧ (x = partRows n.toNat (aheadF h) (i + 1) 0) from ⟨(by first | assumption | omega | rfl | (intro _ hjj; omega) | (simp; done) | (simp; omega)), (by rw [hx, ← partRows_next]; congr 1; omega)⟩), (show n.toNat - (i + 1) < n.toNat - i from (by first | omega | (simp_all; omega))), ?_⟩
          exact Sub.of [] (@cast ((((.int .i64 n : Value) = .int .i64 n) ∧ ((((100 : Nat) = 100) ∧ ((((.ep [.sl (.calls h)] : AV) = .ep [.sl (.calls h)]) ∧ (([] : List Nat) = [])) ∧ True)) ∧ ((((9 : Nat) = 9) ∧ (((List.length o) = (List.length x)) ∧ ((9 : Nat) ∈ ([9, 999] : List Nat)))) ∧ (((.int .i64 (((List.length (List.replicate (Int.toNat n) (0 : Int))) : Nat) : Int) : Value) = .int .i64 (((List.length (List.replicate (Int.toNat n) (0 : Int))) : Nat) : Int)) ∧ (((.int .i64 (((i + 1) : Nat) : Int) : Value) = .int .i64 (((i + 1) : Nat) : Int)) ∧ True))))) ∧ (((((3 : Nat) = 3) ∧ (((.ints x : Dat) = .ints x) ∧ ((9 : Nat) ∈ ([9, 999] : List Nat)))) ∧ True) ∧ ((true = true) ∧ (true = true)))) _ (by kernel_rfl) ⟨⟨rfl, ⟨⟨rfl, ⟨⟨rfl, rfl⟩, trivial⟩⟩, ⟨⟨rfl, ⟨(by first | rfl | omega | assumption | (symm; assumption) | simp | simp_all), (by decide)⟩⟩, ⟨rfl, ⟨rfl, trivial⟩⟩⟩⟩⟩, ⟨⟨⟨rfl, ⟨rfl, (by decide)⟩⟩, trivial⟩, ⟨rfl, rfl⟩⟩⟩)
    · intro n13
      have n13' := n13
      simp only [List.length_append, List.length_cons, List.length_nil, List.length_take, List.length_drop, List.length_set, List.length_replicate, List.length_map] at n13'
      refine W.exit (thenQ_exit (thenQ_exit (blockQ_hit ?_)))
      refine thenQ_normal ?_
      refine W.K cok tab99AheadOf hnt [] [4] (⟨[(4, .own 9 (List.length o))], [(9, ⟨3, .row (.ints o)⟩)], [9, 999]⟩)
        (True ∧ (True ∧ True)) (by kernel_rfl)
        ⟨trivial, ⟨trivial, trivial⟩⟩ ?_
      refine W.subS [] (⟨[(4, .sl (.ints o))], [], [999]⟩) (@cast (((((List.length o) = (List.length o)) ∧ (((.ints o : Dat) = .ints o) ∧ ((9 : Nat) ∉ ([] : List Nat)))) ∧ True) ∧ (True ∧ ((true = true) ∧ (true = true)))) _ (by kernel_rfl) ⟨⟨⟨rfl, ⟨rfl, (by decide)⟩⟩, trivial⟩, ⟨trivial, ⟨rfl, rfl⟩⟩⟩) ?_
      refine W.ret ?_
      exact endQ_ret (.sl (.ints o)) (by kernel_rfl) (@cast ((.ints o : Dat) = .ints (rowsOf n.toNat (aheadF h))) _ (by kernel_rfl) (congrArg Dat.ints (by rw [ho, ← partRows_end]; congr 1; omega)))
theorem ent99AheadOf : Entr prog 99 := ⟨_, func99, rfl, by decide⟩

end Go.Proofs.Try
