import Derived.Test.YtcjnccepckdiaaaAS
import Derived.Test.YtcjnccepckdiaaaM2
import Derived.Test.YtcjnccepckdiaaaAP113
import Derived.Test.YtcjnccepckdiaaaAP78
set_option linter.unusedSimpArgs false
set_option linter.unusedVariables false
namespace Go.Proofs.Try
open Go.Ab Go.RowKit
/-- spec.ahead -/
def fs101 : FnS := fnS [.s .calls] [.calls] (fun _ (h, _) => (.sl (.ints (rowsOf h.length (aheadF h))), [], (h.length ≤ 60)))
abbrev T101 : Tab := lk [(78, fs78), (113, fs113)]
theorem tab101 : TabOK prog T101 := (TabOK.cons ok78 ent78 (TabOK.cons ok113 ent113 TabOK.nil))
set_option maxRecDepth 100000 in
set_option maxHeartbeats 1000000 in
theorem ok101 : FnOK prog 101 fs101 := by
  refine FnOK.mk func101 rfl rfl rfl ?_
  rintro fl ⟨(h : List CallD), _⟩ hpre F hnt0 _
  have hnt : F.nt = 38 := hnt0.trans ntmps101
  replace hpre : (h.length ≤ 60) := hpre
  have hn := hpre
  refine W.to (⟨[(0, .sl (.calls h))], [], [999]⟩) rfl ?_
  refine W.lenOf 0 (.calls h) (by kernel_rfl) ?_
  intro hl_h; replace hl_h : List.length h ≤ 9223372036854775807 := hl_h
  refine W.K cok tab101 hnt [] [0] (⟨[(0, .sl (.calls h))], [], [999]⟩)
    (True ∧ True) (by kernel_rfl)
    ⟨trivial, trivial⟩ ?_
  refine W.K cok tab101 hnt [7] [0, 3] (⟨[(0, .sl (.calls h)), (3, .own 7 (List.length ([] : List Int)))], [(7, ⟨3, .row (.ints ([] : List Int))⟩)], [7, 999]⟩)
    (True ∧ (True ∧ True)) (by kernel_rfl)
    ⟨trivial, ⟨trivial, trivial⟩⟩ ?_
  refine W.seq ?_
  refine W.K cok tab101 hnt [] [0, 3, 4] (⟨[(0, .sl (.calls h)), (3, .own 7 (List.length ([] : List Int))), (4, .i (0 : Int))], [(7, ⟨3, .row (.ints ([] : List Int))⟩)], [7, 999]⟩)
    (True ∧ True) (by kernel_rfl)
    ⟨trivial, trivial⟩ ?_
  refine W.block ?_
  refine W.loop (ι := (List Int) × Nat) (fun (x : (List Int) × Nat) => match x with | (o, i) => (⟨[(0, .sl (.calls h)), (3, .own 7 (List.length o)), (4, .i ((i : Nat) : Int))], [(7, ⟨3, .row (.ints o)⟩)], [7, 999]⟩ : St))
    (fun (x : (List Int) × Nat) => match x with | (o, i) => (i ≤ h.length) ∧ (o = (List.range i).map fun j => mask h.length (aheadF h j)))
    (fun (x : (List Int) × Nat) => match x with | (o, i) => (h.length - i : Nat)) (([] : List Int), 0) ?_ ?_ ?_
  · exact (show (0 ≤ h.length) ∧ (([] : List Int) = (List.range 0).map fun j => mask h.length (aheadF h j)) from ⟨(by first | assumption | omega | rfl | (intro _ hjj; omega) | (simp; done) | (simp; omega)), (by rfl)⟩)
  · exact Sub.of [] (@cast ((((.calls h : Dat) = .calls h) ∧ ((((7 : Nat) = 7) ∧ (((List.length ([] : List Int)) = (List.length ([] : List Int))) ∧ ((7 : Nat) ∈ ([7, 999] : List Nat)))) ∧ (((.int .i64 (0 : Int) : Value) = .int .i64 ((0 : Nat) : Int)) ∧ True))) ∧ (((((3 : Nat) = 3) ∧ (((.ints ([] : List Int) : Dat) = .ints ([] : List Int)) ∧ ((7 : Nat) ∈ ([7, 999] : List Nat)))) ∧ True) ∧ ((true = true) ∧ (true = true)))) _ (by kernel_rfl) ⟨⟨rfl, ⟨⟨rfl, ⟨rfl, (by decide)⟩⟩, ⟨(congrArg (Value.int .i64) (by first | rfl | omega | assumption | simp | simp_all)), trivial⟩⟩⟩, ⟨⟨⟨rfl, ⟨rfl, (by decide)⟩⟩, trivial⟩, ⟨rfl, rfl⟩⟩⟩)
  · rintro ⟨o, i⟩ hC0
    have hC : (i ≤ h.length) ∧ (o = (List.range i).map fun j => mask h.length (aheadF h j)) := hC0
    clear hC0
    obtain ⟨hi, ho⟩ := hC
    refine W.to (⟨[(0, .sl (.calls h)), (3, .own 7 (List.length o)), (4, .i ((i : Nat) : Int))], [(7, ⟨3, .row (.ints o)⟩)], [7, 999]⟩) rfl ?_
    have hol : o.length = i := by rw [ho]; simp
    refine W.seq ?_
    refine W.K cok tab101 hnt [] [0, 3, 4, 11] (⟨[(0, .sl (.calls h)), (3, .own 7 (List.length o)), (4, .i ((i : Nat) : Int)), (11, .b (decide (((i : Nat) : Int) < (((List.length h) : Nat) : Int))))], [(7, ⟨3, .row (.ints o)⟩)], [7, 999]⟩)
      (True ∧ (True ∧ (True ∧ ((True ∧ (True ∧ True)) ∧ True)))) (by kernel_rfl)
      ⟨trivial, ⟨trivial, ⟨trivial, ⟨⟨trivial, ⟨trivial, trivial⟩⟩, trivial⟩⟩⟩⟩ ?_
    refine W.ifP (((i : Nat) : Int) < (((List.length h) : Nat) : Int)) (.b (decide (((i : Nat) : Int) < (((List.length h) : Nat) : Int)))) (by kernel_rfl) rfl trivial ?_ ?_
    · intro h11
      refine W.skip (thenQ_normal ?_)
      refine W.seq ?_
      refine W.block ?_
      refine W.K cok tab101 hnt [] [0, 3, 4, 5] (⟨[(0, .sl (.calls h)), (3, .own 7 (List.length o)), (4, .i ((i : Nat) : Int)), (5, .i (0 : Int))], [(7, ⟨3, .row (.ints o)⟩)], [7, 999]⟩)
        (True ∧ True) (by kernel_rfl)
        ⟨trivial, trivial⟩ ?_
      refine W.seq ?_
      refine W.K cok tab101 hnt [] [0, 3, 4, 5, 6] (⟨[(0, .sl (.calls h)), (3, .own 7 (List.length o)), (4, .i ((i : Nat) : Int)), (5, .i (0 : Int)), (6, .i (0 : Int))], [(7, ⟨3, .row (.ints o)⟩)], [7, 999]⟩)
        (True ∧ True) (by kernel_rfl)
        ⟨trivial, trivial⟩ ?_
      refine W.block ?_
      refine W.loop (ι := Int × Nat) (fun (x : Int × Nat) => match x with | (r, k) => (⟨[(0, .sl (.calls h)), (3, .own 7 (List.length o)), (4, .i ((i : Nat) : Int)), (5, .i r), (6, .i ((k : Nat) : Int))], [(7, ⟨3, .row (.ints o)⟩)], [7, 999]⟩ : St))
        (fun (x : Int × Nat) => match x with | (r, k) => (k ≤ h.length) ∧ (r = mask k (aheadF h i)))
        (fun (x : Int × Nat) => match x with | (r, k) => (h.length - k : Nat)) ((0 : Int), 0) ?_ ?_ ?_
      · exact (show (0 ≤ h.length) ∧ ((0 : Int) = mask 0 (aheadF h i)) from ⟨(by first | assumption | omega | rfl | (intro _ hjj; omega) | (simp; done) | (simp; omega)), (by rfl)⟩)
      · exact Sub.of [] (@cast ((((.calls h : Dat) = .calls h) ∧ ((((7 : Nat) = 7) ∧ (((List.length o) = (List.length o)) ∧ ((7 : Nat) ∈ ([7, 999] : List Nat)))) ∧ (((.int .i64 ((i : Nat) : Int) : Value) = .int .i64 ((i : Nat) : Int)) ∧ (((.int .i64 (0 : Int) : Value) = .int .i64 (0 : Int)) ∧ (((.int .i64 (0 : Int) : Value) = .int .i64 ((0 : Nat) : Int)) ∧ True))))) ∧ (((((3 : Nat) = 3) ∧ (((.ints o : Dat) = .ints o) ∧ ((7 : Nat) ∈ ([7, 999] : List Nat)))) ∧ True) ∧ ((true = true) ∧ (true = true)))) _ (by kernel_rfl) ⟨⟨rfl, ⟨⟨rfl, ⟨rfl, (by decide)⟩⟩, ⟨rfl, ⟨rfl, ⟨(congrArg (Value.int .i64) (by first | rfl | omega | assumption | simp | simp_all)), trivial⟩⟩⟩⟩⟩, ⟨⟨⟨rfl, ⟨rfl, (by decide)⟩⟩, trivial⟩, ⟨rfl, rfl⟩⟩⟩)
      · rintro ⟨r, k⟩ hC0
        have hC : (k ≤ h.length) ∧ (r = mask k (aheadF h i)) := hC0
        clear hC0
        obtain ⟨hk, hr⟩ := hC
        refine W.to (⟨[(0, .sl (.calls h)), (3, .own 7 (List.length o)), (4, .i ((i : Nat) : Int)), (5, .i r), (6, .i ((k : Nat) : Int))], [(7, ⟨3, .row (.ints o)⟩)], [7, 999]⟩) rfl ?_
        have hmb := mask_bnd k (aheadF h i) (by omega)
        refine W.seq ?_
        refine W.K cok tab101 hnt [] [0, 3, 4, 5, 6, 17] (⟨[(0, .sl (.calls h)), (3, .own 7 (List.length o)), (4, .i ((i : Nat) : Int)), (5, .i r), (6, .i ((k : Nat) : Int)), (17, .b (decide (((k : Nat) : Int) < (((List.length h) : Nat) : Int))))], [(7, ⟨3, .row (.ints o)⟩)], [7, 999]⟩)
          (True ∧ (True ∧ (True ∧ ((True ∧ (True ∧ True)) ∧ True)))) (by kernel_rfl)
          ⟨trivial, ⟨trivial, ⟨trivial, ⟨⟨trivial, ⟨trivial, trivial⟩⟩, trivial⟩⟩⟩⟩ ?_
        refine W.ifP (((k : Nat) : Int) < (((List.length h) : Nat) : Int)) (.b (decide (((k : Nat) : Int) < (((List.length h) : Nat) : Int)))) (by kernel_rfl) rfl trivial ?_ ?_
        · intro h17
          refine W.skip (thenQ_normal ?_)
          refine W.seq ?_
          refine W.block ?_
          refine W.KA cok tab101 hnt [] [0, 3, 4, 5, 6, 28] (⟨[(0, .sl (.calls h)), (3, .own 7 (List.length o)), (4, .i ((i : Nat) : Int)), (5, .i r), (6, .i ((k : Nat) : Int)), (28, .b (isBefore (List.getD h k default) (List.getD h i default)))], [(7, ⟨3, .row (.ints o)⟩)], [7, 999]⟩)
            (True ∧ (True ∧ ((True ∧ (True ∧ ((0 ≤ ((k : Nat) : Int)) ∧ (((k : Nat) : Int) < (((List.length h) : Nat) : Int))))) ∧ (True ∧ (True ∧ (True ∧ ((True ∧ (True ∧ ((0 ≤ ((i : Nat) : Int)) ∧ (((i : Nat) : Int) < (((List.length h) : Nat) : Int))))) ∧ (True ∧ ((True ∧ ((True ∧ (True ∧ True)) ∧ True)) ∧ True))))))))) (by kernel_rfl) (by kernel_rfl)
            ⟨trivial, ⟨trivial, ⟨⟨trivial, ⟨trivial, ⟨(by omega), (by omega)⟩⟩⟩, ⟨trivial, ⟨trivial, ⟨trivial, ⟨⟨trivial, ⟨trivial, ⟨(by omega), (by omega)⟩⟩⟩, ⟨trivial, ⟨⟨trivial, ⟨⟨trivial, ⟨trivial, trivial⟩⟩, trivial⟩⟩, trivial⟩⟩⟩⟩⟩⟩⟩⟩⟩ ?_
          refine W.if' (isBefore (List.getD h k default) (List.getD h i default)) (.b (isBefore (List.getD h k default) (List.getD h i default))) (by kernel_rfl) rfl trivial ?_ ?_
          · intro h28
            have hpw := power_le (n := (k : Int)) (by omega)
            have hpw0 := power_pos (k : Int)
            refine W.L cok tab101 hnt [] (⟨[(0, .sl (.calls h)), (3, .own 7 (List.length o)), (4, .i ((i : Nat) : Int)), (5, .i (r + (power ((k : Nat) : Int)))), (6, .i ((k : Nat) : Int)), (28, .b (isBefore (List.getD h k default) (List.getD h i default))), (29, .i r), (30, .i ((k : Nat) : Int)), (31, .i (power ((k : Nat) : Int))), (32, .i (r + (power ((k : Nat) : Int))))], [(7, ⟨3, .row (.ints o)⟩)], [7, 999]⟩)
              (True ∧ (True ∧ ((True ∧ ((True ∧ True) ∧ (((k : Nat) : Int) ≤ 60))) ∧ ((True ∧ (True ∧ (Fits .i64 (r + (power ((k : Nat) : Int)))))) ∧ (True ∧ True))))) (by kernel_rfl)
              ⟨trivial, ⟨trivial, ⟨⟨trivial, ⟨⟨trivial, trivial⟩, (by omega)⟩⟩, ⟨⟨trivial, ⟨trivial, (by exact fits_i64 (by omega) (by omega))⟩⟩, ⟨trivial, trivial⟩⟩⟩⟩⟩ ?_
            refine blockQ_normal (thenQ_normal ?_)
            refine W.L cok tab101 hnt [] (⟨[(0, .sl (.calls h)), (3, .own 7 (List.length o)), (4, .i ((i : Nat) : Int)), (5, .i (r + (power ((k : Nat) : Int)))), (6, .i (((k + 1) : Nat) : Int)), (18, .i ((k : Nat) : Int)), (19, .i (((k + 1) : Nat) : Int)), (28, .b (isBefore (List.getD h k default) (List.getD h i default))), (29, .i r), (30, .i ((k : Nat) : Int)), (31, .i (power ((k : Nat) : Int))), (32, .i (r + (power ((k : Nat) : Int))))], [(7, ⟨3, .row (.ints o)⟩)], [7, 999]⟩)
              (True ∧ ((True ∧ (True ∧ (Fits .i64 (((k + 1) : Nat) : Int)))) ∧ (True ∧ True))) (by kernel_rfl)
              ⟨trivial, ⟨⟨trivial, ⟨trivial, (by exact fits_i64 (by omega) (by omega))⟩⟩, ⟨trivial, trivial⟩⟩⟩ ?_
            refine thenQ_normal ?_
            refine ⟨((r + (power ((k : Nat) : Int))), (k + 1)), (show ((k + 1) ≤ h.length) ∧ ((r + (power ((k : Nat) : Int))) = mask (k + 1) (aheadF h i)) from ⟨(by first | assumption | omega | rfl | (intro _ hjj; omega) | (simp; done) | (simp; omega)), (by first | (rw [hr]; exact (mask_skip (n28)).symm) | (rw [hr, mask_add (h28)]; rfl))⟩), (show h.length - (k + 1) < h.length - k from (by first | omega | (simp_all; omega))), ?_⟩
            exact Sub.of [] (@cast ((((.calls h : Dat) = .calls h) ∧ ((((7 : Nat) = 7) ∧ (((List.length o) = (List.length o)) ∧ ((7 : Nat) ∈ ([7, 999] : List Nat)))) ∧ (((.int .i64 ((i : Nat) : Int) : Value) = .int .i64 ((i : Nat) : Int)) ∧ (((.int .i64 (r + (power ((k : Nat) : Int))) : Value) = .int .i64 (r + (power ((k : Nat) : Int)))) ∧ (((.int .i64 (((k + 1) : Nat) : Int) : Value) = .int .i64 (((k + 1) : Nat) : Int)) ∧ True))))) ∧ (((((3 : Nat) = 3) ∧ (((.ints o : Dat) = .ints o) ∧ ((7 : Nat) ∈ ([7, 999] : List Nat)))) ∧ True) ∧ ((true = true) ∧ (true = true)))) _ (by kernel_rfl) ⟨⟨rfl, ⟨⟨rfl, ⟨rfl, (by decide)⟩⟩, ⟨rfl, ⟨rfl, ⟨rfl, trivial⟩⟩⟩⟩⟩, ⟨⟨⟨rfl, ⟨rfl, (by decide)⟩⟩, trivial⟩, ⟨rfl, rfl⟩⟩⟩)
          · intro n28
            refine W.skip (blockQ_normal (thenQ_normal ?_))
            refine W.L cok tab101 hnt [] (⟨[(0, .sl (.calls h)), (3, .own 7 (List.length o)), (4, .i ((i : Nat) : Int)), (5, .i r), (6, .i (((k + 1) : Nat) : Int)), (18, .i ((k : Nat) : Int)), (19, .i (((k + 1) : Nat) : Int)), (28, .b (isBefore (List.getD h k default) (List.getD h i default)))], [(7, ⟨3, .row (.ints o)⟩)], [7, 999]⟩)
              (True ∧ ((True ∧ (True ∧ (Fits .i64 (((k + 1) : Nat) : Int)))) ∧ (True ∧ True))) (by kernel_rfl)
              ⟨trivial, ⟨⟨trivial, ⟨trivial, (by exact fits_i64 (by omega) (by omega))⟩⟩, ⟨trivial, trivial⟩⟩⟩ ?_
            refine thenQ_normal ?_
            refine ⟨(r, (k + 1)), (show ((k + 1) ≤ h.length) ∧ (r = mask (k + 1) (aheadF h i)) from ⟨(by first | assumption | omega | rfl | (intro _ hjj; omega) | (simp; done) | (simp; omega)), (by first | (rw [hr]; exact (mask_skip (n28)).symm) | (rw [hr, mask_add (h28)]; rfl))⟩), (show h.length - (k + 1) < h.length - k from (by first | omega | (simp_all; omega))), ?_⟩
            exact Sub.of [] (@cast ((((.calls h : Dat) = .calls h) ∧ ((((7 : Nat) = 7) ∧ (((List.length o) = (List.length o)) ∧ ((7 : Nat) ∈ ([7, 999] : List Nat)))) ∧ (((.int .i64 ((i : Nat) : Int) : Value) = .int .i64 ((i : Nat) : Int)) ∧ (((.int .i64 r : Value) = .int .i64 r) ∧ (((.int .i64 (((k + 1) : Nat) : Int) : Value) = .int .i64 (((k + 1) : Nat) : Int)) ∧ True))))) ∧ (((((3 : Nat) = 3) ∧ (((.ints o : Dat) = .ints o) ∧ ((7 : Nat) ∈ ([7, 999] : List Nat)))) ∧ True) ∧ ((true = true) ∧ (true = true)))) _ (by kernel_rfl) ⟨⟨rfl, ⟨⟨rfl, ⟨rfl, (by decide)⟩⟩, ⟨rfl, ⟨rfl, ⟨rfl, trivial⟩⟩⟩⟩⟩, ⟨⟨⟨rfl, ⟨rfl, (by decide)⟩⟩, trivial⟩, ⟨rfl, rfl⟩⟩⟩)
        · intro n17
          refine W.exit (thenQ_exit (thenQ_exit (blockQ_hit ?_)))
          refine thenQ_normal ?_
          refine W.L cok tab101 hnt [36] (⟨[(0, .sl (.calls h)), (3, .own 36 (List.length (o ++ ([r])))), (4, .i ((i : Nat) : Int)), (5, .i r), (6, .i ((k : Nat) : Int)), (17, .b (decide (((k : Nat) : Int) < (((List.length h) : Nat) : Int)))), (33, .own 7 (List.length o)), (34, .i r), (35, .sl (.ints ([r]))), (36, .own 36 (List.length (o ++ ([r]))))], [(36, ⟨3, .row (.ints (o ++ ([r])))⟩)], [36, 35, 7, 999]⟩)
            (True ∧ (True ∧ ((True ∧ True) ∧ (((True ∧ ((List.length o) = (List.length o))) ∧ (True ∧ (((List.length o) + (List.length ([r]))) * 8 ≤ 140737488355328))) ∧ (True ∧ True))))) (by kernel_rfl)
            ⟨trivial, ⟨trivial, ⟨⟨trivial, trivial⟩, ⟨⟨⟨trivial, rfl⟩, ⟨trivial, (by (first | omega | (simp only [List.length_append, List.length_cons, List.length_nil, List.length_take, List.length_drop, List.length_set, List.length_replicate, List.length_map] at *; omega) | assumption))⟩⟩, ⟨trivial, trivial⟩⟩⟩⟩⟩ ?_
          refine blockQ_normal (thenQ_normal ?_)
          refine W.L cok tab101 hnt [] (⟨[(0, .sl (.calls h)), (3, .own 36 (List.length (o ++ ([r])))), (4, .i (((i + 1) : Nat) : Int)), (5, .i r), (6, .i ((k : Nat) : Int)), (12, .i ((i : Nat) : Int)), (13, .i (((i + 1) : Nat) : Int)), (17, .b (decide (((k : Nat) : Int) < (((List.length h) : Nat) : Int)))), (33, .own 7 (List.length o)), (34, .i r), (35, .sl (.ints ([r]))), (36, .own 36 (List.length (o ++ ([r]))))], [(36, ⟨3, .row (.ints (o ++ ([r])))⟩)], [36, 35, 7, 999]⟩)
            (True ∧ ((True ∧ (True ∧ (Fits .i64 (((i + 1) : Nat) : Int)))) ∧ (True ∧ True))) (by kernel_rfl)
            ⟨trivial, ⟨⟨trivial, ⟨trivial, (by exact fits_i64 (by omega) (by omega))⟩⟩, ⟨trivial, trivial⟩⟩⟩ ?_
          refine thenQ_normal ?_
          refine ⟨((o ++ ([r])), (i + 1)), (show ((i + 1) ≤ h.length) ∧ ((o ++ ([r])) = (List.range (i + 1)).map fun j => mask h.length (aheadF h j)) from ⟨(by first | assumption | omega | rfl | (intro _ hjj; omega) | (simp; done) | (simp; omega)), (by rw [ho]; exact rows_snoc _ _ _ _ (by rw [hr, show k = h.length by omega]))⟩), (show h.length - (i + 1) < h.length - i from (by first | omega | (simp_all; omega))), ?_⟩
          exact Sub.of [(7, 36)] (@cast ((((.calls h : Dat) = .calls h) ∧ ((((36 : Nat) = 36) ∧ (((List.length (o ++ ([r]))) = (List.length (o ++ ([r])))) ∧ ((7 : Nat) ∈ ([7, 999] : List Nat)))) ∧ (((.int .i64 (((i + 1) : Nat) : Int) : Value) = .int .i64 (((i + 1) : Nat) : Int)) ∧ True))) ∧ (((((3 : Nat) = 3) ∧ (((.ints (o ++ ([r])) : Dat) = .ints (o ++ ([r]))) ∧ ((7 : Nat) ∈ ([7, 999] : List Nat)))) ∧ True) ∧ ((true = true) ∧ (true = true)))) _ (by kernel_rfl) ⟨⟨rfl, ⟨⟨rfl, ⟨rfl, (by decide)⟩⟩, ⟨rfl, trivial⟩⟩⟩, ⟨⟨⟨rfl, ⟨rfl, (by decide)⟩⟩, trivial⟩, ⟨rfl, rfl⟩⟩⟩)
    · intro n11
      refine W.exit (thenQ_exit (thenQ_exit (blockQ_hit ?_)))
      refine thenQ_normal ?_
      refine W.K cok tab101 hnt [] [2] (⟨[(2, .own 7 (List.length o))], [(7, ⟨3, .row (.ints o)⟩)], [7, 999]⟩)
        (True ∧ (True ∧ True)) (by kernel_rfl)
        ⟨trivial, ⟨trivial, trivial⟩⟩ ?_
      refine W.ret ?_
      exact endQ_ret (.own 7 (List.length o)) (by kernel_rfl) (@cast (((List.length o) = (List.length o)) ∧ (((.ints o : Dat) = .ints (rowsOf h.length (aheadF h))) ∧ ((7 : Nat) ∉ ([] : List Nat)))) _ (by kernel_rfl) ⟨rfl, ⟨(congrArg Dat.ints (by rw [ho, show i = h.length by omega]; rfl)), (by decide)⟩⟩)
theorem ent101 : Entr prog 101 := ⟨_, func101, rfl, by decide⟩

end Go.Proofs.Try
