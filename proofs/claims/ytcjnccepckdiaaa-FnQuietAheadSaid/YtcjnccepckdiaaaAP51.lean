import Derived.Test.YtcjnccepckdiaaaAS
import Derived.Test.YtcjnccepckdiaaaM6
import Derived.Test.YtcjnccepckdiaaaAP18
import Derived.Test.YtcjnccepckdiaaaAP19
set_option linter.unusedSimpArgs false
set_option linter.unusedVariables false
namespace Go.Proofs.Try
open Go.Ab Go.RowKit
/-- impl.IsOneByOne -/
def fs51 : FnS := fnS [.s .calls] [.calls] (fun _ (h, _) => (.b (oneByOne h), [], True))
abbrev T51 : Tab := lk [(18, fs18), (19, fs19)]
theorem tab51 : TabOK prog T51 := (TabOK.cons ok18 ent18 (TabOK.cons ok19 ent19 TabOK.nil))
set_option maxRecDepth 100000 in
set_option maxHeartbeats 1000000 in
theorem ok51 : FnOK prog 51 fs51 := by
  refine FnOK.mk func51 rfl rfl rfl ?_
  rintro fl ⟨(h : List CallD), _⟩ hpre F hnt0 _
  have hnt : F.nt = 29 := hnt0.trans ntmps51
  clear hpre
  refine W.to (⟨[(0, .sl (.calls h))], [], [999]⟩) rfl ?_
  refine W.lenOf 0 (.calls h) (by kernel_rfl) ?_
  intro hl_h; replace hl_h : List.length h ≤ 9223372036854775807 := hl_h
  refine W.K cok tab51 hnt [] [0] (⟨[(0, .sl (.calls h))], [], [999]⟩)
    (True ∧ True) (by kernel_rfl)
    ⟨trivial, trivial⟩ ?_
  refine W.seq ?_
  refine W.K cok tab51 hnt [] [0, 7, 8, 9] (⟨[(0, .sl (.calls h)), (7, .sl (.calls h)), (8, .i (((List.length h) : Nat) : Int)), (9, .i (0 : Int))], [], [999]⟩)
    (True ∧ (True ∧ (True ∧ True))) (by kernel_rfl)
    ⟨trivial, ⟨trivial, ⟨trivial, trivial⟩⟩⟩ ?_
  refine W.block ?_
  refine W.loop (ι := Nat) (fun (i : Nat) => (⟨[(0, .sl (.calls h)), (7, .sl (.calls h)), (8, .i (((List.length h) : Nat) : Int)), (9, .i ((i : Nat) : Int))], [], [999]⟩ : St))
    (fun (i : Nat) => (i ≤ h.length) ∧ (∀ j, j < i → allN j (fun kk => !doOverlap (callAt h j) (callAt h kk)) = true))
    (fun (i : Nat) => (h.length - i : Nat)) (0) ?_ ?_ ?_
  · exact (show (0 ≤ h.length) ∧ (∀ j, j < 0 → allN j (fun kk => !doOverlap (callAt h j) (callAt h kk)) = true) from ⟨(by first | assumption | omega | rfl | (intro _ hjj; omega) | (simp; done) | (simp; omega)), (by exact upto_zero)⟩)
  · exact Sub.of [] (@cast ((((.calls h : Dat) = .calls h) ∧ (((.calls h : Dat) = .calls h) ∧ (((.int .i64 (((List.length h) : Nat) : Int) : Value) = .int .i64 (((List.length h) : Nat) : Int)) ∧ (((.int .i64 (0 : Int) : Value) = .int .i64 ((0 : Nat) : Int)) ∧ True)))) ∧ (True ∧ ((true = true) ∧ (true = true)))) _ (by kernel_rfl) ⟨⟨rfl, ⟨rfl, ⟨rfl, ⟨(congrArg (Value.int .i64) (by first | rfl | omega | assumption | simp | simp_all)), trivial⟩⟩⟩⟩, ⟨trivial, ⟨rfl, rfl⟩⟩⟩)
  · rintro i hC0
    have hC : (i ≤ h.length) ∧ (∀ j, j < i → allN j (fun kk => !doOverlap (callAt h j) (callAt h kk)) = true) := hC0
    clear hC0
    obtain ⟨hi, hA⟩ := hC
    refine W.to (⟨[(0, .sl (.calls h)), (7, .sl (.calls h)), (8, .i (((List.length h) : Nat) : Int)), (9, .i ((i : Nat) : Int))], [], [999]⟩) rfl ?_
    refine W.K cok tab51 hnt [] [0, 7, 8, 9, 10] (⟨[(0, .sl (.calls h)), (7, .sl (.calls h)), (8, .i (((List.length h) : Nat) : Int)), (9, .i ((i : Nat) : Int)), (10, .b (decide (((i : Nat) : Int) < (((List.length h) : Nat) : Int))))], [], [999]⟩)
      ((True ∧ (True ∧ True)) ∧ True) (by kernel_rfl)
      ⟨⟨trivial, ⟨trivial, trivial⟩⟩, trivial⟩ ?_
    refine W.seq ?_
    refine W.ifP (((i : Nat) : Int) < (((List.length h) : Nat) : Int)) (.b (decide (((i : Nat) : Int) < (((List.length h) : Nat) : Int)))) (by kernel_rfl) rfl trivial ?_ ?_
    · intro h10
      refine W.skip (thenQ_normal ?_)
      refine W.seq ?_
      refine W.block ?_
      refine W.K cok tab51 hnt [] [0, 3, 4, 7, 8, 9] (⟨[(0, .sl (.calls h)), (3, .i ((i : Nat) : Int)), (4, .ptr 4 0), (7, .sl (.calls h)), (8, .i (((List.length h) : Nat) : Int)), (9, .i ((i : Nat) : Int))], [(4, ⟨27, .fix [.i ((List.getD h i default).proc), .i ((List.getD h i default).obj), .i ((List.getD h i default).kind), .i ((List.getD h i default).arg), .i ((List.getD h i default).ret), .i ((List.getD h i default).frm), .i ((List.getD h i default).to)]⟩)], [4, 999]⟩)
        (True ∧ ((True ∧ (True ∧ ((0 ≤ ((i : Nat) : Int)) ∧ (((i : Nat) : Int) < (((List.length h) : Nat) : Int))))) ∧ (True ∧ (True ∧ (True ∧ ((True ∧ True) ∧ True)))))) (by kernel_rfl)
        ⟨trivial, ⟨⟨trivial, ⟨trivial, ⟨(by omega), (by omega)⟩⟩⟩, ⟨trivial, ⟨trivial, ⟨trivial, ⟨⟨trivial, trivial⟩, trivial⟩⟩⟩⟩⟩⟩ ?_
      refine W.K cok tab51 hnt [] [0, 4, 7, 8, 9, 16, 17, 18] (⟨[(0, .sl (.calls h)), (4, .ptr 4 0), (7, .sl (.calls h)), (8, .i (((List.length h) : Nat) : Int)), (9, .i ((i : Nat) : Int)), (16, .sl (.calls (List.take i h))), (17, .i (((List.length (List.take i h)) : Nat) : Int)), (18, .i (0 : Int))], [(4, ⟨27, .fix [.i ((List.getD h i default).proc), .i ((List.getD h i default).obj), .i ((List.getD h i default).kind), .i ((List.getD h i default).arg), .i ((List.getD h i default).ret), .i ((List.getD h i default).frm), .i ((List.getD h i default).to)]⟩)], [4, 999]⟩)
        (True ∧ (True ∧ ((True ∧ (True ∧ (True ∧ ((0 ≤ (0 : Int)) ∧ (((0 : Int) ≤ ((i : Nat) : Int)) ∧ (((i : Nat) : Int) ≤ (((List.length h) : Nat) : Int))))))) ∧ (True ∧ (True ∧ True))))) (by kernel_rfl)
        ⟨trivial, ⟨trivial, ⟨⟨trivial, ⟨trivial, ⟨trivial, ⟨(by omega), ⟨(by omega), (by omega)⟩⟩⟩⟩⟩, ⟨trivial, ⟨trivial, trivial⟩⟩⟩⟩⟩ ?_
      refine W.block ?_
      refine W.loop (ι := Nat) (fun (k : Nat) => (⟨[(0, .sl (.calls h)), (4, .ptr 4 0), (7, .sl (.calls h)), (8, .i (((List.length h) : Nat) : Int)), (9, .i ((i : Nat) : Int)), (16, .sl (.calls (List.take i h))), (17, .i (((List.length (List.take i h)) : Nat) : Int)), (18, .i ((k : Nat) : Int))], [(4, ⟨27, .fix [.i ((List.getD h i default).proc), .i ((List.getD h i default).obj), .i ((List.getD h i default).kind), .i ((List.getD h i default).arg), .i ((List.getD h i default).ret), .i ((List.getD h i default).frm), .i ((List.getD h i default).to)]⟩)], [4, 999]⟩ : St))
        (fun (k : Nat) => (k ≤ i) ∧ (∀ j, j < k → (!doOverlap (callAt h i) (callAt h j)) = true))
        (fun (k : Nat) => (i - k : Nat)) (0) ?_ ?_ ?_
      · exact (show (0 ≤ i) ∧ (∀ j, j < 0 → (!doOverlap (callAt h i) (callAt h j)) = true) from ⟨(by first | assumption | omega | rfl | (intro _ hjj; omega) | (simp; done) | (simp; omega)), (by exact upto_zero)⟩)
      · exact Sub.of [] (@cast ((((.calls h : Dat) = .calls h) ∧ ((((4 : Nat) = 4) ∧ (((0 : Nat) = 0) ∧ ((4 : Nat) ∈ ([4, 999] : List Nat)))) ∧ (((.calls h : Dat) = .calls h) ∧ (((.int .i64 (((List.length h) : Nat) : Int) : Value) = .int .i64 (((List.length h) : Nat) : Int)) ∧ (((.int .i64 ((i : Nat) : Int) : Value) = .int .i64 ((i : Nat) : Int)) ∧ (((.calls (List.take i h) : Dat) = .calls (List.take i h)) ∧ (((.int .i64 (((List.length (List.take i h)) : Nat) : Int) : Value) = .int .i64 (((List.length (List.take i h)) : Nat) : Int)) ∧ (((.int .i64 (0 : Int) : Value) = .int .i64 ((0 : Nat) : Int)) ∧ True)))))))) ∧ (((((27 : Nat) = 27) ∧ ((((.int .i64 ((List.getD h i default).proc) : Value) = .int .i64 ((List.getD h i default).proc)) ∧ (((.int .i64 ((List.getD h i default).obj) : Value) = .int .i64 ((List.getD h i default).obj)) ∧ (((.int .i64 ((List.getD h i default).kind) : Value) = .int .i64 ((List.getD h i default).kind)) ∧ (((.int .i64 ((List.getD h i default).arg) : Value) = .int .i64 ((List.getD h i default).arg)) ∧ (((.int .i64 ((List.getD h i default).ret) : Value) = .int .i64 ((List.getD h i default).ret)) ∧ (((.int .i64 ((List.getD h i default).frm) : Value) = .int .i64 ((List.getD h i default).frm)) ∧ (((.int .i64 ((List.getD h i default).to) : Value) = .int .i64 ((List.getD h i default).to)) ∧ True))))))) ∧ ((4 : Nat) ∈ ([4, 999] : List Nat)))) ∧ True) ∧ ((true = true) ∧ (true = true)))) _ (by kernel_rfl) ⟨⟨rfl, ⟨⟨rfl, ⟨rfl, (by decide)⟩⟩, ⟨rfl, ⟨rfl, ⟨rfl, ⟨rfl, ⟨rfl, ⟨(congrArg (Value.int .i64) (by first | rfl | omega | assumption | simp | simp_all)), trivial⟩⟩⟩⟩⟩⟩⟩⟩, ⟨⟨⟨rfl, ⟨⟨rfl, ⟨rfl, ⟨rfl, ⟨rfl, ⟨rfl, ⟨rfl, ⟨rfl, trivial⟩⟩⟩⟩⟩⟩⟩, (by decide)⟩⟩, trivial⟩, ⟨rfl, rfl⟩⟩⟩)
      · rintro k hC0
        have hC : (k ≤ i) ∧ (∀ j, j < k → (!doOverlap (callAt h i) (callAt h j)) = true) := hC0
        clear hC0
        obtain ⟨hk, hB⟩ := hC
        refine W.to (⟨[(0, .sl (.calls h)), (4, .ptr 4 0), (7, .sl (.calls h)), (8, .i (((List.length h) : Nat) : Int)), (9, .i ((i : Nat) : Int)), (16, .sl (.calls (List.take i h))), (17, .i (((List.length (List.take i h)) : Nat) : Int)), (18, .i ((k : Nat) : Int))], [(4, ⟨27, .fix [.i ((List.getD h i default).proc), .i ((List.getD h i default).obj), .i ((List.getD h i default).kind), .i ((List.getD h i default).arg), .i ((List.getD h i default).ret), .i ((List.getD h i default).frm), .i ((List.getD h i default).to)]⟩)], [4, 999]⟩) rfl ?_
        refine W.K cok tab51 hnt [] [0, 4, 7, 8, 9, 16, 17, 18, 19] (⟨[(0, .sl (.calls h)), (4, .ptr 4 0), (7, .sl (.calls h)), (8, .i (((List.length h) : Nat) : Int)), (9, .i ((i : Nat) : Int)), (16, .sl (.calls (List.take i h))), (17, .i (((List.length (List.take i h)) : Nat) : Int)), (18, .i ((k : Nat) : Int)), (19, .b (decide (((k : Nat) : Int) < (((List.length (List.take i h)) : Nat) : Int))))], [(4, ⟨27, .fix [.i ((List.getD h i default).proc), .i ((List.getD h i default).obj), .i ((List.getD h i default).kind), .i ((List.getD h i default).arg), .i ((List.getD h i default).ret), .i ((List.getD h i default).frm), .i ((List.getD h i default).to)]⟩)], [4, 999]⟩)
          ((True ∧ (True ∧ True)) ∧ True) (by kernel_rfl)
          ⟨⟨trivial, ⟨trivial, trivial⟩⟩, trivial⟩ ?_
        refine W.seq ?_
        refine W.ifP (((k : Nat) : Int) < (((List.length (List.take i h)) : Nat) : Int)) (.b (decide (((k : Nat) : Int) < (((List.length (List.take i h)) : Nat) : Int)))) (by kernel_rfl) rfl trivial ?_ ?_
        · intro h19
          have h19' := h19
          simp only [List.length_append, List.length_cons, List.length_nil, List.length_take, List.length_drop, List.length_set, List.length_replicate, List.length_map] at h19'
          refine W.skip (thenQ_normal ?_)
          refine W.seq ?_
          refine W.block ?_
          refine W.K cok tab51 hnt [] [0, 4, 6, 7, 8, 9, 16, 17, 18] (⟨[(0, .sl (.calls h)), (4, .ptr 4 0), (6, .ptr 6 0), (7, .sl (.calls h)), (8, .i (((List.length h) : Nat) : Int)), (9, .i ((i : Nat) : Int)), (16, .sl (.calls (List.take i h))), (17, .i (((List.length (List.take i h)) : Nat) : Int)), (18, .i ((k : Nat) : Int))], [(4, ⟨27, .fix [.i ((List.getD h i default).proc), .i ((List.getD h i default).obj), .i ((List.getD h i default).kind), .i ((List.getD h i default).arg), .i ((List.getD h i default).ret), .i ((List.getD h i default).frm), .i ((List.getD h i default).to)]⟩), (6, ⟨27, .fix [.i ((List.getD (List.take i h) k default).proc), .i ((List.getD (List.take i h) k default).obj), .i ((List.getD (List.take i h) k default).kind), .i ((List.getD (List.take i h) k default).arg), .i ((List.getD (List.take i h) k default).ret), .i ((List.getD (List.take i h) k default).frm), .i ((List.getD (List.take i h) k default).to)]⟩)], [6, 4, 999]⟩)
            ((True ∧ (True ∧ ((0 ≤ ((k : Nat) : Int)) ∧ (((k : Nat) : Int) < (((List.length (List.take i h)) : Nat) : Int))))) ∧ (True ∧ (True ∧ ((True ∧ True) ∧ True)))) (by kernel_rfl)
            ⟨⟨trivial, ⟨trivial, ⟨(by omega), (by (first | omega | (simp only [List.length_append, List.length_cons, List.length_nil, List.length_take, List.length_drop, List.length_set, List.length_replicate, List.length_map] at *; omega) | assumption))⟩⟩⟩, ⟨trivial, ⟨trivial, ⟨⟨trivial, trivial⟩, trivial⟩⟩⟩⟩ ?_
          refine W.K cok tab51 hnt [] [0, 4, 7, 8, 9, 16, 17, 18, 24] (⟨[(0, .sl (.calls h)), (4, .ptr 4 0), (7, .sl (.calls h)), (8, .i (((List.length h) : Nat) : Int)), (9, .i ((i : Nat) : Int)), (16, .sl (.calls (List.take i h))), (17, .i (((List.length (List.take i h)) : Nat) : Int)), (18, .i ((k : Nat) : Int)), (24, .b (doOverlap (List.getD h i default) (List.getD (List.take i h) k default)))], [(4, ⟨27, .fix [.i ((List.getD h i default).proc), .i ((List.getD h i default).obj), .i ((List.getD h i default).kind), .i ((List.getD h i default).arg), .i ((List.getD h i default).ret), .i ((List.getD h i default).frm), .i ((List.getD h i default).to)]⟩), (6, ⟨27, .fix [.i ((List.getD (List.take i h) k default).proc), .i ((List.getD (List.take i h) k default).obj), .i ((List.getD (List.take i h) k default).kind), .i ((List.getD (List.take i h) k default).arg), .i ((List.getD (List.take i h) k default).ret), .i ((List.getD (List.take i h) k default).frm), .i ((List.getD (List.take i h) k default).to)]⟩)], [6, 4, 999]⟩)
            (True ∧ (True ∧ ((True ∧ ((True ∧ (True ∧ True)) ∧ True)) ∧ True))) (by kernel_rfl)
            ⟨trivial, ⟨trivial, ⟨⟨trivial, ⟨⟨trivial, ⟨trivial, trivial⟩⟩, trivial⟩⟩, trivial⟩⟩⟩ ?_
          refine W.if' (doOverlap (List.getD h i default) (List.getD (List.take i h) k default)) (.b (doOverlap (List.getD h i default) (List.getD (List.take i h) k default))) (by kernel_rfl) rfl trivial ?_ ?_
          · intro h24
            refine W.K cok tab51 hnt [] [2] (⟨[(2, .b false)], [(4, ⟨27, .fix [.i ((List.getD h i default).proc), .i ((List.getD h i default).obj), .i ((List.getD h i default).kind), .i ((List.getD h i default).arg), .i ((List.getD h i default).ret), .i ((List.getD h i default).frm), .i ((List.getD h i default).to)]⟩), (6, ⟨27, .fix [.i ((List.getD (List.take i h) k default).proc), .i ((List.getD (List.take i h) k default).obj), .i ((List.getD (List.take i h) k default).kind), .i ((List.getD (List.take i h) k default).arg), .i ((List.getD (List.take i h) k default).ret), .i ((List.getD (List.take i h) k default).frm), .i ((List.getD (List.take i h) k default).to)]⟩)], [6, 4, 999]⟩)
              (True ∧ True) (by kernel_rfl)
              ⟨trivial, trivial⟩ ?_
            refine W.ret (blockQ_ret (thenQ_ret (thenQ_ret (blockQ_ret (blockQ_ret (thenQ_ret (thenQ_ret (blockQ_ret (thenQ_ret ?_)))))))))
            exact endQ_ret (.b false) (by kernel_rfl) (@cast ((.bool false : Value) = .bool (oneByOne h)) _ (by kernel_rfl) (congrArg Value.bool (by unfold oneByOne; symm; rw [getD_take h (default : CallD) (show k < i by omega)] at h24; exact and_fl (allN_false (i := i) (by omega) (allN_false (i := k) (by omega) (not_h h24))))))
          · intro n24
            refine W.skip (blockQ_normal (thenQ_normal ?_))
            refine W.L cok tab51 hnt [] (⟨[(0, .sl (.calls h)), (4, .ptr 4 0), (7, .sl (.calls h)), (8, .i (((List.length h) : Nat) : Int)), (9, .i ((i : Nat) : Int)), (16, .sl (.calls (List.take i h))), (17, .i (((List.length (List.take i h)) : Nat) : Int)), (18, .i (((k + 1) : Nat) : Int)), (24, .b (doOverlap (List.getD h i default) (List.getD (List.take i h) k default))), (25, .i (((k + 1) : Nat) : Int))], [(4, ⟨27, .fix [.i ((List.getD h i default).proc), .i ((List.getD h i default).obj), .i ((List.getD h i default).kind), .i ((List.getD h i default).arg), .i ((List.getD h i default).ret), .i ((List.getD h i default).frm), .i ((List.getD h i default).to)]⟩), (6, ⟨27, .fix [.i ((List.getD (List.take i h) k default).proc), .i ((List.getD (List.take i h) k default).obj), .i ((List.getD (List.take i h) k default).kind), .i ((List.getD (List.take i h) k default).arg), .i ((List.getD (List.take i h) k default).ret), .i ((List.getD (List.take i h) k default).frm), .i ((List.getD (List.take i h) k default).to)]⟩)], [6, 4, 999]⟩)
              ((True ∧ (True ∧ (Fits .i64 (((k + 1) : Nat) : Int)))) ∧ (True ∧ True)) (by kernel_rfl)
              ⟨⟨trivial, ⟨trivial, (by exact fits_i64 (by omega) (by omega))⟩⟩, ⟨trivial, trivial⟩⟩ ?_
            refine thenQ_normal ?_
            refine ⟨((k + 1)), (show ((k + 1) ≤ i) ∧ (∀ j, j < (k + 1) → (!doOverlap (callAt h i) (callAt h j)) = true) from ⟨(by first | assumption | omega | rfl | (intro _ hjj; omega) | (simp; done) | (simp; omega)), (by rw [getD_take h (default : CallD) (show k < i by omega)] at n24; exact upto_succ hB (not_t n24))⟩), (show i - (k + 1) < i - k from (by first | omega | (simp_all; omega))), ?_⟩
            exact Sub.of [] (@cast ((((.calls h : Dat) = .calls h) ∧ ((((4 : Nat) = 4) ∧ (((0 : Nat) = 0) ∧ ((4 : Nat) ∈ ([4, 999] : List Nat)))) ∧ (((.calls h : Dat) = .calls h) ∧ (((.int .i64 (((List.length h) : Nat) : Int) : Value) = .int .i64 (((List.length h) : Nat) : Int)) ∧ (((.int .i64 ((i : Nat) : Int) : Value) = .int .i64 ((i : Nat) : Int)) ∧ (((.calls (List.take i h) : Dat) = .calls (List.take i h)) ∧ (((.int .i64 (((List.length (List.take i h)) : Nat) : Int) : Value) = .int .i64 (((List.length (List.take i h)) : Nat) : Int)) ∧ (((.int .i64 (((k + 1) : Nat) : Int) : Value) = .int .i64 (((k + 1) : Nat) : Int)) ∧ True)))))))) ∧ (((((27 : Nat) = 27) ∧ ((((.int .i64 ((List.getD h i default).proc) : Value) = .int .i64 ((List.getD h i default).proc)) ∧ (((.int .i64 ((List.getD h i default).obj) : Value) = .int .i64 ((List.getD h i default).obj)) ∧ (((.int .i64 ((List.getD h i default).kind) : Value) = .int .i64 ((List.getD h i default).kind)) ∧ (((.int .i64 ((List.getD h i default).arg) : Value) = .int .i64 ((List.getD h i default).arg)) ∧ (((.int .i64 ((List.getD h i default).ret) : Value) = .int .i64 ((List.getD h i default).ret)) ∧ (((.int .i64 ((List.getD h i default).frm) : Value) = .int .i64 ((List.getD h i default).frm)) ∧ (((.int .i64 ((List.getD h i default).to) : Value) = .int .i64 ((List.getD h i default).to)) ∧ True))))))) ∧ ((4 : Nat) ∈ ([4, 999] : List Nat)))) ∧ True) ∧ ((true = true) ∧ (true = true)))) _ (by kernel_rfl) ⟨⟨rfl, ⟨⟨rfl, ⟨rfl, (by decide)⟩⟩, ⟨rfl, ⟨rfl, ⟨rfl, ⟨rfl, ⟨rfl, ⟨rfl, trivial⟩⟩⟩⟩⟩⟩⟩⟩, ⟨⟨⟨rfl, ⟨⟨rfl, ⟨rfl, ⟨rfl, ⟨rfl, ⟨rfl, ⟨rfl, ⟨rfl, trivial⟩⟩⟩⟩⟩⟩⟩, (by decide)⟩⟩, trivial⟩, ⟨rfl, rfl⟩⟩⟩)
        · intro n19
          have n19' := n19
          simp only [List.length_append, List.length_cons, List.length_nil, List.length_take, List.length_drop, List.length_set, List.length_replicate, List.length_map] at n19'
          refine W.exit (thenQ_exit (thenQ_exit (blockQ_hit ?_)))
          refine blockQ_normal (thenQ_normal ?_)
          refine W.L cok tab51 hnt [] (⟨[(0, .sl (.calls h)), (4, .ptr 4 0), (7, .sl (.calls h)), (8, .i (((List.length h) : Nat) : Int)), (9, .i (((i + 1) : Nat) : Int)), (16, .sl (.calls (List.take i h))), (17, .i (((List.length (List.take i h)) : Nat) : Int)), (18, .i ((k : Nat) : Int)), (19, .b (decide (((k : Nat) : Int) < (((List.length (List.take i h)) : Nat) : Int)))), (26, .i (((i + 1) : Nat) : Int))], [(4, ⟨27, .fix [.i ((List.getD h i default).proc), .i ((List.getD h i default).obj), .i ((List.getD h i default).kind), .i ((List.getD h i default).arg), .i ((List.getD h i default).ret), .i ((List.getD h i default).frm), .i ((List.getD h i default).to)]⟩)], [4, 999]⟩)
            ((True ∧ (True ∧ (Fits .i64 (((i + 1) : Nat) : Int)))) ∧ (True ∧ True)) (by kernel_rfl)
            ⟨⟨trivial, ⟨trivial, (by exact fits_i64 (by omega) (by omega))⟩⟩, ⟨trivial, trivial⟩⟩ ?_
          refine thenQ_normal ?_
          refine ⟨((i + 1)), (show ((i + 1) ≤ h.length) ∧ (∀ j, j < (i + 1) → allN j (fun kk => !doOverlap (callAt h j) (callAt h kk)) = true) from ⟨(by first | assumption | omega | rfl | (intro _ hjj; omega) | (simp; done) | (simp; omega)), (by exact upto_succ hA (allN_true (fun j hj => hB j (by omega))))⟩), (show h.length - (i + 1) < h.length - i from (by first | omega | (simp_all; omega))), ?_⟩
          exact Sub.of [] (@cast ((((.calls h : Dat) = .calls h) ∧ (((.calls h : Dat) = .calls h) ∧ (((.int .i64 (((List.length h) : Nat) : Int) : Value) = .int .i64 (((List.length h) : Nat) : Int)) ∧ (((.int .i64 (((i + 1) : Nat) : Int) : Value) = .int .i64 (((i + 1) : Nat) : Int)) ∧ True)))) ∧ (True ∧ ((true = true) ∧ (true = true)))) _ (by kernel_rfl) ⟨⟨rfl, ⟨rfl, ⟨rfl, ⟨rfl, trivial⟩⟩⟩⟩, ⟨trivial, ⟨rfl, rfl⟩⟩⟩)
    · intro n10
      refine W.exit (thenQ_exit (thenQ_exit (blockQ_hit ?_)))
      refine thenQ_normal ?_
      refine W.K cok tab51 hnt [] [2] (⟨[(2, .b (validHistory h))], [], [999]⟩)
        (True ∧ ((True ∧ ((True ∧ True) ∧ True)) ∧ (True ∧ True))) (by kernel_rfl)
        ⟨trivial, ⟨⟨trivial, ⟨⟨trivial, trivial⟩, trivial⟩⟩, ⟨trivial, trivial⟩⟩⟩ ?_
      refine W.ret ?_
      exact endQ_ret (.b (validHistory h)) (by kernel_rfl) (@cast ((.bool (validHistory h) : Value) = .bool (oneByOne h)) _ (by kernel_rfl) (congrArg Value.bool (by unfold oneByOne; symm; rw [allN_true (fun j hj => hA j (by omega)), Bool.true_and])))
theorem ent51 : Entr prog 51 := ⟨_, func51, rfl, by decide⟩

end Go.Proofs.Try
