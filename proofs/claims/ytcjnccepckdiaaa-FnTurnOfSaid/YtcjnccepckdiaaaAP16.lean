import Derived.Test.YtcjnccepckdiaaaAS
import Derived.Test.YtcjnccepckdiaaaM1
import Derived.Test.YtcjnccepckdiaaaAP19
set_option linter.unusedSimpArgs false
set_option linter.unusedVariables false
namespace Go.Proofs.Try
open Go.Ab Go.RowKit
/-- impl.IsOneWriter -/
def fs16 : FnS := fnS [.s .calls] [.calls] (fun _ (h, _) => (.b (oneWriter h), [], True))
abbrev T16 : Tab := lk [(19, fs19)]
theorem tab16 : TabOK prog T16 := (TabOK.cons ok19 ent19 TabOK.nil)
set_option maxRecDepth 100000 in
set_option maxHeartbeats 1000000 in
theorem ok16 : FnOK prog 16 fs16 := by
  refine FnOK.mk func16 rfl rfl rfl ?_
  rintro fl ⟨(h : List CallD), _⟩ hpre F hnt0 _
  have hnt : F.nt = 60 := hnt0.trans ntmps16
  clear hpre
  refine W.to (⟨[(0, .sl (.calls h))], [], [999]⟩) rfl ?_
  refine W.lenOf 0 (.calls h) (by kernel_rfl) ?_
  intro hl_h; replace hl_h : List.length h ≤ 9223372036854775807 := hl_h
  refine W.K cok tab16 hnt [] [0] (⟨[(0, .sl (.calls h))], [], [999]⟩)
    (True ∧ True) (by kernel_rfl)
    ⟨trivial, trivial⟩ ?_
  refine W.seq ?_
  refine W.K cok tab16 hnt [] [0, 7, 8, 9] (⟨[(0, .sl (.calls h)), (7, .sl (.calls h)), (8, .i (((List.length h) : Nat) : Int)), (9, .i (0 : Int))], [], [999]⟩)
    (True ∧ (True ∧ (True ∧ True))) (by kernel_rfl)
    ⟨trivial, ⟨trivial, ⟨trivial, trivial⟩⟩⟩ ?_
  refine W.block ?_
  refine W.loop (ι := Nat) (fun (i : Nat) => (⟨[(0, .sl (.calls h)), (7, .sl (.calls h)), (8, .i (((List.length h) : Nat) : Int)), (9, .i ((i : Nat) : Int))], [], [999]⟩ : St))
    (fun (i : Nat) => (i ≤ h.length) ∧ (∀ j, j < i → (owOK (callAt h j) && allN j (fun k => !samePut (callAt h j) (callAt h k))) = true))
    (fun (i : Nat) => (h.length - i : Nat)) (0) ?_ ?_ ?_
  · exact (show (0 ≤ h.length) ∧ (∀ j, j < 0 → (owOK (callAt h j) && allN j (fun k => !samePut (callAt h j) (callAt h k))) = true) from ⟨(by first | assumption | omega | rfl | (intro _ hjj; omega) | (simp; done) | (simp; omega)), (by exact upto_zero)⟩)
  · exact Sub.of [] (@cast ((((.calls h : Dat) = .calls h) ∧ (((.calls h : Dat) = .calls h) ∧ (((.int .i64 (((List.length h) : Nat) : Int) : Value) = .int .i64 (((List.length h) : Nat) : Int)) ∧ (((.int .i64 (0 : Int) : Value) = .int .i64 ((0 : Nat) : Int)) ∧ True)))) ∧ (True ∧ ((true = true) ∧ (true = true)))) _ (by kernel_rfl) ⟨⟨rfl, ⟨rfl, ⟨rfl, ⟨(congrArg (Value.int .i64) (by first | rfl | omega | assumption | simp | simp_all)), trivial⟩⟩⟩⟩, ⟨trivial, ⟨rfl, rfl⟩⟩⟩)
  · rintro i hC0
    have hC : (i ≤ h.length) ∧ (∀ j, j < i → (owOK (callAt h j) && allN j (fun k => !samePut (callAt h j) (callAt h k))) = true) := hC0
    clear hC0
    obtain ⟨hi, hA⟩ := hC
    refine W.to (⟨[(0, .sl (.calls h)), (7, .sl (.calls h)), (8, .i (((List.length h) : Nat) : Int)), (9, .i ((i : Nat) : Int))], [], [999]⟩) rfl ?_
    refine W.K cok tab16 hnt [] [0, 7, 8, 9, 10] (⟨[(0, .sl (.calls h)), (7, .sl (.calls h)), (8, .i (((List.length h) : Nat) : Int)), (9, .i ((i : Nat) : Int)), (10, .b (decide (((i : Nat) : Int) < (((List.length h) : Nat) : Int))))], [], [999]⟩)
      ((True ∧ (True ∧ True)) ∧ True) (by kernel_rfl)
      ⟨⟨trivial, ⟨trivial, trivial⟩⟩, trivial⟩ ?_
    refine W.seq ?_
    refine W.ifP (((i : Nat) : Int) < (((List.length h) : Nat) : Int)) (.b (decide (((i : Nat) : Int) < (((List.length h) : Nat) : Int)))) (by kernel_rfl) rfl trivial ?_ ?_
    · intro h10
      refine W.skip (thenQ_normal ?_)
      refine W.seq ?_
      refine W.block ?_
      refine W.K cok tab16 hnt [] [0, 3, 4, 7, 8, 9] (⟨[(0, .sl (.calls h)), (3, .i ((i : Nat) : Int)), (4, .ptr 4 0), (7, .sl (.calls h)), (8, .i (((List.length h) : Nat) : Int)), (9, .i ((i : Nat) : Int))], [(4, ⟨27, .fix [.i ((List.getD h i default).proc), .i ((List.getD h i default).obj), .i ((List.getD h i default).kind), .i ((List.getD h i default).arg), .i ((List.getD h i default).ret), .i ((List.getD h i default).frm), .i ((List.getD h i default).to)]⟩)], [4, 999]⟩)
        (True ∧ ((True ∧ (True ∧ ((0 ≤ ((i : Nat) : Int)) ∧ (((i : Nat) : Int) < (((List.length h) : Nat) : Int))))) ∧ (True ∧ (True ∧ (True ∧ ((True ∧ True) ∧ True)))))) (by kernel_rfl)
        ⟨trivial, ⟨⟨trivial, ⟨trivial, ⟨(by omega), (by omega)⟩⟩⟩, ⟨trivial, ⟨trivial, ⟨trivial, ⟨⟨trivial, trivial⟩, trivial⟩⟩⟩⟩⟩⟩ ?_
      refine W.seq ?_
      refine W.K cok tab16 hnt [] [0, 3, 4, 7, 8, 9, 21] (⟨[(0, .sl (.calls h)), (3, .i ((i : Nat) : Int)), (4, .ptr 4 0), (7, .sl (.calls h)), (8, .i (((List.length h) : Nat) : Int)), (9, .i ((i : Nat) : Int)), (21, .b ((decide (((List.getD h i default).obj) ≠ (0 : Int))) || (decide (((List.getD h i default).kind) = (1 : Int)))))], [(4, ⟨27, .fix [.i ((List.getD h i default).proc), .i ((List.getD h i default).obj), .i ((List.getD h i default).kind), .i ((List.getD h i default).arg), .i ((List.getD h i default).ret), .i ((List.getD h i default).frm), .i ((List.getD h i default).to)]⟩)], [4, 999]⟩)
        (True ∧ (True ∧ ((True ∧ (True ∧ True)) ∧ (True ∧ (((!(decide (((List.getD h i default).obj) ≠ (0 : Int)))) = true → True) ∧ (((!(decide (((List.getD h i default).obj) ≠ (0 : Int)))) = true → (((!(decide (((List.getD h i default).obj) ≠ (0 : Int)))) = true) ∧ True)) ∧ (((!(decide (((List.getD h i default).obj) ≠ (0 : Int)))) = true → ((((!(decide (((List.getD h i default).obj) ≠ (0 : Int)))) = true) ∧ True) ∧ (True ∧ True))) ∧ ((True ∧ (((decide (((List.getD h i default).obj) ≠ (0 : Int))) = true → True) ∧ ((decide (((List.getD h i default).obj) ≠ (0 : Int))) = false → ((!(decide (((List.getD h i default).obj) ≠ (0 : Int)))) = true) ∧ True))) ∧ True)))))))) (by kernel_rfl)
        ⟨trivial, ⟨trivial, ⟨⟨trivial, ⟨trivial, trivial⟩⟩, ⟨trivial, ⟨(fun _ => trivial), ⟨(fun hG => ⟨hG, trivial⟩), ⟨(fun hG => ⟨⟨hG, trivial⟩, ⟨trivial, trivial⟩⟩), ⟨⟨trivial, ⟨(fun _ => trivial), (fun hp => ⟨(not_t hp), trivial⟩)⟩⟩, trivial⟩⟩⟩⟩⟩⟩⟩⟩ ?_
      refine W.if' ((decide (((List.getD h i default).obj) ≠ (0 : Int))) || (decide (((List.getD h i default).kind) = (1 : Int)))) (.b ((decide (((List.getD h i default).obj) ≠ (0 : Int))) || (decide (((List.getD h i default).kind) = (1 : Int))))) (by kernel_rfl) rfl trivial ?_ ?_
      · intro h21
        refine W.K cok tab16 hnt [] [2] (⟨[(2, .b false)], [(4, ⟨27, .fix [.i ((List.getD h i default).proc), .i ((List.getD h i default).obj), .i ((List.getD h i default).kind), .i ((List.getD h i default).arg), .i ((List.getD h i default).ret), .i ((List.getD h i default).frm), .i ((List.getD h i default).to)]⟩)], [4, 999]⟩)
          (True ∧ True) (by kernel_rfl)
          ⟨trivial, trivial⟩ ?_
        refine W.ret (thenQ_ret (blockQ_ret (thenQ_ret (thenQ_ret (blockQ_ret (thenQ_ret ?_))))))
        exact endQ_ret (.b false) (by kernel_rfl) (@cast ((.bool false : Value) = .bool (oneWriter h)) _ (by kernel_rfl) (congrArg Value.bool (by unfold oneWriter; symm; exact and_fr (allN_false (i := i) (by omega) (and_fl (ow_1 h21))))))
      · intro n21
        have n21_0 : ¬ (((List.getD h i default).obj) ≠ (0 : Int)) := of_decide_eq_false (or_l n21)
        have n21_1 : ¬ (((List.getD h i default).kind) = (1 : Int)) := of_decide_eq_false (or_r n21)
        refine W.skip (thenQ_normal ?_)
        refine W.seq ?_
        refine W.K cok tab16 hnt [] [0, 3, 4, 7, 8, 9, 24] (⟨[(0, .sl (.calls h)), (3, .i ((i : Nat) : Int)), (4, .ptr 4 0), (7, .sl (.calls h)), (8, .i (((List.length h) : Nat) : Int)), (9, .i ((i : Nat) : Int)), (24, .b (decide (((List.getD h i default).kind) ≠ (0 : Int))))], [(4, ⟨27, .fix [.i ((List.getD h i default).proc), .i ((List.getD h i default).obj), .i ((List.getD h i default).kind), .i ((List.getD h i default).arg), .i ((List.getD h i default).ret), .i ((List.getD h i default).frm), .i ((List.getD h i default).to)]⟩)], [4, 999]⟩)
          (True ∧ (True ∧ ((True ∧ (True ∧ True)) ∧ True))) (by kernel_rfl)
          ⟨trivial, ⟨trivial, ⟨⟨trivial, ⟨trivial, trivial⟩⟩, trivial⟩⟩⟩ ?_
        refine W.ifP (((List.getD h i default).kind) ≠ (0 : Int)) (.b (decide (((List.getD h i default).kind) ≠ (0 : Int)))) (by kernel_rfl) rfl trivial ?_ ?_
        · intro h24
          refine W.exit (thenQ_exit (blockQ_hit ?_))
          refine thenQ_normal ?_
          refine W.L cok tab16 hnt [] (⟨[(0, .sl (.calls h)), (3, .i ((i : Nat) : Int)), (4, .ptr 4 0), (7, .sl (.calls h)), (8, .i (((List.length h) : Nat) : Int)), (9, .i (((i + 1) : Nat) : Int)), (24, .b (decide (((List.getD h i default).kind) ≠ (0 : Int)))), (57, .i (((i + 1) : Nat) : Int))], [(4, ⟨27, .fix [.i ((List.getD h i default).proc), .i ((List.getD h i default).obj), .i ((List.getD h i default).kind), .i ((List.getD h i default).arg), .i ((List.getD h i default).ret), .i ((List.getD h i default).frm), .i ((List.getD h i default).to)]⟩)], [4, 999]⟩)
            ((True ∧ (True ∧ (Fits .i64 (((i + 1) : Nat) : Int)))) ∧ (True ∧ True)) (by kernel_rfl)
            ⟨⟨trivial, ⟨trivial, (by exact fits_i64 (by omega) (by omega))⟩⟩, ⟨trivial, trivial⟩⟩ ?_
          refine thenQ_normal ?_
          refine ⟨((i + 1)), (show ((i + 1) ≤ h.length) ∧ (∀ j, j < (i + 1) → (owOK (callAt h j) && allN j (fun k => !samePut (callAt h j) (callAt h k))) = true) from ⟨(by first | assumption | omega | rfl | (intro _ hjj; omega) | (simp; done) | (simp; omega)), (by first | exact upto_succ hA (and_t (ow_3 n21 h24) (allN_true (fun j _ => put_no h24))) | exact upto_succ hA (and_t (ow_4 n21 n37) (allN_true (fun j hj => hB j (by omega)))))⟩), (show h.length - (i + 1) < h.length - i from (by first | omega | (simp_all; omega))), ?_⟩
          exact Sub.of [] (@cast ((((.calls h : Dat) = .calls h) ∧ (((.calls h : Dat) = .calls h) ∧ (((.int .i64 (((List.length h) : Nat) : Int) : Value) = .int .i64 (((List.length h) : Nat) : Int)) ∧ (((.int .i64 (((i + 1) : Nat) : Int) : Value) = .int .i64 (((i + 1) : Nat) : Int)) ∧ True)))) ∧ (True ∧ ((true = true) ∧ (true = true)))) _ (by kernel_rfl) ⟨⟨rfl, ⟨rfl, ⟨rfl, ⟨rfl, trivial⟩⟩⟩⟩, ⟨trivial, ⟨rfl, rfl⟩⟩⟩)
        · intro n24
          refine W.skip (thenQ_normal ?_)
          refine W.seq ?_
          refine W.K cok tab16 hnt [] [0, 3, 4, 7, 8, 9, 37] (⟨[(0, .sl (.calls h)), (3, .i ((i : Nat) : Int)), (4, .ptr 4 0), (7, .sl (.calls h)), (8, .i (((List.length h) : Nat) : Int)), (9, .i ((i : Nat) : Int)), (37, .b (((decide (((List.getD h i default).proc) ≠ (0 : Int))) || (decide (((List.getD h i default).ret) ≠ (0 : Int)))) || (decide (((List.getD h i default).arg) < (1 : Int)))))], [(4, ⟨27, .fix [.i ((List.getD h i default).proc), .i ((List.getD h i default).obj), .i ((List.getD h i default).kind), .i ((List.getD h i default).arg), .i ((List.getD h i default).ret), .i ((List.getD h i default).frm), .i ((List.getD h i default).to)]⟩)], [4, 999]⟩)
            (True ∧ (True ∧ ((True ∧ (True ∧ True)) ∧ (True ∧ (((!(decide (((List.getD h i default).proc) ≠ (0 : Int)))) = true → True) ∧ (((!(decide (((List.getD h i default).proc) ≠ (0 : Int)))) = true → (((!(decide (((List.getD h i default).proc) ≠ (0 : Int)))) = true) ∧ True)) ∧ (((!(decide (((List.getD h i default).proc) ≠ (0 : Int)))) = true → ((((!(decide (((List.getD h i default).proc) ≠ (0 : Int)))) = true) ∧ True) ∧ (True ∧ True))) ∧ ((True ∧ (((decide (((List.getD h i default).proc) ≠ (0 : Int))) = true → True) ∧ ((decide (((List.getD h i default).proc) ≠ (0 : Int))) = false → ((!(decide (((List.getD h i default).proc) ≠ (0 : Int)))) = true) ∧ True))) ∧ (True ∧ (((!((decide (((List.getD h i default).proc) ≠ (0 : Int))) || (decide (((List.getD h i default).ret) ≠ (0 : Int))))) = true → True) ∧ (((!((decide (((List.getD h i default).proc) ≠ (0 : Int))) || (decide (((List.getD h i default).ret) ≠ (0 : Int))))) = true → (((!((decide (((List.getD h i default).proc) ≠ (0 : Int))) || (decide (((List.getD h i default).ret) ≠ (0 : Int))))) = true) ∧ True)) ∧ (((!((decide (((List.getD h i default).proc) ≠ (0 : Int))) || (decide (((List.getD h i default).ret) ≠ (0 : Int))))) = true → ((((!((decide (((List.getD h i default).proc) ≠ (0 : Int))) || (decide (((List.getD h i default).ret) ≠ (0 : Int))))) = true) ∧ True) ∧ (True ∧ True))) ∧ ((True ∧ ((((decide (((List.getD h i default).proc) ≠ (0 : Int))) || (decide (((List.getD h i default).ret) ≠ (0 : Int)))) = true → True) ∧ (((decide (((List.getD h i default).proc) ≠ (0 : Int))) || (decide (((List.getD h i default).ret) ≠ (0 : Int)))) = false → ((!((decide (((List.getD h i default).proc) ≠ (0 : Int))) || (decide (((List.getD h i default).ret) ≠ (0 : Int))))) = true) ∧ True))) ∧ True))))))))))))) (by kernel_rfl)
            ⟨trivial, ⟨trivial, ⟨⟨trivial, ⟨trivial, trivial⟩⟩, ⟨trivial, ⟨(fun _ => trivial), ⟨(fun hG => ⟨hG, trivial⟩), ⟨(fun hG => ⟨⟨hG, trivial⟩, ⟨trivial, trivial⟩⟩), ⟨⟨trivial, ⟨(fun _ => trivial), (fun hp => ⟨(not_t hp), trivial⟩)⟩⟩, ⟨trivial, ⟨(fun _ => trivial), ⟨(fun hG => ⟨hG, trivial⟩), ⟨(fun hG => ⟨⟨hG, trivial⟩, ⟨trivial, trivial⟩⟩), ⟨⟨trivial, ⟨(fun _ => trivial), (fun hp => ⟨(not_t hp), trivial⟩)⟩⟩, trivial⟩⟩⟩⟩⟩⟩⟩⟩⟩⟩⟩⟩⟩ ?_
          refine W.if' (((decide (((List.getD h i default).proc) ≠ (0 : Int))) || (decide (((List.getD h i default).ret) ≠ (0 : Int)))) || (decide (((List.getD h i default).arg) < (1 : Int)))) (.b (((decide (((List.getD h i default).proc) ≠ (0 : Int))) || (decide (((List.getD h i default).ret) ≠ (0 : Int)))) || (decide (((List.getD h i default).arg) < (1 : Int))))) (by kernel_rfl) rfl trivial ?_ ?_
          · intro h37
            refine W.K cok tab16 hnt [] [2] (⟨[(2, .b false)], [(4, ⟨27, .fix [.i ((List.getD h i default).proc), .i ((List.getD h i default).obj), .i ((List.getD h i default).kind), .i ((List.getD h i default).arg), .i ((List.getD h i default).ret), .i ((List.getD h i default).frm), .i ((List.getD h i default).to)]⟩)], [4, 999]⟩)
              (True ∧ True) (by kernel_rfl)
              ⟨trivial, trivial⟩ ?_
            refine W.ret (thenQ_ret (blockQ_ret (thenQ_ret (thenQ_ret (blockQ_ret (thenQ_ret ?_))))))
            exact endQ_ret (.b false) (by kernel_rfl) (@cast ((.bool false : Value) = .bool (oneWriter h)) _ (by kernel_rfl) (congrArg Value.bool (by unfold oneWriter; symm; exact and_fr (allN_false (i := i) (by omega) (and_fl (ow_2 n24 h37))))))
          · intro n37
            have n37_0 : ¬ (((List.getD h i default).proc) ≠ (0 : Int)) := of_decide_eq_false (or_l (or_l n37))
            have n37_1 : ¬ (((List.getD h i default).ret) ≠ (0 : Int)) := of_decide_eq_false (or_r (or_l n37))
            have n37_2 : ¬ (((List.getD h i default).arg) < (1 : Int)) := of_decide_eq_false (or_r n37)
            refine W.skip (thenQ_normal ?_)
            refine W.K cok tab16 hnt [] [0, 4, 7, 8, 9, 40, 41, 42] (⟨[(0, .sl (.calls h)), (4, .ptr 4 0), (7, .sl (.calls h)), (8, .i (((List.length h) : Nat) : Int)), (9, .i ((i : Nat) : Int)), (40, .sl (.calls (List.take i h))), (41, .i (((List.length (List.take i h)) : Nat) : Int)), (42, .i (0 : Int))], [(4, ⟨27, .fix [.i ((List.getD h i default).proc), .i ((List.getD h i default).obj), .i ((List.getD h i default).kind), .i ((List.getD h i default).arg), .i ((List.getD h i default).ret), .i ((List.getD h i default).frm), .i ((List.getD h i default).to)]⟩)], [4, 999]⟩)
              (True ∧ (True ∧ ((True ∧ (True ∧ (True ∧ ((0 ≤ (0 : Int)) ∧ (((0 : Int) ≤ ((i : Nat) : Int)) ∧ (((i : Nat) : Int) ≤ (((List.length h) : Nat) : Int))))))) ∧ (True ∧ (True ∧ True))))) (by kernel_rfl)
              ⟨trivial, ⟨trivial, ⟨⟨trivial, ⟨trivial, ⟨trivial, ⟨(by omega), ⟨(by omega), (by omega)⟩⟩⟩⟩⟩, ⟨trivial, ⟨trivial, trivial⟩⟩⟩⟩⟩ ?_
            refine W.block ?_
            refine W.loop (ι := Nat) (fun (k : Nat) => (⟨[(0, .sl (.calls h)), (4, .ptr 4 0), (7, .sl (.calls h)), (8, .i (((List.length h) : Nat) : Int)), (9, .i ((i : Nat) : Int)), (40, .sl (.calls (List.take i h))), (41, .i (((List.length (List.take i h)) : Nat) : Int)), (42, .i ((k : Nat) : Int))], [(4, ⟨27, .fix [.i ((List.getD h i default).proc), .i ((List.getD h i default).obj), .i ((List.getD h i default).kind), .i ((List.getD h i default).arg), .i ((List.getD h i default).ret), .i ((List.getD h i default).frm), .i ((List.getD h i default).to)]⟩)], [4, 999]⟩ : St))
              (fun (k : Nat) => (k ≤ i) ∧ (∀ j, j < k → (!samePut (callAt h i) (callAt h j)) = true))
              (fun (k : Nat) => (i - k : Nat)) (0) ?_ ?_ ?_
            · exact (show (0 ≤ i) ∧ (∀ j, j < 0 → (!samePut (callAt h i) (callAt h j)) = true) from ⟨(by first | assumption | omega | rfl | (intro _ hjj; omega) | (simp; done) | (simp; omega)), (by exact upto_zero)⟩)
            · exact Sub.of [] (@cast ((((.calls h : Dat) = .calls h) ∧ ((((4 : Nat) = 4) ∧ (((0 : Nat) = 0) ∧ ((4 : Nat) ∈ ([4, 999] : List Nat)))) ∧ (((.calls h : Dat) = .calls h) ∧ (((.int .i64 (((List.length h) : Nat) : Int) : Value) = .int .i64 (((List.length h) : Nat) : Int)) ∧ (((.int .i64 ((i : Nat) : Int) : Value) = .int .i64 ((i : Nat) : Int)) ∧ (((.calls (List.take i h) : Dat) = .calls (List.take i h)) ∧ (((.int .i64 (((List.length (List.take i h)) : Nat) : Int) : Value) = .int .i64 (((List.length (List.take i h)) : Nat) : Int)) ∧ (((.int .i64 (0 : Int) : Value) = .int .i64 ((0 : Nat) : Int)) ∧ True)))))))) ∧ (((((27 : Nat) = 27) ∧ ((((.int .i64 ((List.getD h i default).proc) : Value) = .int .i64 ((List.getD h i default).proc)) ∧ (((.int .i64 ((List.getD h i default).obj) : Value) = .int .i64 ((List.getD h i default).obj)) ∧ (((.int .i64 ((List.getD h i default).kind) : Value) = .int .i64 ((List.getD h i default).kind)) ∧ (((.int .i64 ((List.getD h i default).arg) : Value) = .int .i64 ((List.getD h i default).arg)) ∧ (((.int .i64 ((List.getD h i default).ret) : Value) = .int .i64 ((List.getD h i default).ret)) ∧ (((.int .i64 ((List.getD h i default).frm) : Value) = .int .i64 ((List.getD h i default).frm)) ∧ (((.int .i64 ((List.getD h i default).to) : Value) = .int .i64 ((List.getD h i default).to)) ∧ True))))))) ∧ ((4 : Nat) ∈ ([4, 999] : List Nat)))) ∧ True) ∧ ((true = true) ∧ (true = true)))) _ (by kernel_rfl) ⟨⟨rfl, ⟨⟨rfl, ⟨rfl, (by decide)⟩⟩, ⟨rfl, ⟨rfl, ⟨rfl, ⟨rfl, ⟨rfl, ⟨(congrArg (Value.int .i64) (by first | rfl | omega | assumption | simp | simp_all)), trivial⟩⟩⟩⟩⟩⟩⟩⟩, ⟨⟨⟨rfl, ⟨⟨rfl, ⟨rfl, ⟨rfl, ⟨rfl, ⟨rfl, ⟨rfl, ⟨rfl, trivial⟩⟩⟩⟩⟩⟩⟩, (by decide)⟩⟩, trivial⟩, ⟨rfl, rfl⟩⟩⟩)
            · rintro k hC0
              have hC : (k ≤ i) ∧ (∀ j, j < k → (!samePut (callAt h i) (callAt h j)) = true) := hC0
              clear hC0
              obtain ⟨hk, hB⟩ := hC
              refine W.to (⟨[(0, .sl (.calls h)), (4, .ptr 4 0), (7, .sl (.calls h)), (8, .i (((List.length h) : Nat) : Int)), (9, .i ((i : Nat) : Int)), (40, .sl (.calls (List.take i h))), (41, .i (((List.length (List.take i h)) : Nat) : Int)), (42, .i ((k : Nat) : Int))], [(4, ⟨27, .fix [.i ((List.getD h i default).proc), .i ((List.getD h i default).obj), .i ((List.getD h i default).kind), .i ((List.getD h i default).arg), .i ((List.getD h i default).ret), .i ((List.getD h i default).frm), .i ((List.getD h i default).to)]⟩)], [4, 999]⟩) rfl ?_
              refine W.K cok tab16 hnt [] [0, 4, 7, 8, 9, 40, 41, 42, 43] (⟨[(0, .sl (.calls h)), (4, .ptr 4 0), (7, .sl (.calls h)), (8, .i (((List.length h) : Nat) : Int)), (9, .i ((i : Nat) : Int)), (40, .sl (.calls (List.take i h))), (41, .i (((List.length (List.take i h)) : Nat) : Int)), (42, .i ((k : Nat) : Int)), (43, .b (decide (((k : Nat) : Int) < (((List.length (List.take i h)) : Nat) : Int))))], [(4, ⟨27, .fix [.i ((List.getD h i default).proc), .i ((List.getD h i default).obj), .i ((List.getD h i default).kind), .i ((List.getD h i default).arg), .i ((List.getD h i default).ret), .i ((List.getD h i default).frm), .i ((List.getD h i default).to)]⟩)], [4, 999]⟩)
                ((True ∧ (True ∧ True)) ∧ True) (by kernel_rfl)
                ⟨⟨trivial, ⟨trivial, trivial⟩⟩, trivial⟩ ?_
              refine W.seq ?_
              refine W.ifP (((k : Nat) : Int) < (((List.length (List.take i h)) : Nat) : Int)) (.b (decide (((k : Nat) : Int) < (((List.length (List.take i h)) : Nat) : Int)))) (by kernel_rfl) rfl trivial ?_ ?_
              · intro h43
                have h43' := h43
                simp only [List.length_append, List.length_cons, List.length_nil, List.length_take, List.length_drop, List.length_set, List.length_replicate, List.length_map] at h43'
                refine W.skip (thenQ_normal ?_)
                refine W.seq ?_
                refine W.block ?_
                refine W.K cok tab16 hnt [] [0, 4, 6, 7, 8, 9, 40, 41, 42] (⟨[(0, .sl (.calls h)), (4, .ptr 4 0), (6, .ptr 6 0), (7, .sl (.calls h)), (8, .i (((List.length h) : Nat) : Int)), (9, .i ((i : Nat) : Int)), (40, .sl (.calls (List.take i h))), (41, .i (((List.length (List.take i h)) : Nat) : Int)), (42, .i ((k : Nat) : Int))], [(4, ⟨27, .fix [.i ((List.getD h i default).proc), .i ((List.getD h i default).obj), .i ((List.getD h i default).kind), .i ((List.getD h i default).arg), .i ((List.getD h i default).ret), .i ((List.getD h i default).frm), .i ((List.getD h i default).to)]⟩), (6, ⟨27, .fix [.i ((List.getD (List.take i h) k default).proc), .i ((List.getD (List.take i h) k default).obj), .i ((List.getD (List.take i h) k default).kind), .i ((List.getD (List.take i h) k default).arg), .i ((List.getD (List.take i h) k default).ret), .i ((List.getD (List.take i h) k default).frm), .i ((List.getD (List.take i h) k default).to)]⟩)], [6, 4, 999]⟩)
                  ((True ∧ (True ∧ ((0 ≤ ((k : Nat) : Int)) ∧ (((k : Nat) : Int) < (((List.length (List.take i h)) : Nat) : Int))))) ∧ (True ∧ (True ∧ ((True ∧ True) ∧ True)))) (by kernel_rfl)
                  ⟨⟨trivial, ⟨trivial, ⟨(by omega), (by (first | omega | (simp only [List.length_append, List.length_cons, List.length_nil, List.length_take, List.length_drop, List.length_set, List.length_replicate, List.length_map] at *; omega) | assumption))⟩⟩⟩, ⟨trivial, ⟨trivial, ⟨⟨trivial, trivial⟩, trivial⟩⟩⟩⟩ ?_
                refine W.K cok tab16 hnt [] [0, 4, 7, 8, 9, 40, 41, 42, 55] (⟨[(0, .sl (.calls h)), (4, .ptr 4 0), (7, .sl (.calls h)), (8, .i (((List.length h) : Nat) : Int)), (9, .i ((i : Nat) : Int)), (40, .sl (.calls (List.take i h))), (41, .i (((List.length (List.take i h)) : Nat) : Int)), (42, .i ((k : Nat) : Int)), (55, .b ((decide (((List.getD (List.take i h) k default).kind) = (0 : Int))) && (decide (((List.getD (List.take i h) k default).arg) = ((List.getD h i default).arg)))))], [(4, ⟨27, .fix [.i ((List.getD h i default).proc), .i ((List.getD h i default).obj), .i ((List.getD h i default).kind), .i ((List.getD h i default).arg), .i ((List.getD h i default).ret), .i ((List.getD h i default).frm), .i ((List.getD h i default).to)]⟩), (6, ⟨27, .fix [.i ((List.getD (List.take i h) k default).proc), .i ((List.getD (List.take i h) k default).obj), .i ((List.getD (List.take i h) k default).kind), .i ((List.getD (List.take i h) k default).arg), .i ((List.getD (List.take i h) k default).ret), .i ((List.getD (List.take i h) k default).frm), .i ((List.getD (List.take i h) k default).to)]⟩)], [6, 4, 999]⟩)
                  (True ∧ (True ∧ ((True ∧ (True ∧ True)) ∧ (True ∧ (((decide (((List.getD (List.take i h) k default).kind) = (0 : Int))) = true → True) ∧ (((decide (((List.getD (List.take i h) k default).kind) = (0 : Int))) = true → (((decide (((List.getD (List.take i h) k default).kind) = (0 : Int))) = true) ∧ True)) ∧ (((decide (((List.getD (List.take i h) k default).kind) = (0 : Int))) = true → True) ∧ (((decide (((List.getD (List.take i h) k default).kind) = (0 : Int))) = true → (((decide (((List.getD (List.take i h) k default).kind) = (0 : Int))) = true) ∧ True)) ∧ (((decide (((List.getD (List.take i h) k default).kind) = (0 : Int))) = true → ((((decide (((List.getD (List.take i h) k default).kind) = (0 : Int))) = true) ∧ True) ∧ ((((decide (((List.getD (List.take i h) k default).kind) = (0 : Int))) = true) ∧ True) ∧ True))) ∧ ((True ∧ (((decide (((List.getD (List.take i h) k default).kind) = (0 : Int))) = true → ((decide (((List.getD (List.take i h) k default).kind) = (0 : Int))) = true) ∧ True) ∧ ((decide (((List.getD (List.take i h) k default).kind) = (0 : Int))) = false → True))) ∧ True)))))))))) (by kernel_rfl)
                  ⟨trivial, ⟨trivial, ⟨⟨trivial, ⟨trivial, trivial⟩⟩, ⟨trivial, ⟨(fun _ => trivial), ⟨(fun hG => ⟨hG, trivial⟩), ⟨(fun _ => trivial), ⟨(fun hG => ⟨hG, trivial⟩), ⟨(fun hG => ⟨⟨hG, trivial⟩, ⟨⟨hG, trivial⟩, trivial⟩⟩), ⟨⟨trivial, ⟨(fun hp => ⟨hp, trivial⟩), (fun _ => trivial)⟩⟩, trivial⟩⟩⟩⟩⟩⟩⟩⟩⟩⟩ ?_
                refine W.if' ((decide (((List.getD (List.take i h) k default).kind) = (0 : Int))) && (decide (((List.getD (List.take i h) k default).arg) = ((List.getD h i default).arg)))) (.b ((decide (((List.getD (List.take i h) k default).kind) = (0 : Int))) && (decide (((List.getD (List.take i h) k default).arg) = ((List.getD h i default).arg))))) (by kernel_rfl) rfl trivial ?_ ?_
                · intro h55
                  have h55_0 : ((List.getD (List.take i h) k default).kind) = (0 : Int) := of_decide_eq_true (and_l h55)
                  have h55_1 : ((List.getD (List.take i h) k default).arg) = ((List.getD h i default).arg) := of_decide_eq_true (and_r h55)
                  refine W.K cok tab16 hnt [] [2] (⟨[(2, .b false)], [(4, ⟨27, .fix [.i ((List.getD h i default).proc), .i ((List.getD h i default).obj), .i ((List.getD h i default).kind), .i ((List.getD h i default).arg), .i ((List.getD h i default).ret), .i ((List.getD h i default).frm), .i ((List.getD h i default).to)]⟩), (6, ⟨27, .fix [.i ((List.getD (List.take i h) k default).proc), .i ((List.getD (List.take i h) k default).obj), .i ((List.getD (List.take i h) k default).kind), .i ((List.getD (List.take i h) k default).arg), .i ((List.getD (List.take i h) k default).ret), .i ((List.getD (List.take i h) k default).frm), .i ((List.getD (List.take i h) k default).to)]⟩)], [6, 4, 999]⟩)
                    (True ∧ True) (by kernel_rfl)
                    ⟨trivial, trivial⟩ ?_
                  refine W.ret (blockQ_ret (thenQ_ret (thenQ_ret (blockQ_ret (blockQ_ret (thenQ_ret (thenQ_ret (blockQ_ret (thenQ_ret ?_)))))))))
                  exact endQ_ret (.b false) (by kernel_rfl) (@cast ((.bool false : Value) = .bool (oneWriter h)) _ (by kernel_rfl) (congrArg Value.bool (by unfold oneWriter; symm; exact and_fr (allN_false (i := i) (by omega) (and_fr (allN_false (i := k) (by omega) (put_1 n24 (by rw [← h55, getD_take h (default : CallD) (show k < i by omega)]; rfl))))))))
                · intro n55
                  refine W.skip (blockQ_normal (thenQ_normal ?_))
                  refine W.L cok tab16 hnt [] (⟨[(0, .sl (.calls h)), (4, .ptr 4 0), (7, .sl (.calls h)), (8, .i (((List.length h) : Nat) : Int)), (9, .i ((i : Nat) : Int)), (40, .sl (.calls (List.take i h))), (41, .i (((List.length (List.take i h)) : Nat) : Int)), (42, .i (((k + 1) : Nat) : Int)), (55, .b ((decide (((List.getD (List.take i h) k default).kind) = (0 : Int))) && (decide (((List.getD (List.take i h) k default).arg) = ((List.getD h i default).arg))))), (56, .i (((k + 1) : Nat) : Int))], [(4, ⟨27, .fix [.i ((List.getD h i default).proc), .i ((List.getD h i default).obj), .i ((List.getD h i default).kind), .i ((List.getD h i default).arg), .i ((List.getD h i default).ret), .i ((List.getD h i default).frm), .i ((List.getD h i default).to)]⟩), (6, ⟨27, .fix [.i ((List.getD (List.take i h) k default).proc), .i ((List.getD (List.take i h) k default).obj), .i ((List.getD (List.take i h) k default).kind), .i ((List.getD (List.take i h) k default).arg), .i ((List.getD (List.take i h) k default).ret), .i ((List.getD (List.take i h) k default).frm), .i ((List.getD (List.take i h) k default).to)]⟩)], [6, 4, 999]⟩)
                    ((True ∧ (True ∧ (Fits .i64 (((k + 1) : Nat) : Int)))) ∧ (True ∧ True)) (by kernel_rfl)
                    ⟨⟨trivial, ⟨trivial, (by exact fits_i64 (by omega) (by omega))⟩⟩, ⟨trivial, trivial⟩⟩ ?_
                  refine thenQ_normal ?_
                  refine ⟨((k + 1)), (show ((k + 1) ≤ i) ∧ (∀ j, j < (k + 1) → (!samePut (callAt h i) (callAt h j)) = true) from ⟨(by first | assumption | omega | rfl | (intro _ hjj; omega) | (simp; done) | (simp; omega)), (by exact upto_succ hB (put_2 (by rw [← n55, getD_take h (default : CallD) (show k < i by omega)]; rfl)))⟩), (show i - (k + 1) < i - k from (by first | omega | (simp_all; omega))), ?_⟩
                  exact Sub.of [] (@cast ((((.calls h : Dat) = .calls h) ∧ ((((4 : Nat) = 4) ∧ (((0 : Nat) = 0) ∧ ((4 : Nat) ∈ ([4, 999] : List Nat)))) ∧ (((.calls h : Dat) = .calls h) ∧ (((.int .i64 (((List.length h) : Nat) : Int) : Value) = .int .i64 (((List.length h) : Nat) : Int)) ∧ (((.int .i64 ((i : Nat) : Int) : Value) = .int .i64 ((i : Nat) : Int)) ∧ (((.calls (List.take i h) : Dat) = .calls (List.take i h)) ∧ (((.int .i64 (((List.length (List.take i h)) : Nat) : Int) : Value) = .int .i64 (((List.length (List.take i h)) : Nat) : Int)) ∧ (((.int .i64 (((k + 1) : Nat) : Int) : Value) = .int .i64 (((k + 1) : Nat) : Int)) ∧ True)))))))) ∧ (((((27 : Nat) = 27) ∧ ((((.int .i64 ((List.getD h i default).proc) : Value) = .int .i64 ((List.getD h i default).proc)) ∧ (((.int .i64 ((List.getD h i default).obj) : Value) = .int .i64 ((List.getD h i default).obj)) ∧ (((.int .i64 ((List.getD h i default).kind) : Value) = .int .i64 ((List.getD h i default).kind)) ∧ (((.int .i64 ((List.getD h i default).arg) : Value) = .int .i64 ((List.getD h i default).arg)) ∧ (((.int .i64 ((List.getD h i default).ret) : Value) = .int .i64 ((List.getD h i default).ret)) ∧ (((.int .i64 ((List.getD h i default).frm) : Value) = .int .i64 ((List.getD h i default).frm)) ∧ (((.int .i64 ((List.getD h i default).to) : Value) = .int .i64 ((List.getD h i default).to)) ∧ True))))))) ∧ ((4 : Nat) ∈ ([4, 999] : List Nat)))) ∧ True) ∧ ((true = true) ∧ (true = true)))) _ (by kernel_rfl) ⟨⟨rfl, ⟨⟨rfl, ⟨rfl, (by decide)⟩⟩, ⟨rfl, ⟨rfl, ⟨rfl, ⟨rfl, ⟨rfl, ⟨rfl, trivial⟩⟩⟩⟩⟩⟩⟩⟩, ⟨⟨⟨rfl, ⟨⟨rfl, ⟨rfl, ⟨rfl, ⟨rfl, ⟨rfl, ⟨rfl, ⟨rfl, trivial⟩⟩⟩⟩⟩⟩⟩, (by decide)⟩⟩, trivial⟩, ⟨rfl, rfl⟩⟩⟩)
              · intro n43
                have n43' := n43
                simp only [List.length_append, List.length_cons, List.length_nil, List.length_take, List.length_drop, List.length_set, List.length_replicate, List.length_map] at n43'
                refine W.exit (thenQ_exit (thenQ_exit (blockQ_hit ?_)))
                refine blockQ_normal (thenQ_normal ?_)
                refine W.L cok tab16 hnt [] (⟨[(0, .sl (.calls h)), (4, .ptr 4 0), (7, .sl (.calls h)), (8, .i (((List.length h) : Nat) : Int)), (9, .i (((i + 1) : Nat) : Int)), (40, .sl (.calls (List.take i h))), (41, .i (((List.length (List.take i h)) : Nat) : Int)), (42, .i ((k : Nat) : Int)), (43, .b (decide (((k : Nat) : Int) < (((List.length (List.take i h)) : Nat) : Int)))), (57, .i (((i + 1) : Nat) : Int))], [(4, ⟨27, .fix [.i ((List.getD h i default).proc), .i ((List.getD h i default).obj), .i ((List.getD h i default).kind), .i ((List.getD h i default).arg), .i ((List.getD h i default).ret), .i ((List.getD h i default).frm), .i ((List.getD h i default).to)]⟩)], [4, 999]⟩)
                  ((True ∧ (True ∧ (Fits .i64 (((i + 1) : Nat) : Int)))) ∧ (True ∧ True)) (by kernel_rfl)
                  ⟨⟨trivial, ⟨trivial, (by exact fits_i64 (by omega) (by omega))⟩⟩, ⟨trivial, trivial⟩⟩ ?_
                refine thenQ_normal ?_
                refine ⟨((i + 1)), (show ((i + 1) ≤ h.length) ∧ (∀ j, j < (i + 1) → (owOK (callAt h j) && allN j (fun k => !samePut (callAt h j) (callAt h k))) = true) from ⟨(by first | assumption | omega | rfl | (intro _ hjj; omega) | (simp; done) | (simp; omega)), (by first | exact upto_succ hA (and_t (ow_3 n21 h24) (allN_true (fun j _ => put_no h24))) | exact upto_succ hA (and_t (ow_4 n21 n37) (allN_true (fun j hj => hB j (by omega)))))⟩), (show h.length - (i + 1) < h.length - i from (by first | omega | (simp_all; omega))), ?_⟩
                exact Sub.of [] (@cast ((((.calls h : Dat) = .calls h) ∧ (((.calls h : Dat) = .calls h) ∧ (((.int .i64 (((List.length h) : Nat) : Int) : Value) = .int .i64 (((List.length h) : Nat) : Int)) ∧ (((.int .i64 (((i + 1) : Nat) : Int) : Value) = .int .i64 (((i + 1) : Nat) : Int)) ∧ True)))) ∧ (True ∧ ((true = true) ∧ (true = true)))) _ (by kernel_rfl) ⟨⟨rfl, ⟨rfl, ⟨rfl, ⟨rfl, trivial⟩⟩⟩⟩, ⟨trivial, ⟨rfl, rfl⟩⟩⟩)
    · intro n10
      refine W.exit (thenQ_exit (thenQ_exit (blockQ_hit ?_)))
      refine thenQ_normal ?_
      refine W.K cok tab16 hnt [] [2] (⟨[(2, .b (validHistory h))], [], [999]⟩)
        (True ∧ ((True ∧ ((True ∧ True) ∧ True)) ∧ (True ∧ True))) (by kernel_rfl)
        ⟨trivial, ⟨⟨trivial, ⟨⟨trivial, trivial⟩, trivial⟩⟩, ⟨trivial, trivial⟩⟩⟩ ?_
      refine W.ret ?_
      exact endQ_ret (.b (validHistory h)) (by kernel_rfl) (@cast ((.bool (validHistory h) : Value) = .bool (oneWriter h)) _ (by kernel_rfl) (congrArg Value.bool (by unfold oneWriter; symm; rw [allN_true (fun j hj => hA j (by omega)), Bool.and_true])))
theorem ent16 : Entr prog 16 := ⟨_, func16, rfl, by decide⟩

end Go.Proofs.Try
