import Derived.Test.YtcjnccepckdiaaaAS
import Derived.Test.YtcjnccepckdiaaaM4
set_option linter.unusedSimpArgs false
set_option linter.unusedVariables false
namespace Go.Proofs.Try
open Go.Ab Go.RowKit
/-- impl.openAt -/
def fs90 : FnS := fnS [.s .calls, .o] [.calls, .int] (fun _ (h, time, _) => (.i (openAt h time), [], True))
abbrev T90 : Tab := lk []
theorem tab90 : TabOK prog T90 := TabOK.nil
set_option maxRecDepth 100000 in
set_option maxHeartbeats 1000000 in
theorem ok90 : FnOK prog 90 fs90 := by
  refine FnOK.mk func90 rfl rfl rfl ?_
  rintro fl ⟨(h : List CallD), (time : Int), _⟩ hpre F hnt0 _
  have hnt : F.nt = 28 := hnt0.trans ntmps90
  clear hpre
  refine W.to (⟨[(0, .sl (.calls h)), (1, .i time)], [], [999]⟩) rfl ?_
  refine W.lenOf 0 (.calls h) (by kernel_rfl) ?_
  intro hl_h; replace hl_h : List.length h ≤ 9223372036854775807 := hl_h
  refine W.K cok tab90 hnt [] [0, 1] (⟨[(0, .sl (.calls h)), (1, .i time)], [], [999]⟩)
    (True ∧ True) (by kernel_rfl)
    ⟨trivial, trivial⟩ ?_
  refine W.K cok tab90 hnt [] [0, 1, 5] (⟨[(0, .sl (.calls h)), (1, .i time), (5, .i (0 : Int))], [], [999]⟩)
    (True ∧ True) (by kernel_rfl)
    ⟨trivial, trivial⟩ ?_
  refine W.seq ?_
  refine W.K cok tab90 hnt [] [1, 5, 8, 9, 10] (⟨[(1, .i time), (5, .i (0 : Int)), (8, .sl (.calls h)), (9, .i (((List.length h) : Nat) : Int)), (10, .i (0 : Int))], [], [999]⟩)
    (True ∧ (True ∧ (True ∧ True))) (by kernel_rfl)
    ⟨trivial, ⟨trivial, ⟨trivial, trivial⟩⟩⟩ ?_
  refine W.block ?_
  refine W.loop (ι := Int × Nat) (fun (x : Int × Nat) => match x with | (cnt, k) => (⟨[(1, .i time), (5, .i cnt), (8, .sl (.calls h)), (9, .i (((List.length h) : Nat) : Int)), (10, .i ((k : Nat) : Int))], [], [999]⟩ : St))
    (fun (x : Int × Nat) => match x with | (cnt, k) => (k ≤ h.length) ∧ (cnt = (((h.take k).countP (openP time) : Nat) : Int)))
    (fun (x : Int × Nat) => match x with | (cnt, k) => (h.length - k : Nat)) ((0 : Int), 0) ?_ ?_ ?_
  · exact (show (0 ≤ h.length) ∧ ((0 : Int) = (((h.take 0).countP (openP time) : Nat) : Int)) from ⟨(by first | assumption | omega | rfl | (intro _ hjj; omega) | (simp; done) | (simp; omega)), (by rfl)⟩)
  · exact Sub.of [] (@cast ((((.int .i64 time : Value) = .int .i64 time) ∧ (((.int .i64 (0 : Int) : Value) = .int .i64 (0 : Int)) ∧ (((.calls h : Dat) = .calls h) ∧ (((.int .i64 (((List.length h) : Nat) : Int) : Value) = .int .i64 (((List.length h) : Nat) : Int)) ∧ (((.int .i64 (0 : Int) : Value) = .int .i64 ((0 : Nat) : Int)) ∧ True))))) ∧ (True ∧ ((true = true) ∧ (true = true)))) _ (by kernel_rfl) ⟨⟨rfl, ⟨rfl, ⟨rfl, ⟨rfl, ⟨(congrArg (Value.int .i64) (by first | rfl | omega | assumption | simp | simp_all)), trivial⟩⟩⟩⟩⟩, ⟨trivial, ⟨rfl, rfl⟩⟩⟩)
  · rintro ⟨cnt, k⟩ hC0
    have hC : (k ≤ h.length) ∧ (cnt = (((h.take k).countP (openP time) : Nat) : Int)) := hC0
    clear hC0
    obtain ⟨hk, hc⟩ := hC
    refine W.to (⟨[(1, .i time), (5, .i cnt), (8, .sl (.calls h)), (9, .i (((List.length h) : Nat) : Int)), (10, .i ((k : Nat) : Int))], [], [999]⟩) rfl ?_
    have hcb := take_count_le h k (openP time)
    refine W.K cok tab90 hnt [] [1, 5, 8, 9, 10, 11] (⟨[(1, .i time), (5, .i cnt), (8, .sl (.calls h)), (9, .i (((List.length h) : Nat) : Int)), (10, .i ((k : Nat) : Int)), (11, .b (decide (((k : Nat) : Int) < (((List.length h) : Nat) : Int))))], [], [999]⟩)
      ((True ∧ (True ∧ True)) ∧ True) (by kernel_rfl)
      ⟨⟨trivial, ⟨trivial, trivial⟩⟩, trivial⟩ ?_
    refine W.seq ?_
    refine W.ifP (((k : Nat) : Int) < (((List.length h) : Nat) : Int)) (.b (decide (((k : Nat) : Int) < (((List.length h) : Nat) : Int)))) (by kernel_rfl) rfl trivial ?_ ?_
    · intro h11
      refine W.skip (thenQ_normal ?_)
      refine W.seq ?_
      refine W.block ?_
      refine W.K cok tab90 hnt [] [1, 5, 7, 8, 9, 10] (⟨[(1, .i time), (5, .i cnt), (7, .ptr 7 0), (8, .sl (.calls h)), (9, .i (((List.length h) : Nat) : Int)), (10, .i ((k : Nat) : Int))], [(7, ⟨27, .fix [.i ((List.getD h k default).proc), .i ((List.getD h k default).obj), .i ((List.getD h k default).kind), .i ((List.getD h k default).arg), .i ((List.getD h k default).ret), .i ((List.getD h k default).frm), .i ((List.getD h k default).to)]⟩)], [7, 999]⟩)
        ((True ∧ (True ∧ ((0 ≤ ((k : Nat) : Int)) ∧ (((k : Nat) : Int) < (((List.length h) : Nat) : Int))))) ∧ (True ∧ (True ∧ ((True ∧ True) ∧ True)))) (by kernel_rfl)
        ⟨⟨trivial, ⟨trivial, ⟨(by omega), (by omega)⟩⟩⟩, ⟨trivial, ⟨trivial, ⟨⟨trivial, trivial⟩, trivial⟩⟩⟩⟩ ?_
      refine W.K cok tab90 hnt [] [1, 5, 8, 9, 10, 23] (⟨[(1, .i time), (5, .i cnt), (8, .sl (.calls h)), (9, .i (((List.length h) : Nat) : Int)), (10, .i ((k : Nat) : Int)), (23, .b ((decide (((List.getD h k default).frm) ≤ time)) && (decide (time < ((List.getD h k default).to)))))], [(7, ⟨27, .fix [.i ((List.getD h k default).proc), .i ((List.getD h k default).obj), .i ((List.getD h k default).kind), .i ((List.getD h k default).arg), .i ((List.getD h k default).ret), .i ((List.getD h k default).frm), .i ((List.getD h k default).to)]⟩)], [7, 999]⟩)
        (True ∧ (True ∧ (True ∧ ((True ∧ (True ∧ True)) ∧ (True ∧ (((decide (((List.getD h k default).frm) ≤ time)) = true → True) ∧ (((decide (((List.getD h k default).frm) ≤ time)) = true → True) ∧ (((decide (((List.getD h k default).frm) ≤ time)) = true → (((decide (((List.getD h k default).frm) ≤ time)) = true) ∧ True)) ∧ (((decide (((List.getD h k default).frm) ≤ time)) = true → ((((decide (((List.getD h k default).frm) ≤ time)) = true) ∧ True) ∧ ((((decide (((List.getD h k default).frm) ≤ time)) = true) ∧ True) ∧ True))) ∧ ((True ∧ (((decide (((List.getD h k default).frm) ≤ time)) = true → ((decide (((List.getD h k default).frm) ≤ time)) = true) ∧ True) ∧ ((decide (((List.getD h k default).frm) ≤ time)) = false → True))) ∧ True)))))))))) (by kernel_rfl)
        ⟨trivial, ⟨trivial, ⟨trivial, ⟨⟨trivial, ⟨trivial, trivial⟩⟩, ⟨trivial, ⟨(fun _ => trivial), ⟨(fun _ => trivial), ⟨(fun hG => ⟨hG, trivial⟩), ⟨(fun hG => ⟨⟨hG, trivial⟩, ⟨⟨hG, trivial⟩, trivial⟩⟩), ⟨⟨trivial, ⟨(fun hp => ⟨hp, trivial⟩), (fun _ => trivial)⟩⟩, trivial⟩⟩⟩⟩⟩⟩⟩⟩⟩⟩ ?_
      refine W.if' ((decide (((List.getD h k default).frm) ≤ time)) && (decide (time < ((List.getD h k default).to)))) (.b ((decide (((List.getD h k default).frm) ≤ time)) && (decide (time < ((List.getD h k default).to))))) (by kernel_rfl) rfl trivial ?_ ?_
      · intro h23
        have h23_0 : ((List.getD h k default).frm) ≤ time := of_decide_eq_true (and_l h23)
        have h23_1 : time < ((List.getD h k default).to) := of_decide_eq_true (and_r h23)
        refine W.L cok tab90 hnt [] (⟨[(1, .i time), (5, .i (cnt + (1 : Int))), (8, .sl (.calls h)), (9, .i (((List.length h) : Nat) : Int)), (10, .i ((k : Nat) : Int)), (23, .b ((decide (((List.getD h k default).frm) ≤ time)) && (decide (time < ((List.getD h k default).to))))), (24, .i cnt), (25, .i (cnt + (1 : Int)))], [(7, ⟨27, .fix [.i ((List.getD h k default).proc), .i ((List.getD h k default).obj), .i ((List.getD h k default).kind), .i ((List.getD h k default).arg), .i ((List.getD h k default).ret), .i ((List.getD h k default).frm), .i ((List.getD h k default).to)]⟩)], [7, 999]⟩)
          (True ∧ ((True ∧ (True ∧ (Fits .i64 (cnt + (1 : Int))))) ∧ (True ∧ True))) (by kernel_rfl)
          ⟨trivial, ⟨⟨trivial, ⟨trivial, (by exact fits_i64 (by omega) (by omega))⟩⟩, ⟨trivial, trivial⟩⟩⟩ ?_
        refine blockQ_normal (thenQ_normal ?_)
        refine W.L cok tab90 hnt [] (⟨[(1, .i time), (5, .i (cnt + (1 : Int))), (8, .sl (.calls h)), (9, .i (((List.length h) : Nat) : Int)), (10, .i (((k + 1) : Nat) : Int)), (23, .b ((decide (((List.getD h k default).frm) ≤ time)) && (decide (time < ((List.getD h k default).to))))), (24, .i cnt), (25, .i (cnt + (1 : Int))), (26, .i (((k + 1) : Nat) : Int))], [(7, ⟨27, .fix [.i ((List.getD h k default).proc), .i ((List.getD h k default).obj), .i ((List.getD h k default).kind), .i ((List.getD h k default).arg), .i ((List.getD h k default).ret), .i ((List.getD h k default).frm), .i ((List.getD h k default).to)]⟩)], [7, 999]⟩)
          ((True ∧ (True ∧ (Fits .i64 (((k + 1) : Nat) : Int)))) ∧ (True ∧ True)) (by kernel_rfl)
          ⟨⟨trivial, ⟨trivial, (by exact fits_i64 (by omega) (by omega))⟩⟩, ⟨trivial, trivial⟩⟩ ?_
        refine thenQ_normal ?_
        refine ⟨((cnt + (1 : Int)), (k + 1)), (show ((k + 1) ≤ h.length) ∧ ((cnt + (1 : Int)) = (((h.take (k + 1)).countP (openP time) : Nat) : Int)) from ⟨(by first | assumption | omega | rfl | (intro _ hjj; omega) | (simp; done) | (simp; omega)), (by rw [take_count (openP time) (by omega), hc]; first | (rw [if_pos (show openP time (h.getD k default) = true from h23)]) | (rw [if_neg (by rw [show openP time (h.getD k default) = false from n23]; simp)]; omega))⟩), (show h.length - (k + 1) < h.length - k from (by first | omega | (simp_all; omega))), ?_⟩
        exact Sub.of [] (@cast ((((.int .i64 time : Value) = .int .i64 time) ∧ (((.int .i64 (cnt + (1 : Int)) : Value) = .int .i64 (cnt + (1 : Int))) ∧ (((.calls h : Dat) = .calls h) ∧ (((.int .i64 (((List.length h) : Nat) : Int) : Value) = .int .i64 (((List.length h) : Nat) : Int)) ∧ (((.int .i64 (((k + 1) : Nat) : Int) : Value) = .int .i64 (((k + 1) : Nat) : Int)) ∧ True))))) ∧ (True ∧ ((true = true) ∧ (true = true)))) _ (by kernel_rfl) ⟨⟨rfl, ⟨rfl, ⟨rfl, ⟨rfl, ⟨rfl, trivial⟩⟩⟩⟩⟩, ⟨trivial, ⟨rfl, rfl⟩⟩⟩)
      · intro n23
        refine W.skip (blockQ_normal (thenQ_normal ?_))
        refine W.L cok tab90 hnt [] (⟨[(1, .i time), (5, .i cnt), (8, .sl (.calls h)), (9, .i (((List.length h) : Nat) : Int)), (10, .i (((k + 1) : Nat) : Int)), (23, .b ((decide (((List.getD h k default).frm) ≤ time)) && (decide (time < ((List.getD h k default).to))))), (26, .i (((k + 1) : Nat) : Int))], [(7, ⟨27, .fix [.i ((List.getD h k default).proc), .i ((List.getD h k default).obj), .i ((List.getD h k default).kind), .i ((List.getD h k default).arg), .i ((List.getD h k default).ret), .i ((List.getD h k default).frm), .i ((List.getD h k default).to)]⟩)], [7, 999]⟩)
          ((True ∧ (True ∧ (Fits .i64 (((k + 1) : Nat) : Int)))) ∧ (True ∧ True)) (by kernel_rfl)
          ⟨⟨trivial, ⟨trivial, (by exact fits_i64 (by omega) (by omega))⟩⟩, ⟨trivial, trivial⟩⟩ ?_
        refine thenQ_normal ?_
        refine ⟨(cnt, (k + 1)), (show ((k + 1) ≤ h.length) ∧ (cnt = (((h.take (k + 1)).countP (openP time) : Nat) : Int)) from ⟨(by first | assumption | omega | rfl | (intro _ hjj; omega) | (simp; done) | (simp; omega)), (by rw [take_count (openP time) (by omega), hc]; first | (rw [if_pos (show openP time (h.getD k default) = true from h23)]) | (rw [if_neg (by rw [show openP time (h.getD k default) = false from n23]; simp)]; omega))⟩), (show h.length - (k + 1) < h.length - k from (by first | omega | (simp_all; omega))), ?_⟩
        exact Sub.of [] (@cast ((((.int .i64 time : Value) = .int .i64 time) ∧ (((.int .i64 cnt : Value) = .int .i64 cnt) ∧ (((.calls h : Dat) = .calls h) ∧ (((.int .i64 (((List.length h) : Nat) : Int) : Value) = .int .i64 (((List.length h) : Nat) : Int)) ∧ (((.int .i64 (((k + 1) : Nat) : Int) : Value) = .int .i64 (((k + 1) : Nat) : Int)) ∧ True))))) ∧ (True ∧ ((true = true) ∧ (true = true)))) _ (by kernel_rfl) ⟨⟨rfl, ⟨rfl, ⟨rfl, ⟨rfl, ⟨rfl, trivial⟩⟩⟩⟩⟩, ⟨trivial, ⟨rfl, rfl⟩⟩⟩)
    · intro n11
      refine W.exit (thenQ_exit (thenQ_exit (blockQ_hit ?_)))
      refine thenQ_normal ?_
      refine W.K cok tab90 hnt [] [4] (⟨[(4, .i cnt)], [], [999]⟩)
        (True ∧ (True ∧ True)) (by kernel_rfl)
        ⟨trivial, ⟨trivial, trivial⟩⟩ ?_
      refine W.ret ?_
      exact endQ_ret (.i cnt) (by kernel_rfl) (@cast ((.int .i64 cnt : Value) = .int .i64 (openAt h time)) _ (by kernel_rfl) (congrArg (Value.int .i64) (by rw [hc, show k = h.length by omega, List.take_length]; rfl)))
theorem ent90 : Entr prog 90 := ⟨_, func90, rfl, by decide⟩

end Go.Proofs.Try
