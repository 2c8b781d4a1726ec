import Derived.Test.YtcjnccepckdiaaaAS
import Derived.Test.YtcjnccepckdiaaaM4
set_option linter.unusedSimpArgs false
set_option linter.unusedVariables false
namespace Go.Proofs.Try
open Go.Ab Go.RowKit
/-- spec.width -/
def fs92 : FnS := fnS [.s .calls] [.calls] (fun _ (h, _) => (.i (widthS h), [], True))
abbrev T92 : Tab := lk []
theorem tab92 : TabOK prog T92 := TabOK.nil
set_option maxRecDepth 100000 in
set_option maxHeartbeats 1000000 in
theorem ok92 : FnOK prog 92 fs92 := by
  refine FnOK.mk func92 rfl rfl rfl ?_
  rintro fl ⟨(h : List CallD), _⟩ hpre F hnt0 _
  have hnt : F.nt = 49 := hnt0.trans ntmps92
  clear hpre
  refine W.to (⟨[(0, .sl (.calls h))], [], [999]⟩) rfl ?_
  refine W.lenOf 0 (.calls h) (by kernel_rfl) ?_
  intro hl_h; replace hl_h : List.length h ≤ 9223372036854775807 := hl_h
  refine W.K cok tab92 hnt [] [0] (⟨[(0, .sl (.calls h))], [], [999]⟩)
    (True ∧ True) (by kernel_rfl)
    ⟨trivial, trivial⟩ ?_
  refine W.K cok tab92 hnt [] [0, 3] (⟨[(0, .sl (.calls h)), (3, .i (0 : Int))], [], [999]⟩)
    (True ∧ True) (by kernel_rfl)
    ⟨trivial, trivial⟩ ?_
  refine W.seq ?_
  refine W.K cok tab92 hnt [] [0, 3, 4] (⟨[(0, .sl (.calls h)), (3, .i (0 : Int)), (4, .i (0 : Int))], [], [999]⟩)
    (True ∧ True) (by kernel_rfl)
    ⟨trivial, trivial⟩ ?_
  refine W.block ?_
  refine W.loop (ι := Int × Nat) (fun (x : Int × Nat) => match x with | (out, i) => (⟨[(0, .sl (.calls h)), (3, .i out), (4, .i ((i : Nat) : Int))], [], [999]⟩ : St))
    (fun (x : Int × Nat) => match x with | (out, i) => (i ≤ h.length) ∧ (out = maxN i (fun jj => openAt h (callAt h jj).frm)))
    (fun (x : Int × Nat) => match x with | (out, i) => (h.length - i : Nat)) ((0 : Int), 0) ?_ ?_ ?_
  · exact (show (0 ≤ h.length) ∧ ((0 : Int) = maxN 0 (fun jj => openAt h (callAt h jj).frm)) from ⟨(by first | assumption | omega | rfl | (intro _ hjj; omega) | (simp; done) | (simp; omega)), (by rfl)⟩)
  · exact Sub.of [] (@cast ((((.calls h : Dat) = .calls h) ∧ (((.int .i64 (0 : Int) : Value) = .int .i64 (0 : Int)) ∧ (((.int .i64 (0 : Int) : Value) = .int .i64 ((0 : Nat) : Int)) ∧ True))) ∧ (True ∧ ((true = true) ∧ (true = true)))) _ (by kernel_rfl) ⟨⟨rfl, ⟨rfl, ⟨(congrArg (Value.int .i64) (by first | rfl | omega | assumption | simp | simp_all)), trivial⟩⟩⟩, ⟨trivial, ⟨rfl, rfl⟩⟩⟩)
  · rintro ⟨out, i⟩ hC0
    have hC : (i ≤ h.length) ∧ (out = maxN i (fun jj => openAt h (callAt h jj).frm)) := hC0
    clear hC0
    obtain ⟨hi, ho⟩ := hC
    refine W.to (⟨[(0, .sl (.calls h)), (3, .i out), (4, .i ((i : Nat) : Int))], [], [999]⟩) rfl ?_
    refine W.seq ?_
    refine W.K cok tab92 hnt [] [0, 3, 4, 10] (⟨[(0, .sl (.calls h)), (3, .i out), (4, .i ((i : Nat) : Int)), (10, .b (decide (((i : Nat) : Int) < (((List.length h) : Nat) : Int))))], [], [999]⟩)
      (True ∧ (True ∧ (True ∧ ((True ∧ (True ∧ True)) ∧ True)))) (by kernel_rfl)
      ⟨trivial, ⟨trivial, ⟨trivial, ⟨⟨trivial, ⟨trivial, trivial⟩⟩, trivial⟩⟩⟩⟩ ?_
    refine W.ifP (((i : Nat) : Int) < (((List.length h) : Nat) : Int)) (.b (decide (((i : Nat) : Int) < (((List.length h) : Nat) : Int)))) (by kernel_rfl) rfl trivial ?_ ?_
    · intro h10
      refine W.skip (thenQ_normal ?_)
      refine W.seq ?_
      refine W.block ?_
      refine W.K cok tab92 hnt [] [0, 3, 4, 5] (⟨[(0, .sl (.calls h)), (3, .i out), (4, .i ((i : Nat) : Int)), (5, .i (0 : Int))], [], [999]⟩)
        (True ∧ True) (by kernel_rfl)
        ⟨trivial, trivial⟩ ?_
      refine W.seq ?_
      refine W.K cok tab92 hnt [] [0, 3, 4, 5, 6] (⟨[(0, .sl (.calls h)), (3, .i out), (4, .i ((i : Nat) : Int)), (5, .i (0 : Int)), (6, .i (0 : Int))], [], [999]⟩)
        (True ∧ True) (by kernel_rfl)
        ⟨trivial, trivial⟩ ?_
      refine W.block ?_
      refine W.loop (ι := Int × Nat) (fun (x : Int × Nat) => match x with | (n, k) => (⟨[(0, .sl (.calls h)), (3, .i out), (4, .i ((i : Nat) : Int)), (5, .i n), (6, .i ((k : Nat) : Int))], [], [999]⟩ : St))
        (fun (x : Int × Nat) => match x with | (n, k) => (k ≤ h.length) ∧ (n = (((h.take k).countP (openP (callAt h i).frm) : Nat) : Int)))
        (fun (x : Int × Nat) => match x with | (n, k) => (h.length - k : Nat)) ((0 : Int), 0) ?_ ?_ ?_
      · exact (show (0 ≤ h.length) ∧ ((0 : Int) = (((h.take 0).countP (openP (callAt h i).frm) : Nat) : Int)) from ⟨(by first | assumption | omega | rfl | (intro _ hjj; omega) | (simp; done) | (simp; omega)), (by rfl)⟩)
      · exact Sub.of [] (@cast ((((.calls h : Dat) = .calls h) ∧ (((.int .i64 out : Value) = .int .i64 out) ∧ (((.int .i64 ((i : Nat) : Int) : Value) = .int .i64 ((i : Nat) : Int)) ∧ (((.int .i64 (0 : Int) : Value) = .int .i64 (0 : Int)) ∧ (((.int .i64 (0 : Int) : Value) = .int .i64 ((0 : Nat) : Int)) ∧ True))))) ∧ (True ∧ ((true = true) ∧ (true = true)))) _ (by kernel_rfl) ⟨⟨rfl, ⟨rfl, ⟨rfl, ⟨rfl, ⟨(congrArg (Value.int .i64) (by first | rfl | omega | assumption | simp | simp_all)), trivial⟩⟩⟩⟩⟩, ⟨trivial, ⟨rfl, rfl⟩⟩⟩)
      · rintro ⟨n, k⟩ hC0
        have hC : (k ≤ h.length) ∧ (n = (((h.take k).countP (openP (callAt h i).frm) : Nat) : Int)) := hC0
        clear hC0
        obtain ⟨hk, hn⟩ := hC
        refine W.to (⟨[(0, .sl (.calls h)), (3, .i out), (4, .i ((i : Nat) : Int)), (5, .i n), (6, .i ((k : Nat) : Int))], [], [999]⟩) rfl ?_
        have hcb := take_count_le h k (openP (callAt h i).frm)
        refine W.seq ?_
        refine W.K cok tab92 hnt [] [0, 3, 4, 5, 6, 16] (⟨[(0, .sl (.calls h)), (3, .i out), (4, .i ((i : Nat) : Int)), (5, .i n), (6, .i ((k : Nat) : Int)), (16, .b (decide (((k : Nat) : Int) < (((List.length h) : Nat) : Int))))], [], [999]⟩)
          (True ∧ (True ∧ (True ∧ ((True ∧ (True ∧ True)) ∧ True)))) (by kernel_rfl)
          ⟨trivial, ⟨trivial, ⟨trivial, ⟨⟨trivial, ⟨trivial, trivial⟩⟩, trivial⟩⟩⟩⟩ ?_
        refine W.ifP (((k : Nat) : Int) < (((List.length h) : Nat) : Int)) (.b (decide (((k : Nat) : Int) < (((List.length h) : Nat) : Int)))) (by kernel_rfl) rfl trivial ?_ ?_
        · intro h16
          refine W.skip (thenQ_normal ?_)
          refine W.seq ?_
          refine W.block ?_
          refine W.KA cok tab92 hnt [] [0, 3, 4, 5, 6, 42] (⟨[(0, .sl (.calls h)), (3, .i out), (4, .i ((i : Nat) : Int)), (5, .i n), (6, .i ((k : Nat) : Int)), (42, .b ((decide (((List.getD h k default).frm) ≤ ((List.getD h i default).frm))) && (decide (((List.getD h i default).frm) < ((List.getD h k default).to)))))], [], [999]⟩)
            (True ∧ (True ∧ ((True ∧ (True ∧ ((0 ≤ ((k : Nat) : Int)) ∧ (((k : Nat) : Int) < (((List.length h) : Nat) : Int))))) ∧ (True ∧ (True ∧ (True ∧ (True ∧ ((True ∧ (True ∧ ((0 ≤ ((i : Nat) : Int)) ∧ (((i : Nat) : Int) < (((List.length h) : Nat) : Int))))) ∧ (True ∧ (True ∧ ((True ∧ (True ∧ True)) ∧ (True ∧ (((decide (((List.getD h k default).frm) ≤ ((List.getD h i default).frm))) = true → True) ∧ (((decide (((List.getD h k default).frm) ≤ ((List.getD h i default).frm))) = true → True) ∧ (((decide (((List.getD h k default).frm) ≤ ((List.getD h i default).frm))) = true → ((((decide (((List.getD h k default).frm) ≤ ((List.getD h i default).frm))) = true) ∧ True) ∧ ((((decide (((List.getD h k default).frm) ≤ ((List.getD h i default).frm))) = true) ∧ True) ∧ ((0 ≤ ((i : Nat) : Int)) ∧ (((i : Nat) : Int) < (((List.length h) : Nat) : Int)))))) ∧ (((decide (((List.getD h k default).frm) ≤ ((List.getD h i default).frm))) = true → (((decide (((List.getD h k default).frm) ≤ ((List.getD h i default).frm))) = true) ∧ True)) ∧ (((decide (((List.getD h k default).frm) ≤ ((List.getD h i default).frm))) = true → (((decide (((List.getD h k default).frm) ≤ ((List.getD h i default).frm))) = true) ∧ True)) ∧ (((decide (((List.getD h k default).frm) ≤ ((List.getD h i default).frm))) = true → True) ∧ (((decide (((List.getD h k default).frm) ≤ ((List.getD h i default).frm))) = true → True) ∧ (((decide (((List.getD h k default).frm) ≤ ((List.getD h i default).frm))) = true → ((((decide (((List.getD h k default).frm) ≤ ((List.getD h i default).frm))) = true) ∧ True) ∧ ((((decide (((List.getD h k default).frm) ≤ ((List.getD h i default).frm))) = true) ∧ True) ∧ ((0 ≤ ((k : Nat) : Int)) ∧ (((k : Nat) : Int) < (((List.length h) : Nat) : Int)))))) ∧ (((decide (((List.getD h k default).frm) ≤ ((List.getD h i default).frm))) = true → (((decide (((List.getD h k default).frm) ≤ ((List.getD h i default).frm))) = true) ∧ True)) ∧ (((decide (((List.getD h k default).frm) ≤ ((List.getD h i default).frm))) = true → (((decide (((List.getD h k default).frm) ≤ ((List.getD h i default).frm))) = true) ∧ True)) ∧ (((decide (((List.getD h k default).frm) ≤ ((List.getD h i default).frm))) = true → ((((decide (((List.getD h k default).frm) ≤ ((List.getD h i default).frm))) = true) ∧ True) ∧ ((((decide (((List.getD h k default).frm) ≤ ((List.getD h i default).frm))) = true) ∧ True) ∧ True))) ∧ ((True ∧ (((decide (((List.getD h k default).frm) ≤ ((List.getD h i default).frm))) = true → ((decide (((List.getD h k default).frm) ≤ ((List.getD h i default).frm))) = true) ∧ True) ∧ ((decide (((List.getD h k default).frm) ≤ ((List.getD h i default).frm))) = false → True))) ∧ True)))))))))))))))))))))))) (by kernel_rfl) (by kernel_rfl)
            ⟨trivial, ⟨trivial, ⟨⟨trivial, ⟨trivial, ⟨(by omega), (by omega)⟩⟩⟩, ⟨trivial, ⟨trivial, ⟨trivial, ⟨trivial, ⟨⟨trivial, ⟨trivial, ⟨(by omega), (by omega)⟩⟩⟩, ⟨trivial, ⟨trivial, ⟨⟨trivial, ⟨trivial, trivial⟩⟩, ⟨trivial, ⟨(fun _ => trivial), ⟨(fun _ => trivial), ⟨(fun hG => ⟨⟨hG, trivial⟩, ⟨⟨hG, trivial⟩, ⟨(by have hg0 : ((List.getD h k default).frm) ≤ ((List.getD h i default).frm) := of_decide_eq_true hG; omega), (by have hg0 : ((List.getD h k default).frm) ≤ ((List.getD h i default).frm) := of_decide_eq_true hG; omega)⟩⟩⟩), ⟨(fun hG => ⟨hG, trivial⟩), ⟨(fun hG => ⟨hG, trivial⟩), ⟨(fun _ => trivial), ⟨(fun _ => trivial), ⟨(fun hG => ⟨⟨hG, trivial⟩, ⟨⟨hG, trivial⟩, ⟨(by have hg0 : ((List.getD h k default).frm) ≤ ((List.getD h i default).frm) := of_decide_eq_true hG; omega), (by have hg0 : ((List.getD h k default).frm) ≤ ((List.getD h i default).frm) := of_decide_eq_true hG; omega)⟩⟩⟩), ⟨(fun hG => ⟨hG, trivial⟩), ⟨(fun hG => ⟨hG, trivial⟩), ⟨(fun hG => ⟨⟨hG, trivial⟩, ⟨⟨hG, trivial⟩, trivial⟩⟩), ⟨⟨trivial, ⟨(fun hp => ⟨hp, trivial⟩), (fun _ => trivial)⟩⟩, trivial⟩⟩⟩⟩⟩⟩⟩⟩⟩⟩⟩⟩⟩⟩⟩⟩⟩⟩⟩⟩⟩⟩⟩⟩ ?_
          refine W.if' ((decide (((List.getD h k default).frm) ≤ ((List.getD h i default).frm))) && (decide (((List.getD h i default).frm) < ((List.getD h k default).to)))) (.b ((decide (((List.getD h k default).frm) ≤ ((List.getD h i default).frm))) && (decide (((List.getD h i default).frm) < ((List.getD h k default).to))))) (by kernel_rfl) rfl trivial ?_ ?_
          · intro h42
            have h42_0 : ((List.getD h k default).frm) ≤ ((List.getD h i default).frm) := of_decide_eq_true (and_l h42)
            have h42_1 : ((List.getD h i default).frm) < ((List.getD h k default).to) := of_decide_eq_true (and_r h42)
            refine W.L cok tab92 hnt [] (⟨[(0, .sl (.calls h)), (3, .i out), (4, .i ((i : Nat) : Int)), (5, .i (n + (1 : Int))), (6, .i ((k : Nat) : Int)), (42, .b ((decide (((List.getD h k default).frm) ≤ ((List.getD h i default).frm))) && (decide (((List.getD h i default).frm) < ((List.getD h k default).to))))), (43, .i n), (44, .i (n + (1 : Int)))], [], [999]⟩)
              (True ∧ ((True ∧ (True ∧ (Fits .i64 (n + (1 : Int))))) ∧ (True ∧ True))) (by kernel_rfl)
              ⟨trivial, ⟨⟨trivial, ⟨trivial, (by exact fits_i64 (by omega) (by omega))⟩⟩, ⟨trivial, trivial⟩⟩⟩ ?_
            refine blockQ_normal (thenQ_normal ?_)
            refine W.L cok tab92 hnt [] (⟨[(0, .sl (.calls h)), (3, .i out), (4, .i ((i : Nat) : Int)), (5, .i (n + (1 : Int))), (6, .i (((k + 1) : Nat) : Int)), (17, .i ((k : Nat) : Int)), (18, .i (((k + 1) : Nat) : Int)), (42, .b ((decide (((List.getD h k default).frm) ≤ ((List.getD h i default).frm))) && (decide (((List.getD h i default).frm) < ((List.getD h k default).to))))), (43, .i n), (44, .i (n + (1 : Int)))], [], [999]⟩)
              (True ∧ ((True ∧ (True ∧ (Fits .i64 (((k + 1) : Nat) : Int)))) ∧ (True ∧ True))) (by kernel_rfl)
              ⟨trivial, ⟨⟨trivial, ⟨trivial, (by exact fits_i64 (by omega) (by omega))⟩⟩, ⟨trivial, trivial⟩⟩⟩ ?_
            refine thenQ_normal ?_
            refine ⟨((n + (1 : Int)), (k + 1)), (show ((k + 1) ≤ h.length) ∧ ((n + (1 : Int)) = (((h.take (k + 1)).countP (openP (callAt h i).frm) : Nat) : Int)) from ⟨(by first | assumption | omega | rfl | (intro _ hjj; omega) | (simp; done) | (simp; omega)), (by rw [take_count (openP (callAt h i).frm) (by omega), hn]; first | (rw [if_pos (show openP (callAt h i).frm (h.getD k default) = true from h42)]) | (rw [if_neg (by rw [show openP (callAt h i).frm (h.getD k default) = false from n42]; simp)]; omega))⟩), (show h.length - (k + 1) < h.length - k from (by first | omega | (simp_all; omega))), ?_⟩
            exact Sub.of [] (@cast ((((.calls h : Dat) = .calls h) ∧ (((.int .i64 out : Value) = .int .i64 out) ∧ (((.int .i64 ((i : Nat) : Int) : Value) = .int .i64 ((i : Nat) : Int)) ∧ (((.int .i64 (n + (1 : Int)) : Value) = .int .i64 (n + (1 : Int))) ∧ (((.int .i64 (((k + 1) : Nat) : Int) : Value) = .int .i64 (((k + 1) : Nat) : Int)) ∧ True))))) ∧ (True ∧ ((true = true) ∧ (true = true)))) _ (by kernel_rfl) ⟨⟨rfl, ⟨rfl, ⟨rfl, ⟨rfl, ⟨rfl, trivial⟩⟩⟩⟩⟩, ⟨trivial, ⟨rfl, rfl⟩⟩⟩)
          · intro n42
            refine W.skip (blockQ_normal (thenQ_normal ?_))
            refine W.L cok tab92 hnt [] (⟨[(0, .sl (.calls h)), (3, .i out), (4, .i ((i : Nat) : Int)), (5, .i n), (6, .i (((k + 1) : Nat) : Int)), (17, .i ((k : Nat) : Int)), (18, .i (((k + 1) : Nat) : Int)), (42, .b ((decide (((List.getD h k default).frm) ≤ ((List.getD h i default).frm))) && (decide (((List.getD h i default).frm) < ((List.getD h k default).to)))))], [], [999]⟩)
              (True ∧ ((True ∧ (True ∧ (Fits .i64 (((k + 1) : Nat) : Int)))) ∧ (True ∧ True))) (by kernel_rfl)
              ⟨trivial, ⟨⟨trivial, ⟨trivial, (by exact fits_i64 (by omega) (by omega))⟩⟩, ⟨trivial, trivial⟩⟩⟩ ?_
            refine thenQ_normal ?_
            refine ⟨(n, (k + 1)), (show ((k + 1) ≤ h.length) ∧ (n = (((h.take (k + 1)).countP (openP (callAt h i).frm) : Nat) : Int)) from ⟨(by first | assumption | omega | rfl | (intro _ hjj; omega) | (simp; done) | (simp; omega)), (by rw [take_count (openP (callAt h i).frm) (by omega), hn]; first | (rw [if_pos (show openP (callAt h i).frm (h.getD k default) = true from h42)]) | (rw [if_neg (by rw [show openP (callAt h i).frm (h.getD k default) = false from n42]; simp)]; omega))⟩), (show h.length - (k + 1) < h.length - k from (by first | omega | (simp_all; omega))), ?_⟩
            exact Sub.of [] (@cast ((((.calls h : Dat) = .calls h) ∧ (((.int .i64 out : Value) = .int .i64 out) ∧ (((.int .i64 ((i : Nat) : Int) : Value) = .int .i64 ((i : Nat) : Int)) ∧ (((.int .i64 n : Value) = .int .i64 n) ∧ (((.int .i64 (((k + 1) : Nat) : Int) : Value) = .int .i64 (((k + 1) : Nat) : Int)) ∧ True))))) ∧ (True ∧ ((true = true) ∧ (true = true)))) _ (by kernel_rfl) ⟨⟨rfl, ⟨rfl, ⟨rfl, ⟨rfl, ⟨rfl, trivial⟩⟩⟩⟩⟩, ⟨trivial, ⟨rfl, rfl⟩⟩⟩)
        · intro n16
          refine W.exit (thenQ_exit (thenQ_exit (blockQ_hit ?_)))
          refine thenQ_normal ?_
          refine W.L cok tab92 hnt [] (⟨[(0, .sl (.calls h)), (3, .i (max out n)), (4, .i ((i : Nat) : Int)), (5, .i n), (6, .i ((k : Nat) : Int)), (16, .b (decide (((k : Nat) : Int) < (((List.length h) : Nat) : Int)))), (45, .i out), (46, .i n), (47, .i (max out n))], [], [999]⟩)
            (True ∧ (True ∧ ((True ∧ True) ∧ (True ∧ True)))) (by kernel_rfl)
            ⟨trivial, ⟨trivial, ⟨⟨trivial, trivial⟩, ⟨trivial, trivial⟩⟩⟩⟩ ?_
          refine blockQ_normal (thenQ_normal ?_)
          refine W.L cok tab92 hnt [] (⟨[(0, .sl (.calls h)), (3, .i (max out n)), (4, .i (((i + 1) : Nat) : Int)), (5, .i n), (6, .i ((k : Nat) : Int)), (11, .i ((i : Nat) : Int)), (12, .i (((i + 1) : Nat) : Int)), (16, .b (decide (((k : Nat) : Int) < (((List.length h) : Nat) : Int)))), (45, .i out), (46, .i n), (47, .i (max out n))], [], [999]⟩)
            (True ∧ ((True ∧ (True ∧ (Fits .i64 (((i + 1) : Nat) : Int)))) ∧ (True ∧ True))) (by kernel_rfl)
            ⟨trivial, ⟨⟨trivial, ⟨trivial, (by exact fits_i64 (by omega) (by omega))⟩⟩, ⟨trivial, trivial⟩⟩⟩ ?_
          refine thenQ_normal ?_
          refine ⟨((max out n), (i + 1)), (show ((i + 1) ≤ h.length) ∧ ((max out n) = maxN (i + 1) (fun jj => openAt h (callAt h jj).frm)) from ⟨(by first | assumption | omega | rfl | (intro _ hjj; omega) | (simp; done) | (simp; omega)), (by rw [ho, hn, show k = h.length by omega, List.take_length]; rfl)⟩), (show h.length - (i + 1) < h.length - i from (by first | omega | (simp_all; omega))), ?_⟩
          exact Sub.of [] (@cast ((((.calls h : Dat) = .calls h) ∧ (((.int .i64 (max out n) : Value) = .int .i64 (max out n)) ∧ (((.int .i64 (((i + 1) : Nat) : Int) : Value) = .int .i64 (((i + 1) : Nat) : Int)) ∧ True))) ∧ (True ∧ ((true = true) ∧ (true = true)))) _ (by kernel_rfl) ⟨⟨rfl, ⟨rfl, ⟨rfl, trivial⟩⟩⟩, ⟨trivial, ⟨rfl, rfl⟩⟩⟩)
    · intro n10
      refine W.exit (thenQ_exit (thenQ_exit (blockQ_hit ?_)))
      refine thenQ_normal ?_
      refine W.K cok tab92 hnt [] [2] (⟨[(2, .i out)], [], [999]⟩)
        (True ∧ (True ∧ True)) (by kernel_rfl)
        ⟨trivial, ⟨trivial, trivial⟩⟩ ?_
      refine W.ret ?_
      exact endQ_ret (.i out) (by kernel_rfl) (@cast ((.int .i64 out : Value) = .int .i64 (widthS h)) _ (by kernel_rfl) (congrArg (Value.int .i64) (by rw [ho, show i = h.length by omega]; rfl)))
theorem ent92 : Entr prog 92 := ⟨_, func92, rfl, by decide⟩

end Go.Proofs.Try
