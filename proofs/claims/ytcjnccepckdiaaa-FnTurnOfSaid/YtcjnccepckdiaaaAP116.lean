import Derived.Test.YtcjnccepckdiaaaAS
import Derived.Test.YtcjnccepckdiaaaM5
import Derived.Test.YtcjnccepckdiaaaAP18
set_option linter.unusedSimpArgs false
set_option linter.unusedVariables false
namespace Go.Proofs.Try
open Go.Ab Go.RowKit
/-- impl.overlapsPut -/
def fs116 : FnS := fnS [.s .calls, .o] [.calls, .call] (fun _ (h, c, _) => (.b (overlapsPut h c), [], True))
abbrev T116 : Tab := lk [(18, fs18)]
theorem tab116 : TabOK prog T116 := (TabOK.cons ok18 ent18 TabOK.nil)
set_option maxRecDepth 100000 in
set_option maxHeartbeats 1000000 in
theorem ok116 : FnOK prog 116 fs116 := by
  refine FnOK.mk func116 rfl rfl rfl ?_
  rintro fl ⟨(h : List CallD), (c : CallD), _⟩ hpre F hnt0 _
  have hnt : F.nt = 22 := hnt0.trans ntmps116
  clear hpre
  refine W.to (⟨[(0, .sl (.calls h)), (1, .agg [.i c.proc, .i c.obj, .i c.kind, .i c.arg, .i c.ret, .i c.frm, .i c.to])], [], [999]⟩) rfl ?_
  refine W.lenOf 0 (.calls h) (by kernel_rfl) ?_
  intro hl_h; replace hl_h : List.length h ≤ 9223372036854775807 := hl_h
  refine W.K cok tab116 hnt [] [0, 3] (⟨[(0, .sl (.calls h)), (3, .ptr 3 0)], [(3, ⟨27, .fix [.i c.proc, .i c.obj, .i c.kind, .i c.arg, .i c.ret, .i c.frm, .i c.to]⟩)], [3, 999]⟩)
    (True ∧ (True ∧ True)) (by kernel_rfl)
    ⟨trivial, ⟨trivial, trivial⟩⟩ ?_
  refine W.seq ?_
  refine W.K cok tab116 hnt [] [3, 7, 8, 9] (⟨[(3, .ptr 3 0), (7, .sl (.calls h)), (8, .i (((List.length h) : Nat) : Int)), (9, .i (0 : Int))], [(3, ⟨27, .fix [.i c.proc, .i c.obj, .i c.kind, .i c.arg, .i c.ret, .i c.frm, .i c.to]⟩)], [3, 999]⟩)
    (True ∧ (True ∧ (True ∧ True))) (by kernel_rfl)
    ⟨trivial, ⟨trivial, ⟨trivial, trivial⟩⟩⟩ ?_
  refine W.block ?_
  refine W.loop (ι := Nat) (fun (k : Nat) => (⟨[(3, .ptr 3 0), (7, .sl (.calls h)), (8, .i (((List.length h) : Nat) : Int)), (9, .i ((k : Nat) : Int))], [(3, ⟨27, .fix [.i c.proc, .i c.obj, .i c.kind, .i c.arg, .i c.ret, .i c.frm, .i c.to]⟩)], [3, 999]⟩ : St))
    (fun (k : Nat) => (k ≤ h.length) ∧ (∀ j, j < k → (decide ((callAt h j).kind = 0) && doOverlap (callAt h j) c) = false))
    (fun (k : Nat) => (h.length - k : Nat)) (0) ?_ ?_ ?_
  · exact (show (0 ≤ h.length) ∧ (∀ j, j < 0 → (decide ((callAt h j).kind = 0) && doOverlap (callAt h j) c) = false) from ⟨(by first | assumption | omega | rfl | (intro _ hjj; omega) | (simp; done) | (simp; omega)), (by exact upto_zero)⟩)
  · exact Sub.of [] (@cast (((((3 : Nat) = 3) ∧ (((0 : Nat) = 0) ∧ ((3 : Nat) ∈ ([3, 999] : List Nat)))) ∧ (((.calls h : Dat) = .calls h) ∧ (((.int .i64 (((List.length h) : Nat) : Int) : Value) = .int .i64 (((List.length h) : Nat) : Int)) ∧ (((.int .i64 (0 : Int) : Value) = .int .i64 ((0 : Nat) : Int)) ∧ True)))) ∧ (((((27 : Nat) = 27) ∧ ((((.int .i64 c.proc : Value) = .int .i64 c.proc) ∧ (((.int .i64 c.obj : Value) = .int .i64 c.obj) ∧ (((.int .i64 c.kind : Value) = .int .i64 c.kind) ∧ (((.int .i64 c.arg : Value) = .int .i64 c.arg) ∧ (((.int .i64 c.ret : Value) = .int .i64 c.ret) ∧ (((.int .i64 c.frm : Value) = .int .i64 c.frm) ∧ (((.int .i64 c.to : Value) = .int .i64 c.to) ∧ True))))))) ∧ ((3 : Nat) ∈ ([3, 999] : List Nat)))) ∧ True) ∧ ((true = true) ∧ (true = true)))) _ (by kernel_rfl) ⟨⟨⟨rfl, ⟨rfl, (by decide)⟩⟩, ⟨rfl, ⟨rfl, ⟨(congrArg (Value.int .i64) (by first | rfl | omega | assumption | simp | simp_all)), trivial⟩⟩⟩⟩, ⟨⟨⟨rfl, ⟨⟨rfl, ⟨rfl, ⟨rfl, ⟨rfl, ⟨rfl, ⟨rfl, ⟨rfl, trivial⟩⟩⟩⟩⟩⟩⟩, (by decide)⟩⟩, trivial⟩, ⟨rfl, rfl⟩⟩⟩)
  · rintro k hC0
    have hC : (k ≤ h.length) ∧ (∀ j, j < k → (decide ((callAt h j).kind = 0) && doOverlap (callAt h j) c) = false) := hC0
    clear hC0
    obtain ⟨hk, hA⟩ := hC
    refine W.to (⟨[(3, .ptr 3 0), (7, .sl (.calls h)), (8, .i (((List.length h) : Nat) : Int)), (9, .i ((k : Nat) : Int))], [(3, ⟨27, .fix [.i c.proc, .i c.obj, .i c.kind, .i c.arg, .i c.ret, .i c.frm, .i c.to]⟩)], [3, 999]⟩) rfl ?_
    refine W.K cok tab116 hnt [] [3, 7, 8, 9, 10] (⟨[(3, .ptr 3 0), (7, .sl (.calls h)), (8, .i (((List.length h) : Nat) : Int)), (9, .i ((k : Nat) : Int)), (10, .b (decide (((k : Nat) : Int) < (((List.length h) : Nat) : Int))))], [(3, ⟨27, .fix [.i c.proc, .i c.obj, .i c.kind, .i c.arg, .i c.ret, .i c.frm, .i c.to]⟩)], [3, 999]⟩)
      ((True ∧ (True ∧ True)) ∧ True) (by kernel_rfl)
      ⟨⟨trivial, ⟨trivial, trivial⟩⟩, trivial⟩ ?_
    refine W.seq ?_
    refine W.ifP (((k : Nat) : Int) < (((List.length h) : Nat) : Int)) (.b (decide (((k : Nat) : Int) < (((List.length h) : Nat) : Int)))) (by kernel_rfl) rfl trivial ?_ ?_
    · intro h10
      refine W.skip (thenQ_normal ?_)
      refine W.seq ?_
      refine W.block ?_
      refine W.K cok tab116 hnt [] [3, 6, 7, 8, 9] (⟨[(3, .ptr 3 0), (6, .ptr 6 0), (7, .sl (.calls h)), (8, .i (((List.length h) : Nat) : Int)), (9, .i ((k : Nat) : Int))], [(3, ⟨27, .fix [.i c.proc, .i c.obj, .i c.kind, .i c.arg, .i c.ret, .i c.frm, .i c.to]⟩), (6, ⟨27, .fix [.i ((List.getD h k default).proc), .i ((List.getD h k default).obj), .i ((List.getD h k default).kind), .i ((List.getD h k default).arg), .i ((List.getD h k default).ret), .i ((List.getD h k default).frm), .i ((List.getD h k default).to)]⟩)], [6, 3, 999]⟩)
        ((True ∧ (True ∧ ((0 ≤ ((k : Nat) : Int)) ∧ (((k : Nat) : Int) < (((List.length h) : Nat) : Int))))) ∧ (True ∧ (True ∧ ((True ∧ True) ∧ True)))) (by kernel_rfl)
        ⟨⟨trivial, ⟨trivial, ⟨(by omega), (by omega)⟩⟩⟩, ⟨trivial, ⟨trivial, ⟨⟨trivial, trivial⟩, trivial⟩⟩⟩⟩ ?_
      refine W.K cok tab116 hnt [] [3, 7, 8, 9, 20] (⟨[(3, .ptr 3 0), (7, .sl (.calls h)), (8, .i (((List.length h) : Nat) : Int)), (9, .i ((k : Nat) : Int)), (20, .b ((decide (((List.getD h k default).kind) = (0 : Int))) && (doOverlap (List.getD h k default) c)))], [(3, ⟨27, .fix [.i c.proc, .i c.obj, .i c.kind, .i c.arg, .i c.ret, .i c.frm, .i c.to]⟩), (6, ⟨27, .fix [.i ((List.getD h k default).proc), .i ((List.getD h k default).obj), .i ((List.getD h k default).kind), .i ((List.getD h k default).arg), .i ((List.getD h k default).ret), .i ((List.getD h k default).frm), .i ((List.getD h k default).to)]⟩)], [6, 3, 999]⟩)
        (True ∧ (True ∧ ((True ∧ (True ∧ True)) ∧ (True ∧ (((decide (((List.getD h k default).kind) = (0 : Int))) = true → True) ∧ (((decide (((List.getD h k default).kind) = (0 : Int))) = true → True) ∧ (((decide (((List.getD h k default).kind) = (0 : Int))) = true → (True ∧ (((((decide (((List.getD h k default).kind) = (0 : Int))) = true) ∧ True) ∧ ((((decide (((List.getD h k default).kind) = (0 : Int))) = true) ∧ True) ∧ True)) ∧ True))) ∧ ((True ∧ (((decide (((List.getD h k default).kind) = (0 : Int))) = true → ((decide (((List.getD h k default).kind) = (0 : Int))) = true) ∧ True) ∧ ((decide (((List.getD h k default).kind) = (0 : Int))) = false → True))) ∧ True)))))))) (by kernel_rfl)
        ⟨trivial, ⟨trivial, ⟨⟨trivial, ⟨trivial, trivial⟩⟩, ⟨trivial, ⟨(fun _ => trivial), ⟨(fun _ => trivial), ⟨(fun hG => ⟨trivial, ⟨⟨⟨hG, trivial⟩, ⟨⟨hG, trivial⟩, trivial⟩⟩, trivial⟩⟩), ⟨⟨trivial, ⟨(fun hp => ⟨hp, trivial⟩), (fun _ => trivial)⟩⟩, trivial⟩⟩⟩⟩⟩⟩⟩⟩ ?_
      refine W.if' ((decide (((List.getD h k default).kind) = (0 : Int))) && (doOverlap (List.getD h k default) c)) (.b ((decide (((List.getD h k default).kind) = (0 : Int))) && (doOverlap (List.getD h k default) c))) (by kernel_rfl) rfl trivial ?_ ?_
      · intro h20
        have h20_0 : ((List.getD h k default).kind) = (0 : Int) := of_decide_eq_true (and_l h20)
        refine W.K cok tab116 hnt [] [4] (⟨[(4, .b true)], [(3, ⟨27, .fix [.i c.proc, .i c.obj, .i c.kind, .i c.arg, .i c.ret, .i c.frm, .i c.to]⟩), (6, ⟨27, .fix [.i ((List.getD h k default).proc), .i ((List.getD h k default).obj), .i ((List.getD h k default).kind), .i ((List.getD h k default).arg), .i ((List.getD h k default).ret), .i ((List.getD h k default).frm), .i ((List.getD h k default).to)]⟩)], [6, 3, 999]⟩)
          (True ∧ True) (by kernel_rfl)
          ⟨trivial, trivial⟩ ?_
        refine W.ret (blockQ_ret (thenQ_ret (thenQ_ret (blockQ_ret (thenQ_ret ?_)))))
        exact endQ_ret (.b true) (by kernel_rfl) (@cast ((.bool true : Value) = .bool (overlapsPut h c)) _ (by kernel_rfl) (congrArg Value.bool (by symm; exact anyN_true (i := k) (by omega) h20)))
      · intro n20
        refine W.skip (blockQ_normal (thenQ_normal ?_))
        refine W.L cok tab116 hnt [] (⟨[(3, .ptr 3 0), (7, .sl (.calls h)), (8, .i (((List.length h) : Nat) : Int)), (9, .i (((k + 1) : Nat) : Int)), (20, .b ((decide (((List.getD h k default).kind) = (0 : Int))) && (doOverlap (List.getD h k default) c))), (21, .i (((k + 1) : Nat) : Int))], [(3, ⟨27, .fix [.i c.proc, .i c.obj, .i c.kind, .i c.arg, .i c.ret, .i c.frm, .i c.to]⟩), (6, ⟨27, .fix [.i ((List.getD h k default).proc), .i ((List.getD h k default).obj), .i ((List.getD h k default).kind), .i ((List.getD h k default).arg), .i ((List.getD h k default).ret), .i ((List.getD h k default).frm), .i ((List.getD h k default).to)]⟩)], [6, 3, 999]⟩)
          ((True ∧ (True ∧ (Fits .i64 (((k + 1) : Nat) : Int)))) ∧ (True ∧ True)) (by kernel_rfl)
          ⟨⟨trivial, ⟨trivial, (by exact fits_i64 (by omega) (by omega))⟩⟩, ⟨trivial, trivial⟩⟩ ?_
        refine thenQ_normal ?_
        refine ⟨((k + 1)), (show ((k + 1) ≤ h.length) ∧ (∀ j, j < (k + 1) → (decide ((callAt h j).kind = 0) && doOverlap (callAt h j) c) = false) from ⟨(by first | assumption | omega | rfl | (intro _ hjj; omega) | (simp; done) | (simp; omega)), (by exact upto_succ hA n20)⟩), (show h.length - (k + 1) < h.length - k from (by first | omega | (simp_all; omega))), ?_⟩
        exact Sub.of [] (@cast (((((3 : Nat) = 3) ∧ (((0 : Nat) = 0) ∧ ((3 : Nat) ∈ ([3, 999] : List Nat)))) ∧ (((.calls h : Dat) = .calls h) ∧ (((.int .i64 (((List.length h) : Nat) : Int) : Value) = .int .i64 (((List.length h) : Nat) : Int)) ∧ (((.int .i64 (((k + 1) : Nat) : Int) : Value) = .int .i64 (((k + 1) : Nat) : Int)) ∧ True)))) ∧ (((((27 : Nat) = 27) ∧ ((((.int .i64 c.proc : Value) = .int .i64 c.proc) ∧ (((.int .i64 c.obj : Value) = .int .i64 c.obj) ∧ (((.int .i64 c.kind : Value) = .int .i64 c.kind) ∧ (((.int .i64 c.arg : Value) = .int .i64 c.arg) ∧ (((.int .i64 c.ret : Value) = .int .i64 c.ret) ∧ (((.int .i64 c.frm : Value) = .int .i64 c.frm) ∧ (((.int .i64 c.to : Value) = .int .i64 c.to) ∧ True))))))) ∧ ((3 : Nat) ∈ ([3, 999] : List Nat)))) ∧ True) ∧ ((true = true) ∧ (true = true)))) _ (by kernel_rfl) ⟨⟨⟨rfl, ⟨rfl, (by decide)⟩⟩, ⟨rfl, ⟨rfl, ⟨rfl, trivial⟩⟩⟩⟩, ⟨⟨⟨rfl, ⟨⟨rfl, ⟨rfl, ⟨rfl, ⟨rfl, ⟨rfl, ⟨rfl, ⟨rfl, trivial⟩⟩⟩⟩⟩⟩⟩, (by decide)⟩⟩, trivial⟩, ⟨rfl, rfl⟩⟩⟩)
    · intro n10
      refine W.exit (thenQ_exit (thenQ_exit (blockQ_hit ?_)))
      refine thenQ_normal ?_
      refine W.K cok tab116 hnt [] [4] (⟨[(4, .b false)], [(3, ⟨27, .fix [.i c.proc, .i c.obj, .i c.kind, .i c.arg, .i c.ret, .i c.frm, .i c.to]⟩)], [3, 999]⟩)
        (True ∧ True) (by kernel_rfl)
        ⟨trivial, trivial⟩ ?_
      refine W.ret ?_
      exact endQ_ret (.b false) (by kernel_rfl) (@cast ((.bool false : Value) = .bool (overlapsPut h c)) _ (by kernel_rfl) (congrArg Value.bool (by symm; exact anyN_false (fun j hj => hA j (by omega)))))
theorem ent116 : Entr prog 116 := ⟨_, func116, rfl, by decide⟩

end Go.Proofs.Try
