import Derived.Test.YtcjnccepckdiaaaAS
import Derived.Test.YtcjnccepckdiaaaM5
set_option linter.unusedSimpArgs false
set_option linter.unusedVariables false
namespace Go.Proofs.Try
open Go.Ab Go.RowKit
/-- impl.sourceOf -/
def fs107 : FnS := fnS [.s .calls, .o] [.calls, .call] (fun _ (h, c, _) => (.i (sourceR h c.ret), [], True))
abbrev T107 : Tab := lk []
theorem tab107 : TabOK prog T107 := TabOK.nil
set_option maxRecDepth 100000 in
set_option maxHeartbeats 1000000 in
theorem ok107 : FnOK prog 107 fs107 := by
  refine FnOK.mk func107 rfl rfl rfl ?_
  rintro fl ⟨(h : List CallD), (c : CallD), _⟩ hpre F hnt0 _
  have hnt : F.nt = 29 := hnt0.trans ntmps107
  clear hpre
  refine W.to (⟨[(0, .sl (.calls h)), (1, .agg [.i c.proc, .i c.obj, .i c.kind, .i c.arg, .i c.ret, .i c.frm, .i c.to])], [], [999]⟩) rfl ?_
  refine W.lenOf 0 (.calls h) (by kernel_rfl) ?_
  intro hl_h; replace hl_h : List.length h ≤ 9223372036854775807 := hl_h
  refine W.K cok tab107 hnt [] [0, 3] (⟨[(0, .sl (.calls h)), (3, .ptr 3 0)], [(3, ⟨27, .fix [.i c.proc, .i c.obj, .i c.kind, .i c.arg, .i c.ret, .i c.frm, .i c.to]⟩)], [3, 999]⟩)
    (True ∧ (True ∧ True)) (by kernel_rfl)
    ⟨trivial, ⟨trivial, trivial⟩⟩ ?_
  refine W.seq ?_
  refine W.K cok tab107 hnt [] [0, 3, 9] (⟨[(0, .sl (.calls h)), (3, .ptr 3 0), (9, .b (decide (c.ret = (0 : Int))))], [(3, ⟨27, .fix [.i c.proc, .i c.obj, .i c.kind, .i c.arg, .i c.ret, .i c.frm, .i c.to]⟩)], [3, 999]⟩)
    (True ∧ (True ∧ ((True ∧ (True ∧ True)) ∧ True))) (by kernel_rfl)
    ⟨trivial, ⟨trivial, ⟨⟨trivial, ⟨trivial, trivial⟩⟩, trivial⟩⟩⟩ ?_
  refine W.ifP (c.ret = (0 : Int)) (.b (decide (c.ret = (0 : Int)))) (by kernel_rfl) rfl trivial ?_ ?_
  · intro h9
    refine W.K cok tab107 hnt [] [4] (⟨[(4, .i (-1 : Int))], [(3, ⟨27, .fix [.i c.proc, .i c.obj, .i c.kind, .i c.arg, .i c.ret, .i c.frm, .i c.to]⟩)], [3, 999]⟩)
      (True ∧ True) (by kernel_rfl)
      ⟨trivial, trivial⟩ ?_
    refine W.ret (thenQ_ret ?_)
    exact endQ_ret (.i (-1 : Int)) (by kernel_rfl) (@cast ((.int .i64 (-1 : Int) : Value) = .int .i64 (sourceR h c.ret)) _ (by kernel_rfl) (congrArg (Value.int .i64) (by symm; exact source_neg.2 h9)))
  · intro n9
    refine W.skip (thenQ_normal ?_)
    refine W.seq ?_
    refine W.K cok tab107 hnt [] [3, 10, 11, 12] (⟨[(3, .ptr 3 0), (10, .sl (.calls h)), (11, .i (((List.length h) : Nat) : Int)), (12, .i (0 : Int))], [(3, ⟨27, .fix [.i c.proc, .i c.obj, .i c.kind, .i c.arg, .i c.ret, .i c.frm, .i c.to]⟩)], [3, 999]⟩)
      (True ∧ (True ∧ (True ∧ True))) (by kernel_rfl)
      ⟨trivial, ⟨trivial, ⟨trivial, trivial⟩⟩⟩ ?_
    refine W.block ?_
    refine W.loop (ι := Nat) (fun (k : Nat) => (⟨[(3, .ptr 3 0), (10, .sl (.calls h)), (11, .i (((List.length h) : Nat) : Int)), (12, .i ((k : Nat) : Int))], [(3, ⟨27, .fix [.i c.proc, .i c.obj, .i c.kind, .i c.arg, .i c.ret, .i c.frm, .i c.to]⟩)], [3, 999]⟩ : St))
      (fun (k : Nat) => (k ≤ h.length) ∧ (∀ j, j < k → putF h c.ret j = false))
      (fun (k : Nat) => (h.length - k : Nat)) (0) ?_ ?_ ?_
    · exact (show (0 ≤ h.length) ∧ (∀ j, j < 0 → putF h c.ret j = false) from ⟨(by first | assumption | omega | rfl | (intro _ hjj; omega) | (simp; done) | (simp; omega)), (by exact upto_zero)⟩)
    · exact Sub.of [] (@cast (((((3 : Nat) = 3) ∧ (((0 : Nat) = 0) ∧ ((3 : Nat) ∈ ([3, 999] : List Nat)))) ∧ (((.calls h : Dat) = .calls h) ∧ (((.int .i64 (((List.length h) : Nat) : Int) : Value) = .int .i64 (((List.length h) : Nat) : Int)) ∧ (((.int .i64 (0 : Int) : Value) = .int .i64 ((0 : Nat) : Int)) ∧ True)))) ∧ (((((27 : Nat) = 27) ∧ ((((.int .i64 c.proc : Value) = .int .i64 c.proc) ∧ (((.int .i64 c.obj : Value) = .int .i64 c.obj) ∧ (((.int .i64 c.kind : Value) = .int .i64 c.kind) ∧ (((.int .i64 c.arg : Value) = .int .i64 c.arg) ∧ (((.int .i64 c.ret : Value) = .int .i64 c.ret) ∧ (((.int .i64 c.frm : Value) = .int .i64 c.frm) ∧ (((.int .i64 c.to : Value) = .int .i64 c.to) ∧ True))))))) ∧ ((3 : Nat) ∈ ([3, 999] : List Nat)))) ∧ True) ∧ ((true = true) ∧ (true = true)))) _ (by kernel_rfl) ⟨⟨⟨rfl, ⟨rfl, (by decide)⟩⟩, ⟨rfl, ⟨rfl, ⟨(congrArg (Value.int .i64) (by first | rfl | omega | assumption | simp | simp_all)), trivial⟩⟩⟩⟩, ⟨⟨⟨rfl, ⟨⟨rfl, ⟨rfl, ⟨rfl, ⟨rfl, ⟨rfl, ⟨rfl, ⟨rfl, trivial⟩⟩⟩⟩⟩⟩⟩, (by decide)⟩⟩, trivial⟩, ⟨rfl, rfl⟩⟩⟩)
    · rintro k hC0
      have hC : (k ≤ h.length) ∧ (∀ j, j < k → putF h c.ret j = false) := hC0
      clear hC0
      obtain ⟨hk, hA⟩ := hC
      refine W.to (⟨[(3, .ptr 3 0), (10, .sl (.calls h)), (11, .i (((List.length h) : Nat) : Int)), (12, .i ((k : Nat) : Int))], [(3, ⟨27, .fix [.i c.proc, .i c.obj, .i c.kind, .i c.arg, .i c.ret, .i c.frm, .i c.to]⟩)], [3, 999]⟩) rfl ?_
      refine W.K cok tab107 hnt [] [3, 10, 11, 12, 13] (⟨[(3, .ptr 3 0), (10, .sl (.calls h)), (11, .i (((List.length h) : Nat) : Int)), (12, .i ((k : Nat) : Int)), (13, .b (decide (((k : Nat) : Int) < (((List.length h) : Nat) : Int))))], [(3, ⟨27, .fix [.i c.proc, .i c.obj, .i c.kind, .i c.arg, .i c.ret, .i c.frm, .i c.to]⟩)], [3, 999]⟩)
        ((True ∧ (True ∧ True)) ∧ True) (by kernel_rfl)
        ⟨⟨trivial, ⟨trivial, trivial⟩⟩, trivial⟩ ?_
      refine W.seq ?_
      refine W.ifP (((k : Nat) : Int) < (((List.length h) : Nat) : Int)) (.b (decide (((k : Nat) : Int) < (((List.length h) : Nat) : Int)))) (by kernel_rfl) rfl trivial ?_ ?_
      · intro h13
        refine W.skip (thenQ_normal ?_)
        refine W.seq ?_
        refine W.block ?_
        refine W.K cok tab107 hnt [] [3, 5, 6, 10, 11, 12] (⟨[(3, .ptr 3 0), (5, .i ((k : Nat) : Int)), (6, .ptr 6 0), (10, .sl (.calls h)), (11, .i (((List.length h) : Nat) : Int)), (12, .i ((k : Nat) : Int))], [(3, ⟨27, .fix [.i c.proc, .i c.obj, .i c.kind, .i c.arg, .i c.ret, .i c.frm, .i c.to]⟩), (6, ⟨27, .fix [.i ((List.getD h k default).proc), .i ((List.getD h k default).obj), .i ((List.getD h k default).kind), .i ((List.getD h k default).arg), .i ((List.getD h k default).ret), .i ((List.getD h k default).frm), .i ((List.getD h k default).to)]⟩)], [6, 3, 999]⟩)
          (True ∧ ((True ∧ (True ∧ ((0 ≤ ((k : Nat) : Int)) ∧ (((k : Nat) : Int) < (((List.length h) : Nat) : Int))))) ∧ (True ∧ (True ∧ (True ∧ ((True ∧ True) ∧ True)))))) (by kernel_rfl)
          ⟨trivial, ⟨⟨trivial, ⟨trivial, ⟨(by omega), (by omega)⟩⟩⟩, ⟨trivial, ⟨trivial, ⟨trivial, ⟨⟨trivial, trivial⟩, trivial⟩⟩⟩⟩⟩⟩ ?_
        refine W.K cok tab107 hnt [] [3, 5, 10, 11, 12, 26] (⟨[(3, .ptr 3 0), (5, .i ((k : Nat) : Int)), (10, .sl (.calls h)), (11, .i (((List.length h) : Nat) : Int)), (12, .i ((k : Nat) : Int)), (26, .b ((decide (((List.getD h k default).kind) = (0 : Int))) && (decide (((List.getD h k default).arg) = c.ret))))], [(3, ⟨27, .fix [.i c.proc, .i c.obj, .i c.kind, .i c.arg, .i c.ret, .i c.frm, .i c.to]⟩), (6, ⟨27, .fix [.i ((List.getD h k default).proc), .i ((List.getD h k default).obj), .i ((List.getD h k default).kind), .i ((List.getD h k default).arg), .i ((List.getD h k default).ret), .i ((List.getD h k default).frm), .i ((List.getD h k default).to)]⟩)], [6, 3, 999]⟩)
          (True ∧ (True ∧ ((True ∧ (True ∧ True)) ∧ (True ∧ (((decide (((List.getD h k default).kind) = (0 : Int))) = true → True) ∧ (((decide (((List.getD h k default).kind) = (0 : Int))) = true → (((decide (((List.getD h k default).kind) = (0 : Int))) = true) ∧ True)) ∧ (((decide (((List.getD h k default).kind) = (0 : Int))) = true → True) ∧ (((decide (((List.getD h k default).kind) = (0 : Int))) = true → (((decide (((List.getD h k default).kind) = (0 : Int))) = true) ∧ True)) ∧ (((decide (((List.getD h k default).kind) = (0 : Int))) = true → ((((decide (((List.getD h k default).kind) = (0 : Int))) = true) ∧ True) ∧ ((((decide (((List.getD h k default).kind) = (0 : Int))) = true) ∧ True) ∧ True))) ∧ ((True ∧ (((decide (((List.getD h k default).kind) = (0 : Int))) = true → ((decide (((List.getD h k default).kind) = (0 : Int))) = true) ∧ True) ∧ ((decide (((List.getD h k default).kind) = (0 : Int))) = false → True))) ∧ True)))))))))) (by kernel_rfl)
          ⟨trivial, ⟨trivial, ⟨⟨trivial, ⟨trivial, trivial⟩⟩, ⟨trivial, ⟨(fun _ => trivial), ⟨(fun hG => ⟨hG, trivial⟩), ⟨(fun _ => trivial), ⟨(fun hG => ⟨hG, trivial⟩), ⟨(fun hG => ⟨⟨hG, trivial⟩, ⟨⟨hG, trivial⟩, trivial⟩⟩), ⟨⟨trivial, ⟨(fun hp => ⟨hp, trivial⟩), (fun _ => trivial)⟩⟩, trivial⟩⟩⟩⟩⟩⟩⟩⟩⟩⟩ ?_
        refine W.if' ((decide (((List.getD h k default).kind) = (0 : Int))) && (decide (((List.getD h k default).arg) = c.ret))) (.b ((decide (((List.getD h k default).kind) = (0 : Int))) && (decide (((List.getD h k default).arg) = c.ret)))) (by kernel_rfl) rfl trivial ?_ ?_
        · intro h26
          have h26_0 : ((List.getD h k default).kind) = (0 : Int) := of_decide_eq_true (and_l h26)
          have h26_1 : ((List.getD h k default).arg) = c.ret := of_decide_eq_true (and_r h26)
          refine W.K cok tab107 hnt [] [4] (⟨[(4, .i ((k : Nat) : Int))], [(3, ⟨27, .fix [.i c.proc, .i c.obj, .i c.kind, .i c.arg, .i c.ret, .i c.frm, .i c.to]⟩), (6, ⟨27, .fix [.i ((List.getD h k default).proc), .i ((List.getD h k default).obj), .i ((List.getD h k default).kind), .i ((List.getD h k default).arg), .i ((List.getD h k default).ret), .i ((List.getD h k default).frm), .i ((List.getD h k default).to)]⟩)], [6, 3, 999]⟩)
            (True ∧ (True ∧ True)) (by kernel_rfl)
            ⟨trivial, ⟨trivial, trivial⟩⟩ ?_
          refine W.ret (blockQ_ret (thenQ_ret (thenQ_ret (blockQ_ret (thenQ_ret ?_)))))
          exact endQ_ret (.i ((k : Nat) : Int)) (by kernel_rfl) (@cast ((.int .i64 ((k : Nat) : Int) : Value) = .int .i64 (sourceR h c.ret)) _ (by kernel_rfl) (congrArg (Value.int .i64) (by unfold sourceR; rw [decide_eq_false n9, fIdx_some (i := k) (by omega) h26 hA]; rfl)))
        · intro n26
          refine W.skip (blockQ_normal (thenQ_normal ?_))
          refine W.L cok tab107 hnt [] (⟨[(3, .ptr 3 0), (5, .i ((k : Nat) : Int)), (10, .sl (.calls h)), (11, .i (((List.length h) : Nat) : Int)), (12, .i (((k + 1) : Nat) : Int)), (26, .b ((decide (((List.getD h k default).kind) = (0 : Int))) && (decide (((List.getD h k default).arg) = c.ret)))), (28, .i (((k + 1) : Nat) : Int))], [(3, ⟨27, .fix [.i c.proc, .i c.obj, .i c.kind, .i c.arg, .i c.ret, .i c.frm, .i c.to]⟩), (6, ⟨27, .fix [.i ((List.getD h k default).proc), .i ((List.getD h k default).obj), .i ((List.getD h k default).kind), .i ((List.getD h k default).arg), .i ((List.getD h k default).ret), .i ((List.getD h k default).frm), .i ((List.getD h k default).to)]⟩)], [6, 3, 999]⟩)
            ((True ∧ (True ∧ (Fits .i64 (((k + 1) : Nat) : Int)))) ∧ (True ∧ True)) (by kernel_rfl)
            ⟨⟨trivial, ⟨trivial, (by exact fits_i64 (by omega) (by omega))⟩⟩, ⟨trivial, trivial⟩⟩ ?_
          refine thenQ_normal ?_
          refine ⟨((k + 1)), (show ((k + 1) ≤ h.length) ∧ (∀ j, j < (k + 1) → putF h c.ret j = false) from ⟨(by first | assumption | omega | rfl | (intro _ hjj; omega) | (simp; done) | (simp; omega)), (by exact upto_succ hA n26)⟩), (show h.length - (k + 1) < h.length - k from (by first | omega | (simp_all; omega))), ?_⟩
          exact Sub.of [] (@cast (((((3 : Nat) = 3) ∧ (((0 : Nat) = 0) ∧ ((3 : Nat) ∈ ([3, 999] : List Nat)))) ∧ (((.calls h : Dat) = .calls h) ∧ (((.int .i64 (((List.length h) : Nat) : Int) : Value) = .int .i64 (((List.length h) : Nat) : Int)) ∧ (((.int .i64 (((k + 1) : Nat) : Int) : Value) = .int .i64 (((k + 1) : Nat) : Int)) ∧ True)))) ∧ (((((27 : Nat) = 27) ∧ ((((.int .i64 c.proc : Value) = .int .i64 c.proc) ∧ (((.int .i64 c.obj : Value) = .int .i64 c.obj) ∧ (((.int .i64 c.kind : Value) = .int .i64 c.kind) ∧ (((.int .i64 c.arg : Value) = .int .i64 c.arg) ∧ (((.int .i64 c.ret : Value) = .int .i64 c.ret) ∧ (((.int .i64 c.frm : Value) = .int .i64 c.frm) ∧ (((.int .i64 c.to : Value) = .int .i64 c.to) ∧ True))))))) ∧ ((3 : Nat) ∈ ([3, 999] : List Nat)))) ∧ True) ∧ ((true = true) ∧ (true = true)))) _ (by kernel_rfl) ⟨⟨⟨rfl, ⟨rfl, (by decide)⟩⟩, ⟨rfl, ⟨rfl, ⟨rfl, trivial⟩⟩⟩⟩, ⟨⟨⟨rfl, ⟨⟨rfl, ⟨rfl, ⟨rfl, ⟨rfl, ⟨rfl, ⟨rfl, ⟨rfl, trivial⟩⟩⟩⟩⟩⟩⟩, (by decide)⟩⟩, trivial⟩, ⟨rfl, rfl⟩⟩⟩)
      · intro n13
        refine W.exit (thenQ_exit (thenQ_exit (blockQ_hit ?_)))
        refine thenQ_normal ?_
        refine W.K cok tab107 hnt [] [4] (⟨[(4, .i (-2 : Int))], [(3, ⟨27, .fix [.i c.proc, .i c.obj, .i c.kind, .i c.arg, .i c.ret, .i c.frm, .i c.to]⟩)], [3, 999]⟩)
          (True ∧ True) (by kernel_rfl)
          ⟨trivial, trivial⟩ ?_
        refine W.ret ?_
        exact endQ_ret (.i (-2 : Int)) (by kernel_rfl) (@cast ((.int .i64 (-2 : Int) : Value) = .int .i64 (sourceR h c.ret)) _ (by kernel_rfl) (congrArg (Value.int .i64) (by unfold sourceR; rw [decide_eq_false n9, fIdx_none (fun j hj => hA j (by omega))]; rfl)))
theorem ent107 : Entr prog 107 := ⟨_, func107, rfl, by decide⟩

end Go.Proofs.Try
