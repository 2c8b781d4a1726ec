import Derived.Test.YtodobnkiphpdhaaKF4S0
import Derived.Test.YtodobnkiphpdhaaKF4S4
set_option linter.unusedSimpArgs false
set_option linter.unusedVariables false
namespace Go.Proofs.Try
open Go.Ab Go.RowKit
def fs48 : FnS := fnS [.s .calls] [.calls] (fun _ (h,_) => (.b (validHistory h),[],True))
abbrev T48 : Tab := lk [(60,fs60)]
theorem tab48 : TabOK prog T48 := (TabOK.cons ok60 ent60 TabOK.nil)
set_option maxRecDepth 100000 in
set_option maxHeartbeats 1000000 in
theorem ok48 : FnOK prog 48 fs48 := by
 refine FnOK.mk cok func48 rfl rfl rfl ?_
 rintro fl ⟨(h : List CallD),_⟩ hpre F hnt0 _
 have hnt : F.nt = 112 := hnt0.trans ntmps48
 clear hpre
 refine W.to (⟨[(0,.sl (.calls h))],[],[999]⟩) rfl ?_
 refine W.lenOf 0 (.calls h) (by kernel_rfl) ?_
 intro hl_h; replace hl_h : List.length h ≤ 9223372036854775807 := hl_h
 refine W.K cok tab48 hnt [] [0] (⟨[(0,.sl (.calls h))],[],[999]⟩)
  (True ∧ True) (by kernel_rfl)
  ⟨tt,tt⟩ ?_
 refine W.seq ?_
 refine W.K cok tab48 hnt [] [0,3] (⟨[(0,.sl (.calls h)),(3,.i (0 : Int))],[],[999]⟩)
  (True ∧ True) (by kernel_rfl)
  ⟨tt,tt⟩ ?_
 refine W.block ?_
 refine W.loop (ι := Nat) (fun (i : Nat) => (⟨[(0,.sl (.calls h)),(3,.i ((i : Nat) : Int))],[],[999]⟩ : St))
  (fun (i : Nat) => (i ≤ h.length) ∧ (∀ j,j < i → (isCall (callAt h j) && allN j (fun k => !clash (callAt h j) (callAt h k))) = true))
  (fun (i : Nat) => (h.length - i : Nat)) (0) ?_ ?_ ?_
 ·exact (show (0 ≤ h.length) ∧ (∀ j,j < 0 → (isCall (callAt h j) && allN j (fun k => !clash (callAt h j) (callAt h k))) = true) from ⟨(by first | assumption | omega | rfl | (intro _ hjj; omega) | (simp; done) | (simp; omega)),(by exact upto_zero)⟩)
 ·exact Sub.of [] (@cast ((((.calls h : Dat) = .calls h) ∧ (((.int .i64 (0 : Int) : Value) = .int .i64 ((0 : Nat) : Int)) ∧ True)) ∧ (True ∧ ((true = true) ∧ (true = true)))) _ (by kernel_rfl) ⟨⟨rfl,(congrArg (Value.int .i64) (by first | rfl | omega | assumption | simp | simp_all)),tt⟩,tt,rfl,rfl⟩)
 ·rintro i hC0
  have hC : (i ≤ h.length) ∧ (∀ j,j < i → (isCall (callAt h j) && allN j (fun k => !clash (callAt h j) (callAt h k))) = true) := hC0
  clear hC0
  obtain ⟨hi,hA⟩ := hC
  refine W.to (⟨[(0,.sl (.calls h)),(3,.i ((i : Nat) : Int))],[],[999]⟩) rfl ?_
  refine W.seq ?_
  refine W.K cok tab48 hnt [] [0,3,8] (⟨[(0,.sl (.calls h)),(3,.i ((i : Nat) : Int)),(8,.b (decide (((i : Nat) : Int) < (h.length : Int))))],[],[999]⟩)
   (True ∧ True ∧ True ∧ (True ∧ True ∧ True) ∧ True) (by kernel_rfl)
   ⟨tt,tt,tt,⟨tt,tt,tt⟩,tt⟩ ?_
  refine W.ifP (((i : Nat) : Int) < (h.length : Int)) (.b (decide (((i : Nat) : Int) < (h.length : Int)))) (by kernel_rfl) rfl trivial ?_ ?_
  ·intro h8
   refine W.skip (thenQ_normal ?_)
   refine W.seq ?_
   refine W.block ?_
   refine W.seq ?_
   refine W.K cok tab48 hnt [] [0,3,16] (⟨[(0,.sl (.calls h)),(3,.i ((i : Nat) : Int)),(16,.b (!(isCall (h.getD i default))))],[],[999]⟩)
    (True ∧ True ∧ (True ∧ True ∧ (0 ≤ ((i : Nat) : Int)) ∧ (((i : Nat) : Int) < (h.length : Int))) ∧ True ∧ (True ∧ (True ∧ True) ∧ True) ∧ True ∧ True) (by kernel_rfl)
    ⟨tt,tt,⟨tt,tt,(by omega),(by omega)⟩,tt,⟨tt,⟨tt,tt⟩,tt⟩,tt,tt⟩ ?_
   refine W.if' (!(isCall (h.getD i default))) (.b (!(isCall (h.getD i default)))) (by kernel_rfl) rfl trivial ?_ ?_
   ·intro h16
    refine W.K cok tab48 hnt [] [2] (⟨[(2,.b false)],[],[999]⟩)
     (True ∧ True) (by kernel_rfl)
     ⟨tt,tt⟩ ?_
    refine W.ret (thenQ_ret (blockQ_ret (thenQ_ret (thenQ_ret (blockQ_ret (thenQ_ret ?_))))))
    exact endQ_ret (.b false) (by kernel_rfl) (@cast ((.bool false : Value) = .bool (validHistory h)) _ (by kernel_rfl) (congrArg Value.bool (by unfold validHistory; symm; exact and_fr (allN_false (i := i) (by omega) (and_fl (not_f h16))))))
   ·intro n16
    refine W.skip (thenQ_normal ?_)
    refine W.K cok tab48 hnt [] [0,3,4] (⟨[(0,.sl (.calls h)),(3,.i ((i : Nat) : Int)),(4,.i (0 : Int))],[],[999]⟩)
     (True ∧ True) (by kernel_rfl)
     ⟨tt,tt⟩ ?_
    refine W.block ?_
    refine W.loop (ι := Nat) (fun (k : Nat) => (⟨[(0,.sl (.calls h)),(3,.i ((i : Nat) : Int)),(4,.i ((k : Nat) : Int))],[],[999]⟩ : St))
     (fun (k : Nat) => (k ≤ i) ∧ (∀ j,j < k → (!clash (callAt h i) (callAt h j)) = true))
     (fun (k : Nat) => (i - k : Nat)) (0) ?_ ?_ ?_
    ·exact (show (0 ≤ i) ∧ (∀ j,j < 0 → (!clash (callAt h i) (callAt h j)) = true) from ⟨(by first | assumption | omega | rfl | (intro _ hjj; omega) | (simp; done) | (simp; omega)),(by exact upto_zero)⟩)
    ·exact Sub.of [] (@cast ((((.calls h : Dat) = .calls h) ∧ (((.int .i64 ((i : Nat) : Int) : Value) = .int .i64 ((i : Nat) : Int)) ∧ (((.int .i64 (0 : Int) : Value) = .int .i64 ((0 : Nat) : Int)) ∧ True))) ∧ (True ∧ ((true = true) ∧ (true = true)))) _ (by kernel_rfl) ⟨⟨rfl,rfl,(congrArg (Value.int .i64) (by first | rfl | omega | assumption | simp | simp_all)),tt⟩,tt,rfl,rfl⟩)
    ·rintro k hC0
     have hC : (k ≤ i) ∧ (∀ j,j < k → (!clash (callAt h i) (callAt h j)) = true) := hC0
     clear hC0
     obtain ⟨hk,hB⟩ := hC
     refine W.to (⟨[(0,.sl (.calls h)),(3,.i ((i : Nat) : Int)),(4,.i ((k : Nat) : Int))],[],[999]⟩) rfl ?_
     refine W.seq ?_
     refine W.K cok tab48 hnt [] [0,3,4,19] (⟨[(0,.sl (.calls h)),(3,.i ((i : Nat) : Int)),(4,.i ((k : Nat) : Int)),(19,.b (decide (((k : Nat) : Int) < ((i : Nat) : Int))))],[],[999]⟩)
      (True ∧ True ∧ (True ∧ True ∧ True) ∧ True) (by kernel_rfl)
      ⟨tt,tt,⟨tt,tt,tt⟩,tt⟩ ?_
     refine W.ifP (((k : Nat) : Int) < ((i : Nat) : Int)) (.b (decide (((k : Nat) : Int) < ((i : Nat) : Int)))) (by kernel_rfl) rfl trivial ?_ ?_
     ·intro h19
      refine W.skip (thenQ_normal ?_)
      refine W.seq ?_
      refine W.block ?_
      refine W.seq ?_
      refine W.KA cok tab48 hnt [] [0,3,4,71] (⟨[(0,.sl (.calls h)),(3,.i ((i : Nat) : Int)),(4,.i ((k : Nat) : Int)),(71,.b ((((decide (((h.getD k default).frm) = ((h.getD i default).frm))) || (decide (((h.getD k default).frm) = ((h.getD i default).to)))) || (decide (((h.getD k default).to) = ((h.getD i default).frm)))) || (decide (((h.getD k default).to) = ((h.getD i default).to)))))],[],[999]⟩)
       (True ∧ True ∧ (True ∧ True ∧ (0 ≤ ((k : Nat) : Int)) ∧ (((k : Nat) : Int) < (h.length : Int))) ∧ True ∧ True ∧ True ∧ True ∧ (True ∧ True ∧ (0 ≤ ((i : Nat) : Int)) ∧ (((i : Nat) : Int) < (h.length : Int))) ∧ True ∧ True ∧ (True ∧ True ∧ True) ∧ True ∧ ((!(decide (((h.getD k default).frm) = ((h.getD i default).frm)))) = true → True) ∧ ((!(decide (((h.getD k default).frm) = ((h.getD i default).frm)))) = true → True) ∧ ((!(decide (((h.getD k default).frm) = ((h.getD i default).frm)))) = true → ((((!(decide (((h.getD k default).frm) = ((h.getD i default).frm)))) = true) ∧ True) ∧ (((!(decide (((h.getD k default).frm) = ((h.getD i default).frm)))) = true) ∧ True) ∧ (0 ≤ ((k : Nat) : Int)) ∧ (((k : Nat) : Int) < (h.length : Int)))) ∧ ((!(decide (((h.getD k default).frm) = ((h.getD i default).frm)))) = true → (((!(decide (((h.getD k default).frm) = ((h.getD i default).frm)))) = true) ∧ True)) ∧ ((!(decide (((h.getD k default).frm) = ((h.getD i default).frm)))) = true → (((!(decide (((h.getD k default).frm) = ((h.getD i default).frm)))) = true) ∧ True)) ∧ ((!(decide (((h.getD k default).frm) = ((h.getD i default).frm)))) = true → True) ∧ ((!(decide (((h.getD k default).frm) = ((h.getD i default).frm)))) = true → True) ∧ ((!(decide (((h.getD k default).frm) = ((h.getD i default).frm)))) = true → ((((!(decide (((h.getD k default).frm) = ((h.getD i default).frm)))) = true) ∧ True) ∧ (((!(decide (((h.getD k default).frm) = ((h.getD i default).frm)))) = true) ∧ True) ∧ (0 ≤ ((i : Nat) : Int)) ∧ (((i : Nat) : Int) < (h.length : Int)))) ∧ ((!(decide (((h.getD k default).frm) = ((h.getD i default).frm)))) = true → (((!(decide (((h.getD k default).frm) = ((h.getD i default).frm)))) = true) ∧ True)) ∧ ((!(decide (((h.getD k default).frm) = ((h.getD i default).frm)))) = true → (((!(decide (((h.getD k default).frm) = ((h.getD i default).frm)))) = true) ∧ True)) ∧ ((!(decide (((h.getD k default).frm) = ((h.getD i default).frm)))) = true → ((((!(decide (((h.getD k default).frm) = ((h.getD i default).frm)))) = true) ∧ True) ∧ (((!(decide (((h.getD k default).frm) = ((h.getD i default).frm)))) = true) ∧ True) ∧ True)) ∧ (True ∧ ((decide (((h.getD k default).frm) = ((h.getD i default).frm))) = true → True) ∧ ((decide (((h.getD k default).frm) = ((h.getD i default).frm))) = false → ((!(decide (((h.getD k default).frm) = ((h.getD i default).frm)))) = true) ∧ True)) ∧ True ∧ ((!((decide (((h.getD k default).frm) = ((h.getD i default).frm))) || (decide (((h.getD k default).frm) = ((h.getD i default).to))))) = true → True) ∧ ((!((decide (((h.getD k default).frm) = ((h.getD i default).frm))) || (decide (((h.getD k default).frm) = ((h.getD i default).to))))) = true → True) ∧ ((!((decide (((h.getD k default).frm) = ((h.getD i default).frm))) || (decide (((h.getD k default).frm) = ((h.getD i default).to))))) = true → ((((!((decide (((h.getD k default).frm) = ((h.getD i default).frm))) || (decide (((h.getD k default).frm) = ((h.getD i default).to))))) = true) ∧ True) ∧ (((!((decide (((h.getD k default).frm) = ((h.getD i default).frm))) || (decide (((h.getD k default).frm) = ((h.getD i default).to))))) = true) ∧ True) ∧ (0 ≤ ((k : Nat) : Int)) ∧ (((k : Nat) : Int) < (h.length : Int)))) ∧ ((!((decide (((h.getD k default).frm) = ((h.getD i default).frm))) || (decide (((h.getD k default).frm) = ((h.getD i default).to))))) = true → (((!((decide (((h.getD k default).frm) = ((h.getD i default).frm))) || (decide (((h.getD k default).frm) = ((h.getD i default).to))))) = true) ∧ True)) ∧ ((!((decide (((h.getD k default).frm) = ((h.getD i default).frm))) || (decide (((h.getD k default).frm) = ((h.getD i default).to))))) = true → (((!((decide (((h.getD k default).frm) = ((h.getD i default).frm))) || (decide (((h.getD k default).frm) = ((h.getD i default).to))))) = true) ∧ True)) ∧ ((!((decide (((h.getD k default).frm) = ((h.getD i default).frm))) || (decide (((h.getD k default).frm) = ((h.getD i default).to))))) = true → True) ∧ ((!((decide (((h.getD k default).frm) = ((h.getD i default).frm))) || (decide (((h.getD k default).frm) = ((h.getD i default).to))))) = true → True) ∧ ((!((decide (((h.getD k default).frm) = ((h.getD i default).frm))) || (decide (((h.getD k default).frm) = ((h.getD i default).to))))) = true → ((((!((decide (((h.getD k default).frm) = ((h.getD i default).frm))) || (decide (((h.getD k default).frm) = ((h.getD i default).to))))) = true) ∧ True) ∧ (((!((decide (((h.getD k default).frm) = ((h.getD i default).frm))) || (decide (((h.getD k default).frm) = ((h.getD i default).to))))) = true) ∧ True) ∧ (0 ≤ ((i : Nat) : Int)) ∧ (((i : Nat) : Int) < (h.length : Int)))) ∧ ((!((decide (((h.getD k default).frm) = ((h.getD i default).frm))) || (decide (((h.getD k default).frm) = ((h.getD i default).to))))) = true → (((!((decide (((h.getD k default).frm) = ((h.getD i default).frm))) || (decide (((h.getD k default).frm) = ((h.getD i default).to))))) = true) ∧ True)) ∧ ((!((decide (((h.getD k default).frm) = ((h.getD i default).frm))) || (decide (((h.getD k default).frm) = ((h.getD i default).to))))) = true → (((!((decide (((h.getD k default).frm) = ((h.getD i default).frm))) || (decide (((h.getD k default).frm) = ((h.getD i default).to))))) = true) ∧ True)) ∧ ((!((decide (((h.getD k default).frm) = ((h.getD i default).frm))) || (decide (((h.getD k default).frm) = ((h.getD i default).to))))) = true → ((((!((decide (((h.getD k default).frm) = ((h.getD i default).frm))) || (decide (((h.getD k default).frm) = ((h.getD i default).to))))) = true) ∧ True) ∧ (((!((decide (((h.getD k default).frm) = ((h.getD i default).frm))) || (decide (((h.getD k default).frm) = ((h.getD i default).to))))) = true) ∧ True) ∧ True)) ∧ (True ∧ (((decide (((h.getD k default).frm) = ((h.getD i default).frm))) || (decide (((h.getD k default).frm) = ((h.getD i default).to)))) = true → True) ∧ (((decide (((h.getD k default).frm) = ((h.getD i default).frm))) || (decide (((h.getD k default).frm) = ((h.getD i default).to)))) = false → ((!((decide (((h.getD k default).frm) = ((h.getD i default).frm))) || (decide (((h.getD k default).frm) = ((h.getD i default).to))))) = true) ∧ True)) ∧ True ∧ ((!(((decide (((h.getD k default).frm) = ((h.getD i default).frm))) || (decide (((h.getD k default).frm) = ((h.getD i default).to)))) || (decide (((h.getD k default).to) = ((h.getD i default).frm))))) = true → True) ∧ ((!(((decide (((h.getD k default).frm) = ((h.getD i default).frm))) || (decide (((h.getD k default).frm) = ((h.getD i default).to)))) || (decide (((h.getD k default).to) = ((h.getD i default).frm))))) = true → True) ∧ ((!(((decide (((h.getD k default).frm) = ((h.getD i default).frm))) || (decide (((h.getD k default).frm) = ((h.getD i default).to)))) || (decide (((h.getD k default).to) = ((h.getD i default).frm))))) = true → ((((!(((decide (((h.getD k default).frm) = ((h.getD i default).frm))) || (decide (((h.getD k default).frm) = ((h.getD i default).to)))) || (decide (((h.getD k default).to) = ((h.getD i default).frm))))) = true) ∧ True) ∧ (((!(((decide (((h.getD k default).frm) = ((h.getD i default).frm))) || (decide (((h.getD k default).frm) = ((h.getD i default).to)))) || (decide (((h.getD k default).to) = ((h.getD i default).frm))))) = true) ∧ True) ∧ (0 ≤ ((k : Nat) : Int)) ∧ (((k : Nat) : Int) < (h.length : Int)))) ∧ ((!(((decide (((h.getD k default).frm) = ((h.getD i default).frm))) || (decide (((h.getD k default).frm) = ((h.getD i default).to)))) || (decide (((h.getD k default).to) = ((h.getD i default).frm))))) = true → (((!(((decide (((h.getD k default).frm) = ((h.getD i default).frm))) || (decide (((h.getD k default).frm) = ((h.getD i default).to)))) || (decide (((h.getD k default).to) = ((h.getD i default).frm))))) = true) ∧ True)) ∧ ((!(((decide (((h.getD k default).frm) = ((h.getD i default).frm))) || (decide (((h.getD k default).frm) = ((h.getD i default).to)))) || (decide (((h.getD k default).to) = ((h.getD i default).frm))))) = true → (((!(((decide (((h.getD k default).frm) = ((h.getD i default).frm))) || (decide (((h.getD k default).frm) = ((h.getD i default).to)))) || (decide (((h.getD k default).to) = ((h.getD i default).frm))))) = true) ∧ True)) ∧ ((!(((decide (((h.getD k default).frm) = ((h.getD i default).frm))) || (decide (((h.getD k default).frm) = ((h.getD i default).to)))) || (decide (((h.getD k default).to) = ((h.getD i default).frm))))) = true → True) ∧ ((!(((decide (((h.getD k default).frm) = ((h.getD i default).frm))) || (decide (((h.getD k default).frm) = ((h.getD i default).to)))) || (decide (((h.getD k default).to) = ((h.getD i default).frm))))) = true → True) ∧ ((!(((decide (((h.getD k default).frm) = ((h.getD i default).frm))) || (decide (((h.getD k default).frm) = ((h.getD i default).to)))) || (decide (((h.getD k default).to) = ((h.getD i default).frm))))) = true → ((((!(((decide (((h.getD k default).frm) = ((h.getD i default).frm))) || (decide (((h.getD k default).frm) = ((h.getD i default).to)))) || (decide (((h.getD k default).to) = ((h.getD i default).frm))))) = true) ∧ True) ∧ (((!(((decide (((h.getD k default).frm) = ((h.getD i default).frm))) || (decide (((h.getD k default).frm) = ((h.getD i default).to)))) || (decide (((h.getD k default).to) = ((h.getD i default).frm))))) = true) ∧ True) ∧ (0 ≤ ((i : Nat) : Int)) ∧ (((i : Nat) : Int) < (h.length : Int)))) ∧ ((!(((decide (((h.getD k default).frm) = ((h.getD i default).frm))) || (decide (((h.getD k default).frm) = ((h.getD i default).to)))) || (decide (((h.getD k default).to) = ((h.getD i default).frm))))) = true → (((!(((decide (((h.getD k default).frm) = ((h.getD i default).frm))) || (decide (((h.getD k default).frm) = ((h.getD i default).to)))) || (decide (((h.getD k default).to) = ((h.getD i default).frm))))) = true) ∧ True)) ∧ ((!(((decide (((h.getD k default).frm) = ((h.getD i default).frm))) || (decide (((h.getD k default).frm) = ((h.getD i default).to)))) || (decide (((h.getD k default).to) = ((h.getD i default).frm))))) = true → (((!(((decide (((h.getD k default).frm) = ((h.getD i default).frm))) || (decide (((h.getD k default).frm) = ((h.getD i default).to)))) || (decide (((h.getD k default).to) = ((h.getD i default).frm))))) = true) ∧ True)) ∧ ((!(((decide (((h.getD k default).frm) = ((h.getD i default).frm))) || (decide (((h.getD k default).frm) = ((h.getD i default).to)))) || (decide (((h.getD k default).to) = ((h.getD i default).frm))))) = true → ((((!(((decide (((h.getD k default).frm) = ((h.getD i default).frm))) || (decide (((h.getD k default).frm) = ((h.getD i default).to)))) || (decide (((h.getD k default).to) = ((h.getD i default).frm))))) = true) ∧ True) ∧ (((!(((decide (((h.getD k default).frm) = ((h.getD i default).frm))) || (decide (((h.getD k default).frm) = ((h.getD i default).to)))) || (decide (((h.getD k default).to) = ((h.getD i default).frm))))) = true) ∧ True) ∧ True)) ∧ (True ∧ ((((decide (((h.getD k default).frm) = ((h.getD i default).frm))) || (decide (((h.getD k default).frm) = ((h.getD i default).to)))) || (decide (((h.getD k default).to) = ((h.getD i default).frm)))) = true → True) ∧ ((((decide (((h.getD k default).frm) = ((h.getD i default).frm))) || (decide (((h.getD k default).frm) = ((h.getD i default).to)))) || (decide (((h.getD k default).to) = ((h.getD i default).frm)))) = false → ((!(((decide (((h.getD k default).frm) = ((h.getD i default).frm))) || (decide (((h.getD k default).frm) = ((h.getD i default).to)))) || (decide (((h.getD k default).to) = ((h.getD i default).frm))))) = true) ∧ True)) ∧ True) (by kernel_rfl) (by kernel_rfl)
       ⟨tt,tt,⟨tt,tt,(by omega),(by omega)⟩,tt,tt,tt,tt,⟨tt,tt,(by omega),(by omega)⟩,tt,tt,⟨tt,tt,tt⟩,tt,(fun _ => trivial),(fun _ => trivial),(fun hG => ⟨⟨hG,tt⟩,⟨hG,tt⟩,(by have hg0 : ¬ (((h.getD k default).frm) = ((h.getD i default).frm)) := of_decide_eq_false (not_f hG); omega),(by have hg0 : ¬ (((h.getD k default).frm) = ((h.getD i default).frm)) := of_decide_eq_false (not_f hG); omega)⟩),(fun hG => ⟨hG,tt⟩),(fun hG => ⟨hG,tt⟩),(fun _ => trivial),(fun _ => trivial),(fun hG => ⟨⟨hG,tt⟩,⟨hG,tt⟩,(by have hg0 : ¬ (((h.getD k default).frm) = ((h.getD i default).frm)) := of_decide_eq_false (not_f hG); omega),(by have hg0 : ¬ (((h.getD k default).frm) = ((h.getD i default).frm)) := of_decide_eq_false (not_f hG); omega)⟩),(fun hG => ⟨hG,tt⟩),(fun hG => ⟨hG,tt⟩),(fun hG => ⟨⟨hG,tt⟩,⟨hG,tt⟩,tt⟩),⟨tt,(fun _ => trivial),(fun hp => ⟨(not_t hp),tt⟩)⟩,tt,(fun _ => trivial),(fun _ => trivial),(fun hG => ⟨⟨hG,tt⟩,⟨hG,tt⟩,(by have hg0 : ¬ (((h.getD k default).frm) = ((h.getD i default).frm)) := of_decide_eq_false (or_l (not_f hG)); have hg1 : ¬ (((h.getD k default).frm) = ((h.getD i default).to)) := of_decide_eq_false (or_r (not_f hG)); omega),(by have hg0 : ¬ (((h.getD k default).frm) = ((h.getD i default).frm)) := of_decide_eq_false (or_l (not_f hG)); have hg1 : ¬ (((h.getD k default).frm) = ((h.getD i default).to)) := of_decide_eq_false (or_r (not_f hG)); omega)⟩),(fun hG => ⟨hG,tt⟩),(fun hG => ⟨hG,tt⟩),(fun _ => trivial),(fun _ => trivial),(fun hG => ⟨⟨hG,tt⟩,⟨hG,tt⟩,(by have hg0 : ¬ (((h.getD k default).frm) = ((h.getD i default).frm)) := of_decide_eq_false (or_l (not_f hG)); have hg1 : ¬ (((h.getD k default).frm) = ((h.getD i default).to)) := of_decide_eq_false (or_r (not_f hG)); omega),(by have hg0 : ¬ (((h.getD k default).frm) = ((h.getD i default).frm)) := of_decide_eq_false (or_l (not_f hG)); have hg1 : ¬ (((h.getD k default).frm) = ((h.getD i default).to)) := of_decide_eq_false (or_r (not_f hG)); omega)⟩),(fun hG => ⟨hG,tt⟩),(fun hG => ⟨hG,tt⟩),(fun hG => ⟨⟨hG,tt⟩,⟨hG,tt⟩,tt⟩),⟨tt,(fun _ => trivial),(fun hp => ⟨(not_t hp),tt⟩)⟩,tt,(fun _ => trivial),(fun _ => trivial),(fun hG => ⟨⟨hG,tt⟩,⟨hG,tt⟩,(by have hg0 : ¬ (((h.getD k default).frm) = ((h.getD i default).frm)) := of_decide_eq_false (or_l (or_l (not_f hG))); have hg1 : ¬ (((h.getD k default).frm) = ((h.getD i default).to)) := of_decide_eq_false (or_r (or_l (not_f hG))); have hg2 : ¬ (((h.getD k default).to) = ((h.getD i default).frm)) := of_decide_eq_false (or_r (not_f hG)); omega),(by have hg0 : ¬ (((h.getD k default).frm) = ((h.getD i default).frm)) := of_decide_eq_false (or_l (or_l (not_f hG))); have hg1 : ¬ (((h.getD k default).frm) = ((h.getD i default).to)) := of_decide_eq_false (or_r (or_l (not_f hG))); have hg2 : ¬ (((h.getD k default).to) = ((h.getD i default).frm)) := of_decide_eq_false (or_r (not_f hG)); omega)⟩),(fun hG => ⟨hG,tt⟩),(fun hG => ⟨hG,tt⟩),(fun _ => trivial),(fun _ => trivial),(fun hG => ⟨⟨hG,tt⟩,⟨hG,tt⟩,(by have hg0 : ¬ (((h.getD k default).frm) = ((h.getD i default).frm)) := of_decide_eq_false (or_l (or_l (not_f hG))); have hg1 : ¬ (((h.getD k default).frm) = ((h.getD i default).to)) := of_decide_eq_false (or_r (or_l (not_f hG))); have hg2 : ¬ (((h.getD k default).to) = ((h.getD i default).frm)) := of_decide_eq_false (or_r (not_f hG)); omega),(by have hg0 : ¬ (((h.getD k default).frm) = ((h.getD i default).frm)) := of_decide_eq_false (or_l (or_l (not_f hG))); have hg1 : ¬ (((h.getD k default).frm) = ((h.getD i default).to)) := of_decide_eq_false (or_r (or_l (not_f hG))); have hg2 : ¬ (((h.getD k default).to) = ((h.getD i default).frm)) := of_decide_eq_false (or_r (not_f hG)); omega)⟩),(fun hG => ⟨hG,tt⟩),(fun hG => ⟨hG,tt⟩),(fun hG => ⟨⟨hG,tt⟩,⟨hG,tt⟩,tt⟩),⟨tt,(fun _ => trivial),(fun hp => ⟨(not_t hp),tt⟩)⟩,tt⟩ ?_
      refine W.if' ((((decide (((h.getD k default).frm) = ((h.getD i default).frm))) || (decide (((h.getD k default).frm) = ((h.getD i default).to)))) || (decide (((h.getD k default).to) = ((h.getD i default).frm)))) || (decide (((h.getD k default).to) = ((h.getD i default).to)))) (.b ((((decide (((h.getD k default).frm) = ((h.getD i default).frm))) || (decide (((h.getD k default).frm) = ((h.getD i default).to)))) || (decide (((h.getD k default).to) = ((h.getD i default).frm)))) || (decide (((h.getD k default).to) = ((h.getD i default).to))))) (by kernel_rfl) rfl trivial ?_ ?_
      ·intro h71
       refine W.K cok tab48 hnt [] [2] (⟨[(2,.b false)],[],[999]⟩)
        (True ∧ True) (by kernel_rfl)
        ⟨tt,tt⟩ ?_
       refine W.ret (thenQ_ret (blockQ_ret (thenQ_ret (thenQ_ret (blockQ_ret (blockQ_ret (thenQ_ret (thenQ_ret (blockQ_ret (thenQ_ret ?_))))))))))
       exact endQ_ret (.b false) (by kernel_rfl) (@cast ((.bool false : Value) = .bool (validHistory h)) _ (by kernel_rfl) (congrArg Value.bool (by unfold validHistory; symm; exact and_fr (allN_false (i := i) (by omega) (and_fr (allN_false (i := k) (by omega) (clash_true1 h71)))))))
      ·intro n71
       have n71_0 : ¬ (((h.getD k default).frm) = ((h.getD i default).frm)) := of_decide_eq_false (or_l (or_l (or_l n71)))
       have n71_1 : ¬ (((h.getD k default).frm) = ((h.getD i default).to)) := of_decide_eq_false (or_r (or_l (or_l n71)))
       have n71_2 : ¬ (((h.getD k default).to) = ((h.getD i default).frm)) := of_decide_eq_false (or_r (or_l n71))
       have n71_3 : ¬ (((h.getD k default).to) = ((h.getD i default).to)) := of_decide_eq_false (or_r n71)
       refine W.skip (thenQ_normal ?_)
       refine W.KA cok tab48 hnt [] [0,3,4,108] (⟨[(0,.sl (.calls h)),(3,.i ((i : Nat) : Int)),(4,.i ((k : Nat) : Int)),(108,.b (((decide (((h.getD k default).proc) = ((h.getD i default).proc))) && (decide (((h.getD i default).frm) < ((h.getD k default).to)))) && (decide (((h.getD k default).frm) < ((h.getD i default).to)))))],[],[999]⟩)
        (True ∧ True ∧ (True ∧ True ∧ (0 ≤ ((k : Nat) : Int)) ∧ (((k : Nat) : Int) < (h.length : Int))) ∧ True ∧ True ∧ True ∧ True ∧ (True ∧ True ∧ (0 ≤ ((i : Nat) : Int)) ∧ (((i : Nat) : Int) < (h.length : Int))) ∧ True ∧ True ∧ (True ∧ True ∧ True) ∧ True ∧ ((decide (((h.getD k default).proc) = ((h.getD i default).proc))) = true → True) ∧ ((decide (((h.getD k default).proc) = ((h.getD i default).proc))) = true → True) ∧ ((decide (((h.getD k default).proc) = ((h.getD i default).proc))) = true → ((((decide (((h.getD k default).proc) = ((h.getD i default).proc))) = true) ∧ True) ∧ (((decide (((h.getD k default).proc) = ((h.getD i default).proc))) = true) ∧ True) ∧ (0 ≤ ((k : Nat) : Int)) ∧ (((k : Nat) : Int) < (h.length : Int)))) ∧ ((decide (((h.getD k default).proc) = ((h.getD i default).proc))) = true → (((decide (((h.getD k default).proc) = ((h.getD i default).proc))) = true) ∧ True)) ∧ ((decide (((h.getD k default).proc) = ((h.getD i default).proc))) = true → (((decide (((h.getD k default).proc) = ((h.getD i default).proc))) = true) ∧ True)) ∧ ((decide (((h.getD k default).proc) = ((h.getD i default).proc))) = true → True) ∧ ((decide (((h.getD k default).proc) = ((h.getD i default).proc))) = true → True) ∧ ((decide (((h.getD k default).proc) = ((h.getD i default).proc))) = true → ((((decide (((h.getD k default).proc) = ((h.getD i default).proc))) = true) ∧ True) ∧ (((decide (((h.getD k default).proc) = ((h.getD i default).proc))) = true) ∧ True) ∧ (0 ≤ ((i : Nat) : Int)) ∧ (((i : Nat) : Int) < (h.length : Int)))) ∧ ((decide (((h.getD k default).proc) = ((h.getD i default).proc))) = true → (((decide (((h.getD k default).proc) = ((h.getD i default).proc))) = true) ∧ True)) ∧ ((decide (((h.getD k default).proc) = ((h.getD i default).proc))) = true → (((decide (((h.getD k default).proc) = ((h.getD i default).proc))) = true) ∧ True)) ∧ ((decide (((h.getD k default).proc) = ((h.getD i default).proc))) = true → ((((decide (((h.getD k default).proc) = ((h.getD i default).proc))) = true) ∧ True) ∧ (((decide (((h.getD k default).proc) = ((h.getD i default).proc))) = true) ∧ True) ∧ True)) ∧ (True ∧ ((decide (((h.getD k default).proc) = ((h.getD i default).proc))) = true → ((decide (((h.getD k default).proc) = ((h.getD i default).proc))) = true) ∧ True) ∧ ((decide (((h.getD k default).proc) = ((h.getD i default).proc))) = false → True)) ∧ True ∧ (((decide (((h.getD k default).proc) = ((h.getD i default).proc))) && (decide (((h.getD i default).frm) < ((h.getD k default).to)))) = true → True) ∧ (((decide (((h.getD k default).proc) = ((h.getD i default).proc))) && (decide (((h.getD i default).frm) < ((h.getD k default).to)))) = true → True) ∧ (((decide (((h.getD k default).proc) = ((h.getD i default).proc))) && (decide (((h.getD i default).frm) < ((h.getD k default).to)))) = true → (((((decide (((h.getD k default).proc) = ((h.getD i default).proc))) && (decide (((h.getD i default).frm) < ((h.getD k default).to)))) = true) ∧ True) ∧ ((((decide (((h.getD k default).proc) = ((h.getD i default).proc))) && (decide (((h.getD i default).frm) < ((h.getD k default).to)))) = true) ∧ True) ∧ (0 ≤ ((i : Nat) : Int)) ∧ (((i : Nat) : Int) < (h.length : Int)))) ∧ (((decide (((h.getD k default).proc) = ((h.getD i default).proc))) && (decide (((h.getD i default).frm) < ((h.getD k default).to)))) = true → ((((decide (((h.getD k default).proc) = ((h.getD i default).proc))) && (decide (((h.getD i default).frm) < ((h.getD k default).to)))) = true) ∧ True)) ∧ (((decide (((h.getD k default).proc) = ((h.getD i default).proc))) && (decide (((h.getD i default).frm) < ((h.getD k default).to)))) = true → ((((decide (((h.getD k default).proc) = ((h.getD i default).proc))) && (decide (((h.getD i default).frm) < ((h.getD k default).to)))) = true) ∧ True)) ∧ (((decide (((h.getD k default).proc) = ((h.getD i default).proc))) && (decide (((h.getD i default).frm) < ((h.getD k default).to)))) = true → True) ∧ (((decide (((h.getD k default).proc) = ((h.getD i default).proc))) && (decide (((h.getD i default).frm) < ((h.getD k default).to)))) = true → True) ∧ (((decide (((h.getD k default).proc) = ((h.getD i default).proc))) && (decide (((h.getD i default).frm) < ((h.getD k default).to)))) = true → (((((decide (((h.getD k default).proc) = ((h.getD i default).proc))) && (decide (((h.getD i default).frm) < ((h.getD k default).to)))) = true) ∧ True) ∧ ((((decide (((h.getD k default).proc) = ((h.getD i default).proc))) && (decide (((h.getD i default).frm) < ((h.getD k default).to)))) = true) ∧ True) ∧ (0 ≤ ((k : Nat) : Int)) ∧ (((k : Nat) : Int) < (h.length : Int)))) ∧ (((decide (((h.getD k default).proc) = ((h.getD i default).proc))) && (decide (((h.getD i default).frm) < ((h.getD k default).to)))) = true → ((((decide (((h.getD k default).proc) = ((h.getD i default).proc))) && (decide (((h.getD i default).frm) < ((h.getD k default).to)))) = true) ∧ True)) ∧ (((decide (((h.getD k default).proc) = ((h.getD i default).proc))) && (decide (((h.getD i default).frm) < ((h.getD k default).to)))) = true → ((((decide (((h.getD k default).proc) = ((h.getD i default).proc))) && (decide (((h.getD i default).frm) < ((h.getD k default).to)))) = true) ∧ True)) ∧ (((decide (((h.getD k default).proc) = ((h.getD i default).proc))) && (decide (((h.getD i default).frm) < ((h.getD k default).to)))) = true → (((((decide (((h.getD k default).proc) = ((h.getD i default).proc))) && (decide (((h.getD i default).frm) < ((h.getD k default).to)))) = true) ∧ True) ∧ ((((decide (((h.getD k default).proc) = ((h.getD i default).proc))) && (decide (((h.getD i default).frm) < ((h.getD k default).to)))) = true) ∧ True) ∧ True)) ∧ (True ∧ (((decide (((h.getD k default).proc) = ((h.getD i default).proc))) && (decide (((h.getD i default).frm) < ((h.getD k default).to)))) = true → (((decide (((h.getD k default).proc) = ((h.getD i default).proc))) && (decide (((h.getD i default).frm) < ((h.getD k default).to)))) = true) ∧ True) ∧ (((decide (((h.getD k default).proc) = ((h.getD i default).proc))) && (decide (((h.getD i default).frm) < ((h.getD k default).to)))) = false → True)) ∧ True) (by kernel_rfl) (by kernel_rfl)
        ⟨tt,tt,⟨tt,tt,(by omega),(by omega)⟩,tt,tt,tt,tt,⟨tt,tt,(by omega),(by omega)⟩,tt,tt,⟨tt,tt,tt⟩,tt,(fun _ => trivial),(fun _ => trivial),(fun hG => ⟨⟨hG,tt⟩,⟨hG,tt⟩,(by have hg0 : ((h.getD k default).proc) = ((h.getD i default).proc) := of_decide_eq_true hG; omega),(by have hg0 : ((h.getD k default).proc) = ((h.getD i default).proc) := of_decide_eq_true hG; omega)⟩),(fun hG => ⟨hG,tt⟩),(fun hG => ⟨hG,tt⟩),(fun _ => trivial),(fun _ => trivial),(fun hG => ⟨⟨hG,tt⟩,⟨hG,tt⟩,(by have hg0 : ((h.getD k default).proc) = ((h.getD i default).proc) := of_decide_eq_true hG; omega),(by have hg0 : ((h.getD k default).proc) = ((h.getD i default).proc) := of_decide_eq_true hG; omega)⟩),(fun hG => ⟨hG,tt⟩),(fun hG => ⟨hG,tt⟩),(fun hG => ⟨⟨hG,tt⟩,⟨hG,tt⟩,tt⟩),⟨tt,(fun hp => ⟨hp,tt⟩),(fun _ => trivial)⟩,tt,(fun _ => trivial),(fun _ => trivial),(fun hG => ⟨⟨hG,tt⟩,⟨hG,tt⟩,(by have hg0 : ((h.getD k default).proc) = ((h.getD i default).proc) := of_decide_eq_true (and_l hG); have hg1 : ((h.getD i default).frm) < ((h.getD k default).to) := of_decide_eq_true (and_r hG); omega),(by have hg0 : ((h.getD k default).proc) = ((h.getD i default).proc) := of_decide_eq_true (and_l hG); have hg1 : ((h.getD i default).frm) < ((h.getD k default).to) := of_decide_eq_true (and_r hG); omega)⟩),(fun hG => ⟨hG,tt⟩),(fun hG => ⟨hG,tt⟩),(fun _ => trivial),(fun _ => trivial),(fun hG => ⟨⟨hG,tt⟩,⟨hG,tt⟩,(by have hg0 : ((h.getD k default).proc) = ((h.getD i default).proc) := of_decide_eq_true (and_l hG); have hg1 : ((h.getD i default).frm) < ((h.getD k default).to) := of_decide_eq_true (and_r hG); omega),(by have hg0 : ((h.getD k default).proc) = ((h.getD i default).proc) := of_decide_eq_true (and_l hG); have hg1 : ((h.getD i default).frm) < ((h.getD k default).to) := of_decide_eq_true (and_r hG); omega)⟩),(fun hG => ⟨hG,tt⟩),(fun hG => ⟨hG,tt⟩),(fun hG => ⟨⟨hG,tt⟩,⟨hG,tt⟩,tt⟩),⟨tt,(fun hp => ⟨hp,tt⟩),(fun _ => trivial)⟩,tt⟩ ?_
       refine W.if' (((decide (((h.getD k default).proc) = ((h.getD i default).proc))) && (decide (((h.getD i default).frm) < ((h.getD k default).to)))) && (decide (((h.getD k default).frm) < ((h.getD i default).to)))) (.b (((decide (((h.getD k default).proc) = ((h.getD i default).proc))) && (decide (((h.getD i default).frm) < ((h.getD k default).to)))) && (decide (((h.getD k default).frm) < ((h.getD i default).to))))) (by kernel_rfl) rfl trivial ?_ ?_
       ·intro h108
        have h108_0 : ((h.getD k default).proc) = ((h.getD i default).proc) := of_decide_eq_true (and_l (and_l h108))
        have h108_1 : ((h.getD i default).frm) < ((h.getD k default).to) := of_decide_eq_true (and_r (and_l h108))
        have h108_2 : ((h.getD k default).frm) < ((h.getD i default).to) := of_decide_eq_true (and_r h108)
        refine W.K cok tab48 hnt [] [2] (⟨[(2,.b false)],[],[999]⟩)
         (True ∧ True) (by kernel_rfl)
         ⟨tt,tt⟩ ?_
        refine W.ret (blockQ_ret (thenQ_ret (thenQ_ret (blockQ_ret (blockQ_ret (thenQ_ret (thenQ_ret (blockQ_ret (thenQ_ret ?_)))))))))
        exact endQ_ret (.b false) (by kernel_rfl) (@cast ((.bool false : Value) = .bool (validHistory h)) _ (by kernel_rfl) (congrArg Value.bool (by unfold validHistory; symm; exact and_fr (allN_false (i := i) (by omega) (and_fr (allN_false (i := k) (by omega) (clash_true2 h108)))))))
       ·intro n108
        refine W.skip (blockQ_normal (thenQ_normal ?_))
        refine W.L cok tab48 hnt [] (⟨[(0,.sl (.calls h)),(3,.i ((i : Nat) : Int)),(4,.i (((k + 1) : Nat) : Int)),(20,.i ((k : Nat) : Int)),(21,.i (((k + 1) : Nat) : Int)),(108,.b (((decide (((h.getD k default).proc) = ((h.getD i default).proc))) && (decide (((h.getD i default).frm) < ((h.getD k default).to)))) && (decide (((h.getD k default).frm) < ((h.getD i default).to)))))],[],[999]⟩)
         (True ∧ (True ∧ True ∧ (Fits .i64 (((k + 1) : Nat) : Int))) ∧ True ∧ True) (by kernel_rfl)
         ⟨tt,⟨tt,tt,(by exact fits_i64 (by omega) (by omega))⟩,tt,tt⟩ ?_
        refine thenQ_normal ?_
        refine ⟨((k + 1)),(show ((k + 1) ≤ i) ∧ (∀ j,j < (k + 1) → (!clash (callAt h i) (callAt h j)) = true) from ⟨(by first | assumption | omega | rfl | (intro _ hjj; omega) | (simp; done) | (simp; omega)),(by exact upto_succ hB (clash_false n71 n108))⟩),(show i - (k + 1) < i - k from (by first | omega | (simp_all; omega))),?_⟩
        exact Sub.of [] (@cast ((((.calls h : Dat) = .calls h) ∧ (((.int .i64 ((i : Nat) : Int) : Value) = .int .i64 ((i : Nat) : Int)) ∧ (((.int .i64 (((k + 1) : Nat) : Int) : Value) = .int .i64 (((k + 1) : Nat) : Int)) ∧ True))) ∧ (True ∧ ((true = true) ∧ (true = true)))) _ (by kernel_rfl) ⟨⟨rfl,rfl,rfl,tt⟩,tt,rfl,rfl⟩)
     ·intro n19
      refine W.exit (thenQ_exit (thenQ_exit (blockQ_hit ?_)))
      refine blockQ_normal (thenQ_normal ?_)
      refine W.L cok tab48 hnt [] (⟨[(0,.sl (.calls h)),(3,.i (((i + 1) : Nat) : Int)),(4,.i ((k : Nat) : Int)),(9,.i ((i : Nat) : Int)),(10,.i (((i + 1) : Nat) : Int)),(19,.b (decide (((k : Nat) : Int) < ((i : Nat) : Int))))],[],[999]⟩)
       (True ∧ (True ∧ True ∧ (Fits .i64 (((i + 1) : Nat) : Int))) ∧ True ∧ True) (by kernel_rfl)
       ⟨tt,⟨tt,tt,(by exact fits_i64 (by omega) (by omega))⟩,tt,tt⟩ ?_
      refine thenQ_normal ?_
      refine ⟨((i + 1)),(show ((i + 1) ≤ h.length) ∧ (∀ j,j < (i + 1) → (isCall (callAt h j) && allN j (fun k => !clash (callAt h j) (callAt h k))) = true) from ⟨(by first | assumption | omega | rfl | (intro _ hjj; omega) | (simp; done) | (simp; omega)),(by exact upto_succ hA (and_t (not_g n16) (allN_true (fun j hj => hB j (by omega)))))⟩),(show h.length - (i + 1) < h.length - i from (by first | omega | (simp_all; omega))),?_⟩
      exact Sub.of [] (@cast ((((.calls h : Dat) = .calls h) ∧ (((.int .i64 (((i + 1) : Nat) : Int) : Value) = .int .i64 (((i + 1) : Nat) : Int)) ∧ True)) ∧ (True ∧ ((true = true) ∧ (true = true)))) _ (by kernel_rfl) ⟨⟨rfl,rfl,tt⟩,tt,rfl,rfl⟩)
  ·intro n8
   refine W.exit (thenQ_exit (thenQ_exit (blockQ_hit ?_)))
   refine thenQ_normal ?_
   refine W.K cok tab48 hnt [] [2] (⟨[(2,.b (decide ((h.length : Int) ≤ (6 : Int))))],[],[999]⟩)
    (True ∧ True ∧ (True ∧ True ∧ True) ∧ True ∧ True) (by kernel_rfl)
    ⟨tt,tt,⟨tt,tt,tt⟩,tt,tt⟩ ?_
   refine W.ret ?_
   exact endQ_ret (.b (decide ((h.length : Int) ≤ (6 : Int)))) (by kernel_rfl) (@cast ((.bool (decide ((h.length : Int) ≤ (6 : Int))) : Value) = .bool (validHistory h)) _ (by kernel_rfl) (congrArg Value.bool (by unfold validHistory; symm; rw [allN_true (fun j hj => hA j (by omega)),Bool.and_true]; exact bool_ext (by simp only [decide_eq_true_eq]; omega))))
theorem ent48 : Entr prog 48 := ⟨_,func48,rfl,by decide⟩
end Go.Proofs.Try

set_option linter.unusedSimpArgs false
set_option linter.unusedVariables false
namespace Go.Proofs.Try
open Go.Ab Go.RowKit
def fs26 : FnS := fnS [.o,.s .calls] [.str,.calls] (fun _ (s,h,_) => (.b (isObject s && validHistory h),[],True))
abbrev T26 : Tab := lk [(47,fs47),(48,fs48)]
theorem tab26 : TabOK prog T26 := (TabOK.cons ok47 ent47 (TabOK.cons ok48 ent48 TabOK.nil))
set_option maxRecDepth 100000 in
set_option maxHeartbeats 1000000 in
theorem ok26 : FnOK prog 26 fs26 := by
 refine FnOK.mk cok func26 rfl rfl rfl ?_
 rintro fl ⟨(s : ByteArray),(h : List CallD),_⟩ hpre F hnt0 _
 have hnt : F.nt = 11 := hnt0.trans ntmps26
 clear hpre
 refine W.to (⟨[(0,.v (.string s)),(1,.sl (.calls h))],[],[999]⟩) rfl ?_
 refine W.lenOf 1 (.calls h) (by kernel_rfl) ?_
 intro hl_h; replace hl_h : List.length h ≤ 9223372036854775807 := hl_h
 refine W.K cok tab26 hnt [] [0,1] (⟨[(0,.v (.string s)),(1,.sl (.calls h))],[],[999]⟩)
  (True ∧ True) (by kernel_rfl)
  ⟨tt,tt⟩ ?_
 refine W.K cok tab26 hnt [] [4] (⟨[(4,.b ((isObject s) && (validHistory h)))],[],[999]⟩)
  (True ∧ (True ∧ (True ∧ True) ∧ True) ∧ True ∧ ((isObject s) = true → True) ∧ ((isObject s) = true → (True ∧ ((((isObject s) = true) ∧ True) ∧ True) ∧ True)) ∧ (True ∧ ((isObject s) = true → ((isObject s) = true) ∧ True) ∧ ((isObject s) = false → True)) ∧ True ∧ True) (by kernel_rfl)
  ⟨tt,⟨tt,⟨tt,tt⟩,tt⟩,tt,(fun _ => trivial),(fun hG => ⟨tt,⟨⟨hG,tt⟩,tt⟩,tt⟩),⟨tt,(fun hp => ⟨hp,tt⟩),(fun _ => trivial)⟩,tt,tt⟩ ?_
 refine W.ret ?_
 exact endQ_ret (.b ((isObject s) && (validHistory h))) (by kernel_rfl) (@cast ((.bool ((isObject s) && (validHistory h)) : Value) = .bool (isObject s && validHistory h)) _ (by kernel_rfl) (congrArg Value.bool (by rfl)))
theorem ent26 : Entr prog 26 := ⟨_,func26,rfl,by decide⟩
end Go.Proofs.Try

set_option linter.unusedSimpArgs false
set_option linter.unusedVariables false
namespace Go.Proofs.Try
open Go.Ab Go.RowKit
def fs52 : FnS := fnS [.o,.o] [.call,.call] (fun _ (a,b,_) => (.b (isBefore a b),[],True))
abbrev T52 : Tab := lk []
theorem tab52 : TabOK prog T52 := TabOK.nil
set_option maxRecDepth 100000 in
set_option maxHeartbeats 1000000 in
theorem ok52 : FnOK prog 52 fs52 := by
 refine FnOK.mk cok func52 rfl rfl rfl ?_
 rintro fl ⟨(a : CallD),(b : CallD),_⟩ hpre F hnt0 _
 have hnt : F.nt = 10 := hnt0.trans ntmps52
 clear hpre
 refine W.to (⟨[(0,.agg [.i a.proc,.i a.obj,.i a.kind,.i a.arg,.i a.ret,.i a.frm,.i a.to]),(1,.agg [.i b.proc,.i b.obj,.i b.kind,.i b.arg,.i b.ret,.i b.frm,.i b.to])],[],[999]⟩) rfl ?_
 refine W.K cok tab52 hnt [] [2,3] (⟨[(2,.ptr 2 0),(3,.ptr 3 0)],[(2,⟨49,.fix [.i a.proc,.i a.obj,.i a.kind,.i a.arg,.i a.ret,.i a.frm,.i a.to]⟩),(3,⟨49,.fix [.i b.proc,.i b.obj,.i b.kind,.i b.arg,.i b.ret,.i b.frm,.i b.to]⟩)],[3,2,999]⟩)
  (True ∧ True ∧ True ∧ True) (by kernel_rfl)
  ⟨tt,tt,tt,tt⟩ ?_
 refine W.K cok tab52 hnt [] [4] (⟨[(4,.b (decide (a.to < b.frm)))],[(2,⟨49,.fix [.i a.proc,.i a.obj,.i a.kind,.i a.arg,.i a.ret,.i a.frm,.i a.to]⟩),(3,⟨49,.fix [.i b.proc,.i b.obj,.i b.kind,.i b.arg,.i b.ret,.i b.frm,.i b.to]⟩)],[3,2,999]⟩)
  (True ∧ True ∧ True ∧ True ∧ (True ∧ True ∧ True) ∧ True ∧ True) (by kernel_rfl)
  ⟨tt,tt,tt,tt,⟨tt,tt,tt⟩,tt,tt⟩ ?_
 refine W.ret ?_
 exact endQ_ret (.b (decide (a.to < b.frm))) (by kernel_rfl) (@cast ((.bool (decide (a.to < b.frm)) : Value) = .bool (isBefore a b)) _ (by kernel_rfl) (congrArg Value.bool (by first | rfl | simp_all)))
theorem ent52 : Entr prog 52 := ⟨_,func52,rfl,by decide⟩
end Go.Proofs.Try

set_option linter.unusedSimpArgs false
set_option linter.unusedVariables false
namespace Go.Proofs.Try
open Go.Ab Go.RowKit
def fs50 : FnS := fnS [.o] [.int] (fun _ (n,_) => (.i (power n),[],(n ≤ 60)))
abbrev T50 : Tab := lk []
theorem tab50 : TabOK prog T50 := TabOK.nil
set_option maxRecDepth 100000 in
set_option maxHeartbeats 1000000 in
theorem ok50 : FnOK prog 50 fs50 := by
 refine FnOK.mk cok func50 rfl rfl rfl ?_
 rintro fl ⟨(n : Int),_⟩ hpre F hnt0 _
 have hnt : F.nt = 11 := hnt0.trans ntmps50
 replace hpre : (n ≤ 60) := hpre
 have hn := hpre
 refine W.to (⟨[(0,.i n)],[],[999]⟩) rfl ?_
 refine W.K cok tab50 hnt [] [0] (⟨[(0,.i n)],[],[999]⟩)
  (True ∧ True) (by kernel_rfl)
  ⟨tt,tt⟩ ?_
 refine W.K cok tab50 hnt [] [0,3] (⟨[(0,.i n),(3,.i (1 : Int))],[],[999]⟩)
  (True ∧ True) (by kernel_rfl)
  ⟨tt,tt⟩ ?_
 refine W.seq ?_
 refine W.block ?_
 refine W.loop (ι := Int × Int) (fun (x : Int × Int) => match x with | (k,x) => (⟨[(0,.i k),(3,.i x)],[],[999]⟩ : St))
  (fun (x : Int × Int) => match x with | (k,x) => (k ≤ n) ∧ (x * power k = power n) ∧ (1 ≤ x))
  (fun (x : Int × Int) => match x with | (k,x) => (k.toNat : Nat)) (n,(1 : Int)) ?_ ?_ ?_
 ·exact (show (n ≤ n) ∧ ((1 : Int) * power n = power n) ∧ (1 ≤ (1 : Int)) from ⟨(by first | assumption | omega | rfl | (intro _ hjj; omega) | (simp; done) | (simp; omega)),(by exact Int.one_mul _),(by first | assumption | omega | rfl | (intro _ hjj; omega) | (simp; done) | (simp; omega))⟩)
 ·exact Sub.of [] (@cast ((((.int .i64 n : Value) = .int .i64 n) ∧ (((.int .i64 (1 : Int) : Value) = .int .i64 (1 : Int)) ∧ True)) ∧ (True ∧ ((true = true) ∧ (true = true)))) _ (by kernel_rfl) ⟨⟨rfl,rfl,tt⟩,tt,rfl,rfl⟩)
 ·rintro ⟨k,x⟩ hC0
  have hC : (k ≤ n) ∧ (x * power k = power n) ∧ (1 ≤ x) := hC0
  clear hC0
  obtain ⟨hk,hx,hx0⟩ := hC
  refine W.to (⟨[(0,.i k),(3,.i x)],[],[999]⟩) rfl ?_
  have hp := power_le (n := n) hn
  have hxp : x ≤ power n := power_factor hx hx0
  refine W.seq ?_
  refine W.K cok tab50 hnt [] [0,3,5] (⟨[(0,.i k),(3,.i x),(5,.b (decide ((0 : Int) < k)))],[],[999]⟩)
   (True ∧ (True ∧ True ∧ True) ∧ True) (by kernel_rfl)
   ⟨tt,⟨tt,tt,tt⟩,tt⟩ ?_
  refine W.ifP ((0 : Int) < k) (.b (decide ((0 : Int) < k))) (by kernel_rfl) rfl trivial ?_ ?_
  ·intro h5
   refine W.skip (thenQ_normal ?_)
   refine W.seq ?_
   refine W.block ?_
   refine W.L cok tab50 hnt [] (⟨[(0,.i k),(3,.i ((2 : Int) * x)),(5,.b (decide ((0 : Int) < k))),(8,.i x),(9,.i ((2 : Int) * x))],[],[999]⟩)
    (True ∧ (True ∧ True ∧ (Fits .i64 ((2 : Int) * x))) ∧ True ∧ True) (by kernel_rfl)
    ⟨tt,⟨tt,tt,(by exact fits_i64 (by omega) (by omega))⟩,tt,tt⟩ ?_
   refine blockQ_normal (thenQ_normal ?_)
   refine W.L cok tab50 hnt [] (⟨[(0,.i (k - (1 : Int))),(3,.i ((2 : Int) * x)),(5,.b (decide ((0 : Int) < k))),(6,.i k),(7,.i (k - (1 : Int))),(8,.i x),(9,.i ((2 : Int) * x))],[],[999]⟩)
    (True ∧ (True ∧ True ∧ (Fits .i64 (k - (1 : Int)))) ∧ True ∧ True) (by kernel_rfl)
    ⟨tt,⟨tt,tt,(by exact fits_i64 (by omega) (by omega))⟩,tt,tt⟩ ?_
   refine thenQ_normal ?_
   refine ⟨((k - (1 : Int)),((2 : Int) * x)),(show ((k - (1 : Int)) ≤ n) ∧ (((2 : Int) * x) * power (k - (1 : Int)) = power n) ∧ (1 ≤ ((2 : Int) * x)) from ⟨(by first | assumption | omega | rfl | (intro _ hjj; omega) | (simp; done) | (simp; omega)),(by rw [← hx]; exact power_step h5),(by first | assumption | omega | rfl | (intro _ hjj; omega) | (simp; done) | (simp; omega))⟩),(show (k - (1 : Int)).toNat < k.toNat from (by first | omega | (simp_all; omega))),?_⟩
   exact Sub.of [] (@cast ((((.int .i64 (k - (1 : Int)) : Value) = .int .i64 (k - (1 : Int))) ∧ (((.int .i64 ((2 : Int) * x) : Value) = .int .i64 ((2 : Int) * x)) ∧ True)) ∧ (True ∧ ((true = true) ∧ (true = true)))) _ (by kernel_rfl) ⟨⟨rfl,rfl,tt⟩,tt,rfl,rfl⟩)
  ·intro n5
   refine W.exit (thenQ_exit (thenQ_exit (blockQ_hit ?_)))
   refine thenQ_normal ?_
   refine W.K cok tab50 hnt [] [2] (⟨[(2,.i x)],[],[999]⟩)
    (True ∧ True ∧ True) (by kernel_rfl)
    ⟨tt,tt,tt⟩ ?_
   refine W.ret ?_
   exact endQ_ret (.i x) (by kernel_rfl) (@cast ((.int .i64 x : Value) = .int .i64 (power n)) _ (by kernel_rfl) (congrArg (Value.int .i64) (by first | rfl | exact power_done hx n5)))
theorem ent50 : Entr prog 50 := ⟨_,func50,rfl,by decide⟩
end Go.Proofs.Try

set_option linter.unusedSimpArgs false
set_option linter.unusedVariables false
namespace Go.Proofs.Try
open Go.Ab Go.RowKit
def fs28 : FnS := fnS [.s .calls] [.calls] (fun _ (h,_) => (.sl (.ints (rowsOf h.length (aheadF h))),[],(h.length ≤ 60)))
abbrev T28 : Tab := lk [(50,fs50),(52,fs52)]
theorem tab28 : TabOK prog T28 := (TabOK.cons ok50 ent50 (TabOK.cons ok52 ent52 TabOK.nil))
set_option maxRecDepth 100000 in
set_option maxHeartbeats 1000000 in
theorem ok28 : FnOK prog 28 fs28 := by
 refine FnOK.mk cok func28 rfl rfl rfl ?_
 rintro fl ⟨(h : List CallD),_⟩ hpre F hnt0 _
 have hnt : F.nt = 38 := hnt0.trans ntmps28
 replace hpre : (h.length ≤ 60) := hpre
 have hn := hpre
 refine W.to (⟨[(0,.sl (.calls h))],[],[999]⟩) rfl ?_
 refine W.lenOf 0 (.calls h) (by kernel_rfl) ?_
 intro hl_h; replace hl_h : List.length h ≤ 9223372036854775807 := hl_h
 refine W.K cok tab28 hnt [] [0] (⟨[(0,.sl (.calls h))],[],[999]⟩)
  (True ∧ True) (by kernel_rfl)
  ⟨tt,tt⟩ ?_
 refine W.K cok tab28 hnt [7] [0,3] (⟨[(0,.sl (.calls h)),(3,.own 7 (List.length ([] : List Int)))],[(7,⟨3,.row (.ints ([] : List Int))⟩)],[7,999]⟩)
  (True ∧ True ∧ True) (by kernel_rfl)
  ⟨tt,tt,tt⟩ ?_
 refine W.seq ?_
 refine W.K cok tab28 hnt [] [0,3,4] (⟨[(0,.sl (.calls h)),(3,.own 7 (List.length ([] : List Int))),(4,.i (0 : Int))],[(7,⟨3,.row (.ints ([] : List Int))⟩)],[7,999]⟩)
  (True ∧ True) (by kernel_rfl)
  ⟨tt,tt⟩ ?_
 refine W.block ?_
 refine W.loop (ι := (List Int) × Nat) (fun (x : (List Int) × Nat) => match x with | (o,i) => (⟨[(0,.sl (.calls h)),(3,.own 7 o.length),(4,.i ((i : Nat) : Int))],[(7,⟨3,.row (.ints o)⟩)],[7,999]⟩ : St))
  (fun (x : (List Int) × Nat) => match x with | (o,i) => (i ≤ h.length) ∧ (o = (List.range i).map fun j => mask h.length (aheadF h j)))
  (fun (x : (List Int) × Nat) => match x with | (o,i) => (h.length - i : Nat)) (([] : List Int),0) ?_ ?_ ?_
 ·exact (show (0 ≤ h.length) ∧ (([] : List Int) = (List.range 0).map fun j => mask h.length (aheadF h j)) from ⟨(by first | assumption | omega | rfl | (intro _ hjj; omega) | (simp; done) | (simp; omega)),(by rfl)⟩)
 ·exact Sub.of [] (@cast ((((.calls h : Dat) = .calls h) ∧ ((((7 : Nat) = 7) ∧ (((List.length ([] : List Int)) = (List.length ([] : List Int))) ∧ ((7 : Nat) ∈ ([7,999] : List Nat)))) ∧ (((.int .i64 (0 : Int) : Value) = .int .i64 ((0 : Nat) : Int)) ∧ True))) ∧ (((((3 : Nat) = 3) ∧ (((.ints ([] : List Int) : Dat) = .ints ([] : List Int)) ∧ ((7 : Nat) ∈ ([7,999] : List Nat)))) ∧ True) ∧ ((true = true) ∧ (true = true)))) _ (by kernel_rfl) ⟨⟨rfl,⟨rfl,rfl,(by decide)⟩,(congrArg (Value.int .i64) (by first | rfl | omega | assumption | simp | simp_all)),tt⟩,⟨⟨rfl,rfl,(by decide)⟩,tt⟩,rfl,rfl⟩)
 ·rintro ⟨o,i⟩ hC0
  have hC : (i ≤ h.length) ∧ (o = (List.range i).map fun j => mask h.length (aheadF h j)) := hC0
  clear hC0
  obtain ⟨hi,ho⟩ := hC
  refine W.to (⟨[(0,.sl (.calls h)),(3,.own 7 o.length),(4,.i ((i : Nat) : Int))],[(7,⟨3,.row (.ints o)⟩)],[7,999]⟩) rfl ?_
  have hol : o.length = i := by rw [ho]; simp
  refine W.seq ?_
  refine W.K cok tab28 hnt [] [0,3,4,11] (⟨[(0,.sl (.calls h)),(3,.own 7 o.length),(4,.i ((i : Nat) : Int)),(11,.b (decide (((i : Nat) : Int) < (h.length : Int))))],[(7,⟨3,.row (.ints o)⟩)],[7,999]⟩)
   (True ∧ True ∧ True ∧ (True ∧ True ∧ True) ∧ True) (by kernel_rfl)
   ⟨tt,tt,tt,⟨tt,tt,tt⟩,tt⟩ ?_
  refine W.ifP (((i : Nat) : Int) < (h.length : Int)) (.b (decide (((i : Nat) : Int) < (h.length : Int)))) (by kernel_rfl) rfl trivial ?_ ?_
  ·intro h11
   refine W.skip (thenQ_normal ?_)
   refine W.seq ?_
   refine W.block ?_
   refine W.K cok tab28 hnt [] [0,3,4,5] (⟨[(0,.sl (.calls h)),(3,.own 7 o.length),(4,.i ((i : Nat) : Int)),(5,.i (0 : Int))],[(7,⟨3,.row (.ints o)⟩)],[7,999]⟩)
    (True ∧ True) (by kernel_rfl)
    ⟨tt,tt⟩ ?_
   refine W.seq ?_
   refine W.K cok tab28 hnt [] [0,3,4,5,6] (⟨[(0,.sl (.calls h)),(3,.own 7 o.length),(4,.i ((i : Nat) : Int)),(5,.i (0 : Int)),(6,.i (0 : Int))],[(7,⟨3,.row (.ints o)⟩)],[7,999]⟩)
    (True ∧ True) (by kernel_rfl)
    ⟨tt,tt⟩ ?_
   refine W.block ?_
   refine W.loop (ι := Int × Nat) (fun (x : Int × Nat) => match x with | (r,k) => (⟨[(0,.sl (.calls h)),(3,.own 7 o.length),(4,.i ((i : Nat) : Int)),(5,.i r),(6,.i ((k : Nat) : Int))],[(7,⟨3,.row (.ints o)⟩)],[7,999]⟩ : St))
    (fun (x : Int × Nat) => match x with | (r,k) => (k ≤ h.length) ∧ (r = mask k (aheadF h i)))
    (fun (x : Int × Nat) => match x with | (r,k) => (h.length - k : Nat)) ((0 : Int),0) ?_ ?_ ?_
   ·exact (show (0 ≤ h.length) ∧ ((0 : Int) = mask 0 (aheadF h i)) from ⟨(by first | assumption | omega | rfl | (intro _ hjj; omega) | (simp; done) | (simp; omega)),(by rfl)⟩)
   ·exact Sub.of [] (@cast ((((.calls h : Dat) = .calls h) ∧ ((((7 : Nat) = 7) ∧ ((o.length = o.length) ∧ ((7 : Nat) ∈ ([7,999] : List Nat)))) ∧ (((.int .i64 ((i : Nat) : Int) : Value) = .int .i64 ((i : Nat) : Int)) ∧ (((.int .i64 (0 : Int) : Value) = .int .i64 (0 : Int)) ∧ (((.int .i64 (0 : Int) : Value) = .int .i64 ((0 : Nat) : Int)) ∧ True))))) ∧ (((((3 : Nat) = 3) ∧ (((.ints o : Dat) = .ints o) ∧ ((7 : Nat) ∈ ([7,999] : List Nat)))) ∧ True) ∧ ((true = true) ∧ (true = true)))) _ (by kernel_rfl) ⟨⟨rfl,⟨rfl,rfl,(by decide)⟩,rfl,rfl,(congrArg (Value.int .i64) (by first | rfl | omega | assumption | simp | simp_all)),tt⟩,⟨⟨rfl,rfl,(by decide)⟩,tt⟩,rfl,rfl⟩)
   ·rintro ⟨r,k⟩ hC0
    have hC : (k ≤ h.length) ∧ (r = mask k (aheadF h i)) := hC0
    clear hC0
    obtain ⟨hk,hr⟩ := hC
    refine W.to (⟨[(0,.sl (.calls h)),(3,.own 7 o.length),(4,.i ((i : Nat) : Int)),(5,.i r),(6,.i ((k : Nat) : Int))],[(7,⟨3,.row (.ints o)⟩)],[7,999]⟩) rfl ?_
    have hmb := mask_bnd k (aheadF h i) (by omega)
    refine W.seq ?_
    refine W.K cok tab28 hnt [] [0,3,4,5,6,17] (⟨[(0,.sl (.calls h)),(3,.own 7 o.length),(4,.i ((i : Nat) : Int)),(5,.i r),(6,.i ((k : Nat) : Int)),(17,.b (decide (((k : Nat) : Int) < (h.length : Int))))],[(7,⟨3,.row (.ints o)⟩)],[7,999]⟩)
     (True ∧ True ∧ True ∧ (True ∧ True ∧ True) ∧ True) (by kernel_rfl)
     ⟨tt,tt,tt,⟨tt,tt,tt⟩,tt⟩ ?_
    refine W.ifP (((k : Nat) : Int) < (h.length : Int)) (.b (decide (((k : Nat) : Int) < (h.length : Int)))) (by kernel_rfl) rfl trivial ?_ ?_
    ·intro h17
     refine W.skip (thenQ_normal ?_)
     refine W.seq ?_
     refine W.block ?_
     refine W.KA cok tab28 hnt [] [0,3,4,5,6,28] (⟨[(0,.sl (.calls h)),(3,.own 7 o.length),(4,.i ((i : Nat) : Int)),(5,.i r),(6,.i ((k : Nat) : Int)),(28,.b (isBefore (h.getD k default) (h.getD i default)))],[(7,⟨3,.row (.ints o)⟩)],[7,999]⟩)
      (True ∧ True ∧ (True ∧ True ∧ (0 ≤ ((k : Nat) : Int)) ∧ (((k : Nat) : Int) < (h.length : Int))) ∧ True ∧ True ∧ True ∧ (True ∧ True ∧ (0 ≤ ((i : Nat) : Int)) ∧ (((i : Nat) : Int) < (h.length : Int))) ∧ True ∧ (True ∧ (True ∧ True ∧ True) ∧ True) ∧ True) (by kernel_rfl) (by kernel_rfl)
      ⟨tt,tt,⟨tt,tt,(by omega),(by omega)⟩,tt,tt,tt,⟨tt,tt,(by omega),(by omega)⟩,tt,⟨tt,⟨tt,tt,tt⟩,tt⟩,tt⟩ ?_
     refine W.if' (isBefore (h.getD k default) (h.getD i default)) (.b (isBefore (h.getD k default) (h.getD i default))) (by kernel_rfl) rfl trivial ?_ ?_
     ·intro h28
      have hpw := power_le (n := (k : Int)) (by omega)
      have hpw0 := power_pos (k : Int)
      refine W.L cok tab28 hnt [] (⟨[(0,.sl (.calls h)),(3,.own 7 o.length),(4,.i ((i : Nat) : Int)),(5,.i (r + (power ((k : Nat) : Int)))),(6,.i ((k : Nat) : Int)),(28,.b (isBefore (h.getD k default) (h.getD i default))),(29,.i r),(30,.i ((k : Nat) : Int)),(31,.i (power ((k : Nat) : Int))),(32,.i (r + (power ((k : Nat) : Int))))],[(7,⟨3,.row (.ints o)⟩)],[7,999]⟩)
       (True ∧ True ∧ (True ∧ (True ∧ True) ∧ (((k : Nat) : Int) ≤ 60)) ∧ (True ∧ True ∧ (Fits .i64 (r + (power ((k : Nat) : Int))))) ∧ True ∧ True) (by kernel_rfl)
       ⟨tt,tt,⟨tt,⟨tt,tt⟩,(by omega)⟩,⟨tt,tt,(by exact fits_i64 (by omega) (by omega))⟩,tt,tt⟩ ?_
      refine blockQ_normal (thenQ_normal ?_)
      refine W.L cok tab28 hnt [] (⟨[(0,.sl (.calls h)),(3,.own 7 o.length),(4,.i ((i : Nat) : Int)),(5,.i (r + (power ((k : Nat) : Int)))),(6,.i (((k + 1) : Nat) : Int)),(18,.i ((k : Nat) : Int)),(19,.i (((k + 1) : Nat) : Int)),(28,.b (isBefore (h.getD k default) (h.getD i default))),(29,.i r),(30,.i ((k : Nat) : Int)),(31,.i (power ((k : Nat) : Int))),(32,.i (r + (power ((k : Nat) : Int))))],[(7,⟨3,.row (.ints o)⟩)],[7,999]⟩)
       (True ∧ (True ∧ True ∧ (Fits .i64 (((k + 1) : Nat) : Int))) ∧ True ∧ True) (by kernel_rfl)
       ⟨tt,⟨tt,tt,(by exact fits_i64 (by omega) (by omega))⟩,tt,tt⟩ ?_
      refine thenQ_normal ?_
      refine ⟨((r + (power ((k : Nat) : Int))),(k + 1)),(show ((k + 1) ≤ h.length) ∧ ((r + (power ((k : Nat) : Int))) = mask (k + 1) (aheadF h i)) from ⟨(by first | assumption | omega | rfl | (intro _ hjj; omega) | (simp; done) | (simp; omega)),(by first | (rw [hr]; exact (mask_skip (n28)).symm) | (rw [hr,mask_add (h28)]; rfl))⟩),(show h.length - (k + 1) < h.length - k from (by first | omega | (simp_all; omega))),?_⟩
      exact Sub.of [] (@cast ((((.calls h : Dat) = .calls h) ∧ ((((7 : Nat) = 7) ∧ ((o.length = o.length) ∧ ((7 : Nat) ∈ ([7,999] : List Nat)))) ∧ (((.int .i64 ((i : Nat) : Int) : Value) = .int .i64 ((i : Nat) : Int)) ∧ (((.int .i64 (r + (power ((k : Nat) : Int))) : Value) = .int .i64 (r + (power ((k : Nat) : Int)))) ∧ (((.int .i64 (((k + 1) : Nat) : Int) : Value) = .int .i64 (((k + 1) : Nat) : Int)) ∧ True))))) ∧ (((((3 : Nat) = 3) ∧ (((.ints o : Dat) = .ints o) ∧ ((7 : Nat) ∈ ([7,999] : List Nat)))) ∧ True) ∧ ((true = true) ∧ (true = true)))) _ (by kernel_rfl) ⟨⟨rfl,⟨rfl,rfl,(by decide)⟩,rfl,rfl,rfl,tt⟩,⟨⟨rfl,rfl,(by decide)⟩,tt⟩,rfl,rfl⟩)
     ·intro n28
      refine W.skip (blockQ_normal (thenQ_normal ?_))
      refine W.L cok tab28 hnt [] (⟨[(0,.sl (.calls h)),(3,.own 7 o.length),(4,.i ((i : Nat) : Int)),(5,.i r),(6,.i (((k + 1) : Nat) : Int)),(18,.i ((k : Nat) : Int)),(19,.i (((k + 1) : Nat) : Int)),(28,.b (isBefore (h.getD k default) (h.getD i default)))],[(7,⟨3,.row (.ints o)⟩)],[7,999]⟩)
       (True ∧ (True ∧ True ∧ (Fits .i64 (((k + 1) : Nat) : Int))) ∧ True ∧ True) (by kernel_rfl)
       ⟨tt,⟨tt,tt,(by exact fits_i64 (by omega) (by omega))⟩,tt,tt⟩ ?_
      refine thenQ_normal ?_
      refine ⟨(r,(k + 1)),(show ((k + 1) ≤ h.length) ∧ (r = mask (k + 1) (aheadF h i)) from ⟨(by first | assumption | omega | rfl | (intro _ hjj; omega) | (simp; done) | (simp; omega)),(by first | (rw [hr]; exact (mask_skip (n28)).symm) | (rw [hr,mask_add (h28)]; rfl))⟩),(show h.length - (k + 1) < h.length - k from (by first | omega | (simp_all; omega))),?_⟩
      exact Sub.of [] (@cast ((((.calls h : Dat) = .calls h) ∧ ((((7 : Nat) = 7) ∧ ((o.length = o.length) ∧ ((7 : Nat) ∈ ([7,999] : List Nat)))) ∧ (((.int .i64 ((i : Nat) : Int) : Value) = .int .i64 ((i : Nat) : Int)) ∧ (((.int .i64 r : Value) = .int .i64 r) ∧ (((.int .i64 (((k + 1) : Nat) : Int) : Value) = .int .i64 (((k + 1) : Nat) : Int)) ∧ True))))) ∧ (((((3 : Nat) = 3) ∧ (((.ints o : Dat) = .ints o) ∧ ((7 : Nat) ∈ ([7,999] : List Nat)))) ∧ True) ∧ ((true = true) ∧ (true = true)))) _ (by kernel_rfl) ⟨⟨rfl,⟨rfl,rfl,(by decide)⟩,rfl,rfl,rfl,tt⟩,⟨⟨rfl,rfl,(by decide)⟩,tt⟩,rfl,rfl⟩)
    ·intro n17
     refine W.exit (thenQ_exit (thenQ_exit (blockQ_hit ?_)))
     refine thenQ_normal ?_
     refine W.L cok tab28 hnt [36] (⟨[(0,.sl (.calls h)),(3,.own 36 (List.length (o ++ ([r])))),(4,.i ((i : Nat) : Int)),(5,.i r),(6,.i ((k : Nat) : Int)),(17,.b (decide (((k : Nat) : Int) < (h.length : Int)))),(33,.own 7 o.length),(34,.i r),(35,.sl (.ints ([r]))),(36,.own 36 (List.length (o ++ ([r]))))],[(36,⟨3,.row (.ints (o ++ ([r])))⟩)],[36,35,7,999]⟩)
      (True ∧ True ∧ (True ∧ True) ∧ ((True ∧ (o.length = o.length)) ∧ True ∧ ((o.length + (List.length ([r]))) * 8 ≤ 140737488355328)) ∧ True ∧ True) (by kernel_rfl)
      ⟨tt,tt,⟨tt,tt⟩,⟨⟨tt,rfl⟩,tt,(by (first | omega | (simp only [List.length_append,List.length_cons,List.length_nil,List.length_take,List.length_drop,List.length_set,List.length_replicate,List.length_map] at *; omega) | assumption))⟩,tt,tt⟩ ?_
     refine blockQ_normal (thenQ_normal ?_)
     refine W.L cok tab28 hnt [] (⟨[(0,.sl (.calls h)),(3,.own 36 (List.length (o ++ ([r])))),(4,.i (((i + 1) : Nat) : Int)),(5,.i r),(6,.i ((k : Nat) : Int)),(12,.i ((i : Nat) : Int)),(13,.i (((i + 1) : Nat) : Int)),(17,.b (decide (((k : Nat) : Int) < (h.length : Int)))),(33,.own 7 o.length),(34,.i r),(35,.sl (.ints ([r]))),(36,.own 36 (List.length (o ++ ([r]))))],[(36,⟨3,.row (.ints (o ++ ([r])))⟩)],[36,35,7,999]⟩)
      (True ∧ (True ∧ True ∧ (Fits .i64 (((i + 1) : Nat) : Int))) ∧ True ∧ True) (by kernel_rfl)
      ⟨tt,⟨tt,tt,(by exact fits_i64 (by omega) (by omega))⟩,tt,tt⟩ ?_
     refine thenQ_normal ?_
     refine ⟨((o ++ ([r])),(i + 1)),(show ((i + 1) ≤ h.length) ∧ ((o ++ ([r])) = (List.range (i + 1)).map fun j => mask h.length (aheadF h j)) from ⟨(by first | assumption | omega | rfl | (intro _ hjj; omega) | (simp; done) | (simp; omega)),(by rw [ho]; exact rows_snoc _ _ _ _ (by rw [hr,show k = h.length by omega]))⟩),(show h.length - (i + 1) < h.length - i from (by first | omega | (simp_all; omega))),?_⟩
     exact Sub.of [(7,36)] (@cast ((((.calls h : Dat) = .calls h) ∧ ((((36 : Nat) = 36) ∧ (((List.length (o ++ ([r]))) = (List.length (o ++ ([r])))) ∧ ((7 : Nat) ∈ ([7,999] : List Nat)))) ∧ (((.int .i64 (((i + 1) : Nat) : Int) : Value) = .int .i64 (((i + 1) : Nat) : Int)) ∧ True))) ∧ (((((3 : Nat) = 3) ∧ (((.ints (o ++ ([r])) : Dat) = .ints (o ++ ([r]))) ∧ ((7 : Nat) ∈ ([7,999] : List Nat)))) ∧ True) ∧ ((true = true) ∧ (true = true)))) _ (by kernel_rfl) ⟨⟨rfl,⟨rfl,rfl,(by decide)⟩,rfl,tt⟩,⟨⟨rfl,rfl,(by decide)⟩,tt⟩,rfl,rfl⟩)
  ·intro n11
   refine W.exit (thenQ_exit (thenQ_exit (blockQ_hit ?_)))
   refine thenQ_normal ?_
   refine W.K cok tab28 hnt [] [2] (⟨[(2,.own 7 o.length)],[(7,⟨3,.row (.ints o)⟩)],[7,999]⟩)
    (True ∧ True ∧ True) (by kernel_rfl)
    ⟨tt,tt,tt⟩ ?_
   refine W.ret ?_
   exact endQ_ret (.own 7 o.length) (by kernel_rfl) (@cast ((o.length = o.length) ∧ (((.ints o : Dat) = .ints (rowsOf h.length (aheadF h))) ∧ ((7 : Nat) ∉ ([] : List Nat)))) _ (by kernel_rfl) ⟨rfl,⟨(congrArg Dat.ints (by rw [ho,show i = h.length by omega]; rfl)),(by decide)⟩⟩)
theorem ent28 : Entr prog 28 := ⟨_,func28,rfl,by decide⟩
end Go.Proofs.Try

set_option linter.unusedSimpArgs false
set_option linter.unusedVariables false
namespace Go.Proofs.Try
open Go.Ab Go.RowKit
def fs67 : FnS := fnS [.s .ints,.o] [.ints,.int] (fun _ (l,n,_) => (.b (hasInt l n),[],True))
abbrev T67 : Tab := lk []
theorem tab67 : TabOK prog T67 := TabOK.nil
set_option maxRecDepth 100000 in
set_option maxHeartbeats 1000000 in
theorem ok67 : FnOK prog 67 fs67 := by
 refine FnOK.mk cok func67 rfl rfl rfl ?_
 rintro fl ⟨(l : List Int),(n : Int),_⟩ hpre F hnt0 _
 have hnt : F.nt = 18 := hnt0.trans ntmps67
 clear hpre
 refine W.to (⟨[(0,.sl (.ints l)),(1,.i n)],[],[999]⟩) rfl ?_
 refine W.lenOf 0 (.ints l) (by kernel_rfl) ?_
 intro hl_l; replace hl_l : List.length l ≤ 9223372036854775807 := hl_l
 refine W.K cok tab67 hnt [] [0,1] (⟨[(0,.sl (.ints l)),(1,.i n)],[],[999]⟩)
  (True ∧ True) (by kernel_rfl)
  ⟨tt,tt⟩ ?_
 refine W.seq ?_
 refine W.K cok tab67 hnt [] [0,1,5] (⟨[(0,.sl (.ints l)),(1,.i n),(5,.i (0 : Int))],[],[999]⟩)
  (True ∧ True) (by kernel_rfl)
  ⟨tt,tt⟩ ?_
 refine W.block ?_
 refine W.loop (ι := Nat) (fun (i : Nat) => (⟨[(0,.sl (.ints l)),(1,.i n),(5,.i ((i : Nat) : Int))],[],[999]⟩ : St))
  (fun (i : Nat) => (i ≤ l.length) ∧ (∀ j,j < i → decide (l.getD j 0 = n) = false))
  (fun (i : Nat) => (l.length - i : Nat)) (0) ?_ ?_ ?_
 ·exact (show (0 ≤ l.length) ∧ (∀ j,j < 0 → decide (l.getD j 0 = n) = false) from ⟨(by first | assumption | omega | rfl | (intro _ hjj; omega) | (simp; done) | (simp; omega)),(by exact upto_zero)⟩)
 ·exact Sub.of [] (@cast ((((.ints l : Dat) = .ints l) ∧ (((.int .i64 n : Value) = .int .i64 n) ∧ (((.int .i64 (0 : Int) : Value) = .int .i64 ((0 : Nat) : Int)) ∧ True))) ∧ (True ∧ ((true = true) ∧ (true = true)))) _ (by kernel_rfl) ⟨⟨rfl,rfl,(congrArg (Value.int .i64) (by first | rfl | omega | assumption | simp | simp_all)),tt⟩,tt,rfl,rfl⟩)
 ·rintro i hC0
  have hC : (i ≤ l.length) ∧ (∀ j,j < i → decide (l.getD j 0 = n) = false) := hC0
  clear hC0
  obtain ⟨hi,hA⟩ := hC
  refine W.to (⟨[(0,.sl (.ints l)),(1,.i n),(5,.i ((i : Nat) : Int))],[],[999]⟩) rfl ?_
  refine W.seq ?_
  refine W.K cok tab67 hnt [] [0,1,5,9] (⟨[(0,.sl (.ints l)),(1,.i n),(5,.i ((i : Nat) : Int)),(9,.b (decide (((i : Nat) : Int) < (l.length : Int))))],[],[999]⟩)
   (True ∧ True ∧ True ∧ (True ∧ True ∧ True) ∧ True) (by kernel_rfl)
   ⟨tt,tt,tt,⟨tt,tt,tt⟩,tt⟩ ?_
  refine W.ifP (((i : Nat) : Int) < (l.length : Int)) (.b (decide (((i : Nat) : Int) < (l.length : Int)))) (by kernel_rfl) rfl trivial ?_ ?_
  ·intro h9
   refine W.skip (thenQ_normal ?_)
   refine W.seq ?_
   refine W.block ?_
   refine W.K cok tab67 hnt [] [0,1,5,17] (⟨[(0,.sl (.ints l)),(1,.i n),(5,.i ((i : Nat) : Int)),(17,.b (decide ((l.getD i 0) = n)))],[],[999]⟩)
    (True ∧ True ∧ (True ∧ True ∧ (0 ≤ ((i : Nat) : Int)) ∧ (((i : Nat) : Int) < (l.length : Int))) ∧ True ∧ True ∧ (True ∧ True ∧ True) ∧ True) (by kernel_rfl)
    ⟨tt,tt,⟨tt,tt,(by omega),(by omega)⟩,tt,tt,⟨tt,tt,tt⟩,tt⟩ ?_
   refine W.ifP ((l.getD i 0) = n) (.b (decide ((l.getD i 0) = n))) (by kernel_rfl) rfl trivial ?_ ?_
   ·intro h17
    refine W.K cok tab67 hnt [] [4] (⟨[(4,.b true)],[],[999]⟩)
     (True ∧ True) (by kernel_rfl)
     ⟨tt,tt⟩ ?_
    refine W.ret (blockQ_ret (thenQ_ret (thenQ_ret (blockQ_ret (thenQ_ret ?_)))))
    exact endQ_ret (.b true) (by kernel_rfl) (@cast ((.bool true : Value) = .bool (hasInt l n)) _ (by kernel_rfl) (congrArg Value.bool (by unfold hasInt; symm; exact anyN_true (i := i) (by omega) (decide_eq_true h17))))
   ·intro n17
    refine W.skip (blockQ_normal (thenQ_normal ?_))
    refine W.L cok tab67 hnt [] (⟨[(0,.sl (.ints l)),(1,.i n),(5,.i (((i + 1) : Nat) : Int)),(10,.i ((i : Nat) : Int)),(11,.i (((i + 1) : Nat) : Int)),(17,.b (decide ((l.getD i 0) = n)))],[],[999]⟩)
     (True ∧ (True ∧ True ∧ (Fits .i64 (((i + 1) : Nat) : Int))) ∧ True ∧ True) (by kernel_rfl)
     ⟨tt,⟨tt,tt,(by exact fits_i64 (by omega) (by omega))⟩,tt,tt⟩ ?_
    refine thenQ_normal ?_
    refine ⟨((i + 1)),(show ((i + 1) ≤ l.length) ∧ (∀ j,j < (i + 1) → decide (l.getD j 0 = n) = false) from ⟨(by first | assumption | omega | rfl | (intro _ hjj; omega) | (simp; done) | (simp; omega)),(by exact upto_succ hA (decide_eq_false n17))⟩),(show l.length - (i + 1) < l.length - i from (by first | omega | (simp_all; omega))),?_⟩
    exact Sub.of [] (@cast ((((.ints l : Dat) = .ints l) ∧ (((.int .i64 n : Value) = .int .i64 n) ∧ (((.int .i64 (((i + 1) : Nat) : Int) : Value) = .int .i64 (((i + 1) : Nat) : Int)) ∧ True))) ∧ (True ∧ ((true = true) ∧ (true = true)))) _ (by kernel_rfl) ⟨⟨rfl,rfl,rfl,tt⟩,tt,rfl,rfl⟩)
  ·intro n9
   refine W.exit (thenQ_exit (thenQ_exit (blockQ_hit ?_)))
   refine thenQ_normal ?_
   refine W.K cok tab67 hnt [] [4] (⟨[(4,.b false)],[],[999]⟩)
    (True ∧ True) (by kernel_rfl)
    ⟨tt,tt⟩ ?_
   refine W.ret ?_
   exact endQ_ret (.b false) (by kernel_rfl) (@cast ((.bool false : Value) = .bool (hasInt l n)) _ (by kernel_rfl) (congrArg Value.bool (by unfold hasInt; symm; exact anyN_false (fun j hj => hA j (by omega)))))
theorem ent67 : Entr prog 67 := ⟨_,func67,rfl,by decide⟩
end Go.Proofs.Try
