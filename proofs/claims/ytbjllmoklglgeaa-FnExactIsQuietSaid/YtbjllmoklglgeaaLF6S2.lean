import Derived.Test.YtbjllmoklglgeaaLF6S0
import Derived.Test.YtbjllmoklglgeaaLF6S1
set_option linter.unusedSimpArgs false
set_option linter.unusedVariables false
namespace Go.Proofs.Try
open Go.Ab Go.RowKit
def fs21 : FnS := fnS [.s .calls] [.calls] (fun _ (h,_) => (.b (validHistory h),[],True))
abbrev T21 : Tab := lk [(39,fs39)]
theorem tab21 : TabOK prog T21 := (TabOK.cons ok39 ent39 TabOK.nil)
set_option maxRecDepth 100000 in
set_option maxHeartbeats 1000000 in
theorem ok21 : FnOK prog 21 fs21 := by
 refine FnOK.mk cok func21 rfl rfl rfl ?_
 rintro fl ⟨(h : List CallD),_⟩ hpre F hnt0 _
 have hnt : F.nt = 112 := hnt0.trans ntmps21
 clear hpre
 refine W.to (⟨[(0,.sl (.calls h))],[],[999]⟩) rfl ?_
 refine W.lenOf 0 (.calls h) (by kernel_rfl) ?_
 intro hl_h; replace hl_h : List.length h ≤ 9223372036854775807 := hl_h
 refine W.K cok tab21 hnt [] [0] (⟨[(0,.sl (.calls h))],[],[999]⟩)
  (True ∧ True) (by kernel_rfl)
  ⟨tt,tt⟩ ?_
 refine W.seq ?_
 refine W.K cok tab21 hnt [] [0,3] (⟨[(0,.sl (.calls h)),(3,.i (0 : Int))],[],[999]⟩)
  (True ∧ True) (by kernel_rfl)
  ⟨tt,tt⟩ ?_
 refine W.block ?_
 refine W.loop (ι := Nat) (fun (i : Nat) => (⟨[(0,.sl (.calls h)),(3,.i ((i : Nat) : Int))],[],[999]⟩ : St))
  (fun (i : Nat) => (i ≤ h.length) ∧ (∀ j,j < i → (isCall (callAt h j) && allN j (fun k => !clash (callAt h j) (callAt h k))) = true))
  (fun (i : Nat) => (h.length - i : Nat)) (0) ?_ ?_ ?_
 ·exact (show (0 ≤ h.length) ∧ (∀ j,j < 0 → (isCall (callAt h j) && allN j (fun k => !clash (callAt h j) (callAt h k))) = true) from ⟨(by first | assumption | omega | rfl | (intro _ hjj; omega) | (simp; done) | (simp; omega)),(by exact upto_zero)⟩)
 ·exact Sub.of [] (@cast ((((.calls h : Dat) = .calls h) ∧ (((.int .i64 (0 : Int) : Value) = .int .i64 ((0 : Nat) : Int)) ∧ True)) ∧ (True ∧ ((true = true) ∧ (true = true)))) _ (by kernel_rfl) ⟨⟨rfl,(congrArg (Value.int .i64) (by first | rfl | omega | assumption | simp | simp_all)),tt⟩,tt,rfl,rfl⟩)
 ·rintro i hC0
  have hC : (i ≤ h.length) ∧ (∀ j,j < i → (isCall (callAt h j) && allN j (fun k => !clash (callAt h j) (callAt h k))) = true) := hC0
  clear hC0
  obtain ⟨hi,hA⟩ := hC
  refine W.to (⟨[(0,.sl (.calls h)),(3,.i ((i : Nat) : Int))],[],[999]⟩) rfl ?_
  refine W.seq ?_
  refine W.K cok tab21 hnt [] [0,3,8] (⟨[(0,.sl (.calls h)),(3,.i ((i : Nat) : Int)),(8,.b (decide (((i : Nat) : Int) < (h.length : Int))))],[],[999]⟩)
   (True ∧ True ∧ True ∧ (True ∧ True ∧ True) ∧ True) (by kernel_rfl)
   ⟨tt,tt,tt,⟨tt,tt,tt⟩,tt⟩ ?_
  refine W.ifP (((i : Nat) : Int) < (h.length : Int)) (.b (decide (((i : Nat) : Int) < (h.length : Int)))) (by kernel_rfl) rfl trivial ?_ ?_
  ·intro h8
   refine W.skip (thenQ_normal ?_)
   refine W.seq ?_
   refine W.block ?_
   refine W.seq ?_
   refine W.K cok tab21 hnt [] [0,3,16] (⟨[(0,.sl (.calls h)),(3,.i ((i : Nat) : Int)),(16,.b (!(isCall (h.getD i default))))],[],[999]⟩)
    (True ∧ True ∧ (True ∧ True ∧ (0 ≤ ((i : Nat) : Int)) ∧ (((i : Nat) : Int) < (h.length : Int))) ∧ True ∧ (True ∧ (True ∧ True) ∧ True) ∧ True ∧ True) (by kernel_rfl)
    ⟨tt,tt,⟨tt,tt,(by omega),(by omega)⟩,tt,⟨tt,⟨tt,tt⟩,tt⟩,tt,tt⟩ ?_
   refine W.if' (!(isCall (h.getD i default))) (.b (!(isCall (h.getD i default)))) (by kernel_rfl) rfl trivial ?_ ?_
   ·intro h16
    refine W.K cok tab21 hnt [] [2] (⟨[(2,.b false)],[],[999]⟩)
     (True ∧ True) (by kernel_rfl)
     ⟨tt,tt⟩ ?_
    refine W.ret (thenQ_ret (blockQ_ret (thenQ_ret (thenQ_ret (blockQ_ret (thenQ_ret ?_))))))
    exact endQ_ret (.b false) (by kernel_rfl) (@cast ((.bool false : Value) = .bool (validHistory h)) _ (by kernel_rfl) (congrArg Value.bool (by unfold validHistory; symm; exact and_fr (allN_false (i := i) (by omega) (and_fl (not_f h16))))))
   ·intro n16
    refine W.skip (thenQ_normal ?_)
    refine W.K cok tab21 hnt [] [0,3,4] (⟨[(0,.sl (.calls h)),(3,.i ((i : Nat) : Int)),(4,.i (0 : Int))],[],[999]⟩)
     (True ∧ True) (by kernel_rfl)
     ⟨tt,tt⟩ ?_
    refine W.block ?_
    refine W.loop (ι := Nat) (fun (k : Nat) => (⟨[(0,.sl (.calls h)),(3,.i ((i : Nat) : Int)),(4,.i ((k : Nat) : Int))],[],[999]⟩ : St))
     (fun (k : Nat) => (k ≤ i) ∧ (∀ j,j < k → (!clash (callAt h i) (callAt h j)) = true))
     (fun (k : Nat) => (i - k : Nat)) (0) ?_ ?_ ?_
    ·exact (show (0 ≤ i) ∧ (∀ j,j < 0 → (!clash (callAt h i) (callAt h j)) = true) from ⟨(by first | assumption | omega | rfl | (intro _ hjj; omega) | (simp; done) | (simp; omega)),(by exact upto_zero)⟩)
    ·exact Sub.of [] (@cast ((((.calls h : Dat) = .calls h) ∧ (((.int .i64 ((i : Nat) : Int) : Value) = .int .i64 ((i : Nat) : Int)) ∧ (((.int .i64 (0 : Int) : Value) = .int .i64 ((0 : Nat) : Int)) ∧ True))) ∧ (True ∧ ((true = true) ∧ (true = true)))) _ (by kernel_rfl) ⟨⟨rfl,rfl,(congrArg (Value.int .i64) (by first | rfl | omega | assumption | simp | simp_all)),tt⟩,tt,rfl,rfl⟩)
    ·rintro k hC0
     have hC : (k ≤ i) ∧ (∀ j,j < k → (!clash (callAt h i) (callAt h j)) = true) := hC0
     clear hC0
     obtain ⟨hk,hB⟩ := hC
     refine W.to (⟨[(0,.sl (.calls h)),(3,.i ((i : Nat) : Int)),(4,.i ((k : Nat) : Int))],[],[999]⟩) rfl ?_
     refine W.seq ?_
     refine W.K cok tab21 hnt [] [0,3,4,19] (⟨[(0,.sl (.calls h)),(3,.i ((i : Nat) : Int)),(4,.i ((k : Nat) : Int)),(19,.b (decide (((k : Nat) : Int) < ((i : Nat) : Int))))],[],[999]⟩)
      (True ∧ True ∧ (True ∧ True ∧ True) ∧ True) (by kernel_rfl)
      ⟨tt,tt,⟨tt,tt,tt⟩,tt⟩ ?_
     refine W.ifP (((k : Nat) : Int) < ((i : Nat) : Int)) (.b (decide (((k : Nat) : Int) < ((i : Nat) : Int)))) (by kernel_rfl) rfl trivial ?_ ?_
     ·intro h19
      refine W.skip (thenQ_normal ?_)
      refine W.seq ?_
      refine W.block ?_
      refine W.seq ?_
      refine W.KA cok tab21 hnt [] [0,3,4,71] (⟨[(0,.sl (.calls h)),(3,.i ((i : Nat) : Int)),(4,.i ((k : Nat) : Int)),(71,.b ((((decide (((h.getD k default).frm) = ((h.getD i default).frm))) || (decide (((h.getD k default).frm) = ((h.getD i default).to)))) || (decide (((h.getD k default).to) = ((h.getD i default).frm)))) || (decide (((h.getD k default).to) = ((h.getD i default).to)))))],[],[999]⟩)
       (True ∧ True ∧ (True ∧ True ∧ (0 ≤ ((k : Nat) : Int)) ∧ (((k : Nat) : Int) < (h.length : Int))) ∧ True ∧ True ∧ True ∧ True ∧ (True ∧ True ∧ (0 ≤ ((i : Nat) : Int)) ∧ (((i : Nat) : Int) < (h.length : Int))) ∧ True ∧ True ∧ (True ∧ True ∧ True) ∧ True ∧ ((!(decide (((h.getD k default).frm) = ((h.getD i default).frm)))) = true → True) ∧ ((!(decide (((h.getD k default).frm) = ((h.getD i default).frm)))) = true → True) ∧ ((!(decide (((h.getD k default).frm) = ((h.getD i default).frm)))) = true → ((((!(decide (((h.getD k default).frm) = ((h.getD i default).frm)))) = true) ∧ True) ∧ (((!(decide (((h.getD k default).frm) = ((h.getD i default).frm)))) = true) ∧ True) ∧ (0 ≤ ((k : Nat) : Int)) ∧ (((k : Nat) : Int) < (h.length : Int)))) ∧ ((!(decide (((h.getD k default).frm) = ((h.getD i default).frm)))) = true → (((!(decide (((h.getD k default).frm) = ((h.getD i default).frm)))) = true) ∧ True)) ∧ ((!(decide (((h.getD k default).frm) = ((h.getD i default).frm)))) = true → (((!(decide (((h.getD k default).frm) = ((h.getD i default).frm)))) = true) ∧ True)) ∧ ((!(decide (((h.getD k default).frm) = ((h.getD i default).frm)))) = true → True) ∧ ((!(decide (((h.getD k default).frm) = ((h.getD i default).frm)))) = true → True) ∧ ((!(decide (((h.getD k default).frm) = ((h.getD i default).frm)))) = true → ((((!(decide (((h.getD k default).frm) = ((h.getD i default).frm)))) = true) ∧ True) ∧ (((!(decide (((h.getD k default).frm) = ((h.getD i default).frm)))) = true) ∧ True) ∧ (0 ≤ ((i : Nat) : Int)) ∧ (((i : Nat) : Int) < (h.length : Int)))) ∧ ((!(decide (((h.getD k default).frm) = ((h.getD i default).frm)))) = true → (((!(decide (((h.getD k default).frm) = ((h.getD i default).frm)))) = true) ∧ True)) ∧ ((!(decide (((h.getD k default).frm) = ((h.getD i default).frm)))) = true → (((!(decide (((h.getD k default).frm) = ((h.getD i default).frm)))) = true) ∧ True)) ∧ ((!(decide (((h.getD k default).frm) = ((h.getD i default).frm)))) = true → ((((!(decide (((h.getD k default).frm) = ((h.getD i default).frm)))) = true) ∧ True) ∧ (((!(decide (((h.getD k default).frm) = ((h.getD i default).frm)))) = true) ∧ True) ∧ True)) ∧ (True ∧ ((decide (((h.getD k default).frm) = ((h.getD i default).frm))) = true → True) ∧ ((decide (((h.getD k default).frm) = ((h.getD i default).frm))) = false → ((!(decide (((h.getD k default).frm) = ((h.getD i default).frm)))) = true) ∧ True)) ∧ True ∧ ((!((decide (((h.getD k default).frm) = ((h.getD i default).frm))) || (decide (((h.getD k default).frm) = ((h.getD i default).to))))) = true → True) ∧ ((!((decide (((h.getD k default).frm) = ((h.getD i default).frm))) || (decide (((h.getD k default).frm) = ((h.getD i default).to))))) = true → True) ∧ ((!((decide (((h.getD k default).frm) = ((h.getD i default).frm))) || (decide (((h.getD k default).frm) = ((h.getD i default).to))))) = true → ((((!((decide (((h.getD k default).frm) = ((h.getD i default).frm))) || (decide (((h.getD k default).frm) = ((h.getD i default).to))))) = true) ∧ True) ∧ (((!((decide (((h.getD k default).frm) = ((h.getD i default).frm))) || (decide (((h.getD k default).frm) = ((h.getD i default).to))))) = true) ∧ True) ∧ (0 ≤ ((k : Nat) : Int)) ∧ (((k : Nat) : Int) < (h.length : Int)))) ∧ ((!((decide (((h.getD k default).frm) = ((h.getD i default).frm))) || (decide (((h.getD k default).frm) = ((h.getD i default).to))))) = true → (((!((decide (((h.getD k default).frm) = ((h.getD i default).frm))) || (decide (((h.getD k default).frm) = ((h.getD i default).to))))) = true) ∧ True)) ∧ ((!((decide (((h.getD k default).frm) = ((h.getD i default).frm))) || (decide (((h.getD k default).frm) = ((h.getD i default).to))))) = true → (((!((decide (((h.getD k default).frm) = ((h.getD i default).frm))) || (decide (((h.getD k default).frm) = ((h.getD i default).to))))) = true) ∧ True)) ∧ ((!((decide (((h.getD k default).frm) = ((h.getD i default).frm))) || (decide (((h.getD k default).frm) = ((h.getD i default).to))))) = true → True) ∧ ((!((decide (((h.getD k default).frm) = ((h.getD i default).frm))) || (decide (((h.getD k default).frm) = ((h.getD i default).to))))) = true → True) ∧ ((!((decide (((h.getD k default).frm) = ((h.getD i default).frm))) || (decide (((h.getD k default).frm) = ((h.getD i default).to))))) = true → ((((!((decide (((h.getD k default).frm) = ((h.getD i default).frm))) || (decide (((h.getD k default).frm) = ((h.getD i default).to))))) = true) ∧ True) ∧ (((!((decide (((h.getD k default).frm) = ((h.getD i default).frm))) || (decide (((h.getD k default).frm) = ((h.getD i default).to))))) = true) ∧ True) ∧ (0 ≤ ((i : Nat) : Int)) ∧ (((i : Nat) : Int) < (h.length : Int)))) ∧ ((!((decide (((h.getD k default).frm) = ((h.getD i default).frm))) || (decide (((h.getD k default).frm) = ((h.getD i default).to))))) = true → (((!((decide (((h.getD k default).frm) = ((h.getD i default).frm))) || (decide (((h.getD k default).frm) = ((h.getD i default).to))))) = true) ∧ True)) ∧ ((!((decide (((h.getD k default).frm) = ((h.getD i default).frm))) || (decide (((h.getD k default).frm) = ((h.getD i default).to))))) = true → (((!((decide (((h.getD k default).frm) = ((h.getD i default).frm))) || (decide (((h.getD k default).frm) = ((h.getD i default).to))))) = true) ∧ True)) ∧ ((!((decide (((h.getD k default).frm) = ((h.getD i default).frm))) || (decide (((h.getD k default).frm) = ((h.getD i default).to))))) = true → ((((!((decide (((h.getD k default).frm) = ((h.getD i default).frm))) || (decide (((h.getD k default).frm) = ((h.getD i default).to))))) = true) ∧ True) ∧ (((!((decide (((h.getD k default).frm) = ((h.getD i default).frm))) || (decide (((h.getD k default).frm) = ((h.getD i default).to))))) = true) ∧ True) ∧ True)) ∧ (True ∧ (((decide (((h.getD k default).frm) = ((h.getD i default).frm))) || (decide (((h.getD k default).frm) = ((h.getD i default).to)))) = true → True) ∧ (((decide (((h.getD k default).frm) = ((h.getD i default).frm))) || (decide (((h.getD k default).frm) = ((h.getD i default).to)))) = false → ((!((decide (((h.getD k default).frm) = ((h.getD i default).frm))) || (decide (((h.getD k default).frm) = ((h.getD i default).to))))) = true) ∧ True)) ∧ True ∧ ((!(((decide (((h.getD k default).frm) = ((h.getD i default).frm))) || (decide (((h.getD k default).frm) = ((h.getD i default).to)))) || (decide (((h.getD k default).to) = ((h.getD i default).frm))))) = true → True) ∧ ((!(((decide (((h.getD k default).frm) = ((h.getD i default).frm))) || (decide (((h.getD k default).frm) = ((h.getD i default).to)))) || (decide (((h.getD k default).to) = ((h.getD i default).frm))))) = true → True) ∧ ((!(((decide (((h.getD k default).frm) = ((h.getD i default).frm))) || (decide (((h.getD k default).frm) = ((h.getD i default).to)))) || (decide (((h.getD k default).to) = ((h.getD i default).frm))))) = true → ((((!(((decide (((h.getD k default).frm) = ((h.getD i default).frm))) || (decide (((h.getD k default).frm) = ((h.getD i default).to)))) || (decide (((h.getD k default).to) = ((h.getD i default).frm))))) = true) ∧ True) ∧ (((!(((decide (((h.getD k default).frm) = ((h.getD i default).frm))) || (decide (((h.getD k default).frm) = ((h.getD i default).to)))) || (decide (((h.getD k default).to) = ((h.getD i default).frm))))) = true) ∧ True) ∧ (0 ≤ ((k : Nat) : Int)) ∧ (((k : Nat) : Int) < (h.length : Int)))) ∧ ((!(((decide (((h.getD k default).frm) = ((h.getD i default).frm))) || (decide (((h.getD k default).frm) = ((h.getD i default).to)))) || (decide (((h.getD k default).to) = ((h.getD i default).frm))))) = true → (((!(((decide (((h.getD k default).frm) = ((h.getD i default).frm))) || (decide (((h.getD k default).frm) = ((h.getD i default).to)))) || (decide (((h.getD k default).to) = ((h.getD i default).frm))))) = true) ∧ True)) ∧ ((!(((decide (((h.getD k default).frm) = ((h.getD i default).frm))) || (decide (((h.getD k default).frm) = ((h.getD i default).to)))) || (decide (((h.getD k default).to) = ((h.getD i default).frm))))) = true → (((!(((decide (((h.getD k default).frm) = ((h.getD i default).frm))) || (decide (((h.getD k default).frm) = ((h.getD i default).to)))) || (decide (((h.getD k default).to) = ((h.getD i default).frm))))) = true) ∧ True)) ∧ ((!(((decide (((h.getD k default).frm) = ((h.getD i default).frm))) || (decide (((h.getD k default).frm) = ((h.getD i default).to)))) || (decide (((h.getD k default).to) = ((h.getD i default).frm))))) = true → True) ∧ ((!(((decide (((h.getD k default).frm) = ((h.getD i default).frm))) || (decide (((h.getD k default).frm) = ((h.getD i default).to)))) || (decide (((h.getD k default).to) = ((h.getD i default).frm))))) = true → True) ∧ ((!(((decide (((h.getD k default).frm) = ((h.getD i default).frm))) || (decide (((h.getD k default).frm) = ((h.getD i default).to)))) || (decide (((h.getD k default).to) = ((h.getD i default).frm))))) = true → ((((!(((decide (((h.getD k default).frm) = ((h.getD i default).frm))) || (decide (((h.getD k default).frm) = ((h.getD i default).to)))) || (decide (((h.getD k default).to) = ((h.getD i default).frm))))) = true) ∧ True) ∧ (((!(((decide (((h.getD k default).frm) = ((h.getD i default).frm))) || (decide (((h.getD k default).frm) = ((h.getD i default).to)))) || (decide (((h.getD k default).to) = ((h.getD i default).frm))))) = true) ∧ True) ∧ (0 ≤ ((i : Nat) : Int)) ∧ (((i : Nat) : Int) < (h.length : Int)))) ∧ ((!(((decide (((h.getD k default).frm) = ((h.getD i default).frm))) || (decide (((h.getD k default).frm) = ((h.getD i default).to)))) || (decide (((h.getD k default).to) = ((h.getD i default).frm))))) = true → (((!(((decide (((h.getD k default).frm) = ((h.getD i default).frm))) || (decide (((h.getD k default).frm) = ((h.getD i default).to)))) || (decide (((h.getD k default).to) = ((h.getD i default).frm))))) = true) ∧ True)) ∧ ((!(((decide (((h.getD k default).frm) = ((h.getD i default).frm))) || (decide (((h.getD k default).frm) = ((h.getD i default).to)))) || (decide (((h.getD k default).to) = ((h.getD i default).frm))))) = true → (((!(((decide (((h.getD k default).frm) = ((h.getD i default).frm))) || (decide (((h.getD k default).frm) = ((h.getD i default).to)))) || (decide (((h.getD k default).to) = ((h.getD i default).frm))))) = true) ∧ True)) ∧ ((!(((decide (((h.getD k default).frm) = ((h.getD i default).frm))) || (decide (((h.getD k default).frm) = ((h.getD i default).to)))) || (decide (((h.getD k default).to) = ((h.getD i default).frm))))) = true → ((((!(((decide (((h.getD k default).frm) = ((h.getD i default).frm))) || (decide (((h.getD k default).frm) = ((h.getD i default).to)))) || (decide (((h.getD k default).to) = ((h.getD i default).frm))))) = true) ∧ True) ∧ (((!(((decide (((h.getD k default).frm) = ((h.getD i default).frm))) || (decide (((h.getD k default).frm) = ((h.getD i default).to)))) || (decide (((h.getD k default).to) = ((h.getD i default).frm))))) = true) ∧ True) ∧ True)) ∧ (True ∧ ((((decide (((h.getD k default).frm) = ((h.getD i default).frm))) || (decide (((h.getD k default).frm) = ((h.getD i default).to)))) || (decide (((h.getD k default).to) = ((h.getD i default).frm)))) = true → True) ∧ ((((decide (((h.getD k default).frm) = ((h.getD i default).frm))) || (decide (((h.getD k default).frm) = ((h.getD i default).to)))) || (decide (((h.getD k default).to) = ((h.getD i default).frm)))) = false → ((!(((decide (((h.getD k default).frm) = ((h.getD i default).frm))) || (decide (((h.getD k default).frm) = ((h.getD i default).to)))) || (decide (((h.getD k default).to) = ((h.getD i default).frm))))) = true) ∧ True)) ∧ True) (by kernel_rfl) (by kernel_rfl)
       ⟨tt,tt,⟨tt,tt,(by omega),(by omega)⟩,tt,tt,tt,tt,⟨tt,tt,(by omega),(by omega)⟩,tt,tt,⟨tt,tt,tt⟩,tt,(fun _ => trivial),(fun _ => trivial),(fun hG => ⟨⟨hG,tt⟩,⟨hG,tt⟩,(by have hg0 : ¬ (((h.getD k default).frm) = ((h.getD i default).frm)) := of_decide_eq_false (not_f hG); omega),(by have hg0 : ¬ (((h.getD k default).frm) = ((h.getD i default).frm)) := of_decide_eq_false (not_f hG); omega)⟩),(fun hG => ⟨hG,tt⟩),(fun hG => ⟨hG,tt⟩),(fun _ => trivial),(fun _ => trivial),(fun hG => ⟨⟨hG,tt⟩,⟨hG,tt⟩,(by have hg0 : ¬ (((h.getD k default).frm) = ((h.getD i default).frm)) := of_decide_eq_false (not_f hG); omega),(by have hg0 : ¬ (((h.getD k default).frm) = ((h.getD i default).frm)) := of_decide_eq_false (not_f hG); omega)⟩),(fun hG => ⟨hG,tt⟩),(fun hG => ⟨hG,tt⟩),(fun hG => ⟨⟨hG,tt⟩,⟨hG,tt⟩,tt⟩),⟨tt,(fun _ => trivial),(fun hp => ⟨(not_t hp),tt⟩)⟩,tt,(fun _ => trivial),(fun _ => trivial),(fun hG => ⟨⟨hG,tt⟩,⟨hG,tt⟩,(by have hg0 : ¬ (((h.getD k default).frm) = ((h.getD i default).frm)) := of_decide_eq_false (or_l (not_f hG)); have hg1 : ¬ (((h.getD k default).frm) = ((h.getD i default).to)) := of_decide_eq_false (or_r (not_f hG)); omega),(by have hg0 : ¬ (((h.getD k default).frm) = ((h.getD i default).frm)) := of_decide_eq_false (or_l (not_f hG)); have hg1 : ¬ (((h.getD k default).frm) = ((h.getD i default).to)) := of_decide_eq_false (or_r (not_f hG)); omega)⟩),(fun hG => ⟨hG,tt⟩),(fun hG => ⟨hG,tt⟩),(fun _ => trivial),(fun _ => trivial),(fun hG => ⟨⟨hG,tt⟩,⟨hG,tt⟩,(by have hg0 : ¬ (((h.getD k default).frm) = ((h.getD i default).frm)) := of_decide_eq_false (or_l (not_f hG)); have hg1 : ¬ (((h.getD k default).frm) = ((h.getD i default).to)) := of_decide_eq_false (or_r (not_f hG)); omega),(by have hg0 : ¬ (((h.getD k default).frm) = ((h.getD i default).frm)) := of_decide_eq_false (or_l (not_f hG)); have hg1 : ¬ (((h.getD k default).frm) = ((h.getD i default).to)) := of_decide_eq_false (or_r (not_f hG)); omega)⟩),(fun hG => ⟨hG,tt⟩),(fun hG => ⟨hG,tt⟩),(fun hG => ⟨⟨hG,tt⟩,⟨hG,tt⟩,tt⟩),⟨tt,(fun _ => trivial),(fun hp => ⟨(not_t hp),tt⟩)⟩,tt,(fun _ => trivial),(fun _ => trivial),(fun hG => ⟨⟨hG,tt⟩,⟨hG,tt⟩,(by have hg0 : ¬ (((h.getD k default).frm) = ((h.getD i default).frm)) := of_decide_eq_false (or_l (or_l (not_f hG))); have hg1 : ¬ (((h.getD k default).frm) = ((h.getD i default).to)) := of_decide_eq_false (or_r (or_l (not_f hG))); have hg2 : ¬ (((h.getD k default).to) = ((h.getD i default).frm)) := of_decide_eq_false (or_r (not_f hG)); omega),(by have hg0 : ¬ (((h.getD k default).frm) = ((h.getD i default).frm)) := of_decide_eq_false (or_l (or_l (not_f hG))); have hg1 : ¬ (((h.getD k default).frm) = ((h.getD i default).to)) := of_decide_eq_false (or_r (or_l (not_f hG))); have hg2 : ¬ (((h.getD k default).to) = ((h.getD i default).frm)) := of_decide_eq_false (or_r (not_f hG)); omega)⟩),(fun hG => ⟨hG,tt⟩),(fun hG => ⟨hG,tt⟩),(fun _ => trivial),(fun _ => trivial),(fun hG => ⟨⟨hG,tt⟩,⟨hG,tt⟩,(by have hg0 : ¬ (((h.getD k default).frm) = ((h.getD i default).frm)) := of_decide_eq_false (or_l (or_l (not_f hG))); have hg1 : ¬ (((h.getD k default).frm) = ((h.getD i default).to)) := of_decide_eq_false (or_r (or_l (not_f hG))); have hg2 : ¬ (((h.getD k default).to) = ((h.getD i default).frm)) := of_decide_eq_false (or_r (not_f hG)); omega),(by have hg0 : ¬ (((h.getD k default).frm) = ((h.getD i default).frm)) := of_decide_eq_false (or_l (or_l (not_f hG))); have hg1 : ¬ (((h.getD k default).frm) = ((h.getD i default).to)) := of_decide_eq_false (or_r (or_l (not_f hG))); have hg2 : ¬ (((h.getD k default).to) = ((h.getD i default).frm)) := of_decide_eq_false (or_r (not_f hG)); omega)⟩),(fun hG => ⟨hG,tt⟩),(fun hG => ⟨hG,tt⟩),(fun hG => ⟨⟨hG,tt⟩,⟨hG,tt⟩,tt⟩),⟨tt,(fun _ => trivial),(fun hp => ⟨(not_t hp),tt⟩)⟩,tt⟩ ?_
      refine W.if' ((((decide (((h.getD k default).frm) = ((h.getD i default).frm))) || (decide (((h.getD k default).frm) = ((h.getD i default).to)))) || (decide (((h.getD k default).to) = ((h.getD i default).frm)))) || (decide (((h.getD k default).to) = ((h.getD i default).to)))) (.b ((((decide (((h.getD k default).frm) = ((h.getD i default).frm))) || (decide (((h.getD k default).frm) = ((h.getD i default).to)))) || (decide (((h.getD k default).to) = ((h.getD i default).frm)))) || (decide (((h.getD k default).to) = ((h.getD i default).to))))) (by kernel_rfl) rfl trivial ?_ ?_
      ·intro h71
       refine W.K cok tab21 hnt [] [2] (⟨[(2,.b false)],[],[999]⟩)
        (True ∧ True) (by kernel_rfl)
        ⟨tt,tt⟩ ?_
       refine W.ret (thenQ_ret (blockQ_ret (thenQ_ret (thenQ_ret (blockQ_ret (blockQ_ret (thenQ_ret (thenQ_ret (blockQ_ret (thenQ_ret ?_))))))))))
       exact endQ_ret (.b false) (by kernel_rfl) (@cast ((.bool false : Value) = .bool (validHistory h)) _ (by kernel_rfl) (congrArg Value.bool (by unfold validHistory; symm; exact and_fr (allN_false (i := i) (by omega) (and_fr (allN_false (i := k) (by omega) (clash_true1 h71)))))))
      ·intro n71
       have n71_0 : ¬ (((h.getD k default).frm) = ((h.getD i default).frm)) := of_decide_eq_false (or_l (or_l (or_l n71)))
       have n71_1 : ¬ (((h.getD k default).frm) = ((h.getD i default).to)) := of_decide_eq_false (or_r (or_l (or_l n71)))
       have n71_2 : ¬ (((h.getD k default).to) = ((h.getD i default).frm)) := of_decide_eq_false (or_r (or_l n71))
       have n71_3 : ¬ (((h.getD k default).to) = ((h.getD i default).to)) := of_decide_eq_false (or_r n71)
       refine W.skip (thenQ_normal ?_)
       refine W.KA cok tab21 hnt [] [0,3,4,108] (⟨[(0,.sl (.calls h)),(3,.i ((i : Nat) : Int)),(4,.i ((k : Nat) : Int)),(108,.b (((decide (((h.getD k default).proc) = ((h.getD i default).proc))) && (decide (((h.getD i default).frm) < ((h.getD k default).to)))) && (decide (((h.getD k default).frm) < ((h.getD i default).to)))))],[],[999]⟩)
        (True ∧ True ∧ (True ∧ True ∧ (0 ≤ ((k : Nat) : Int)) ∧ (((k : Nat) : Int) < (h.length : Int))) ∧ True ∧ True ∧ True ∧ True ∧ (True ∧ True ∧ (0 ≤ ((i : Nat) : Int)) ∧ (((i : Nat) : Int) < (h.length : Int))) ∧ True ∧ True ∧ (True ∧ True ∧ True) ∧ True ∧ ((decide (((h.getD k default).proc) = ((h.getD i default).proc))) = true → True) ∧ ((decide (((h.getD k default).proc) = ((h.getD i default).proc))) = true → True) ∧ ((decide (((h.getD k default).proc) = ((h.getD i default).proc))) = true → ((((decide (((h.getD k default).proc) = ((h.getD i default).proc))) = true) ∧ True) ∧ (((decide (((h.getD k default).proc) = ((h.getD i default).proc))) = true) ∧ True) ∧ (0 ≤ ((k : Nat) : Int)) ∧ (((k : Nat) : Int) < (h.length : Int)))) ∧ ((decide (((h.getD k default).proc) = ((h.getD i default).proc))) = true → (((decide (((h.getD k default).proc) = ((h.getD i default).proc))) = true) ∧ True)) ∧ ((decide (((h.getD k default).proc) = ((h.getD i default).proc))) = true → (((decide (((h.getD k default).proc) = ((h.getD i default).proc))) = true) ∧ True)) ∧ ((decide (((h.getD k default).proc) = ((h.getD i default).proc))) = true → True) ∧ ((decide (((h.getD k default).proc) = ((h.getD i default).proc))) = true → True) ∧ ((decide (((h.getD k default).proc) = ((h.getD i default).proc))) = true → ((((decide (((h.getD k default).proc) = ((h.getD i default).proc))) = true) ∧ True) ∧ (((decide (((h.getD k default).proc) = ((h.getD i default).proc))) = true) ∧ True) ∧ (0 ≤ ((i : Nat) : Int)) ∧ (((i : Nat) : Int) < (h.length : Int)))) ∧ ((decide (((h.getD k default).proc) = ((h.getD i default).proc))) = true → (((decide (((h.getD k default).proc) = ((h.getD i default).proc))) = true) ∧ True)) ∧ ((decide (((h.getD k default).proc) = ((h.getD i default).proc))) = true → (((decide (((h.getD k default).proc) = ((h.getD i default).proc))) = true) ∧ True)) ∧ ((decide (((h.getD k default).proc) = ((h.getD i default).proc))) = true → ((((decide (((h.getD k default).proc) = ((h.getD i default).proc))) = true) ∧ True) ∧ (((decide (((h.getD k default).proc) = ((h.getD i default).proc))) = true) ∧ True) ∧ True)) ∧ (True ∧ ((decide (((h.getD k default).proc) = ((h.getD i default).proc))) = true → ((decide (((h.getD k default).proc) = ((h.getD i default).proc))) = true) ∧ True) ∧ ((decide (((h.getD k default).proc) = ((h.getD i default).proc))) = false → True)) ∧ True ∧ (((decide (((h.getD k default).proc) = ((h.getD i default).proc))) && (decide (((h.getD i default).frm) < ((h.getD k default).to)))) = true → True) ∧ (((decide (((h.getD k default).proc) = ((h.getD i default).proc))) && (decide (((h.getD i default).frm) < ((h.getD k default).to)))) = true → True) ∧ (((decide (((h.getD k default).proc) = ((h.getD i default).proc))) && (decide (((h.getD i default).frm) < ((h.getD k default).to)))) = true → (((((decide (((h.getD k default).proc) = ((h.getD i default).proc))) && (decide (((h.getD i default).frm) < ((h.getD k default).to)))) = true) ∧ True) ∧ ((((decide (((h.getD k default).proc) = ((h.getD i default).proc))) && (decide (((h.getD i default).frm) < ((h.getD k default).to)))) = true) ∧ True) ∧ (0 ≤ ((i : Nat) : Int)) ∧ (((i : Nat) : Int) < (h.length : Int)))) ∧ (((decide (((h.getD k default).proc) = ((h.getD i default).proc))) && (decide (((h.getD i default).frm) < ((h.getD k default).to)))) = true → ((((decide (((h.getD k default).proc) = ((h.getD i default).proc))) && (decide (((h.getD i default).frm) < ((h.getD k default).to)))) = true) ∧ True)) ∧ (((decide (((h.getD k default).proc) = ((h.getD i default).proc))) && (decide (((h.getD i default).frm) < ((h.getD k default).to)))) = true → ((((decide (((h.getD k default).proc) = ((h.getD i default).proc))) && (decide (((h.getD i default).frm) < ((h.getD k default).to)))) = true) ∧ True)) ∧ (((decide (((h.getD k default).proc) = ((h.getD i default).proc))) && (decide (((h.getD i default).frm) < ((h.getD k default).to)))) = true → True) ∧ (((decide (((h.getD k default).proc) = ((h.getD i default).proc))) && (decide (((h.getD i default).frm) < ((h.getD k default).to)))) = true → True) ∧ (((decide (((h.getD k default).proc) = ((h.getD i default).proc))) && (decide (((h.getD i default).frm) < ((h.getD k default).to)))) = true → (((((decide (((h.getD k default).proc) = ((h.getD i default).proc))) && (decide (((h.getD i default).frm) < ((h.getD k default).to)))) = true) ∧ True) ∧ ((((decide (((h.getD k default).proc) = ((h.getD i default).proc))) && (decide (((h.getD i default).frm) < ((h.getD k default).to)))) = true) ∧ True) ∧ (0 ≤ ((k : Nat) : Int)) ∧ (((k : Nat) : Int) < (h.length : Int)))) ∧ (((decide (((h.getD k default).proc) = ((h.getD i default).proc))) && (decide (((h.getD i default).frm) < ((h.getD k default).to)))) = true → ((((decide (((h.getD k default).proc) = ((h.getD i default).proc))) && (decide (((h.getD i default).frm) < ((h.getD k default).to)))) = true) ∧ True)) ∧ (((decide (((h.getD k default).proc) = ((h.getD i default).proc))) && (decide (((h.getD i default).frm) < ((h.getD k default).to)))) = true → ((((decide (((h.getD k default).proc) = ((h.getD i default).proc))) && (decide (((h.getD i default).frm) < ((h.getD k default).to)))) = true) ∧ True)) ∧ (((decide (((h.getD k default).proc) = ((h.getD i default).proc))) && (decide (((h.getD i default).frm) < ((h.getD k default).to)))) = true → (((((decide (((h.getD k default).proc) = ((h.getD i default).proc))) && (decide (((h.getD i default).frm) < ((h.getD k default).to)))) = true) ∧ True) ∧ ((((decide (((h.getD k default).proc) = ((h.getD i default).proc))) && (decide (((h.getD i default).frm) < ((h.getD k default).to)))) = true) ∧ True) ∧ True)) ∧ (True ∧ (((decide (((h.getD k default).proc) = ((h.getD i default).proc))) && (decide (((h.getD i default).frm) < ((h.getD k default).to)))) = true → (((decide (((h.getD k default).proc) = ((h.getD i default).proc))) && (decide (((h.getD i default).frm) < ((h.getD k default).to)))) = true) ∧ True) ∧ (((decide (((h.getD k default).proc) = ((h.getD i default).proc))) && (decide (((h.getD i default).frm) < ((h.getD k default).to)))) = false → True)) ∧ True) (by kernel_rfl) (by kernel_rfl)
        ⟨tt,tt,⟨tt,tt,(by omega),(by omega)⟩,tt,tt,tt,tt,⟨tt,tt,(by omega),(by omega)⟩,tt,tt,⟨tt,tt,tt⟩,tt,(fun _ => trivial),(fun _ => trivial),(fun hG => ⟨⟨hG,tt⟩,⟨hG,tt⟩,(by have hg0 : ((h.getD k default).proc) = ((h.getD i default).proc) := of_decide_eq_true hG; omega),(by have hg0 : ((h.getD k default).proc) = ((h.getD i default).proc) := of_decide_eq_true hG; omega)⟩),(fun hG => ⟨hG,tt⟩),(fun hG => ⟨hG,tt⟩),(fun _ => trivial),(fun _ => trivial),(fun hG => ⟨⟨hG,tt⟩,⟨hG,tt⟩,(by have hg0 : ((h.getD k default).proc) = ((h.getD i default).proc) := of_decide_eq_true hG; omega),(by have hg0 : ((h.getD k default).proc) = ((h.getD i default).proc) := of_decide_eq_true hG; omega)⟩),(fun hG => ⟨hG,tt⟩),(fun hG => ⟨hG,tt⟩),(fun hG => ⟨⟨hG,tt⟩,⟨hG,tt⟩,tt⟩),⟨tt,(fun hp => ⟨hp,tt⟩),(fun _ => trivial)⟩,tt,(fun _ => trivial),(fun _ => trivial),(fun hG => ⟨⟨hG,tt⟩,⟨hG,tt⟩,(by have hg0 : ((h.getD k default).proc) = ((h.getD i default).proc) := of_decide_eq_true (and_l hG); have hg1 : ((h.getD i default).frm) < ((h.getD k default).to) := of_decide_eq_true (and_r hG); omega),(by have hg0 : ((h.getD k default).proc) = ((h.getD i default).proc) := of_decide_eq_true (and_l hG); have hg1 : ((h.getD i default).frm) < ((h.getD k default).to) := of_decide_eq_true (and_r hG); omega)⟩),(fun hG => ⟨hG,tt⟩),(fun hG => ⟨hG,tt⟩),(fun _ => trivial),(fun _ => trivial),(fun hG => ⟨⟨hG,tt⟩,⟨hG,tt⟩,(by have hg0 : ((h.getD k default).proc) = ((h.getD i default).proc) := of_decide_eq_true (and_l hG); have hg1 : ((h.getD i default).frm) < ((h.getD k default).to) := of_decide_eq_true (and_r hG); omega),(by have hg0 : ((h.getD k default).proc) = ((h.getD i default).proc) := of_decide_eq_true (and_l hG); have hg1 : ((h.getD i default).frm) < ((h.getD k default).to) := of_decide_eq_true (and_r hG); omega)⟩),(fun hG => ⟨hG,tt⟩),(fun hG => ⟨hG,tt⟩),(fun hG => ⟨⟨hG,tt⟩,⟨hG,tt⟩,tt⟩),⟨tt,(fun hp => ⟨hp,tt⟩),(fun _ => trivial)⟩,tt⟩ ?_
       refine W.if' (((decide (((h.getD k default).proc) = ((h.getD i default).proc))) && (decide (((h.getD i default).frm) < ((h.getD k default).to)))) && (decide (((h.getD k default).frm) < ((h.getD i default).to)))) (.b (((decide (((h.getD k default).proc) = ((h.getD i default).proc))) && (decide (((h.getD i default).frm) < ((h.getD k default).to)))) && (decide (((h.getD k default).frm) < ((h.getD i default).to))))) (by kernel_rfl) rfl trivial ?_ ?_
       ·intro h108
        have h108_0 : ((h.getD k default).proc) = ((h.getD i default).proc) := of_decide_eq_true (and_l (and_l h108))
        have h108_1 : ((h.getD i default).frm) < ((h.getD k default).to) := of_decide_eq_true (and_r (and_l h108))
        have h108_2 : ((h.getD k default).frm) < ((h.getD i default).to) := of_decide_eq_true (and_r h108)
        refine W.K cok tab21 hnt [] [2] (⟨[(2,.b false)],[],[999]⟩)
         (True ∧ True) (by kernel_rfl)
         ⟨tt,tt⟩ ?_
        refine W.ret (blockQ_ret (thenQ_ret (thenQ_ret (blockQ_ret (blockQ_ret (thenQ_ret (thenQ_ret (blockQ_ret (thenQ_ret ?_)))))))))
        exact endQ_ret (.b false) (by kernel_rfl) (@cast ((.bool false : Value) = .bool (validHistory h)) _ (by kernel_rfl) (congrArg Value.bool (by unfold validHistory; symm; exact and_fr (allN_false (i := i) (by omega) (and_fr (allN_false (i := k) (by omega) (clash_true2 h108)))))))
       ·intro n108
        refine W.skip (blockQ_normal (thenQ_normal ?_))
        refine W.L cok tab21 hnt [] (⟨[(0,.sl (.calls h)),(3,.i ((i : Nat) : Int)),(4,.i (((k + 1) : Nat) : Int)),(20,.i ((k : Nat) : Int)),(21,.i (((k + 1) : Nat) : Int)),(108,.b (((decide (((h.getD k default).proc) = ((h.getD i default).proc))) && (decide (((h.getD i default).frm) < ((h.getD k default).to)))) && (decide (((h.getD k default).frm) < ((h.getD i default).to)))))],[],[999]⟩)
         (True ∧ (True ∧ True ∧ (Fits .i64 (((k + 1) : Nat) : Int))) ∧ True ∧ True) (by kernel_rfl)
         ⟨tt,⟨tt,tt,(by exact fits_i64 (by omega) (by omega))⟩,tt,tt⟩ ?_
        refine thenQ_normal ?_
        refine ⟨((k + 1)),(show ((k + 1) ≤ i) ∧ (∀ j,j < (k + 1) → (!clash (callAt h i) (callAt h j)) = true) from ⟨(by first | assumption | omega | rfl | (intro _ hjj; omega) | (simp; done) | (simp; omega)),(by exact upto_succ hB (clash_false n71 n108))⟩),(show i - (k + 1) < i - k from (by first | omega | (simp_all; omega))),?_⟩
        exact Sub.of [] (@cast ((((.calls h : Dat) = .calls h) ∧ (((.int .i64 ((i : Nat) : Int) : Value) = .int .i64 ((i : Nat) : Int)) ∧ (((.int .i64 (((k + 1) : Nat) : Int) : Value) = .int .i64 (((k + 1) : Nat) : Int)) ∧ True))) ∧ (True ∧ ((true = true) ∧ (true = true)))) _ (by kernel_rfl) ⟨⟨rfl,rfl,rfl,tt⟩,tt,rfl,rfl⟩)
     ·intro n19
      refine W.exit (thenQ_exit (thenQ_exit (blockQ_hit ?_)))
      refine blockQ_normal (thenQ_normal ?_)
      refine W.L cok tab21 hnt [] (⟨[(0,.sl (.calls h)),(3,.i (((i + 1) : Nat) : Int)),(4,.i ((k : Nat) : Int)),(9,.i ((i : Nat) : Int)),(10,.i (((i + 1) : Nat) : Int)),(19,.b (decide (((k : Nat) : Int) < ((i : Nat) : Int))))],[],[999]⟩)
       (True ∧ (True ∧ True ∧ (Fits .i64 (((i + 1) : Nat) : Int))) ∧ True ∧ True) (by kernel_rfl)
       ⟨tt,⟨tt,tt,(by exact fits_i64 (by omega) (by omega))⟩,tt,tt⟩ ?_
      refine thenQ_normal ?_
      refine ⟨((i + 1)),(show ((i + 1) ≤ h.length) ∧ (∀ j,j < (i + 1) → (isCall (callAt h j) && allN j (fun k => !clash (callAt h j) (callAt h k))) = true) from ⟨(by first | assumption | omega | rfl | (intro _ hjj; omega) | (simp; done) | (simp; omega)),(by exact upto_succ hA (and_t (not_g n16) (allN_true (fun j hj => hB j (by omega)))))⟩),(show h.length - (i + 1) < h.length - i from (by first | omega | (simp_all; omega))),?_⟩
      exact Sub.of [] (@cast ((((.calls h : Dat) = .calls h) ∧ (((.int .i64 (((i + 1) : Nat) : Int) : Value) = .int .i64 (((i + 1) : Nat) : Int)) ∧ True)) ∧ (True ∧ ((true = true) ∧ (true = true)))) _ (by kernel_rfl) ⟨⟨rfl,rfl,tt⟩,tt,rfl,rfl⟩)
  ·intro n8
   refine W.exit (thenQ_exit (thenQ_exit (blockQ_hit ?_)))
   refine thenQ_normal ?_
   refine W.K cok tab21 hnt [] [2] (⟨[(2,.b (decide ((h.length : Int) ≤ (6 : Int))))],[],[999]⟩)
    (True ∧ True ∧ (True ∧ True ∧ True) ∧ True ∧ True) (by kernel_rfl)
    ⟨tt,tt,⟨tt,tt,tt⟩,tt,tt⟩ ?_
   refine W.ret ?_
   exact endQ_ret (.b (decide ((h.length : Int) ≤ (6 : Int)))) (by kernel_rfl) (@cast ((.bool (decide ((h.length : Int) ≤ (6 : Int))) : Value) = .bool (validHistory h)) _ (by kernel_rfl) (congrArg Value.bool (by unfold validHistory; symm; rw [allN_true (fun j hj => hA j (by omega)),Bool.and_true]; exact bool_ext (by simp only [decide_eq_true_eq]; omega))))
theorem ent21 : Entr prog 21 := ⟨_,func21,rfl,by decide⟩
end Go.Proofs.Try

set_option linter.unusedSimpArgs false
set_option linter.unusedVariables false
namespace Go.Proofs.Try
open Go.Ab Go.RowKit
def fs30 : FnS := fnS [.o,.s .calls] [.str,.calls] (fun _ (s,h,_) => (.b (isObject s && validHistory h),[],True))
abbrev T30 : Tab := lk [(20,fs20),(21,fs21)]
theorem tab30 : TabOK prog T30 := (TabOK.cons ok20 ent20 (TabOK.cons ok21 ent21 TabOK.nil))
set_option maxRecDepth 100000 in
set_option maxHeartbeats 1000000 in
theorem ok30 : FnOK prog 30 fs30 := by
 refine FnOK.mk cok func30 rfl rfl rfl ?_
 rintro fl ⟨(s : ByteArray),(h : List CallD),_⟩ hpre F hnt0 _
 have hnt : F.nt = 11 := hnt0.trans ntmps30
 clear hpre
 refine W.to (⟨[(0,.v (.string s)),(1,.sl (.calls h))],[],[999]⟩) rfl ?_
 refine W.lenOf 1 (.calls h) (by kernel_rfl) ?_
 intro hl_h; replace hl_h : List.length h ≤ 9223372036854775807 := hl_h
 refine W.K cok tab30 hnt [] [0,1] (⟨[(0,.v (.string s)),(1,.sl (.calls h))],[],[999]⟩)
  (True ∧ True) (by kernel_rfl)
  ⟨tt,tt⟩ ?_
 refine W.K cok tab30 hnt [] [4] (⟨[(4,.b ((isObject s) && (validHistory h)))],[],[999]⟩)
  (True ∧ (True ∧ (True ∧ True) ∧ True) ∧ True ∧ ((isObject s) = true → True) ∧ ((isObject s) = true → (True ∧ ((((isObject s) = true) ∧ True) ∧ True) ∧ True)) ∧ (True ∧ ((isObject s) = true → ((isObject s) = true) ∧ True) ∧ ((isObject s) = false → True)) ∧ True ∧ True) (by kernel_rfl)
  ⟨tt,⟨tt,⟨tt,tt⟩,tt⟩,tt,(fun _ => trivial),(fun hG => ⟨tt,⟨⟨hG,tt⟩,tt⟩,tt⟩),⟨tt,(fun hp => ⟨hp,tt⟩),(fun _ => trivial)⟩,tt,tt⟩ ?_
 refine W.ret ?_
 exact endQ_ret (.b ((isObject s) && (validHistory h))) (by kernel_rfl) (@cast ((.bool ((isObject s) && (validHistory h)) : Value) = .bool (isObject s && validHistory h)) _ (by kernel_rfl) (congrArg Value.bool (by rfl)))
theorem ent30 : Entr prog 30 := ⟨_,func30,rfl,by decide⟩
end Go.Proofs.Try

set_option linter.unusedSimpArgs false
set_option linter.unusedVariables false
namespace Go.Proofs.Try
open Go.Ab Go.RowKit
def fs49 : FnS := fnS [.o] [.int] (fun _ (n,_) => (.i (power n),[],(n ≤ 60)))
abbrev T49 : Tab := lk []
theorem tab49 : TabOK prog T49 := TabOK.nil
set_option maxRecDepth 100000 in
set_option maxHeartbeats 1000000 in
theorem ok49 : FnOK prog 49 fs49 := by
 refine FnOK.mk cok func49 rfl rfl rfl ?_
 rintro fl ⟨(n : Int),_⟩ hpre F hnt0 _
 have hnt : F.nt = 11 := hnt0.trans ntmps49
 replace hpre : (n ≤ 60) := hpre
 have hn := hpre
 refine W.to (⟨[(0,.i n)],[],[999]⟩) rfl ?_
 refine W.K cok tab49 hnt [] [0] (⟨[(0,.i n)],[],[999]⟩)
  (True ∧ True) (by kernel_rfl)
  ⟨tt,tt⟩ ?_
 refine W.K cok tab49 hnt [] [0,3] (⟨[(0,.i n),(3,.i (1 : Int))],[],[999]⟩)
  (True ∧ True) (by kernel_rfl)
  ⟨tt,tt⟩ ?_
 refine W.seq ?_
 refine W.block ?_
 refine W.loop (ι := Int × Int) (fun (x : Int × Int) => match x with | (k,x) => (⟨[(0,.i k),(3,.i x)],[],[999]⟩ : St))
  (fun (x : Int × Int) => match x with | (k,x) => (k ≤ n) ∧ (x * power k = power n) ∧ (1 ≤ x))
  (fun (x : Int × Int) => match x with | (k,x) => (k.toNat : Nat)) (n,(1 : Int)) ?_ ?_ ?_
 ·exact (show (n ≤ n) ∧ ((1 : Int) * power n = power n) ∧ (1 ≤ (1 : Int)) from ⟨(by first | assumption | omega | rfl | (intro _ hjj; omega) | (simp; done) | (simp; omega)),(by exact Int.one_mul _),(by first | assumption | omega | rfl | (intro _ hjj; omega) | (simp; done) | (simp; omega))⟩)
 ·exact Sub.of [] (@cast ((((.int .i64 n : Value) = .int .i64 n) ∧ (((.int .i64 (1 : Int) : Value) = .int .i64 (1 : Int)) ∧ True)) ∧ (True ∧ ((true = true) ∧ (true = true)))) _ (by kernel_rfl) ⟨⟨rfl,rfl,tt⟩,tt,rfl,rfl⟩)
 ·rintro ⟨k,x⟩ hC0
  have hC : (k ≤ n) ∧ (x * power k = power n) ∧ (1 ≤ x) := hC0
  clear hC0
  obtain ⟨hk,hx,hx0⟩ := hC
  refine W.to (⟨[(0,.i k),(3,.i x)],[],[999]⟩) rfl ?_
  have hp := power_le (n := n) hn
  have hxp : x ≤ power n := power_factor hx hx0
  refine W.seq ?_
  refine W.K cok tab49 hnt [] [0,3,5] (⟨[(0,.i k),(3,.i x),(5,.b (decide ((0 : Int) < k)))],[],[999]⟩)
   (True ∧ (True ∧ True ∧ True) ∧ True) (by kernel_rfl)
   ⟨tt,⟨tt,tt,tt⟩,tt⟩ ?_
  refine W.ifP ((0 : Int) < k) (.b (decide ((0 : Int) < k))) (by kernel_rfl) rfl trivial ?_ ?_
  ·intro h5
   refine W.skip (thenQ_normal ?_)
   refine W.seq ?_
   refine W.block ?_
   refine W.L cok tab49 hnt [] (⟨[(0,.i k),(3,.i ((2 : Int) * x)),(5,.b (decide ((0 : Int) < k))),(8,.i x),(9,.i ((2 : Int) * x))],[],[999]⟩)
    (True ∧ (True ∧ True ∧ (Fits .i64 ((2 : Int) * x))) ∧ True ∧ True) (by kernel_rfl)
    ⟨tt,⟨tt,tt,(by exact fits_i64 (by omega) (by omega))⟩,tt,tt⟩ ?_
   refine blockQ_normal (thenQ_normal ?_)
   refine W.L cok tab49 hnt [] (⟨[(0,.i (k - (1 : Int))),(3,.i ((2 : Int) * x)),(5,.b (decide ((0 : Int) < k))),(6,.i k),(7,.i (k - (1 : Int))),(8,.i x),(9,.i ((2 : Int) * x))],[],[999]⟩)
    (True ∧ (True ∧ True ∧ (Fits .i64 (k - (1 : Int)))) ∧ True ∧ True) (by kernel_rfl)
    ⟨tt,⟨tt,tt,(by exact fits_i64 (by omega) (by omega))⟩,tt,tt⟩ ?_
   refine thenQ_normal ?_
   refine ⟨((k - (1 : Int)),((2 : Int) * x)),(show ((k - (1 : Int)) ≤ n) ∧ (((2 : Int) * x) * power (k - (1 : Int)) = power n) ∧ (1 ≤ ((2 : Int) * x)) from ⟨(by first | assumption | omega | rfl | (intro _ hjj; omega) | (simp; done) | (simp; omega)),(by rw [← hx]; exact power_step h5),(by first | assumption | omega | rfl | (intro _ hjj; omega) | (simp; done) | (simp; omega))⟩),(show (k - (1 : Int)).toNat < k.toNat from (by first | omega | (simp_all; omega))),?_⟩
   exact Sub.of [] (@cast ((((.int .i64 (k - (1 : Int)) : Value) = .int .i64 (k - (1 : Int))) ∧ (((.int .i64 ((2 : Int) * x) : Value) = .int .i64 ((2 : Int) * x)) ∧ True)) ∧ (True ∧ ((true = true) ∧ (true = true)))) _ (by kernel_rfl) ⟨⟨rfl,rfl,tt⟩,tt,rfl,rfl⟩)
  ·intro n5
   refine W.exit (thenQ_exit (thenQ_exit (blockQ_hit ?_)))
   refine thenQ_normal ?_
   refine W.K cok tab49 hnt [] [2] (⟨[(2,.i x)],[],[999]⟩)
    (True ∧ True ∧ True) (by kernel_rfl)
    ⟨tt,tt,tt⟩ ?_
   refine W.ret ?_
   exact endQ_ret (.i x) (by kernel_rfl) (@cast ((.int .i64 x : Value) = .int .i64 (power n)) _ (by kernel_rfl) (congrArg (Value.int .i64) (by first | rfl | exact power_done hx n5)))
theorem ent49 : Entr prog 49 := ⟨_,func49,rfl,by decide⟩
end Go.Proofs.Try

set_option linter.unusedSimpArgs false
set_option linter.unusedVariables false
namespace Go.Proofs.Try
open Go.Ab Go.RowKit
def fs36 : FnS := fnS [.s .calls] [.calls] (fun _ (h,_) => (.sl (.ints (rowsOf h.length (quietF h))),[],(validHistory h = true)))
abbrev T36 : Tab := lk [(49,fs49)]
theorem tab36 : TabOK prog T36 := (TabOK.cons ok49 ent49 TabOK.nil)
set_option maxRecDepth 100000 in
set_option maxHeartbeats 1000000 in
theorem ok36 : FnOK prog 36 fs36 := by
 refine FnOK.mk cok func36 rfl rfl rfl ?_
 rintro fl ⟨(h : List CallD),_⟩ hpre F hnt0 _
 have hnt : F.nt = 84 := hnt0.trans ntmps36
 replace hpre : (validHistory h = true) := hpre
 have hv := hpre
 refine W.to (⟨[(0,.sl (.calls h))],[],[999]⟩) rfl ?_
 have hv6 := (valid_iff.1 hv).1
 refine W.lenOf 0 (.calls h) (by kernel_rfl) ?_
 intro hl_h; replace hl_h : List.length h ≤ 9223372036854775807 := hl_h
 refine W.K cok tab36 hnt [] [0] (⟨[(0,.sl (.calls h))],[],[999]⟩)
  (True ∧ True) (by kernel_rfl)
  ⟨tt,tt⟩ ?_
 refine W.K cok tab36 hnt [11] [0,3] (⟨[(0,.sl (.calls h)),(3,.own 11 (List.length (List.replicate h.length (0 : Int))))],[(11,⟨3,.row (.ints (List.replicate h.length (0 : Int)))⟩)],[11,999]⟩)
  (True ∧ True ∧ (True ∧ True ∧ ((h.length : Int) = (h.length : Int)) ∧ (0 ≤ (h.length : Int)) ∧ ((h.length : Int) * 8 ≤ 281474976710656)) ∧ True ∧ True) (by kernel_rfl)
  ⟨tt,tt,⟨tt,tt,rfl,(by omega),(by omega)⟩,tt,tt⟩ ?_
 refine W.seq ?_
 refine W.K cok tab36 hnt [] [0,3,4] (⟨[(0,.sl (.calls h)),(3,.own 11 (List.length (List.replicate h.length (0 : Int)))),(4,.i (0 : Int))],[(11,⟨3,.row (.ints (List.replicate h.length (0 : Int)))⟩)],[11,999]⟩)
  (True ∧ True) (by kernel_rfl)
  ⟨tt,tt⟩ ?_
 refine W.block ?_
 refine W.loop (ι := (List Int) × Nat) (fun (x : (List Int) × Nat) => match x with | (o,t) => (⟨[(0,.sl (.calls h)),(3,.own 11 o.length),(4,.i ((t : Nat) : Int))],[(11,⟨3,.row (.ints o)⟩)],[11,999]⟩ : St))
  (fun (x : (List Int) × Nat) => match x with | (o,t) => (t ≤ 31) ∧ (o = rowsOf h.length (quietT h t)))
  (fun (x : (List Int) × Nat) => match x with | (o,t) => (31 - t : Nat)) ((List.replicate h.length (0 : Int)),0) ?_ ?_ ?_
 ·exact (show (0 ≤ 31) ∧ ((List.replicate h.length (0 : Int)) = rowsOf h.length (quietT h 0)) from ⟨(by first | assumption | omega | rfl | (intro _ hjj; omega) | (simp; done) | (simp; omega)),(by exact rows_zero _ _)⟩)
 ·exact Sub.of [] (@cast ((((.calls h : Dat) = .calls h) ∧ ((((11 : Nat) = 11) ∧ (((List.length (List.replicate h.length (0 : Int))) = (List.length (List.replicate h.length (0 : Int)))) ∧ ((11 : Nat) ∈ ([11,999] : List Nat)))) ∧ (((.int .i64 (0 : Int) : Value) = .int .i64 ((0 : Nat) : Int)) ∧ True))) ∧ (((((3 : Nat) = 3) ∧ (((.ints (List.replicate h.length (0 : Int)) : Dat) = .ints (List.replicate h.length (0 : Int))) ∧ ((11 : Nat) ∈ ([11,999] : List Nat)))) ∧ True) ∧ ((true = true) ∧ (true = true)))) _ (by kernel_rfl) ⟨⟨rfl,⟨rfl,rfl,(by decide)⟩,(congrArg (Value.int .i64) (by first | rfl | omega | assumption | simp | simp_all)),tt⟩,⟨⟨rfl,rfl,(by decide)⟩,tt⟩,rfl,rfl⟩)
 ·rintro ⟨o,t⟩ hC0
  have hC : (t ≤ 31) ∧ (o = rowsOf h.length (quietT h t)) := hC0
  clear hC0
  obtain ⟨ht,ho⟩ := hC
  refine W.to (⟨[(0,.sl (.calls h)),(3,.own 11 o.length),(4,.i ((t : Nat) : Int))],[(11,⟨3,.row (.ints o)⟩)],[11,999]⟩) rfl ?_
  have hol : o.length = h.length := by rw [ho,rowsOf_len]
  refine W.seq ?_
  refine W.K cok tab36 hnt [] [0,3,4,13] (⟨[(0,.sl (.calls h)),(3,.own 11 o.length),(4,.i ((t : Nat) : Int)),(13,.b (decide (((t : Nat) : Int) ≤ (30 : Int))))],[(11,⟨3,.row (.ints o)⟩)],[11,999]⟩)
   (True ∧ (True ∧ True ∧ True) ∧ True) (by kernel_rfl)
   ⟨tt,⟨tt,tt,tt⟩,tt⟩ ?_
  refine W.ifP (((t : Nat) : Int) ≤ (30 : Int)) (.b (decide (((t : Nat) : Int) ≤ (30 : Int)))) (by kernel_rfl) rfl trivial ?_ ?_
  ·intro h13
   refine W.skip (thenQ_normal ?_)
   refine W.seq ?_
   refine W.block ?_
   refine W.K cok tab36 hnt [] [0,3,4,5] (⟨[(0,.sl (.calls h)),(3,.own 11 o.length),(4,.i ((t : Nat) : Int)),(5,.b false)],[(11,⟨3,.row (.ints o)⟩)],[11,999]⟩)
    (True ∧ True) (by kernel_rfl)
    ⟨tt,tt⟩ ?_
   refine W.seq ?_
   refine W.K cok tab36 hnt [] [0,3,4,5,6] (⟨[(0,.sl (.calls h)),(3,.own 11 o.length),(4,.i ((t : Nat) : Int)),(5,.b false),(6,.i (0 : Int))],[(11,⟨3,.row (.ints o)⟩)],[11,999]⟩)
    (True ∧ True) (by kernel_rfl)
    ⟨tt,tt⟩ ?_
   refine W.block ?_
   refine W.loop (ι := Bool × Nat) (fun (x : Bool × Nat) => match x with | (opn,j) => (⟨[(0,.sl (.calls h)),(3,.own 11 o.length),(4,.i ((t : Nat) : Int)),(5,.b opn),(6,.i ((j : Nat) : Int))],[(11,⟨3,.row (.ints o)⟩)],[11,999]⟩ : St))
    (fun (x : Bool × Nat) => match x with | (opn,j) => (j ≤ h.length) ∧ (opn = openB h ((t : Nat) : Int) j))
    (fun (x : Bool × Nat) => match x with | (opn,j) => (h.length - j : Nat)) (false,0) ?_ ?_ ?_
   ·exact (show (0 ≤ h.length) ∧ (false = openB h ((t : Nat) : Int) 0) from ⟨(by first | assumption | omega | rfl | (intro _ hjj; omega) | (simp; done) | (simp; omega)),(by rfl)⟩)
   ·exact Sub.of [] (@cast ((((.calls h : Dat) = .calls h) ∧ ((((11 : Nat) = 11) ∧ ((o.length = o.length) ∧ ((11 : Nat) ∈ ([11,999] : List Nat)))) ∧ (((.int .i64 ((t : Nat) : Int) : Value) = .int .i64 ((t : Nat) : Int)) ∧ (((.bool false : Value) = .bool false) ∧ (((.int .i64 (0 : Int) : Value) = .int .i64 ((0 : Nat) : Int)) ∧ True))))) ∧ (((((3 : Nat) = 3) ∧ (((.ints o : Dat) = .ints o) ∧ ((11 : Nat) ∈ ([11,999] : List Nat)))) ∧ True) ∧ ((true = true) ∧ (true = true)))) _ (by kernel_rfl) ⟨⟨rfl,⟨rfl,rfl,(by decide)⟩,rfl,rfl,(congrArg (Value.int .i64) (by first | rfl | omega | assumption | simp | simp_all)),tt⟩,⟨⟨rfl,rfl,(by decide)⟩,tt⟩,rfl,rfl⟩)
   ·rintro ⟨opn,j⟩ hC0
    have hC : (j ≤ h.length) ∧ (opn = openB h ((t : Nat) : Int) j) := hC0
    clear hC0
    obtain ⟨hj,hop⟩ := hC
    refine W.to (⟨[(0,.sl (.calls h)),(3,.own 11 o.length),(4,.i ((t : Nat) : Int)),(5,.b opn),(6,.i ((j : Nat) : Int))],[(11,⟨3,.row (.ints o)⟩)],[11,999]⟩) rfl ?_
    refine W.seq ?_
    refine W.K cok tab36 hnt [] [0,3,4,5,6,19] (⟨[(0,.sl (.calls h)),(3,.own 11 o.length),(4,.i ((t : Nat) : Int)),(5,.b opn),(6,.i ((j : Nat) : Int)),(19,.b (decide (((j : Nat) : Int) < (h.length : Int))))],[(11,⟨3,.row (.ints o)⟩)],[11,999]⟩)
     (True ∧ True ∧ True ∧ (True ∧ True ∧ True) ∧ True) (by kernel_rfl)
     ⟨tt,tt,tt,⟨tt,tt,tt⟩,tt⟩ ?_
    refine W.ifP (((j : Nat) : Int) < (h.length : Int)) (.b (decide (((j : Nat) : Int) < (h.length : Int)))) (by kernel_rfl) rfl trivial ?_ ?_
    ·intro h19
     refine W.skip (thenQ_normal ?_)
     refine W.seq ?_
     refine W.block ?_
     refine W.L cok tab36 hnt [] (⟨[(0,.sl (.calls h)),(3,.own 11 o.length),(4,.i ((t : Nat) : Int)),(5,.b (opn || ((decide (((h.getD j default).frm) ≤ ((t : Nat) : Int))) && (decide (((t : Nat) : Int) < ((h.getD j default).to)))))),(6,.i ((j : Nat) : Int)),(19,.b (decide (((j : Nat) : Int) < (h.length : Int)))),(22,.b opn),(23,.b opn),(24,.g (!opn) (.sl (.calls h))),(25,.g (!opn) (.i ((j : Nat) : Int))),(26,.g (!opn) (.ep [.i ((h.getD j default).proc),.i ((h.getD j default).obj),.i ((h.getD j default).kind),.i ((h.getD j default).arg),.i ((h.getD j default).ret),.i ((h.getD j default).frm),.i ((h.getD j default).to)])),(27,.g (!opn) (.ep [.i ((h.getD j default).frm),.i ((h.getD j default).to)])),(28,.g (!opn) (.i ((h.getD j default).frm))),(29,.g (!opn) (.i ((t : Nat) : Int))),(30,.g (!opn) (.b (decide (((h.getD j default).frm) ≤ ((t : Nat) : Int))))),(31,.g (!opn) (.g (!opn) (.b (decide (((h.getD j default).frm) ≤ ((t : Nat) : Int)))))),(32,.g ((!opn) && ((!opn) && (decide (((h.getD j default).frm) ≤ ((t : Nat) : Int))))) (.i ((t : Nat) : Int))),(33,.g ((!opn) && ((!opn) && (decide (((h.getD j default).frm) ≤ ((t : Nat) : Int))))) (.sl (.calls h))),(34,.g ((!opn) && ((!opn) && (decide (((h.getD j default).frm) ≤ ((t : Nat) : Int))))) (.i ((j : Nat) : Int))),(35,.g ((!opn) && ((!opn) && (decide (((h.getD j default).frm) ≤ ((t : Nat) : Int))))) (.ep [.i ((h.getD j default).proc),.i ((h.getD j default).obj),.i ((h.getD j default).kind),.i ((h.getD j default).arg),.i ((h.getD j default).ret),.i ((h.getD j default).frm),.i ((h.getD j default).to)])),(36,.g ((!opn) && ((!opn) && (decide (((h.getD j default).frm) ≤ ((t : Nat) : Int))))) (.ep [.i ((h.getD j default).to)])),(37,.g ((!opn) && ((!opn) && (decide (((h.getD j default).frm) ≤ ((t : Nat) : Int))))) (.i ((h.getD j default).to))),(38,.g ((!opn) && ((!opn) && (decide (((h.getD j default).frm) ≤ ((t : Nat) : Int))))) (.b (decide (((t : Nat) : Int) < ((h.getD j default).to))))),(39,.g (!opn) (.b ((decide (((h.getD j default).frm) ≤ ((t : Nat) : Int))) && (decide (((t : Nat) : Int) < ((h.getD j default).to)))))),(40,.b (opn || ((decide (((h.getD j default).frm) ≤ ((t : Nat) : Int))) && (decide (((t : Nat) : Int) < ((h.getD j default).to))))))],[(11,⟨3,.row (.ints o)⟩)],[11,999]⟩)
      (True ∧ True ∧ ((!opn) = true → True) ∧ ((!opn) = true → True) ∧ ((!opn) = true → ((((!opn) = true) ∧ True) ∧ (((!opn) = true) ∧ True) ∧ (0 ≤ ((j : Nat) : Int)) ∧ (((j : Nat) : Int) < (h.length : Int)))) ∧ ((!opn) = true → (((!opn) = true) ∧ True)) ∧ ((!opn) = true → (((!opn) = true) ∧ True)) ∧ ((!opn) = true → True) ∧ ((!opn) = true → ((((!opn) = true) ∧ True) ∧ (((!opn) = true) ∧ True) ∧ True)) ∧ ((!opn) = true → True) ∧ (((!opn) && ((!opn) && (decide (((h.getD j default).frm) ≤ ((t : Nat) : Int))))) = true → True) ∧ (((!opn) && ((!opn) && (decide (((h.getD j default).frm) ≤ ((t : Nat) : Int))))) = true → True) ∧ (((!opn) && ((!opn) && (decide (((h.getD j default).frm) ≤ ((t : Nat) : Int))))) = true → True) ∧ (((!opn) && ((!opn) && (decide (((h.getD j default).frm) ≤ ((t : Nat) : Int))))) = true → (((((!opn) && ((!opn) && (decide (((h.getD j default).frm) ≤ ((t : Nat) : Int))))) = true) ∧ True) ∧ ((((!opn) && ((!opn) && (decide (((h.getD j default).frm) ≤ ((t : Nat) : Int))))) = true) ∧ True) ∧ (0 ≤ ((j : Nat) : Int)) ∧ (((j : Nat) : Int) < (h.length : Int)))) ∧ (((!opn) && ((!opn) && (decide (((h.getD j default).frm) ≤ ((t : Nat) : Int))))) = true → ((((!opn) && ((!opn) && (decide (((h.getD j default).frm) ≤ ((t : Nat) : Int))))) = true) ∧ True)) ∧ (((!opn) && ((!opn) && (decide (((h.getD j default).frm) ≤ ((t : Nat) : Int))))) = true → ((((!opn) && ((!opn) && (decide (((h.getD j default).frm) ≤ ((t : Nat) : Int))))) = true) ∧ True)) ∧ (((!opn) && ((!opn) && (decide (((h.getD j default).frm) ≤ ((t : Nat) : Int))))) = true → (((((!opn) && ((!opn) && (decide (((h.getD j default).frm) ≤ ((t : Nat) : Int))))) = true) ∧ True) ∧ ((((!opn) && ((!opn) && (decide (((h.getD j default).frm) ≤ ((t : Nat) : Int))))) = true) ∧ True) ∧ True)) ∧ ((!opn) = true → ((((!opn) = true) ∧ ((!opn) = true) ∧ True) ∧ ((decide (((h.getD j default).frm) ≤ ((t : Nat) : Int))) = true → (((!opn) && ((!opn) && (decide (((h.getD j default).frm) ≤ ((t : Nat) : Int))))) = true) ∧ True) ∧ ((decide (((h.getD j default).frm) ≤ ((t : Nat) : Int))) = false → True))) ∧ (True ∧ (opn = true → True) ∧ (opn = false → ((!opn) = true) ∧ True)) ∧ True ∧ True) (by kernel_rfl)
      ⟨tt,tt,(fun _ => trivial),(fun _ => trivial),(fun hG => ⟨⟨hG,tt⟩,⟨hG,tt⟩,(by omega),(by omega)⟩),(fun hG => ⟨hG,tt⟩),(fun hG => ⟨hG,tt⟩),(fun _ => trivial),(fun hG => ⟨⟨hG,tt⟩,⟨hG,tt⟩,tt⟩),(fun _ => trivial),(fun _ => trivial),(fun _ => trivial),(fun _ => trivial),(fun hG => ⟨⟨hG,tt⟩,⟨hG,tt⟩,(by have hg0 : ((h.getD j default).frm) ≤ ((t : Nat) : Int) := of_decide_eq_true (and_r (and_r hG)); omega),(by have hg0 : ((h.getD j default).frm) ≤ ((t : Nat) : Int) := of_decide_eq_true (and_r (and_r hG)); omega)⟩),(fun hG => ⟨hG,tt⟩),(fun hG => ⟨hG,tt⟩),(fun hG => ⟨⟨hG,tt⟩,⟨hG,tt⟩,tt⟩),(fun hG => ⟨⟨hG,hG,tt⟩,(fun hp => ⟨(and_t hG (and_t hG hp)),tt⟩),(fun _ => trivial)⟩),⟨tt,(fun _ => trivial),(fun hp => ⟨(not_t hp),tt⟩)⟩,tt,tt⟩ ?_
     refine blockQ_normal (thenQ_normal ?_)
     refine W.L cok tab36 hnt [] (⟨[(0,.sl (.calls h)),(3,.own 11 o.length),(4,.i ((t : Nat) : Int)),(5,.b (opn || ((decide (((h.getD j default).frm) ≤ ((t : Nat) : Int))) && (decide (((t : Nat) : Int) < ((h.getD j default).to)))))),(6,.i (((j + 1) : Nat) : Int)),(19,.b (decide (((j : Nat) : Int) < (h.length : Int)))),(20,.i ((j : Nat) : Int)),(21,.i (((j + 1) : Nat) : Int)),(22,.b opn),(23,.b opn),(24,.g (!opn) (.sl (.calls h))),(25,.g (!opn) (.i ((j : Nat) : Int))),(26,.g (!opn) (.ep [.i ((h.getD j default).proc),.i ((h.getD j default).obj),.i ((h.getD j default).kind),.i ((h.getD j default).arg),.i ((h.getD j default).ret),.i ((h.getD j default).frm),.i ((h.getD j default).to)])),(27,.g (!opn) (.ep [.i ((h.getD j default).frm),.i ((h.getD j default).to)])),(28,.g (!opn) (.i ((h.getD j default).frm))),(29,.g (!opn) (.i ((t : Nat) : Int))),(30,.g (!opn) (.b (decide (((h.getD j default).frm) ≤ ((t : Nat) : Int))))),(31,.g (!opn) (.g (!opn) (.b (decide (((h.getD j default).frm) ≤ ((t : Nat) : Int)))))),(32,.g ((!opn) && ((!opn) && (decide (((h.getD j default).frm) ≤ ((t : Nat) : Int))))) (.i ((t : Nat) : Int))),(33,.g ((!opn) && ((!opn) && (decide (((h.getD j default).frm) ≤ ((t : Nat) : Int))))) (.sl (.calls h))),(34,.g ((!opn) && ((!opn) && (decide (((h.getD j default).frm) ≤ ((t : Nat) : Int))))) (.i ((j : Nat) : Int))),(35,.g ((!opn) && ((!opn) && (decide (((h.getD j default).frm) ≤ ((t : Nat) : Int))))) (.ep [.i ((h.getD j default).proc),.i ((h.getD j default).obj),.i ((h.getD j default).kind),.i ((h.getD j default).arg),.i ((h.getD j default).ret),.i ((h.getD j default).frm),.i ((h.getD j default).to)])),(36,.g ((!opn) && ((!opn) && (decide (((h.getD j default).frm) ≤ ((t : Nat) : Int))))) (.ep [.i ((h.getD j default).to)])),(37,.g ((!opn) && ((!opn) && (decide (((h.getD j default).frm) ≤ ((t : Nat) : Int))))) (.i ((h.getD j default).to))),(38,.g ((!opn) && ((!opn) && (decide (((h.getD j default).frm) ≤ ((t : Nat) : Int))))) (.b (decide (((t : Nat) : Int) < ((h.getD j default).to))))),(39,.g (!opn) (.b ((decide (((h.getD j default).frm) ≤ ((t : Nat) : Int))) && (decide (((t : Nat) : Int) < ((h.getD j default).to)))))),(40,.b (opn || ((decide (((h.getD j default).frm) ≤ ((t : Nat) : Int))) && (decide (((t : Nat) : Int) < ((h.getD j default).to))))))],[(11,⟨3,.row (.ints o)⟩)],[11,999]⟩)
      (True ∧ (True ∧ True ∧ (Fits .i64 (((j + 1) : Nat) : Int))) ∧ True ∧ True) (by kernel_rfl)
      ⟨tt,⟨tt,tt,(by exact fits_i64 (by omega) (by omega))⟩,tt,tt⟩ ?_
     refine thenQ_normal ?_
     refine ⟨((opn || ((decide (((h.getD j default).frm) ≤ ((t : Nat) : Int))) && (decide (((t : Nat) : Int) < ((h.getD j default).to))))),(j + 1)),(show ((j + 1) ≤ h.length) ∧ ((opn || ((decide (((h.getD j default).frm) ≤ ((t : Nat) : Int))) && (decide (((t : Nat) : Int) < ((h.getD j default).to))))) = openB h ((t : Nat) : Int) (j + 1)) from ⟨(by first | assumption | omega | rfl | (intro _ hjj; omega) | (simp; done) | (simp; omega)),(by rw [hop]; exact openB_succ rfl)⟩),(show h.length - (j + 1) < h.length - j from (by first | omega | (simp_all; omega))),?_⟩
     exact Sub.of [] (@cast ((((.calls h : Dat) = .calls h) ∧ ((((11 : Nat) = 11) ∧ ((o.length = o.length) ∧ ((11 : Nat) ∈ ([11,999] : List Nat)))) ∧ (((.int .i64 ((t : Nat) : Int) : Value) = .int .i64 ((t : Nat) : Int)) ∧ (((.bool (opn || ((decide (((h.getD j default).frm) ≤ ((t : Nat) : Int))) && (decide (((t : Nat) : Int) < ((h.getD j default).to))))) : Value) = .bool (opn || ((decide (((h.getD j default).frm) ≤ ((t : Nat) : Int))) && (decide (((t : Nat) : Int) < ((h.getD j default).to)))))) ∧ (((.int .i64 (((j + 1) : Nat) : Int) : Value) = .int .i64 (((j + 1) : Nat) : Int)) ∧ True))))) ∧ (((((3 : Nat) = 3) ∧ (((.ints o : Dat) = .ints o) ∧ ((11 : Nat) ∈ ([11,999] : List Nat)))) ∧ True) ∧ ((true = true) ∧ (true = true)))) _ (by kernel_rfl) ⟨⟨rfl,⟨rfl,rfl,(by decide)⟩,rfl,rfl,rfl,tt⟩,⟨⟨rfl,rfl,(by decide)⟩,tt⟩,rfl,rfl⟩)
    ·intro n19
     refine W.exit (thenQ_exit (thenQ_exit (blockQ_hit ?_)))
     refine thenQ_normal ?_
     refine W.K cok tab36 hnt [] [0,3,4,5,7] (⟨[(0,.sl (.calls h)),(3,.own 11 o.length),(4,.i ((t : Nat) : Int)),(5,.b opn),(7,.i (0 : Int))],[(11,⟨3,.row (.ints o)⟩)],[11,999]⟩)
      (True ∧ True) (by kernel_rfl)
      ⟨tt,tt⟩ ?_
     refine W.block ?_
     refine W.loop (ι := (List Int) × Nat) (fun (x : (List Int) × Nat) => match x with | (x,i) => (⟨[(0,.sl (.calls h)),(3,.own 11 x.length),(4,.i ((t : Nat) : Int)),(5,.b opn),(7,.i ((i : Nat) : Int))],[(11,⟨3,.row (.ints x)⟩)],[11,999]⟩ : St))
      (fun (x : (List Int) × Nat) => match x with | (x,i) => (i ≤ h.length) ∧ (x = rowsOf h.length (mixF (quietT h t) (quietT h (t + 1)) i 0)))
      (fun (x : (List Int) × Nat) => match x with | (x,i) => (h.length - i : Nat)) (o,0) ?_ ?_ ?_
     ·exact (show (0 ≤ h.length) ∧ (o = rowsOf h.length (mixF (quietT h t) (quietT h (t + 1)) 0 0)) from ⟨(by first | assumption | omega | rfl | (intro _ hjj; omega) | (simp; done) | (simp; omega)),(by rw [ho]; exact mix_start)⟩)
     ·exact Sub.of [] (@cast ((((.calls h : Dat) = .calls h) ∧ ((((11 : Nat) = 11) ∧ ((o.length = o.length) ∧ ((11 : Nat) ∈ ([11,999] : List Nat)))) ∧ (((.int .i64 ((t : Nat) : Int) : Value) = .int .i64 ((t : Nat) : Int)) ∧ (((.bool opn : Value) = .bool opn) ∧ (((.int .i64 (0 : Int) : Value) = .int .i64 ((0 : Nat) : Int)) ∧ True))))) ∧ (((((3 : Nat) = 3) ∧ (((.ints o : Dat) = .ints o) ∧ ((11 : Nat) ∈ ([11,999] : List Nat)))) ∧ True) ∧ ((true = true) ∧ (true = true)))) _ (by kernel_rfl) ⟨⟨rfl,⟨rfl,rfl,(by decide)⟩,rfl,rfl,(congrArg (Value.int .i64) (by first | rfl | omega | assumption | simp | simp_all)),tt⟩,⟨⟨rfl,rfl,(by decide)⟩,tt⟩,rfl,rfl⟩)
     ·rintro ⟨x,i⟩ hC0
      have hC : (i ≤ h.length) ∧ (x = rowsOf h.length (mixF (quietT h t) (quietT h (t + 1)) i 0)) := hC0
      clear hC0
      obtain ⟨hi,hx⟩ := hC
      refine W.to (⟨[(0,.sl (.calls h)),(3,.own 11 x.length),(4,.i ((t : Nat) : Int)),(5,.b opn),(7,.i ((i : Nat) : Int))],[(11,⟨3,.row (.ints x)⟩)],[11,999]⟩) rfl ?_
      have hxl : x.length = h.length := by rw [hx,rowsOf_len]
      refine W.seq ?_
      refine W.K cok tab36 hnt [] [0,3,4,5,7,48] (⟨[(0,.sl (.calls h)),(3,.own 11 x.length),(4,.i ((t : Nat) : Int)),(5,.b opn),(7,.i ((i : Nat) : Int)),(48,.b ((decide (((i : Nat) : Int) < (h.length : Int))) && (!opn)))],[(11,⟨3,.row (.ints x)⟩)],[11,999]⟩)
       (True ∧ True ∧ True ∧ (True ∧ True ∧ True) ∧ True ∧ ((decide (((i : Nat) : Int) < (h.length : Int))) = true → True) ∧ ((decide (((i : Nat) : Int) < (h.length : Int))) = true → (((decide (((i : Nat) : Int) < (h.length : Int))) = true) ∧ True)) ∧ (True ∧ ((decide (((i : Nat) : Int) < (h.length : Int))) = true → ((decide (((i : Nat) : Int) < (h.length : Int))) = true) ∧ True) ∧ ((decide (((i : Nat) : Int) < (h.length : Int))) = false → True)) ∧ True) (by kernel_rfl)
       ⟨tt,tt,tt,⟨tt,tt,tt⟩,tt,(fun _ => trivial),(fun hG => ⟨hG,tt⟩),⟨tt,(fun hp => ⟨hp,tt⟩),(fun _ => trivial)⟩,tt⟩ ?_
      refine W.if' ((decide (((i : Nat) : Int) < (h.length : Int))) && (!opn)) (.b ((decide (((i : Nat) : Int) < (h.length : Int))) && (!opn))) (by kernel_rfl) rfl trivial ?_ ?_
      ·intro h48
       have h48_0 : ((i : Nat) : Int) < (h.length : Int) := of_decide_eq_true (and_l h48)
       refine W.skip (thenQ_normal ?_)
       refine W.seq ?_
       refine W.block ?_
       refine W.K cok tab36 hnt [] [0,3,4,5,7,8] (⟨[(0,.sl (.calls h)),(3,.own 11 x.length),(4,.i ((t : Nat) : Int)),(5,.b opn),(7,.i ((i : Nat) : Int)),(8,.i (0 : Int))],[(11,⟨3,.row (.ints x)⟩)],[11,999]⟩)
        (True ∧ True) (by kernel_rfl)
        ⟨tt,tt⟩ ?_
       refine W.block ?_
       refine W.loop (ι := (List Int) × Nat) (fun (x : (List Int) × Nat) => match x with | (y,k) => (⟨[(0,.sl (.calls h)),(3,.own 11 y.length),(4,.i ((t : Nat) : Int)),(5,.b opn),(7,.i ((i : Nat) : Int)),(8,.i ((k : Nat) : Int))],[(11,⟨3,.row (.ints y)⟩)],[11,999]⟩ : St))
        (fun (x : (List Int) × Nat) => match x with | (y,k) => (k ≤ h.length) ∧ (y = rowsOf h.length (mixF (quietT h t) (quietT h (t + 1)) i k)))
        (fun (x : (List Int) × Nat) => match x with | (y,k) => (h.length - k : Nat)) (x,0) ?_ ?_ ?_
       ·exact (show (0 ≤ h.length) ∧ (x = rowsOf h.length (mixF (quietT h t) (quietT h (t + 1)) i 0)) from ⟨(by first | assumption | omega | rfl | (intro _ hjj; omega) | (simp; done) | (simp; omega)),(by exact hx)⟩)
       ·exact Sub.of [] (@cast ((((.calls h : Dat) = .calls h) ∧ ((((11 : Nat) = 11) ∧ ((x.length = x.length) ∧ ((11 : Nat) ∈ ([11,999] : List Nat)))) ∧ (((.int .i64 ((t : Nat) : Int) : Value) = .int .i64 ((t : Nat) : Int)) ∧ (((.bool opn : Value) = .bool opn) ∧ (((.int .i64 ((i : Nat) : Int) : Value) = .int .i64 ((i : Nat) : Int)) ∧ (((.int .i64 (0 : Int) : Value) = .int .i64 ((0 : Nat) : Int)) ∧ True)))))) ∧ (((((3 : Nat) = 3) ∧ (((.ints x : Dat) = .ints x) ∧ ((11 : Nat) ∈ ([11,999] : List Nat)))) ∧ True) ∧ ((true = true) ∧ (true = true)))) _ (by kernel_rfl) ⟨⟨rfl,⟨rfl,rfl,(by decide)⟩,rfl,rfl,rfl,(congrArg (Value.int .i64) (by first | rfl | omega | assumption | simp | simp_all)),tt⟩,⟨⟨rfl,rfl,(by decide)⟩,tt⟩,rfl,rfl⟩)
       ·rintro ⟨y,k⟩ hC0
        have hC : (k ≤ h.length) ∧ (y = rowsOf h.length (mixF (quietT h t) (quietT h (t + 1)) i k)) := hC0
        clear hC0
        obtain ⟨hk,hy⟩ := hC
        refine W.to (⟨[(0,.sl (.calls h)),(3,.own 11 y.length),(4,.i ((t : Nat) : Int)),(5,.b opn),(7,.i ((i : Nat) : Int)),(8,.i ((k : Nat) : Int))],[(11,⟨3,.row (.ints y)⟩)],[11,999]⟩) rfl ?_
        have hyl : y.length = h.length := by rw [hy,rowsOf_len]
        have hob : openB h ((t : Nat) : Int) h.length = false := by rw [show j = h.length by omega] at hop; rw [← hop]; exact not_f (and_r h48)
        refine W.seq ?_
        refine W.K cok tab36 hnt [] [0,3,4,5,7,8,54] (⟨[(0,.sl (.calls h)),(3,.own 11 y.length),(4,.i ((t : Nat) : Int)),(5,.b opn),(7,.i ((i : Nat) : Int)),(8,.i ((k : Nat) : Int)),(54,.b (decide (((k : Nat) : Int) < (h.length : Int))))],[(11,⟨3,.row (.ints y)⟩)],[11,999]⟩)
         (True ∧ True ∧ True ∧ (True ∧ True ∧ True) ∧ True) (by kernel_rfl)
         ⟨tt,tt,tt,⟨tt,tt,tt⟩,tt⟩ ?_
        refine W.ifP (((k : Nat) : Int) < (h.length : Int)) (.b (decide (((k : Nat) : Int) < (h.length : Int)))) (by kernel_rfl) rfl trivial ?_ ?_
        ·intro h54
         refine W.skip (thenQ_normal ?_)
         refine W.seq ?_
         refine W.block ?_
         refine W.K cok tab36 hnt [] [0,3,4,5,7,8,72] (⟨[(0,.sl (.calls h)),(3,.own 11 y.length),(4,.i ((t : Nat) : Int)),(5,.b opn),(7,.i ((i : Nat) : Int)),(8,.i ((k : Nat) : Int)),(72,.b ((decide (((h.getD k default).to) ≤ ((t : Nat) : Int))) && (decide (((t : Nat) : Int) < ((h.getD i default).frm)))))],[(11,⟨3,.row (.ints y)⟩)],[11,999]⟩)
          (True ∧ True ∧ (True ∧ True ∧ (0 ≤ ((k : Nat) : Int)) ∧ (((k : Nat) : Int) < (h.length : Int))) ∧ True ∧ True ∧ True ∧ (True ∧ True ∧ True) ∧ True ∧ ((decide (((h.getD k default).to) ≤ ((t : Nat) : Int))) = true → True) ∧ ((decide (((h.getD k default).to) ≤ ((t : Nat) : Int))) = true → True) ∧ ((decide (((h.getD k default).to) ≤ ((t : Nat) : Int))) = true → True) ∧ ((decide (((h.getD k default).to) ≤ ((t : Nat) : Int))) = true → ((((decide (((h.getD k default).to) ≤ ((t : Nat) : Int))) = true) ∧ True) ∧ (((decide (((h.getD k default).to) ≤ ((t : Nat) : Int))) = true) ∧ True) ∧ (0 ≤ ((i : Nat) : Int)) ∧ (((i : Nat) : Int) < (h.length : Int)))) ∧ ((decide (((h.getD k default).to) ≤ ((t : Nat) : Int))) = true → (((decide (((h.getD k default).to) ≤ ((t : Nat) : Int))) = true) ∧ True)) ∧ ((decide (((h.getD k default).to) ≤ ((t : Nat) : Int))) = true → (((decide (((h.getD k default).to) ≤ ((t : Nat) : Int))) = true) ∧ True)) ∧ ((decide (((h.getD k default).to) ≤ ((t : Nat) : Int))) = true → ((((decide (((h.getD k default).to) ≤ ((t : Nat) : Int))) = true) ∧ True) ∧ (((decide (((h.getD k default).to) ≤ ((t : Nat) : Int))) = true) ∧ True) ∧ True)) ∧ (True ∧ ((decide (((h.getD k default).to) ≤ ((t : Nat) : Int))) = true → ((decide (((h.getD k default).to) ≤ ((t : Nat) : Int))) = true) ∧ True) ∧ ((decide (((h.getD k default).to) ≤ ((t : Nat) : Int))) = false → True)) ∧ True) (by kernel_rfl)
          ⟨tt,tt,⟨tt,tt,(by omega),(by omega)⟩,tt,tt,tt,⟨tt,tt,tt⟩,tt,(fun _ => trivial),(fun _ => trivial),(fun _ => trivial),(fun hG => ⟨⟨hG,tt⟩,⟨hG,tt⟩,(by have hg0 : ((h.getD k default).to) ≤ ((t : Nat) : Int) := of_decide_eq_true hG; omega),(by have hg0 : ((h.getD k default).to) ≤ ((t : Nat) : Int) := of_decide_eq_true hG; omega)⟩),(fun hG => ⟨hG,tt⟩),(fun hG => ⟨hG,tt⟩),(fun hG => ⟨⟨hG,tt⟩,⟨hG,tt⟩,tt⟩),⟨tt,(fun hp => ⟨hp,tt⟩),(fun _ => trivial)⟩,tt⟩ ?_
         refine W.if' ((decide (((h.getD k default).to) ≤ ((t : Nat) : Int))) && (decide (((t : Nat) : Int) < ((h.getD i default).frm)))) (.b ((decide (((h.getD k default).to) ≤ ((t : Nat) : Int))) && (decide (((t : Nat) : Int) < ((h.getD i default).frm))))) (by kernel_rfl) rfl trivial ?_ ?_
         ·intro h72
          have h72_0 : ((h.getD k default).to) ≤ ((t : Nat) : Int) := of_decide_eq_true (and_l h72)
          have h72_1 : ((t : Nat) : Int) < ((h.getD i default).frm) := of_decide_eq_true (and_r h72)
          refine W.LA cok tab36 hnt [] (⟨[(0,.sl (.calls h)),(3,.own 11 y.length),(4,.i ((t : Nat) : Int)),(5,.b opn),(7,.i ((i : Nat) : Int)),(8,.i ((k : Nat) : Int)),(72,.b ((decide (((h.getD k default).to) ≤ ((t : Nat) : Int))) && (decide (((t : Nat) : Int) < ((h.getD i default).frm))))),(73,.own 11 y.length),(74,.i ((i : Nat) : Int)),(75,.own 11 y.length),(76,.i ((i : Nat) : Int)),(77,.pel 11 1 i 0),(78,.i (y.getD i 0)),(79,.i ((k : Nat) : Int)),(80,.i (power ((k : Nat) : Int))),(81,.i (bitsI .or .i64 (y.getD i 0) (power ((k : Nat) : Int)))),(82,.pel 11 1 i 0)],[(11,⟨3,.row (.ints (List.set y i (bitsI .or .i64 (y.getD i 0) (power ((k : Nat) : Int)))))⟩)],[11,999]⟩)
           (True ∧ True ∧ True ∧ True ∧ (True ∧ True ∧ (0 ≤ ((i : Nat) : Int)) ∧ (((i : Nat) : Int) < (y.length : Int))) ∧ (True ∧ (i < y.length)) ∧ True ∧ (True ∧ (True ∧ True) ∧ (((k : Nat) : Int) ≤ 60)) ∧ (True ∧ True ∧ True) ∧ (True ∧ True ∧ (0 ≤ ((i : Nat) : Int)) ∧ (((i : Nat) : Int) < (y.length : Int))) ∧ (True ∧ True ∧ (i < y.length)) ∧ True) (by kernel_rfl) (by kernel_rfl)
           ⟨tt,tt,tt,tt,⟨tt,tt,(by omega),(by omega)⟩,⟨tt,(by omega)⟩,tt,⟨tt,⟨tt,tt⟩,(by omega)⟩,⟨tt,tt,tt⟩,⟨tt,tt,(by omega),(by omega)⟩,⟨tt,tt,(by omega)⟩,tt⟩ ?_
          refine blockQ_normal (thenQ_normal ?_)
          refine W.L cok tab36 hnt [] (⟨[(0,.sl (.calls h)),(3,.own 11 y.length),(4,.i ((t : Nat) : Int)),(5,.b opn),(7,.i ((i : Nat) : Int)),(8,.i (((k + 1) : Nat) : Int)),(55,.i ((k : Nat) : Int)),(56,.i (((k + 1) : Nat) : Int)),(72,.b ((decide (((h.getD k default).to) ≤ ((t : Nat) : Int))) && (decide (((t : Nat) : Int) < ((h.getD i default).frm))))),(73,.own 11 y.length),(74,.i ((i : Nat) : Int)),(75,.own 11 y.length),(76,.i ((i : Nat) : Int)),(77,.pel 11 1 i 0),(78,.i (y.getD i 0)),(79,.i ((k : Nat) : Int)),(80,.i (power ((k : Nat) : Int))),(81,.i (bitsI .or .i64 (y.getD i 0) (power ((k : Nat) : Int)))),(82,.pel 11 1 i 0)],[(11,⟨3,.row (.ints (List.set y i (bitsI .or .i64 (y.getD i 0) (power ((k : Nat) : Int)))))⟩)],[11,999]⟩)
           (True ∧ (True ∧ True ∧ (Fits .i64 (((k + 1) : Nat) : Int))) ∧ True ∧ True) (by kernel_rfl)
           ⟨tt,⟨tt,tt,(by exact fits_i64 (by omega) (by omega))⟩,tt,tt⟩ ?_
          refine thenQ_normal ?_
          refine ⟨((List.set y i (bitsI .or .i64 (y.getD i 0) (power ((k : Nat) : Int)))),(k + 1)),(show ((k + 1) ≤ h.length) ∧ ((List.set y i (bitsI .or .i64 (y.getD i 0) (power ((k : Nat) : Int)))) = rowsOf h.length (mixF (quietT h t) (quietT h (t + 1)) i (k + 1))) from ⟨(by first | assumption | omega | rfl | (intro _ hjj; omega) | (simp; done) | (simp; omega)),(by first | (rw [hy]; exact mix_skip (qt_no n72)) | (rw [hy]; exact mix_set (by omega) (by omega) (by omega) (qt_yes hob h72)))⟩),(show h.length - (k + 1) < h.length - k from (by first | omega | (simp_all; omega))),?_⟩
          exact Sub.of [] (@cast ((((.calls h : Dat) = .calls h) ∧ ((((11 : Nat) = 11) ∧ ((y.length = (List.length (List.set y i (bitsI .or .i64 (y.getD i 0) (power ((k : Nat) : Int)))))) ∧ ((11 : Nat) ∈ ([11,999] : List Nat)))) ∧ (((.int .i64 ((t : Nat) : Int) : Value) = .int .i64 ((t : Nat) : Int)) ∧ (((.bool opn : Value) = .bool opn) ∧ (((.int .i64 ((i : Nat) : Int) : Value) = .int .i64 ((i : Nat) : Int)) ∧ (((.int .i64 (((k + 1) : Nat) : Int) : Value) = .int .i64 (((k + 1) : Nat) : Int)) ∧ True)))))) ∧ (((((3 : Nat) = 3) ∧ (((.ints (List.set y i (bitsI .or .i64 (y.getD i 0) (power ((k : Nat) : Int)))) : Dat) = .ints (List.set y i (bitsI .or .i64 (y.getD i 0) (power ((k : Nat) : Int))))) ∧ ((11 : Nat) ∈ ([11,999] : List Nat)))) ∧ True) ∧ ((true = true) ∧ (true = true)))) _ (by kernel_rfl) ⟨⟨rfl,⟨rfl,(by first | rfl | omega | assumption | (symm; assumption) | simp | simp_all),(by decide)⟩,rfl,rfl,rfl,rfl,tt⟩,⟨⟨rfl,rfl,(by decide)⟩,tt⟩,rfl,rfl⟩)
         ·intro n72
          refine W.skip (blockQ_normal (thenQ_normal ?_))
          refine W.L cok tab36 hnt [] (⟨[(0,.sl (.calls h)),(3,.own 11 y.length),(4,.i ((t : Nat) : Int)),(5,.b opn),(7,.i ((i : Nat) : Int)),(8,.i (((k + 1) : Nat) : Int)),(55,.i ((k : Nat) : Int)),(56,.i (((k + 1) : Nat) : Int)),(72,.b ((decide (((h.getD k default).to) ≤ ((t : Nat) : Int))) && (decide (((t : Nat) : Int) < ((h.getD i default).frm)))))],[(11,⟨3,.row (.ints y)⟩)],[11,999]⟩)
           (True ∧ (True ∧ True ∧ (Fits .i64 (((k + 1) : Nat) : Int))) ∧ True ∧ True) (by kernel_rfl)
           ⟨tt,⟨tt,tt,(by exact fits_i64 (by omega) (by omega))⟩,tt,tt⟩ ?_
          refine thenQ_normal ?_
          refine ⟨(y,(k + 1)),(show ((k + 1) ≤ h.length) ∧ (y = rowsOf h.length (mixF (quietT h t) (quietT h (t + 1)) i (k + 1))) from ⟨(by first | assumption | omega | rfl | (intro _ hjj; omega) | (simp; done) | (simp; omega)),(by first | (rw [hy]; exact mix_skip (qt_no n72)) | (rw [hy]; exact mix_set (by omega) (by omega) (by omega) (qt_yes hob h72)))⟩),(show h.length - (k + 1) < h.length - k from (by first | omega | (simp_all; omega))),?_⟩
          exact Sub.of [] (@cast ((((.calls h : Dat) = .calls h) ∧ ((((11 : Nat) = 11) ∧ ((y.length = y.length) ∧ ((11 : Nat) ∈ ([11,999] : List Nat)))) ∧ (((.int .i64 ((t : Nat) : Int) : Value) = .int .i64 ((t : Nat) : Int)) ∧ (((.bool opn : Value) = .bool opn) ∧ (((.int .i64 ((i : Nat) : Int) : Value) = .int .i64 ((i : Nat) : Int)) ∧ (((.int .i64 (((k + 1) : Nat) : Int) : Value) = .int .i64 (((k + 1) : Nat) : Int)) ∧ True)))))) ∧ (((((3 : Nat) = 3) ∧ (((.ints y : Dat) = .ints y) ∧ ((11 : Nat) ∈ ([11,999] : List Nat)))) ∧ True) ∧ ((true = true) ∧ (true = true)))) _ (by kernel_rfl) ⟨⟨rfl,⟨rfl,rfl,(by decide)⟩,rfl,rfl,rfl,rfl,tt⟩,⟨⟨rfl,rfl,(by decide)⟩,tt⟩,rfl,rfl⟩)
        ·intro n54
         refine W.exit (thenQ_exit (thenQ_exit (blockQ_hit ?_)))
         refine blockQ_normal (thenQ_normal ?_)
         refine W.L cok tab36 hnt [] (⟨[(0,.sl (.calls h)),(3,.own 11 y.length),(4,.i ((t : Nat) : Int)),(5,.b opn),(7,.i (((i + 1) : Nat) : Int)),(8,.i ((k : Nat) : Int)),(49,.i ((i : Nat) : Int)),(50,.i (((i + 1) : Nat) : Int)),(54,.b (decide (((k : Nat) : Int) < (h.length : Int))))],[(11,⟨3,.row (.ints y)⟩)],[11,999]⟩)
          (True ∧ (True ∧ True ∧ (Fits .i64 (((i + 1) : Nat) : Int))) ∧ True ∧ True) (by kernel_rfl)
          ⟨tt,⟨tt,tt,(by exact fits_i64 (by omega) (by omega))⟩,tt,tt⟩ ?_
         refine thenQ_normal ?_
         refine ⟨(y,(i + 1)),(show ((i + 1) ≤ h.length) ∧ (y = rowsOf h.length (mixF (quietT h t) (quietT h (t + 1)) (i + 1) 0)) from ⟨(by first | assumption | omega | rfl | (intro _ hjj; omega) | (simp; done) | (simp; omega)),(by rw [hy,show k = h.length by omega]; exact mix_next)⟩),(show h.length - (i + 1) < h.length - i from (by first | omega | (simp_all; omega))),?_⟩
         exact Sub.of [] (@cast ((((.calls h : Dat) = .calls h) ∧ ((((11 : Nat) = 11) ∧ ((y.length = y.length) ∧ ((11 : Nat) ∈ ([11,999] : List Nat)))) ∧ (((.int .i64 ((t : Nat) : Int) : Value) = .int .i64 ((t : Nat) : Int)) ∧ (((.bool opn : Value) = .bool opn) ∧ (((.int .i64 (((i + 1) : Nat) : Int) : Value) = .int .i64 (((i + 1) : Nat) : Int)) ∧ True))))) ∧ (((((3 : Nat) = 3) ∧ (((.ints y : Dat) = .ints y) ∧ ((11 : Nat) ∈ ([11,999] : List Nat)))) ∧ True) ∧ ((true = true) ∧ (true = true)))) _ (by kernel_rfl) ⟨⟨rfl,⟨rfl,rfl,(by decide)⟩,rfl,rfl,rfl,tt⟩,⟨⟨rfl,rfl,(by decide)⟩,tt⟩,rfl,rfl⟩)
      ·intro n48
       refine W.exit (thenQ_exit (thenQ_exit (blockQ_hit ?_)))
       refine blockQ_normal (thenQ_normal ?_)
       refine W.L cok tab36 hnt [] (⟨[(0,.sl (.calls h)),(3,.own 11 x.length),(4,.i (((t + 1) : Nat) : Int)),(5,.b opn),(7,.i ((i : Nat) : Int)),(14,.i ((t : Nat) : Int)),(15,.i (((t + 1) : Nat) : Int)),(48,.b ((decide (((i : Nat) : Int) < (h.length : Int))) && (!opn)))],[(11,⟨3,.row (.ints x)⟩)],[11,999]⟩)
        (True ∧ (True ∧ True ∧ (Fits .i64 (((t + 1) : Nat) : Int))) ∧ True ∧ True) (by kernel_rfl)
        ⟨tt,⟨tt,tt,(by exact fits_i64 (by omega) (by omega))⟩,tt,tt⟩ ?_
       refine thenQ_normal ?_
       refine ⟨(x,(t + 1)),(show ((t + 1) ≤ 31) ∧ (x = rowsOf h.length (quietT h (t + 1))) from ⟨(by first | assumption | omega | rfl | (intro _ hjj; omega) | (simp; done) | (simp; omega)),(by rw [hx]; exact mix_out (by rw [show j = h.length by omega] at hop; rw [← hop]; exact n48))⟩),(show 31 - (t + 1) < 31 - t from (by first | omega | (simp_all; omega))),?_⟩
       exact Sub.of [] (@cast ((((.calls h : Dat) = .calls h) ∧ ((((11 : Nat) = 11) ∧ ((x.length = x.length) ∧ ((11 : Nat) ∈ ([11,999] : List Nat)))) ∧ (((.int .i64 (((t + 1) : Nat) : Int) : Value) = .int .i64 (((t + 1) : Nat) : Int)) ∧ True))) ∧ (((((3 : Nat) = 3) ∧ (((.ints x : Dat) = .ints x) ∧ ((11 : Nat) ∈ ([11,999] : List Nat)))) ∧ True) ∧ ((true = true) ∧ (true = true)))) _ (by kernel_rfl) ⟨⟨rfl,⟨rfl,rfl,(by decide)⟩,rfl,tt⟩,⟨⟨rfl,rfl,(by decide)⟩,tt⟩,rfl,rfl⟩)
  ·intro n13
   refine W.exit (thenQ_exit (thenQ_exit (blockQ_hit ?_)))
   refine thenQ_normal ?_
   refine W.K cok tab36 hnt [] [2] (⟨[(2,.own 11 o.length)],[(11,⟨3,.row (.ints o)⟩)],[11,999]⟩)
    (True ∧ True ∧ True) (by kernel_rfl)
    ⟨tt,tt,tt⟩ ?_
   refine W.subS [] (⟨[(2,.sl (.ints o))],[],[999]⟩) (@cast ((((o.length = o.length) ∧ (((.ints o : Dat) = .ints o) ∧ ((11 : Nat) ∉ ([] : List Nat)))) ∧ True) ∧ (True ∧ ((true = true) ∧ (true = true)))) _ (by kernel_rfl) ⟨⟨⟨rfl,rfl,(by decide)⟩,tt⟩,tt,rfl,rfl⟩) ?_
   refine W.ret ?_
   exact endQ_ret (.sl (.ints o)) (by kernel_rfl) (@cast ((.ints o : Dat) = .ints (rowsOf h.length (quietF h))) _ (by kernel_rfl) (congrArg Dat.ints (by rw [ho]; exact quiet_fin (by omega))))
theorem ent36 : Entr prog 36 := ⟨_,func36,rfl,by decide⟩
end Go.Proofs.Try

set_option linter.unusedSimpArgs false
set_option linter.unusedVariables false
namespace Go.Proofs.Try
open Go.Ab Go.RowKit
def fs41 : FnS := fnS [.s .ints,.o] [.ints,.int] (fun _ (l,n,_) => (.b (hasInt l n),[],True))
abbrev T41 : Tab := lk []
theorem tab41 : TabOK prog T41 := TabOK.nil
set_option maxRecDepth 100000 in
set_option maxHeartbeats 1000000 in
theorem ok41 : FnOK prog 41 fs41 := by
 refine FnOK.mk cok func41 rfl rfl rfl ?_
 rintro fl ⟨(l : List Int),(n : Int),_⟩ hpre F hnt0 _
 have hnt : F.nt = 18 := hnt0.trans ntmps41
 clear hpre
 refine W.to (⟨[(0,.sl (.ints l)),(1,.i n)],[],[999]⟩) rfl ?_
 refine W.lenOf 0 (.ints l) (by kernel_rfl) ?_
 intro hl_l; replace hl_l : List.length l ≤ 9223372036854775807 := hl_l
 refine W.K cok tab41 hnt [] [0,1] (⟨[(0,.sl (.ints l)),(1,.i n)],[],[999]⟩)
  (True ∧ True) (by kernel_rfl)
  ⟨tt,tt⟩ ?_
 refine W.seq ?_
 refine W.K cok tab41 hnt [] [0,1,5] (⟨[(0,.sl (.ints l)),(1,.i n),(5,.i (0 : Int))],[],[999]⟩)
  (True ∧ True) (by kernel_rfl)
  ⟨tt,tt⟩ ?_
 refine W.block ?_
 refine W.loop (ι := Nat) (fun (i : Nat) => (⟨[(0,.sl (.ints l)),(1,.i n),(5,.i ((i : Nat) : Int))],[],[999]⟩ : St))
  (fun (i : Nat) => (i ≤ l.length) ∧ (∀ j,j < i → decide (l.getD j 0 = n) = false))
  (fun (i : Nat) => (l.length - i : Nat)) (0) ?_ ?_ ?_
 ·exact (show (0 ≤ l.length) ∧ (∀ j,j < 0 → decide (l.getD j 0 = n) = false) from ⟨(by first | assumption | omega | rfl | (intro _ hjj; omega) | (simp; done) | (simp; omega)),(by exact upto_zero)⟩)
 ·exact Sub.of [] (@cast ((((.ints l : Dat) = .ints l) ∧ (((.int .i64 n : Value) = .int .i64 n) ∧ (((.int .i64 (0 : Int) : Value) = .int .i64 ((0 : Nat) : Int)) ∧ True))) ∧ (True ∧ ((true = true) ∧ (true = true)))) _ (by kernel_rfl) ⟨⟨rfl,rfl,(congrArg (Value.int .i64) (by first | rfl | omega | assumption | simp | simp_all)),tt⟩,tt,rfl,rfl⟩)
 ·rintro i hC0
  have hC : (i ≤ l.length) ∧ (∀ j,j < i → decide (l.getD j 0 = n) = false) := hC0
  clear hC0
  obtain ⟨hi,hA⟩ := hC
  refine W.to (⟨[(0,.sl (.ints l)),(1,.i n),(5,.i ((i : Nat) : Int))],[],[999]⟩) rfl ?_
  refine W.seq ?_
  refine W.K cok tab41 hnt [] [0,1,5,9] (⟨[(0,.sl (.ints l)),(1,.i n),(5,.i ((i : Nat) : Int)),(9,.b (decide (((i : Nat) : Int) < (l.length : Int))))],[],[999]⟩)
   (True ∧ True ∧ True ∧ (True ∧ True ∧ True) ∧ True) (by kernel_rfl)
   ⟨tt,tt,tt,⟨tt,tt,tt⟩,tt⟩ ?_
  refine W.ifP (((i : Nat) : Int) < (l.length : Int)) (.b (decide (((i : Nat) : Int) < (l.length : Int)))) (by kernel_rfl) rfl trivial ?_ ?_
  ·intro h9
   refine W.skip (thenQ_normal ?_)
   refine W.seq ?_
   refine W.block ?_
   refine W.K cok tab41 hnt [] [0,1,5,17] (⟨[(0,.sl (.ints l)),(1,.i n),(5,.i ((i : Nat) : Int)),(17,.b (decide ((l.getD i 0) = n)))],[],[999]⟩)
    (True ∧ True ∧ (True ∧ True ∧ (0 ≤ ((i : Nat) : Int)) ∧ (((i : Nat) : Int) < (l.length : Int))) ∧ True ∧ True ∧ (True ∧ True ∧ True) ∧ True) (by kernel_rfl)
    ⟨tt,tt,⟨tt,tt,(by omega),(by omega)⟩,tt,tt,⟨tt,tt,tt⟩,tt⟩ ?_
   refine W.ifP ((l.getD i 0) = n) (.b (decide ((l.getD i 0) = n))) (by kernel_rfl) rfl trivial ?_ ?_
   ·intro h17
    refine W.K cok tab41 hnt [] [4] (⟨[(4,.b true)],[],[999]⟩)
     (True ∧ True) (by kernel_rfl)
     ⟨tt,tt⟩ ?_
    refine W.ret (blockQ_ret (thenQ_ret (thenQ_ret (blockQ_ret (thenQ_ret ?_)))))
    exact endQ_ret (.b true) (by kernel_rfl) (@cast ((.bool true : Value) = .bool (hasInt l n)) _ (by kernel_rfl) (congrArg Value.bool (by unfold hasInt; symm; exact anyN_true (i := i) (by omega) (decide_eq_true h17))))
   ·intro n17
    refine W.skip (blockQ_normal (thenQ_normal ?_))
    refine W.L cok tab41 hnt [] (⟨[(0,.sl (.ints l)),(1,.i n),(5,.i (((i + 1) : Nat) : Int)),(10,.i ((i : Nat) : Int)),(11,.i (((i + 1) : Nat) : Int)),(17,.b (decide ((l.getD i 0) = n)))],[],[999]⟩)
     (True ∧ (True ∧ True ∧ (Fits .i64 (((i + 1) : Nat) : Int))) ∧ True ∧ True) (by kernel_rfl)
     ⟨tt,⟨tt,tt,(by exact fits_i64 (by omega) (by omega))⟩,tt,tt⟩ ?_
    refine thenQ_normal ?_
    refine ⟨((i + 1)),(show ((i + 1) ≤ l.length) ∧ (∀ j,j < (i + 1) → decide (l.getD j 0 = n) = false) from ⟨(by first | assumption | omega | rfl | (intro _ hjj; omega) | (simp; done) | (simp; omega)),(by exact upto_succ hA (decide_eq_false n17))⟩),(show l.length - (i + 1) < l.length - i from (by first | omega | (simp_all; omega))),?_⟩
    exact Sub.of [] (@cast ((((.ints l : Dat) = .ints l) ∧ (((.int .i64 n : Value) = .int .i64 n) ∧ (((.int .i64 (((i + 1) : Nat) : Int) : Value) = .int .i64 (((i + 1) : Nat) : Int)) ∧ True))) ∧ (True ∧ ((true = true) ∧ (true = true)))) _ (by kernel_rfl) ⟨⟨rfl,rfl,rfl,tt⟩,tt,rfl,rfl⟩)
  ·intro n9
   refine W.exit (thenQ_exit (thenQ_exit (blockQ_hit ?_)))
   refine thenQ_normal ?_
   refine W.K cok tab41 hnt [] [4] (⟨[(4,.b false)],[],[999]⟩)
    (True ∧ True) (by kernel_rfl)
    ⟨tt,tt⟩ ?_
   refine W.ret ?_
   exact endQ_ret (.b false) (by kernel_rfl) (@cast ((.bool false : Value) = .bool (hasInt l n)) _ (by kernel_rfl) (congrArg Value.bool (by unfold hasInt; symm; exact anyN_false (fun j hj => hA j (by omega)))))
theorem ent41 : Entr prog 41 := ⟨_,func41,rfl,by decide⟩
end Go.Proofs.Try
