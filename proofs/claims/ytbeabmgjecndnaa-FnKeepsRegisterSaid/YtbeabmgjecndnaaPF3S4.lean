import Derived.Test.YtbeabmgjecndnaaPF3S0
import Derived.Test.YtbeabmgjecndnaaPF3S3
import Derived.Test.YtbeabmgjecndnaaPF3S1
set_option linter.unusedSimpArgs false
set_option linter.unusedVariables false
namespace Go.Proofs.Try
open Go.Ab Go.RowKit
def fs17 : FnS := fnS [.s .calls] [.calls] (fun _ (h,_) => (.b (oneWriter h),[],True))
abbrev T17 : Tab := lk [(27,fs27)]
theorem tab17 : TabOK prog T17 := (TabOK.cons ok27 ent27 TabOK.nil)
set_option maxRecDepth 100000 in
set_option maxHeartbeats 1000000 in
theorem ok17 : FnOK prog 17 fs17 := by
 refine FnOK.mk cok func17 rfl rfl rfl ?_
 rintro fl ⟨(h : List CallD),_⟩ hpre F hnt0 _
 have hnt : F.nt = 92 := hnt0.trans ntmps17
 clear hpre
 refine W.to (⟨[(0,.sl (.calls h))],[],[999]⟩) rfl ?_
 refine W.lenOf 0 (.calls h) (by kernel_rfl) ?_
 intro hl_h; replace hl_h : List.length h ≤ 9223372036854775807 := hl_h
 refine Kk cok tab17 hnt [] [0] (⟨[(0,.sl (.calls h))],[],[999]⟩)
  (True ∧ True)
  ⟨tt,tt⟩ ?_
 refine W.seq ?_
 refine Kk cok tab17 hnt [] [0,7] (⟨[(0,.sl (.calls h)),(7,.b (!(validHistory h)))],[],[999]⟩)
  (True ∧ (True ∧ (True ∧ True) ∧ True) ∧ True ∧ True)
  ⟨tt,⟨tt,⟨tt,tt⟩,tt⟩,tt,tt⟩ ?_
 refine W.if' (!(validHistory h)) (.b (!(validHistory h))) (by kernel_rfl) rfl trivial ?_ ?_
 ·intro h7
  refine Kk cok tab17 hnt [] [2] (⟨[(2,.b false)],[],[999]⟩)
   (True ∧ True)
   ⟨tt,tt⟩ ?_
  refine W.ret (thenQ_ret ?_)
  exact endQ_ret (.b false) (by kernel_rfl) (@cast ((.bool false : Value) = .bool (oneWriter h)) _ (by kernel_rfl) (congrArg Value.bool (by unfold oneWriter; symm; exact and_fl (not_f h7))))
 ·intro n7
  refine W.skip (thenQ_normal ?_)
  refine W.seq ?_
  refine Kk cok tab17 hnt [] [0,3] (⟨[(0,.sl (.calls h)),(3,.i (0 : Int))],[],[999]⟩)
   (True ∧ True)
   ⟨tt,tt⟩ ?_
  refine W.block ?_
  refine W.loop (ι := Nat) (fun (i : Nat) => (⟨[(0,.sl (.calls h)),(3,.i ((i : Nat) : Int))],[],[999]⟩ : St))
   (fun (i : Nat) => (i ≤ h.length) ∧ (∀ j,j < i → (owOK (callAt h j) && allN j (fun k => !samePut (callAt h j) (callAt h k))) = true))
   (fun (i : Nat) => (h.length - i : Nat)) (0) ?_ ?_ ?_
  ·exact (show (0 ≤ h.length) ∧ (∀ j,j < 0 → (owOK (callAt h j) && allN j (fun k => !samePut (callAt h j) (callAt h k))) = true) from ⟨(by first | assumption | omega | rfl | (intro _ hjj; omega) | (simp; done) | (simp; omega)),(by exact upto_zero)⟩)
  ·exact Sub.of [] (@cast (((Sd (.calls h)) ∧ ((.int .i64 (0 : Int) : Value) = .int .i64 ((0 : Nat) : Int)) ∧ True) ∧ True ∧ (true = true) ∧ (true = true)) _ (by kernel_rfl) ⟨⟨rfl,(congrArg (Value.int .i64) (by first | rfl | omega | assumption | simp | simp_all)),tt⟩,tt,rfl,rfl⟩)
  ·rintro i hC0
   have hC : (i ≤ h.length) ∧ (∀ j,j < i → (owOK (callAt h j) && allN j (fun k => !samePut (callAt h j) (callAt h k))) = true) := hC0
   clear hC0
   obtain ⟨hi,hA⟩ := hC
   refine W.to (⟨[(0,.sl (.calls h)),(3,.i ((i : Nat) : Int))],[],[999]⟩) rfl ?_
   refine W.seq ?_
   refine Kk cok tab17 hnt [] [0,3,11] (⟨[(0,.sl (.calls h)),(3,.i ((i : Nat) : Int)),(11,.b (decide (((i : Nat) : Int) < (h.length : Int))))],[],[999]⟩)
    (True ∧ True ∧ True ∧ (True ∧ True ∧ True) ∧ True)
    ⟨tt,tt,tt,⟨tt,tt,tt⟩,tt⟩ ?_
   refine W.ifP (((i : Nat) : Int) < (h.length : Int)) (.b (decide (((i : Nat) : Int) < (h.length : Int)))) (by kernel_rfl) rfl trivial ?_ ?_
   ·intro h11
    refine W.skip (thenQ_normal ?_)
    refine W.seq ?_
    refine W.block ?_
    refine W.seq ?_
    refine Kk cok tab17 hnt [] [0,3,59] (⟨[(0,.sl (.calls h)),(3,.i ((i : Nat) : Int)),(59,.b (((decide (((h.getD i default).obj) ≠ (0 : Int))) || (decide (((h.getD i default).kind) = (1 : Int)))) || ((decide (((h.getD i default).kind) = (0 : Int))) && (((decide (((h.getD i default).proc) ≠ (0 : Int))) || (decide (((h.getD i default).arg) = (0 : Int)))) || (decide (((h.getD i default).ret) ≠ (0 : Int)))))))],[],[999]⟩)
     ((fun (Z1:Bool)=>((fun (Z2:Bool)=>((fun (Z3:Bool)=>((fun (Z4:Bool)=>((fun (Z5:Bool)=>((fun (Z6:Bool)=>((fun (Z7:Bool)=>((fun (Z8:Bool)=>((fun (Z9:Bool)=>(True ∧ (True ∧ ((True ∧ (True ∧ ((0 ≤ ((i : Nat) : Int)) ∧ (((i : Nat) : Int) < (h.length : Int))))) ∧ (True ∧ (True ∧ ((True ∧ (True ∧ True)) ∧ (True ∧ (((!Z2) = true → True) ∧ (((!Z2) = true → True) ∧ (((!Z2) = true → ((((!Z2) = true) ∧ True) ∧ ((((!Z2) = true) ∧ True) ∧ ((0 ≤ ((i : Nat) : Int)) ∧ (((i : Nat) : Int) < (h.length : Int)))))) ∧ (((!Z2) = true → (((!Z2) = true) ∧ True)) ∧ (((!Z2) = true → (((!Z2) = true) ∧ True)) ∧ (((!Z2) = true → ((((!Z2) = true) ∧ True) ∧ (True ∧ True))) ∧ ((True ∧ ((Z2 = true → True) ∧ (Z2 = false → ((!Z2) = true) ∧ True))) ∧ (True ∧ ((Z6 = true → True) ∧ ((Z6 = true → True) ∧ ((Z6 = true → (((Z6 = true) ∧ True) ∧ (((Z6 = true) ∧ True) ∧ ((0 ≤ ((i : Nat) : Int)) ∧ (((i : Nat) : Int) < (h.length : Int)))))) ∧ ((Z6 = true → ((Z6 = true) ∧ True)) ∧ ((Z6 = true → ((Z6 = true) ∧ True)) ∧ ((Z6 = true → (((Z6 = true) ∧ True) ∧ (True ∧ True))) ∧ ((Z6 = true → True) ∧ ((Z7 = true → True) ∧ ((Z7 = true → True) ∧ ((Z7 = true → (((Z7 = true) ∧ True) ∧ (((Z7 = true) ∧ True) ∧ ((0 ≤ ((i : Nat) : Int)) ∧ (((i : Nat) : Int) < (h.length : Int)))))) ∧ ((Z7 = true → ((Z7 = true) ∧ True)) ∧ ((Z7 = true → ((Z7 = true) ∧ True)) ∧ ((Z7 = true → (((Z7 = true) ∧ True) ∧ (True ∧ True))) ∧ ((Z7 = true → True) ∧ ((Z8 = true → True) ∧ ((Z8 = true → True) ∧ ((Z8 = true → (((Z8 = true) ∧ True) ∧ (((Z8 = true) ∧ True) ∧ ((0 ≤ ((i : Nat) : Int)) ∧ (((i : Nat) : Int) < (h.length : Int)))))) ∧ ((Z8 = true → ((Z8 = true) ∧ True)) ∧ ((Z8 = true → ((Z8 = true) ∧ True)) ∧ ((Z8 = true → (((Z8 = true) ∧ True) ∧ (True ∧ True))) ∧ ((Z7 = true → (((Z7 = true) ∧ ((Z7 = true) ∧ True)) ∧ ((Z3 = true → True) ∧ (Z3 = false → (Z8 = true) ∧ True)))) ∧ ((Z7 = true → True) ∧ ((Z9 = true → True) ∧ ((Z9 = true → True) ∧ ((Z9 = true → (((Z9 = true) ∧ True) ∧ (((Z9 = true) ∧ True) ∧ ((0 ≤ ((i : Nat) : Int)) ∧ (((i : Nat) : Int) < (h.length : Int)))))) ∧ ((Z9 = true → ((Z9 = true) ∧ True)) ∧ ((Z9 = true → ((Z9 = true) ∧ True)) ∧ ((Z9 = true → (((Z9 = true) ∧ True) ∧ (True ∧ True))) ∧ ((Z7 = true → (((Z7 = true) ∧ ((Z7 = true) ∧ True)) ∧ ((Z4 = true → True) ∧ (Z4 = false → (Z9 = true) ∧ True)))) ∧ ((Z6 = true → (((Z6 = true) ∧ ((Z6 = true) ∧ True)) ∧ ((Z1 = true → (Z7 = true) ∧ True) ∧ (Z1 = false → True)))) ∧ ((True ∧ ((Z5 = true → True) ∧ (Z5 = false → (Z6 = true) ∧ True))) ∧ True))))))))))))))))))))))))))))))))))))))))))))))) (Z7 && (Z7 && (!Z4))))) (Z7 && (Z7 && (!Z3))))) (Z6 && (Z6 && Z1)))) (!Z5))) (Z2 || (decide (((h.getD i default).kind) = (1 : Int)))))) (Z3 || (decide (((h.getD i default).arg) = (0 : Int)))))) (decide (((h.getD i default).proc) ≠ (0 : Int))))) (decide (((h.getD i default).obj) ≠ (0 : Int))))) (decide (((h.getD i default).kind) = (0 : Int))))
     ⟨tt,tt,⟨tt,tt,(by omega),(by omega)⟩,tt,tt,⟨tt,tt,tt⟩,tt,(fun _ => trivial),(fun _ => trivial),(fun hG => ⟨⟨hG,tt⟩,⟨hG,tt⟩,(by have hg0 : ¬ (((h.getD i default).obj) ≠ (0 : Int)) := of_decide_eq_false (not_f hG); omega),(by have hg0 : ¬ (((h.getD i default).obj) ≠ (0 : Int)) := of_decide_eq_false (not_f hG); omega)⟩),(fun hG => ⟨hG,tt⟩),(fun hG => ⟨hG,tt⟩),(fun hG => ⟨⟨hG,tt⟩,tt,tt⟩),⟨tt,(fun _ => trivial),(fun hp => ⟨(not_t hp),tt⟩)⟩,tt,(fun _ => trivial),(fun _ => trivial),(fun hG => ⟨⟨hG,tt⟩,⟨hG,tt⟩,(by have hg0 : ¬ (((h.getD i default).obj) ≠ (0 : Int)) := of_decide_eq_false (or_l (not_f hG)); have hg1 : ¬ (((h.getD i default).kind) = (1 : Int)) := of_decide_eq_false (or_r (not_f hG)); omega),(by have hg0 : ¬ (((h.getD i default).obj) ≠ (0 : Int)) := of_decide_eq_false (or_l (not_f hG)); have hg1 : ¬ (((h.getD i default).kind) = (1 : Int)) := of_decide_eq_false (or_r (not_f hG)); omega)⟩),(fun hG => ⟨hG,tt⟩),(fun hG => ⟨hG,tt⟩),(fun hG => ⟨⟨hG,tt⟩,tt,tt⟩),(fun _ => trivial),(fun _ => trivial),(fun _ => trivial),(fun hG => ⟨⟨hG,tt⟩,⟨hG,tt⟩,(by have hg0 : ¬ (((h.getD i default).obj) ≠ (0 : Int)) := of_decide_eq_false (or_l (not_f (and_l hG))); have hg1 : ¬ (((h.getD i default).kind) = (1 : Int)) := of_decide_eq_false (or_r (not_f (and_l hG))); have hg2 : ¬ (((h.getD i default).obj) ≠ (0 : Int)) := of_decide_eq_false (or_l (not_f (and_l (and_r hG)))); have hg3 : ¬ (((h.getD i default).kind) = (1 : Int)) := of_decide_eq_false (or_r (not_f (and_l (and_r hG)))); have hg4 : ((h.getD i default).kind) = (0 : Int) := of_decide_eq_true (and_r (and_r hG)); omega),(by have hg0 : ¬ (((h.getD i default).obj) ≠ (0 : Int)) := of_decide_eq_false (or_l (not_f (and_l hG))); have hg1 : ¬ (((h.getD i default).kind) = (1 : Int)) := of_decide_eq_false (or_r (not_f (and_l hG))); have hg2 : ¬ (((h.getD i default).obj) ≠ (0 : Int)) := of_decide_eq_false (or_l (not_f (and_l (and_r hG)))); have hg3 : ¬ (((h.getD i default).kind) = (1 : Int)) := of_decide_eq_false (or_r (not_f (and_l (and_r hG)))); have hg4 : ((h.getD i default).kind) = (0 : Int) := of_decide_eq_true (and_r (and_r hG)); omega)⟩),(fun hG => ⟨hG,tt⟩),(fun hG => ⟨hG,tt⟩),(fun hG => ⟨⟨hG,tt⟩,tt,tt⟩),(fun _ => trivial),(fun _ => trivial),(fun _ => trivial),(fun hG => ⟨⟨hG,tt⟩,⟨hG,tt⟩,(by have hg0 : ¬ (((h.getD i default).obj) ≠ (0 : Int)) := of_decide_eq_false (or_l (not_f (and_l (and_l hG)))); have hg1 : ¬ (((h.getD i default).kind) = (1 : Int)) := of_decide_eq_false (or_r (not_f (and_l (and_l hG)))); have hg2 : ¬ (((h.getD i default).obj) ≠ (0 : Int)) := of_decide_eq_false (or_l (not_f (and_l (and_r (and_l hG))))); have hg3 : ¬ (((h.getD i default).kind) = (1 : Int)) := of_decide_eq_false (or_r (not_f (and_l (and_r (and_l hG))))); have hg4 : ((h.getD i default).kind) = (0 : Int) := of_decide_eq_true (and_r (and_r (and_l hG))); have hg5 : ¬ (((h.getD i default).obj) ≠ (0 : Int)) := of_decide_eq_false (or_l (not_f (and_l (and_l (and_r hG))))); have hg6 : ¬ (((h.getD i default).kind) = (1 : Int)) := of_decide_eq_false (or_r (not_f (and_l (and_l (and_r hG))))); have hg7 : ¬ (((h.getD i default).obj) ≠ (0 : Int)) := of_decide_eq_false (or_l (not_f (and_l (and_r (and_l (and_r hG)))))); have hg8 : ¬ (((h.getD i default).kind) = (1 : Int)) := of_decide_eq_false (or_r (not_f (and_l (and_r (and_l (and_r hG)))))); have hg9 : ((h.getD i default).kind) = (0 : Int) := of_decide_eq_true (and_r (and_r (and_l (and_r hG)))); have hg10 : ¬ (((h.getD i default).proc) ≠ (0 : Int)) := of_decide_eq_false (not_f (and_r (and_r hG))); omega),(by have hg0 : ¬ (((h.getD i default).obj) ≠ (0 : Int)) := of_decide_eq_false (or_l (not_f (and_l (and_l hG)))); have hg1 : ¬ (((h.getD i default).kind) = (1 : Int)) := of_decide_eq_false (or_r (not_f (and_l (and_l hG)))); have hg2 : ¬ (((h.getD i default).obj) ≠ (0 : Int)) := of_decide_eq_false (or_l (not_f (and_l (and_r (and_l hG))))); have hg3 : ¬ (((h.getD i default).kind) = (1 : Int)) := of_decide_eq_false (or_r (not_f (and_l (and_r (and_l hG))))); have hg4 : ((h.getD i default).kind) = (0 : Int) := of_decide_eq_true (and_r (and_r (and_l hG))); have hg5 : ¬ (((h.getD i default).obj) ≠ (0 : Int)) := of_decide_eq_false (or_l (not_f (and_l (and_l (and_r hG))))); have hg6 : ¬ (((h.getD i default).kind) = (1 : Int)) := of_decide_eq_false (or_r (not_f (and_l (and_l (and_r hG))))); have hg7 : ¬ (((h.getD i default).obj) ≠ (0 : Int)) := of_decide_eq_false (or_l (not_f (and_l (and_r (and_l (and_r hG)))))); have hg8 : ¬ (((h.getD i default).kind) = (1 : Int)) := of_decide_eq_false (or_r (not_f (and_l (and_r (and_l (and_r hG)))))); have hg9 : ((h.getD i default).kind) = (0 : Int) := of_decide_eq_true (and_r (and_r (and_l (and_r hG)))); have hg10 : ¬ (((h.getD i default).proc) ≠ (0 : Int)) := of_decide_eq_false (not_f (and_r (and_r hG))); omega)⟩),(fun hG => ⟨hG,tt⟩),(fun hG => ⟨hG,tt⟩),(fun hG => ⟨⟨hG,tt⟩,tt,tt⟩),(fun hG => ⟨⟨hG,hG,tt⟩,(fun _ => trivial),(fun hp => ⟨(and_t hG (and_t hG (not_t hp))),tt⟩)⟩),(fun _ => trivial),(fun _ => trivial),(fun _ => trivial),(fun hG => ⟨⟨hG,tt⟩,⟨hG,tt⟩,(by have hg0 : ¬ (((h.getD i default).obj) ≠ (0 : Int)) := of_decide_eq_false (or_l (not_f (and_l (and_l hG)))); have hg1 : ¬ (((h.getD i default).kind) = (1 : Int)) := of_decide_eq_false (or_r (not_f (and_l (and_l hG)))); have hg2 : ¬ (((h.getD i default).obj) ≠ (0 : Int)) := of_decide_eq_false (or_l (not_f (and_l (and_r (and_l hG))))); have hg3 : ¬ (((h.getD i default).kind) = (1 : Int)) := of_decide_eq_false (or_r (not_f (and_l (and_r (and_l hG))))); have hg4 : ((h.getD i default).kind) = (0 : Int) := of_decide_eq_true (and_r (and_r (and_l hG))); have hg5 : ¬ (((h.getD i default).obj) ≠ (0 : Int)) := of_decide_eq_false (or_l (not_f (and_l (and_l (and_r hG))))); have hg6 : ¬ (((h.getD i default).kind) = (1 : Int)) := of_decide_eq_false (or_r (not_f (and_l (and_l (and_r hG))))); have hg7 : ¬ (((h.getD i default).obj) ≠ (0 : Int)) := of_decide_eq_false (or_l (not_f (and_l (and_r (and_l (and_r hG)))))); have hg8 : ¬ (((h.getD i default).kind) = (1 : Int)) := of_decide_eq_false (or_r (not_f (and_l (and_r (and_l (and_r hG)))))); have hg9 : ((h.getD i default).kind) = (0 : Int) := of_decide_eq_true (and_r (and_r (and_l (and_r hG)))); have hg10 : ¬ (((h.getD i default).proc) ≠ (0 : Int)) := of_decide_eq_false (or_l (not_f (and_r (and_r hG)))); have hg11 : ¬ (((h.getD i default).arg) = (0 : Int)) := of_decide_eq_false (or_r (not_f (and_r (and_r hG)))); omega),(by have hg0 : ¬ (((h.getD i default).obj) ≠ (0 : Int)) := of_decide_eq_false (or_l (not_f (and_l (and_l hG)))); have hg1 : ¬ (((h.getD i default).kind) = (1 : Int)) := of_decide_eq_false (or_r (not_f (and_l (and_l hG)))); have hg2 : ¬ (((h.getD i default).obj) ≠ (0 : Int)) := of_decide_eq_false (or_l (not_f (and_l (and_r (and_l hG))))); have hg3 : ¬ (((h.getD i default).kind) = (1 : Int)) := of_decide_eq_false (or_r (not_f (and_l (and_r (and_l hG))))); have hg4 : ((h.getD i default).kind) = (0 : Int) := of_decide_eq_true (and_r (and_r (and_l hG))); have hg5 : ¬ (((h.getD i default).obj) ≠ (0 : Int)) := of_decide_eq_false (or_l (not_f (and_l (and_l (and_r hG))))); have hg6 : ¬ (((h.getD i default).kind) = (1 : Int)) := of_decide_eq_false (or_r (not_f (and_l (and_l (and_r hG))))); have hg7 : ¬ (((h.getD i default).obj) ≠ (0 : Int)) := of_decide_eq_false (or_l (not_f (and_l (and_r (and_l (and_r hG)))))); have hg8 : ¬ (((h.getD i default).kind) = (1 : Int)) := of_decide_eq_false (or_r (not_f (and_l (and_r (and_l (and_r hG)))))); have hg9 : ((h.getD i default).kind) = (0 : Int) := of_decide_eq_true (and_r (and_r (and_l (and_r hG)))); have hg10 : ¬ (((h.getD i default).proc) ≠ (0 : Int)) := of_decide_eq_false (or_l (not_f (and_r (and_r hG)))); have hg11 : ¬ (((h.getD i default).arg) = (0 : Int)) := of_decide_eq_false (or_r (not_f (and_r (and_r hG)))); omega)⟩),(fun hG => ⟨hG,tt⟩),(fun hG => ⟨hG,tt⟩),(fun hG => ⟨⟨hG,tt⟩,tt,tt⟩),(fun hG => ⟨⟨hG,hG,tt⟩,(fun _ => trivial),(fun hp => ⟨(and_t hG (and_t hG (not_t hp))),tt⟩)⟩),(fun hG => ⟨⟨hG,hG,tt⟩,(fun hp => ⟨(and_t hG (and_t hG hp)),tt⟩),(fun _ => trivial)⟩),⟨tt,(fun _ => trivial),(fun hp => ⟨(not_t hp),tt⟩)⟩,tt⟩ ?_
    refine W.if' (((decide (((h.getD i default).obj) ≠ (0 : Int))) || (decide (((h.getD i default).kind) = (1 : Int)))) || ((decide (((h.getD i default).kind) = (0 : Int))) && (((decide (((h.getD i default).proc) ≠ (0 : Int))) || (decide (((h.getD i default).arg) = (0 : Int)))) || (decide (((h.getD i default).ret) ≠ (0 : Int)))))) (.b (((decide (((h.getD i default).obj) ≠ (0 : Int))) || (decide (((h.getD i default).kind) = (1 : Int)))) || ((decide (((h.getD i default).kind) = (0 : Int))) && (((decide (((h.getD i default).proc) ≠ (0 : Int))) || (decide (((h.getD i default).arg) = (0 : Int)))) || (decide (((h.getD i default).ret) ≠ (0 : Int))))))) (by kernel_rfl) rfl trivial ?_ ?_
    ·intro h59
     refine Kk cok tab17 hnt [] [2] (⟨[(2,.b false)],[],[999]⟩)
      (True ∧ True)
      ⟨tt,tt⟩ ?_
     refine W.ret (thenQ_ret (blockQ_ret (thenQ_ret (thenQ_ret (blockQ_ret (thenQ_ret ?_))))))
     exact endQ_ret (.b false) (by kernel_rfl) (@cast ((.bool false : Value) = .bool (oneWriter h)) _ (by kernel_rfl) (congrArg Value.bool (by unfold oneWriter; symm; exact and_fr (allN_false (i := i) (by omega) (and_fl (ow_5 h59))))))
    ·intro n59
     have n59_0 : ¬ (((h.getD i default).obj) ≠ (0 : Int)) := of_decide_eq_false (or_l (or_l n59))
     have n59_1 : ¬ (((h.getD i default).kind) = (1 : Int)) := of_decide_eq_false (or_r (or_l n59))
     refine W.skip (thenQ_normal ?_)
     refine Kk cok tab17 hnt [] [0,3,4] (⟨[(0,.sl (.calls h)),(3,.i ((i : Nat) : Int)),(4,.i (0 : Int))],[],[999]⟩)
      (True ∧ True)
      ⟨tt,tt⟩ ?_
     refine W.block ?_
     refine W.loop (ι := Nat) (fun (k : Nat) => (⟨[(0,.sl (.calls h)),(3,.i ((i : Nat) : Int)),(4,.i ((k : Nat) : Int))],[],[999]⟩ : St))
      (fun (k : Nat) => (k ≤ i) ∧ (∀ j,j < k → (!samePut (callAt h i) (callAt h j)) = true))
      (fun (k : Nat) => (i - k : Nat)) (0) ?_ ?_ ?_
     ·exact (show (0 ≤ i) ∧ (∀ j,j < 0 → (!samePut (callAt h i) (callAt h j)) = true) from ⟨(by first | assumption | omega | rfl | (intro _ hjj; omega) | (simp; done) | (simp; omega)),(by exact upto_zero)⟩)
     ·exact Sub.of [] (@cast (((Sd (.calls h)) ∧ (Si ((i : Nat) : Int)) ∧ ((.int .i64 (0 : Int) : Value) = .int .i64 ((0 : Nat) : Int)) ∧ True) ∧ True ∧ (true = true) ∧ (true = true)) _ (by kernel_rfl) ⟨⟨rfl,rfl,(congrArg (Value.int .i64) (by first | rfl | omega | assumption | simp | simp_all)),tt⟩,tt,rfl,rfl⟩)
     ·rintro k hC0
      have hC : (k ≤ i) ∧ (∀ j,j < k → (!samePut (callAt h i) (callAt h j)) = true) := hC0
      clear hC0
      obtain ⟨hk,hB⟩ := hC
      refine W.to (⟨[(0,.sl (.calls h)),(3,.i ((i : Nat) : Int)),(4,.i ((k : Nat) : Int))],[],[999]⟩) rfl ?_
      refine W.seq ?_
      refine Kk cok tab17 hnt [] [0,3,4,62] (⟨[(0,.sl (.calls h)),(3,.i ((i : Nat) : Int)),(4,.i ((k : Nat) : Int)),(62,.b (decide (((k : Nat) : Int) < ((i : Nat) : Int))))],[],[999]⟩)
       (True ∧ True ∧ (True ∧ True ∧ True) ∧ True)
       ⟨tt,tt,⟨tt,tt,tt⟩,tt⟩ ?_
      refine W.ifP (((k : Nat) : Int) < ((i : Nat) : Int)) (.b (decide (((k : Nat) : Int) < ((i : Nat) : Int)))) (by kernel_rfl) rfl trivial ?_ ?_
      ·intro h62
       refine W.skip (thenQ_normal ?_)
       refine W.seq ?_
       refine W.block ?_
       refine W.KA cok tab17 hnt [] [0,3,4,91] (⟨[(0,.sl (.calls h)),(3,.i ((i : Nat) : Int)),(4,.i ((k : Nat) : Int)),(91,.b (((decide (((h.getD i default).kind) = (0 : Int))) && (decide (((h.getD k default).kind) = (0 : Int)))) && (decide (((h.getD i default).arg) = ((h.getD k default).arg)))))],[],[999]⟩)
        ((fun (Z1:Bool)=>((fun (Z2:Bool)=>(True ∧ (True ∧ ((True ∧ (True ∧ ((0 ≤ ((i : Nat) : Int)) ∧ (((i : Nat) : Int) < (h.length : Int))))) ∧ (True ∧ (True ∧ ((True ∧ (True ∧ True)) ∧ (True ∧ ((Z1 = true → True) ∧ ((Z1 = true → True) ∧ ((Z1 = true → (((Z1 = true) ∧ True) ∧ (((Z1 = true) ∧ True) ∧ ((0 ≤ ((k : Nat) : Int)) ∧ (((k : Nat) : Int) < (h.length : Int)))))) ∧ ((Z1 = true → ((Z1 = true) ∧ True)) ∧ ((Z1 = true → ((Z1 = true) ∧ True)) ∧ ((Z1 = true → (((Z1 = true) ∧ True) ∧ (True ∧ True))) ∧ ((True ∧ ((Z1 = true → (Z1 = true) ∧ True) ∧ (Z1 = false → True))) ∧ (True ∧ ((Z2 = true → True) ∧ ((Z2 = true → True) ∧ ((Z2 = true → (((Z2 = true) ∧ True) ∧ (((Z2 = true) ∧ True) ∧ ((0 ≤ ((i : Nat) : Int)) ∧ (((i : Nat) : Int) < (h.length : Int)))))) ∧ ((Z2 = true → ((Z2 = true) ∧ True)) ∧ ((Z2 = true → ((Z2 = true) ∧ True)) ∧ ((Z2 = true → True) ∧ ((Z2 = true → True) ∧ ((Z2 = true → (((Z2 = true) ∧ True) ∧ (((Z2 = true) ∧ True) ∧ ((0 ≤ ((k : Nat) : Int)) ∧ (((k : Nat) : Int) < (h.length : Int)))))) ∧ ((Z2 = true → ((Z2 = true) ∧ True)) ∧ ((Z2 = true → ((Z2 = true) ∧ True)) ∧ ((Z2 = true → (((Z2 = true) ∧ True) ∧ (((Z2 = true) ∧ True) ∧ True))) ∧ ((True ∧ ((Z2 = true → (Z2 = true) ∧ True) ∧ (Z2 = false → True))) ∧ True)))))))))))))))))))))))))))) (Z1 && (decide (((h.getD k default).kind) = (0 : Int)))))) (decide (((h.getD i default).kind) = (0 : Int)))) (by kernel_rfl) (by kernel_rfl)
        ⟨tt,tt,⟨tt,tt,(by omega),(by omega)⟩,tt,tt,⟨tt,tt,tt⟩,tt,(fun _ => trivial),(fun _ => trivial),(fun hG => ⟨⟨hG,tt⟩,⟨hG,tt⟩,(by have hg0 : ((h.getD i default).kind) = (0 : Int) := of_decide_eq_true hG; omega),(by have hg0 : ((h.getD i default).kind) = (0 : Int) := of_decide_eq_true hG; omega)⟩),(fun hG => ⟨hG,tt⟩),(fun hG => ⟨hG,tt⟩),(fun hG => ⟨⟨hG,tt⟩,tt,tt⟩),⟨tt,(fun hp => ⟨hp,tt⟩),(fun _ => trivial)⟩,tt,(fun _ => trivial),(fun _ => trivial),(fun hG => ⟨⟨hG,tt⟩,⟨hG,tt⟩,(by have hg0 : ((h.getD i default).kind) = (0 : Int) := of_decide_eq_true (and_l hG); have hg1 : ((h.getD k default).kind) = (0 : Int) := of_decide_eq_true (and_r hG); omega),(by have hg0 : ((h.getD i default).kind) = (0 : Int) := of_decide_eq_true (and_l hG); have hg1 : ((h.getD k default).kind) = (0 : Int) := of_decide_eq_true (and_r hG); omega)⟩),(fun hG => ⟨hG,tt⟩),(fun hG => ⟨hG,tt⟩),(fun _ => trivial),(fun _ => trivial),(fun hG => ⟨⟨hG,tt⟩,⟨hG,tt⟩,(by have hg0 : ((h.getD i default).kind) = (0 : Int) := of_decide_eq_true (and_l hG); have hg1 : ((h.getD k default).kind) = (0 : Int) := of_decide_eq_true (and_r hG); omega),(by have hg0 : ((h.getD i default).kind) = (0 : Int) := of_decide_eq_true (and_l hG); have hg1 : ((h.getD k default).kind) = (0 : Int) := of_decide_eq_true (and_r hG); omega)⟩),(fun hG => ⟨hG,tt⟩),(fun hG => ⟨hG,tt⟩),(fun hG => ⟨⟨hG,tt⟩,⟨hG,tt⟩,tt⟩),⟨tt,(fun hp => ⟨hp,tt⟩),(fun _ => trivial)⟩,tt⟩ ?_
       refine W.if' (((decide (((h.getD i default).kind) = (0 : Int))) && (decide (((h.getD k default).kind) = (0 : Int)))) && (decide (((h.getD i default).arg) = ((h.getD k default).arg)))) (.b (((decide (((h.getD i default).kind) = (0 : Int))) && (decide (((h.getD k default).kind) = (0 : Int)))) && (decide (((h.getD i default).arg) = ((h.getD k default).arg))))) (by kernel_rfl) rfl trivial ?_ ?_
       ·intro h91
        have h91_0 : ((h.getD i default).kind) = (0 : Int) := of_decide_eq_true (and_l (and_l h91))
        have h91_1 : ((h.getD k default).kind) = (0 : Int) := of_decide_eq_true (and_r (and_l h91))
        have h91_2 : ((h.getD i default).arg) = ((h.getD k default).arg) := of_decide_eq_true (and_r h91)
        refine Kk cok tab17 hnt [] [2] (⟨[(2,.b false)],[],[999]⟩)
         (True ∧ True)
         ⟨tt,tt⟩ ?_
        refine W.ret (blockQ_ret (thenQ_ret (thenQ_ret (blockQ_ret (blockQ_ret (thenQ_ret (thenQ_ret (blockQ_ret (thenQ_ret ?_)))))))))
        exact endQ_ret (.b false) (by kernel_rfl) (@cast ((.bool false : Value) = .bool (oneWriter h)) _ (by kernel_rfl) (congrArg Value.bool (by unfold oneWriter; symm; exact and_fr (allN_false (i := i) (by omega) (and_fr (allN_false (i := k) (by omega) (put_3 h91)))))))
       ·intro n91
        refine W.skip (blockQ_normal (thenQ_normal ?_))
        refine Lk cok tab17 hnt [] (⟨[(0,.sl (.calls h)),(3,.i ((i : Nat) : Int)),(4,.i (((k + 1) : Nat) : Int)),(63,.i ((k : Nat) : Int)),(64,.i (((k + 1) : Nat) : Int)),(91,.b (((decide (((h.getD i default).kind) = (0 : Int))) && (decide (((h.getD k default).kind) = (0 : Int)))) && (decide (((h.getD i default).arg) = ((h.getD k default).arg)))))],[],[999]⟩)
         (True ∧ (True ∧ True ∧ (Fits .i64 (((k + 1) : Nat) : Int))) ∧ True ∧ True)
         ⟨tt,⟨tt,tt,(by exact fits_i64 (by omega) (by omega))⟩,tt,tt⟩ ?_
        refine thenQ_normal ?_
        refine ⟨((k + 1)),(show ((k + 1) ≤ i) ∧ (∀ j,j < (k + 1) → (!samePut (callAt h i) (callAt h j)) = true) from ⟨(by first | assumption | omega | rfl | (intro _ hjj; omega) | (simp; done) | (simp; omega)),(by exact upto_succ hB (put_4 n91))⟩),(show i - (k + 1) < i - k from (by first | omega | (simp_all; omega))),?_⟩
        exact Sub.of [] (@cast (((Sd (.calls h)) ∧ (Si ((i : Nat) : Int)) ∧ (Si (((k + 1) : Nat) : Int)) ∧ True) ∧ True ∧ (true = true) ∧ (true = true)) _ (by kernel_rfl) ⟨⟨rfl,rfl,rfl,tt⟩,tt,rfl,rfl⟩)
      ·intro n62
       refine W.exit (thenQ_exit (thenQ_exit (blockQ_hit ?_)))
       refine blockQ_normal (thenQ_normal ?_)
       refine Lk cok tab17 hnt [] (⟨[(0,.sl (.calls h)),(3,.i (((i + 1) : Nat) : Int)),(4,.i ((k : Nat) : Int)),(12,.i ((i : Nat) : Int)),(13,.i (((i + 1) : Nat) : Int)),(62,.b (decide (((k : Nat) : Int) < ((i : Nat) : Int))))],[],[999]⟩)
        (True ∧ (True ∧ True ∧ (Fits .i64 (((i + 1) : Nat) : Int))) ∧ True ∧ True)
        ⟨tt,⟨tt,tt,(by exact fits_i64 (by omega) (by omega))⟩,tt,tt⟩ ?_
       refine thenQ_normal ?_
       refine ⟨((i + 1)),(show ((i + 1) ≤ h.length) ∧ (∀ j,j < (i + 1) → (owOK (callAt h j) && allN j (fun k => !samePut (callAt h j) (callAt h k))) = true) from ⟨(by first | assumption | omega | rfl | (intro _ hjj; omega) | (simp; done) | (simp; omega)),(by exact upto_succ hA (and_t (ow_6 ((valid_iff.1 (not_g n7)).2.1 i (by omega)) n59) (allN_true (fun j hj => hB j (by omega)))))⟩),(show h.length - (i + 1) < h.length - i from (by first | omega | (simp_all; omega))),?_⟩
       exact Sub.of [] (@cast (((Sd (.calls h)) ∧ (Si (((i + 1) : Nat) : Int)) ∧ True) ∧ True ∧ (true = true) ∧ (true = true)) _ (by kernel_rfl) ⟨⟨rfl,rfl,tt⟩,tt,rfl,rfl⟩)
   ·intro n11
    refine W.exit (thenQ_exit (thenQ_exit (blockQ_hit ?_)))
    refine thenQ_normal ?_
    refine Kk cok tab17 hnt [] [2] (⟨[(2,.b true)],[],[999]⟩)
     (True ∧ True)
     ⟨tt,tt⟩ ?_
    refine W.ret ?_
    exact endQ_ret (.b true) (by kernel_rfl) (@cast ((.bool true : Value) = .bool (oneWriter h)) _ (by kernel_rfl) (congrArg Value.bool (by unfold oneWriter; symm; exact and_t (not_g n7) (allN_true (fun j hj => hA j (by omega))))))
theorem ent17 : Entr prog 17 := ⟨_,func17,rfl,by decide⟩
end Go.Proofs.Try

set_option linter.unusedSimpArgs false
set_option linter.unusedVariables false
namespace Go.Proofs.Try
open Go.Ab Go.RowKit
def fs28 : FnS := fnS [.s .calls,.o] [.calls,.int] (fun _ (h,i,_) => (.i (sourceR h (h.getD i.toNat default).ret),[],(0 ≤ i ∧ i < h.length)))
abbrev T28 : Tab := lk []
theorem tab28 : TabOK prog T28 := TabOK.nil
set_option maxRecDepth 100000 in
set_option maxHeartbeats 1000000 in
theorem ok28 : FnOK prog 28 fs28 := by
 refine FnOK.mk cok func28 rfl rfl rfl ?_
 rintro fl ⟨(h : List CallD),(i : Int),_⟩ hpre F hnt0 _
 have hnt : F.nt = 38 := hnt0.trans ntmps28
 replace hpre : (0 ≤ i ∧ i < h.length) := hpre
 have hi := hpre
 refine W.to (⟨[(0,.sl (.calls h)),(1,.i i)],[],[999]⟩) rfl ?_
 refine W.lenOf 0 (.calls h) (by kernel_rfl) ?_
 intro hl_h; replace hl_h : List.length h ≤ 9223372036854775807 := hl_h
 refine Kk cok tab28 hnt [] [0,1] (⟨[(0,.sl (.calls h)),(1,.i i)],[],[999]⟩)
  (True ∧ True)
  ⟨tt,tt⟩ ?_
 refine W.seq ?_
 refine Kk cok tab28 hnt [] [0,1,11] (⟨[(0,.sl (.calls h)),(1,.i i),(11,.b (decide (((h.getD (Int.toNat i) default).ret) = (0 : Int))))],[],[999]⟩)
  (True ∧ True ∧ (True ∧ True ∧ (0 ≤ i) ∧ (i < (h.length : Int))) ∧ True ∧ True ∧ (True ∧ True ∧ True) ∧ True)
  ⟨tt,tt,⟨tt,tt,(by omega),(by omega)⟩,tt,tt,⟨tt,tt,tt⟩,tt⟩ ?_
 refine W.ifP (((h.getD (Int.toNat i) default).ret) = (0 : Int)) (.b (decide (((h.getD (Int.toNat i) default).ret) = (0 : Int)))) (by kernel_rfl) rfl trivial ?_ ?_
 ·intro h11
  refine Kk cok tab28 hnt [] [4] (⟨[(4,.i (-1 : Int))],[],[999]⟩)
   (True ∧ True)
   ⟨tt,tt⟩ ?_
  refine W.ret (thenQ_ret ?_)
  exact endQ_ret (.i (-1 : Int)) (by kernel_rfl) (@cast ((.int .i64 (-1 : Int) : Value) = .int .i64 (sourceR h (h.getD i.toNat default).ret)) _ (by kernel_rfl) (congrArg (Value.int .i64) (by symm; exact source_neg.2 h11)))
 ·intro n11
  refine W.skip (thenQ_normal ?_)
  refine W.seq ?_
  refine Kk cok tab28 hnt [] [0,1,5] (⟨[(0,.sl (.calls h)),(1,.i i),(5,.i (0 : Int))],[],[999]⟩)
   (True ∧ True)
   ⟨tt,tt⟩ ?_
  refine W.block ?_
  refine W.loop (ι := Nat) (fun (k : Nat) => (⟨[(0,.sl (.calls h)),(1,.i i),(5,.i ((k : Nat) : Int))],[],[999]⟩ : St))
   (fun (k : Nat) => (k ≤ h.length) ∧ (∀ j,j < k → putF h (h.getD i.toNat default).ret j = false))
   (fun (k : Nat) => (h.length - k : Nat)) (0) ?_ ?_ ?_
  ·exact (show (0 ≤ h.length) ∧ (∀ j,j < 0 → putF h (h.getD i.toNat default).ret j = false) from ⟨(by first | assumption | omega | rfl | (intro _ hjj; omega) | (simp; done) | (simp; omega)),(by exact upto_zero)⟩)
  ·exact Sub.of [] (@cast (((Sd (.calls h)) ∧ (Si i) ∧ ((.int .i64 (0 : Int) : Value) = .int .i64 ((0 : Nat) : Int)) ∧ True) ∧ True ∧ (true = true) ∧ (true = true)) _ (by kernel_rfl) ⟨⟨rfl,rfl,(congrArg (Value.int .i64) (by first | rfl | omega | assumption | simp | simp_all)),tt⟩,tt,rfl,rfl⟩)
  ·rintro k hC0
   have hC : (k ≤ h.length) ∧ (∀ j,j < k → putF h (h.getD i.toNat default).ret j = false) := hC0
   clear hC0
   obtain ⟨hk,hA⟩ := hC
   refine W.to (⟨[(0,.sl (.calls h)),(1,.i i),(5,.i ((k : Nat) : Int))],[],[999]⟩) rfl ?_
   refine W.seq ?_
   refine Kk cok tab28 hnt [] [0,1,5,15] (⟨[(0,.sl (.calls h)),(1,.i i),(5,.i ((k : Nat) : Int)),(15,.b (decide (((k : Nat) : Int) < (h.length : Int))))],[],[999]⟩)
    (True ∧ True ∧ True ∧ (True ∧ True ∧ True) ∧ True)
    ⟨tt,tt,tt,⟨tt,tt,tt⟩,tt⟩ ?_
   refine W.ifP (((k : Nat) : Int) < (h.length : Int)) (.b (decide (((k : Nat) : Int) < (h.length : Int)))) (by kernel_rfl) rfl trivial ?_ ?_
   ·intro h15
    refine W.skip (thenQ_normal ?_)
    refine W.seq ?_
    refine W.block ?_
    refine W.KA cok tab28 hnt [] [0,1,5,36] (⟨[(0,.sl (.calls h)),(1,.i i),(5,.i ((k : Nat) : Int)),(36,.b ((decide (((h.getD k default).kind) = (0 : Int))) && (decide (((h.getD k default).arg) = ((h.getD (Int.toNat i) default).ret)))))],[],[999]⟩)
     ((fun (Z1:Bool)=>(True ∧ (True ∧ ((True ∧ (True ∧ ((0 ≤ ((k : Nat) : Int)) ∧ (((k : Nat) : Int) < (h.length : Int))))) ∧ (True ∧ (True ∧ ((True ∧ (True ∧ True)) ∧ (True ∧ ((Z1 = true → True) ∧ ((Z1 = true → True) ∧ ((Z1 = true → (((Z1 = true) ∧ True) ∧ (((Z1 = true) ∧ True) ∧ ((0 ≤ ((k : Nat) : Int)) ∧ (((k : Nat) : Int) < (h.length : Int)))))) ∧ ((Z1 = true → ((Z1 = true) ∧ True)) ∧ ((Z1 = true → ((Z1 = true) ∧ True)) ∧ ((Z1 = true → True) ∧ ((Z1 = true → True) ∧ ((Z1 = true → (((Z1 = true) ∧ True) ∧ (((Z1 = true) ∧ True) ∧ ((0 ≤ i) ∧ (i < (h.length : Int)))))) ∧ ((Z1 = true → ((Z1 = true) ∧ True)) ∧ ((Z1 = true → ((Z1 = true) ∧ True)) ∧ ((Z1 = true → (((Z1 = true) ∧ True) ∧ (((Z1 = true) ∧ True) ∧ True))) ∧ ((True ∧ ((Z1 = true → (Z1 = true) ∧ True) ∧ (Z1 = false → True))) ∧ True)))))))))))))))))))) (decide (((h.getD k default).kind) = (0 : Int)))) (by kernel_rfl) (by kernel_rfl)
     ⟨tt,tt,⟨tt,tt,(by omega),(by omega)⟩,tt,tt,⟨tt,tt,tt⟩,tt,(fun _ => trivial),(fun _ => trivial),(fun hG => ⟨⟨hG,tt⟩,⟨hG,tt⟩,(by have hg0 : ((h.getD k default).kind) = (0 : Int) := of_decide_eq_true hG; omega),(by have hg0 : ((h.getD k default).kind) = (0 : Int) := of_decide_eq_true hG; omega)⟩),(fun hG => ⟨hG,tt⟩),(fun hG => ⟨hG,tt⟩),(fun _ => trivial),(fun _ => trivial),(fun hG => ⟨⟨hG,tt⟩,⟨hG,tt⟩,(by have hg0 : ((h.getD k default).kind) = (0 : Int) := of_decide_eq_true hG; omega),(by have hg0 : ((h.getD k default).kind) = (0 : Int) := of_decide_eq_true hG; omega)⟩),(fun hG => ⟨hG,tt⟩),(fun hG => ⟨hG,tt⟩),(fun hG => ⟨⟨hG,tt⟩,⟨hG,tt⟩,tt⟩),⟨tt,(fun hp => ⟨hp,tt⟩),(fun _ => trivial)⟩,tt⟩ ?_
    refine W.if' ((decide (((h.getD k default).kind) = (0 : Int))) && (decide (((h.getD k default).arg) = ((h.getD (Int.toNat i) default).ret)))) (.b ((decide (((h.getD k default).kind) = (0 : Int))) && (decide (((h.getD k default).arg) = ((h.getD (Int.toNat i) default).ret))))) (by kernel_rfl) rfl trivial ?_ ?_
    ·intro h36
     have h36_0 : ((h.getD k default).kind) = (0 : Int) := of_decide_eq_true (and_l h36)
     have h36_1 : ((h.getD k default).arg) = ((h.getD (Int.toNat i) default).ret) := of_decide_eq_true (and_r h36)
     refine Kk cok tab28 hnt [] [4] (⟨[(4,.i ((k : Nat) : Int))],[],[999]⟩)
      (True ∧ True ∧ True)
      ⟨tt,tt,tt⟩ ?_
     refine W.ret (blockQ_ret (thenQ_ret (thenQ_ret (blockQ_ret (thenQ_ret ?_)))))
     exact endQ_ret (.i ((k : Nat) : Int)) (by kernel_rfl) (@cast ((.int .i64 ((k : Nat) : Int) : Value) = .int .i64 (sourceR h (h.getD i.toNat default).ret)) _ (by kernel_rfl) (congrArg (Value.int .i64) (by unfold sourceR; rw [decide_eq_false n11,fIdx_some (i := k) (by omega) h36 hA]; rfl)))
    ·intro n36
     refine W.skip (blockQ_normal (thenQ_normal ?_))
     refine Lk cok tab28 hnt [] (⟨[(0,.sl (.calls h)),(1,.i i),(5,.i (((k + 1) : Nat) : Int)),(16,.i ((k : Nat) : Int)),(17,.i (((k + 1) : Nat) : Int)),(36,.b ((decide (((h.getD k default).kind) = (0 : Int))) && (decide (((h.getD k default).arg) = ((h.getD (Int.toNat i) default).ret)))))],[],[999]⟩)
      (True ∧ (True ∧ True ∧ (Fits .i64 (((k + 1) : Nat) : Int))) ∧ True ∧ True)
      ⟨tt,⟨tt,tt,(by exact fits_i64 (by omega) (by omega))⟩,tt,tt⟩ ?_
     refine thenQ_normal ?_
     refine ⟨((k + 1)),(show ((k + 1) ≤ h.length) ∧ (∀ j,j < (k + 1) → putF h (h.getD i.toNat default).ret j = false) from ⟨(by first | assumption | omega | rfl | (intro _ hjj; omega) | (simp; done) | (simp; omega)),(by exact upto_succ hA n36)⟩),(show h.length - (k + 1) < h.length - k from (by first | omega | (simp_all; omega))),?_⟩
     exact Sub.of [] (@cast (((Sd (.calls h)) ∧ (Si i) ∧ (Si (((k + 1) : Nat) : Int)) ∧ True) ∧ True ∧ (true = true) ∧ (true = true)) _ (by kernel_rfl) ⟨⟨rfl,rfl,rfl,tt⟩,tt,rfl,rfl⟩)
   ·intro n15
    refine W.exit (thenQ_exit (thenQ_exit (blockQ_hit ?_)))
    refine thenQ_normal ?_
    refine Kk cok tab28 hnt [] [4] (⟨[(4,.i (-2 : Int))],[],[999]⟩)
     (True ∧ True)
     ⟨tt,tt⟩ ?_
    refine W.ret ?_
    exact endQ_ret (.i (-2 : Int)) (by kernel_rfl) (@cast ((.int .i64 (-2 : Int) : Value) = .int .i64 (sourceR h (h.getD i.toNat default).ret)) _ (by kernel_rfl) (congrArg (Value.int .i64) (by unfold sourceR; rw [decide_eq_false n11,fIdx_none (fun j hj => hA j (by omega))]; rfl)))
theorem ent28 : Entr prog 28 := ⟨_,func28,rfl,by decide⟩
end Go.Proofs.Try

set_option linter.unusedSimpArgs false
set_option linter.unusedVariables false
namespace Go.Proofs.Try
open Go.Ab Go.RowKit
def fs29 : FnS := fnS [.o,.o] [.call,.call] (fun _ (a,b,_) => (.b (isBefore a b),[],True))
abbrev T29 : Tab := lk []
theorem tab29 : TabOK prog T29 := TabOK.nil
set_option maxRecDepth 100000 in
set_option maxHeartbeats 1000000 in
theorem ok29 : FnOK prog 29 fs29 := by
 refine FnOK.mk cok func29 rfl rfl rfl ?_
 rintro fl ⟨(a : CallD),(b : CallD),_⟩ hpre F hnt0 _
 have hnt : F.nt = 10 := hnt0.trans ntmps29
 clear hpre
 refine W.to (⟨[(0,.agg [.i a.proc,.i a.obj,.i a.kind,.i a.arg,.i a.ret,.i a.frm,.i a.to]),(1,.agg [.i b.proc,.i b.obj,.i b.kind,.i b.arg,.i b.ret,.i b.frm,.i b.to])],[],[999]⟩) rfl ?_
 refine Kk cok tab29 hnt [] [2,3] (⟨[(2,.ptr 2 0),(3,.ptr 3 0)],[(2,⟨35,.fix [.i a.proc,.i a.obj,.i a.kind,.i a.arg,.i a.ret,.i a.frm,.i a.to]⟩),(3,⟨35,.fix [.i b.proc,.i b.obj,.i b.kind,.i b.arg,.i b.ret,.i b.frm,.i b.to]⟩)],[3,2,999]⟩)
  (True ∧ True ∧ True ∧ True)
  ⟨tt,tt,tt,tt⟩ ?_
 refine Kk cok tab29 hnt [] [4] (⟨[(4,.b (decide (a.to < b.frm)))],[(2,⟨35,.fix [.i a.proc,.i a.obj,.i a.kind,.i a.arg,.i a.ret,.i a.frm,.i a.to]⟩),(3,⟨35,.fix [.i b.proc,.i b.obj,.i b.kind,.i b.arg,.i b.ret,.i b.frm,.i b.to]⟩)],[3,2,999]⟩)
  (True ∧ True ∧ True ∧ True ∧ (True ∧ True ∧ True) ∧ True ∧ True)
  ⟨tt,tt,tt,tt,⟨tt,tt,tt⟩,tt,tt⟩ ?_
 refine W.ret ?_
 exact endQ_ret (.b (decide (a.to < b.frm))) (by kernel_rfl) (@cast ((.bool (decide (a.to < b.frm)) : Value) = .bool (isBefore a b)) _ (by kernel_rfl) (congrArg Value.bool (by first | rfl | simp_all)))
theorem ent29 : Entr prog 29 := ⟨_,func29,rfl,by decide⟩
end Go.Proofs.Try

set_option linter.unusedSimpArgs false
set_option linter.unusedVariables false
namespace Go.Proofs.Try
open Go.Ab Go.RowKit
def fs30 : FnS := fnS [.s .calls,.o] [.calls,.int] (fun _ (h,i,_) => (.i (lastBefore h (h.getD i.toNat default)),[],(oneWriter h = true) ∧ (0 ≤ i ∧ i < h.length)))
abbrev T30 : Tab := lk [(29,fs29)]
theorem tab30 : TabOK prog T30 := (TabOK.cons ok29 ent29 TabOK.nil)
set_option maxRecDepth 100000 in
set_option maxHeartbeats 1000000 in
theorem ok30 : FnOK prog 30 fs30 := by
 refine FnOK.mk cok func30 rfl rfl rfl ?_
 rintro fl ⟨(h : List CallD),(i : Int),_⟩ hpre F hnt0 _
 have hnt : F.nt = 47 := hnt0.trans ntmps30
 replace hpre : (oneWriter h = true) ∧ (0 ≤ i ∧ i < h.length) := hpre
 obtain ⟨ho,hi⟩ := hpre
 refine W.to (⟨[(0,.sl (.calls h)),(1,.i i)],[],[999]⟩) rfl ?_
 refine W.lenOf 0 (.calls h) (by kernel_rfl) ?_
 intro hl_h; replace hl_h : List.length h ≤ 9223372036854775807 := hl_h
 refine Kk cok tab30 hnt [] [0,1] (⟨[(0,.sl (.calls h)),(1,.i i)],[],[999]⟩)
  (True ∧ True)
  ⟨tt,tt⟩ ?_
 refine Kk cok tab30 hnt [] [0,1,5] (⟨[(0,.sl (.calls h)),(1,.i i),(5,.i (-1 : Int))],[],[999]⟩)
  (True ∧ True)
  ⟨tt,tt⟩ ?_
 refine W.seq ?_
 refine Kk cok tab30 hnt [] [0,1,5,6] (⟨[(0,.sl (.calls h)),(1,.i i),(5,.i (-1 : Int)),(6,.i (0 : Int))],[],[999]⟩)
  (True ∧ True)
  ⟨tt,tt⟩ ?_
 refine W.block ?_
 refine W.loop (ι := Nat × Int) (fun (x : Nat × Int) => match x with | (k,o) => (⟨[(0,.sl (.calls h)),(1,.i i),(5,.i o),(6,.i ((k : Nat) : Int))],[],[999]⟩ : St))
  (fun (x : Nat × Int) => match x with | (k,o) => (k ≤ h.length) ∧ (o = lastF h (h.getD i.toNat default) k))
  (fun (x : Nat × Int) => match x with | (k,o) => (h.length - k : Nat)) (0,(-1 : Int)) ?_ ?_ ?_
 ·exact (show (0 ≤ h.length) ∧ ((-1 : Int) = lastF h (h.getD i.toNat default) 0) from ⟨(by first | assumption | omega | rfl | (intro _ hjj; omega) | (simp; done) | (simp; omega)),(by rfl)⟩)
 ·exact Sub.of [] (@cast (((Sd (.calls h)) ∧ (Si i) ∧ (Si (-1 : Int)) ∧ ((.int .i64 (0 : Int) : Value) = .int .i64 ((0 : Nat) : Int)) ∧ True) ∧ True ∧ (true = true) ∧ (true = true)) _ (by kernel_rfl) ⟨⟨rfl,rfl,rfl,(congrArg (Value.int .i64) (by first | rfl | omega | assumption | simp | simp_all)),tt⟩,tt,rfl,rfl⟩)
 ·rintro ⟨k,o⟩ hC0
  have hC : (k ≤ h.length) ∧ (o = lastF h (h.getD i.toNat default) k) := hC0
  clear hC0
  obtain ⟨hk,hx⟩ := hC
  refine W.to (⟨[(0,.sl (.calls h)),(1,.i i),(5,.i o),(6,.i ((k : Nat) : Int))],[],[999]⟩) rfl ?_
  have hob := lastF_bnd h (h.getD i.toNat default) k
  rw [← hx] at hob
  refine W.seq ?_
  refine Kk cok tab30 hnt [] [0,1,5,6,10] (⟨[(0,.sl (.calls h)),(1,.i i),(5,.i o),(6,.i ((k : Nat) : Int)),(10,.b (decide (((k : Nat) : Int) < (h.length : Int))))],[],[999]⟩)
   (True ∧ True ∧ True ∧ (True ∧ True ∧ True) ∧ True)
   ⟨tt,tt,tt,⟨tt,tt,tt⟩,tt⟩ ?_
  refine W.ifP (((k : Nat) : Int) < (h.length : Int)) (.b (decide (((k : Nat) : Int) < (h.length : Int)))) (by kernel_rfl) rfl trivial ?_ ?_
  ·intro h10
   refine W.skip (thenQ_normal ?_)
   refine W.seq ?_
   refine W.block ?_
   refine W.KA cok tab30 hnt [] [0,1,5,6,44] (⟨[(0,.sl (.calls h)),(1,.i i),(5,.i o),(6,.i ((k : Nat) : Int)),(44,.b (((decide (((h.getD k default).kind) = (0 : Int))) && (isBefore (h.getD k default) (h.getD (Int.toNat i) default))) && ((decide (o < (0 : Int))) || (isBefore (h.getD (Int.toNat o) default) (h.getD k default)))))],[],[999]⟩)
    ((fun (Z1:Bool)=>((fun (Z2:Bool)=>((fun (Z3:Bool)=>((fun (Z4:Bool)=>(True ∧ (True ∧ ((True ∧ (True ∧ ((0 ≤ ((k : Nat) : Int)) ∧ (((k : Nat) : Int) < (h.length : Int))))) ∧ (True ∧ (True ∧ ((True ∧ (True ∧ True)) ∧ (True ∧ ((Z2 = true → True) ∧ ((Z2 = true → True) ∧ ((Z2 = true → (((Z2 = true) ∧ True) ∧ (((Z2 = true) ∧ True) ∧ ((0 ≤ ((k : Nat) : Int)) ∧ (((k : Nat) : Int) < (h.length : Int)))))) ∧ ((Z2 = true → ((Z2 = true) ∧ True)) ∧ ((Z2 = true → True) ∧ ((Z2 = true → True) ∧ ((Z2 = true → (((Z2 = true) ∧ True) ∧ (((Z2 = true) ∧ True) ∧ ((0 ≤ i) ∧ (i < (h.length : Int)))))) ∧ ((Z2 = true → ((Z2 = true) ∧ True)) ∧ ((Z2 = true → (True ∧ ((((Z2 = true) ∧ True) ∧ (((Z2 = true) ∧ True) ∧ True)) ∧ True))) ∧ ((True ∧ ((Z2 = true → (Z2 = true) ∧ True) ∧ (Z2 = false → True))) ∧ (True ∧ ((Z3 = true → True) ∧ ((Z3 = true → (((Z3 = true) ∧ True) ∧ (True ∧ True))) ∧ ((Z3 = true → True) ∧ ((Z4 = true → True) ∧ ((Z4 = true → True) ∧ ((Z4 = true → (((Z4 = true) ∧ True) ∧ (((Z4 = true) ∧ True) ∧ ((0 ≤ o) ∧ (o < (h.length : Int)))))) ∧ ((Z4 = true → ((Z4 = true) ∧ True)) ∧ ((Z4 = true → True) ∧ ((Z4 = true → True) ∧ ((Z4 = true → (((Z4 = true) ∧ True) ∧ (((Z4 = true) ∧ True) ∧ ((0 ≤ ((k : Nat) : Int)) ∧ (((k : Nat) : Int) < (h.length : Int)))))) ∧ ((Z4 = true → ((Z4 = true) ∧ True)) ∧ ((Z4 = true → (True ∧ ((((Z4 = true) ∧ True) ∧ (((Z4 = true) ∧ True) ∧ True)) ∧ True))) ∧ ((Z3 = true → (((Z3 = true) ∧ ((Z3 = true) ∧ True)) ∧ ((Z1 = true → True) ∧ (Z1 = false → (Z4 = true) ∧ True)))) ∧ ((True ∧ ((Z3 = true → (Z3 = true) ∧ True) ∧ (Z3 = false → True))) ∧ True))))))))))))))))))))))))))))))))) (Z3 && (Z3 && (!Z1))))) (Z2 && (isBefore (h.getD k default) (h.getD (Int.toNat i) default))))) (decide (((h.getD k default).kind) = (0 : Int))))) (decide (o < (0 : Int)))) (by kernel_rfl) (by kernel_rfl)
    ⟨tt,tt,⟨tt,tt,(by omega),(by omega)⟩,tt,tt,⟨tt,tt,tt⟩,tt,(fun _ => trivial),(fun _ => trivial),(fun hG => ⟨⟨hG,tt⟩,⟨hG,tt⟩,(by have hg0 : ((h.getD k default).kind) = (0 : Int) := of_decide_eq_true hG; omega),(by have hg0 : ((h.getD k default).kind) = (0 : Int) := of_decide_eq_true hG; omega)⟩),(fun hG => ⟨hG,tt⟩),(fun _ => trivial),(fun _ => trivial),(fun hG => ⟨⟨hG,tt⟩,⟨hG,tt⟩,(by have hg0 : ((h.getD k default).kind) = (0 : Int) := of_decide_eq_true hG; omega),(by have hg0 : ((h.getD k default).kind) = (0 : Int) := of_decide_eq_true hG; omega)⟩),(fun hG => ⟨hG,tt⟩),(fun hG => ⟨tt,⟨⟨hG,tt⟩,⟨hG,tt⟩,tt⟩,tt⟩),⟨tt,(fun hp => ⟨hp,tt⟩),(fun _ => trivial)⟩,tt,(fun _ => trivial),(fun hG => ⟨⟨hG,tt⟩,tt,tt⟩),(fun _ => trivial),(fun _ => trivial),(fun _ => trivial),(fun hG => ⟨⟨hG,tt⟩,⟨hG,tt⟩,(by have hg0 : ((h.getD k default).kind) = (0 : Int) := of_decide_eq_true (and_l (and_l hG)); have hg1 : ((h.getD k default).kind) = (0 : Int) := of_decide_eq_true (and_l (and_l (and_r hG))); have hg2 : ¬ (o < (0 : Int)) := of_decide_eq_false (not_f (and_r (and_r hG))); omega),(by have hg0 : ((h.getD k default).kind) = (0 : Int) := of_decide_eq_true (and_l (and_l hG)); have hg1 : ((h.getD k default).kind) = (0 : Int) := of_decide_eq_true (and_l (and_l (and_r hG))); have hg2 : ¬ (o < (0 : Int)) := of_decide_eq_false (not_f (and_r (and_r hG))); omega)⟩),(fun hG => ⟨hG,tt⟩),(fun _ => trivial),(fun _ => trivial),(fun hG => ⟨⟨hG,tt⟩,⟨hG,tt⟩,(by have hg0 : ((h.getD k default).kind) = (0 : Int) := of_decide_eq_true (and_l (and_l hG)); have hg1 : ((h.getD k default).kind) = (0 : Int) := of_decide_eq_true (and_l (and_l (and_r hG))); have hg2 : ¬ (o < (0 : Int)) := of_decide_eq_false (not_f (and_r (and_r hG))); omega),(by have hg0 : ((h.getD k default).kind) = (0 : Int) := of_decide_eq_true (and_l (and_l hG)); have hg1 : ((h.getD k default).kind) = (0 : Int) := of_decide_eq_true (and_l (and_l (and_r hG))); have hg2 : ¬ (o < (0 : Int)) := of_decide_eq_false (not_f (and_r (and_r hG))); omega)⟩),(fun hG => ⟨hG,tt⟩),(fun hG => ⟨tt,⟨⟨hG,tt⟩,⟨hG,tt⟩,tt⟩,tt⟩),(fun hG => ⟨⟨hG,hG,tt⟩,(fun _ => trivial),(fun hp => ⟨(and_t hG (and_t hG (not_t hp))),tt⟩)⟩),⟨tt,(fun hp => ⟨hp,tt⟩),(fun _ => trivial)⟩,tt⟩ ?_
   refine W.if' (((decide (((h.getD k default).kind) = (0 : Int))) && (isBefore (h.getD k default) (h.getD (Int.toNat i) default))) && ((decide (o < (0 : Int))) || (isBefore (h.getD (Int.toNat o) default) (h.getD k default)))) (.b (((decide (((h.getD k default).kind) = (0 : Int))) && (isBefore (h.getD k default) (h.getD (Int.toNat i) default))) && ((decide (o < (0 : Int))) || (isBefore (h.getD (Int.toNat o) default) (h.getD k default))))) (by kernel_rfl) rfl trivial ?_ ?_
   ·intro h44
    have h44_0 : ((h.getD k default).kind) = (0 : Int) := of_decide_eq_true (and_l (and_l h44))
    refine Lk cok tab30 hnt [] (⟨[(0,.sl (.calls h)),(1,.i i),(5,.i ((k : Nat) : Int)),(6,.i ((k : Nat) : Int)),(44,.b (((decide (((h.getD k default).kind) = (0 : Int))) && (isBefore (h.getD k default) (h.getD (Int.toNat i) default))) && ((decide (o < (0 : Int))) || (isBefore (h.getD (Int.toNat o) default) (h.getD k default))))),(45,.i ((k : Nat) : Int))],[],[999]⟩)
     (True ∧ True ∧ True)
     ⟨tt,tt,tt⟩ ?_
    refine blockQ_normal (thenQ_normal ?_)
    refine Lk cok tab30 hnt [] (⟨[(0,.sl (.calls h)),(1,.i i),(5,.i ((k : Nat) : Int)),(6,.i (((k + 1) : Nat) : Int)),(11,.i ((k : Nat) : Int)),(12,.i (((k + 1) : Nat) : Int)),(44,.b (((decide (((h.getD k default).kind) = (0 : Int))) && (isBefore (h.getD k default) (h.getD (Int.toNat i) default))) && ((decide (o < (0 : Int))) || (isBefore (h.getD (Int.toNat o) default) (h.getD k default))))),(45,.i ((k : Nat) : Int))],[],[999]⟩)
     (True ∧ (True ∧ True ∧ (Fits .i64 (((k + 1) : Nat) : Int))) ∧ True ∧ True)
     ⟨tt,⟨tt,tt,(by exact fits_i64 (by omega) (by omega))⟩,tt,tt⟩ ?_
    refine thenQ_normal ?_
    refine ⟨((k + 1),((k : Nat) : Int)),(show ((k + 1) ≤ h.length) ∧ (((k : Nat) : Int) = lastF h (h.getD i.toNat default) (k + 1)) from ⟨(by first | assumption | omega | rfl | (intro _ hjj; omega) | (simp; done) | (simp; omega)),(by first | exact lastS_yes ho hx (by omega) h44 | exact lastS_no ho hx (by omega) n44)⟩),(show h.length - (k + 1) < h.length - k from (by first | omega | (simp_all; omega))),?_⟩
    exact Sub.of [] (@cast (((Sd (.calls h)) ∧ (Si i) ∧ (Si ((k : Nat) : Int)) ∧ (Si (((k + 1) : Nat) : Int)) ∧ True) ∧ True ∧ (true = true) ∧ (true = true)) _ (by kernel_rfl) ⟨⟨rfl,rfl,rfl,rfl,tt⟩,tt,rfl,rfl⟩)
   ·intro n44
    refine W.skip (blockQ_normal (thenQ_normal ?_))
    refine Lk cok tab30 hnt [] (⟨[(0,.sl (.calls h)),(1,.i i),(5,.i o),(6,.i (((k + 1) : Nat) : Int)),(11,.i ((k : Nat) : Int)),(12,.i (((k + 1) : Nat) : Int)),(44,.b (((decide (((h.getD k default).kind) = (0 : Int))) && (isBefore (h.getD k default) (h.getD (Int.toNat i) default))) && ((decide (o < (0 : Int))) || (isBefore (h.getD (Int.toNat o) default) (h.getD k default)))))],[],[999]⟩)
     (True ∧ (True ∧ True ∧ (Fits .i64 (((k + 1) : Nat) : Int))) ∧ True ∧ True)
     ⟨tt,⟨tt,tt,(by exact fits_i64 (by omega) (by omega))⟩,tt,tt⟩ ?_
    refine thenQ_normal ?_
    refine ⟨((k + 1),o),(show ((k + 1) ≤ h.length) ∧ (o = lastF h (h.getD i.toNat default) (k + 1)) from ⟨(by first | assumption | omega | rfl | (intro _ hjj; omega) | (simp; done) | (simp; omega)),(by first | exact lastS_yes ho hx (by omega) h44 | exact lastS_no ho hx (by omega) n44)⟩),(show h.length - (k + 1) < h.length - k from (by first | omega | (simp_all; omega))),?_⟩
    exact Sub.of [] (@cast (((Sd (.calls h)) ∧ (Si i) ∧ (Si o) ∧ (Si (((k + 1) : Nat) : Int)) ∧ True) ∧ True ∧ (true = true) ∧ (true = true)) _ (by kernel_rfl) ⟨⟨rfl,rfl,rfl,rfl,tt⟩,tt,rfl,rfl⟩)
  ·intro n10
   refine W.exit (thenQ_exit (thenQ_exit (blockQ_hit ?_)))
   refine thenQ_normal ?_
   refine Kk cok tab30 hnt [] [4] (⟨[(4,.i o)],[],[999]⟩)
    (True ∧ True ∧ True)
    ⟨tt,tt,tt⟩ ?_
   refine W.ret ?_
   exact endQ_ret (.i o) (by kernel_rfl) (@cast ((.int .i64 o : Value) = .int .i64 (lastBefore h (h.getD i.toNat default))) _ (by kernel_rfl) (congrArg (Value.int .i64) (by rw [hx,show k = h.length by omega]; rfl)))
theorem ent30 : Entr prog 30 := ⟨_,func30,rfl,by decide⟩
end Go.Proofs.Try

set_option linter.unusedSimpArgs false
set_option linter.unusedVariables false
namespace Go.Proofs.Try
open Go.Ab Go.RowKit
def fs31 : FnS := fnS [.s .calls,.o,.o] [.calls,.int,.int] (fun _ (h,a,b,_) => (.b (olderR h a b),[],(a < h.length) ∧ (b < h.length)))
abbrev T31 : Tab := lk [(29,fs29)]
theorem tab31 : TabOK prog T31 := (TabOK.cons ok29 ent29 TabOK.nil)
set_option maxRecDepth 100000 in
set_option maxHeartbeats 1000000 in
theorem ok31 : FnOK prog 31 fs31 := by
 refine FnOK.mk cok func31 rfl rfl rfl ?_
 rintro fl ⟨(h : List CallD),(a : Int),(b : Int),_⟩ hpre F hnt0 _
 have hnt : F.nt = 26 := hnt0.trans ntmps31
 replace hpre : (a < h.length) ∧ (b < h.length) := hpre
 obtain ⟨ha,hb⟩ := hpre
 refine W.to (⟨[(0,.sl (.calls h)),(1,.i a),(2,.i b)],[],[999]⟩) rfl ?_
 refine W.lenOf 0 (.calls h) (by kernel_rfl) ?_
 intro hl_h; replace hl_h : List.length h ≤ 9223372036854775807 := hl_h
 refine Kk cok tab31 hnt [] [0,1,2] (⟨[(0,.sl (.calls h)),(1,.i a),(2,.i b)],[],[999]⟩)
  (True ∧ True)
  ⟨tt,tt⟩ ?_
 refine W.seq ?_
 refine Kk cok tab31 hnt [] [0,1,2,8] (⟨[(0,.sl (.calls h)),(1,.i a),(2,.i b),(8,.b (decide (b < (0 : Int))))],[],[999]⟩)
  (True ∧ (True ∧ True ∧ True) ∧ True)
  ⟨tt,⟨tt,tt,tt⟩,tt⟩ ?_
 refine W.ifP (b < (0 : Int)) (.b (decide (b < (0 : Int)))) (by kernel_rfl) rfl trivial ?_ ?_
 ·intro h8
  refine Kk cok tab31 hnt [] [6] (⟨[(6,.b false)],[],[999]⟩)
   (True ∧ True)
   ⟨tt,tt⟩ ?_
  refine W.ret (thenQ_ret ?_)
  exact endQ_ret (.b false) (by kernel_rfl) (@cast ((.bool false : Value) = .bool (olderR h a b)) _ (by kernel_rfl) (congrArg Value.bool (by unfold olderR; rw [decide_eq_true h8]; rfl)))
 ·intro n8
  refine W.skip (thenQ_normal ?_)
  refine W.KA cok tab31 hnt [] [6] (⟨[(6,.b ((decide (a = (-1 : Int))) || ((decide ((0 : Int) ≤ a)) && (isBefore (h.getD (Int.toNat a) default) (h.getD (Int.toNat b) default)))))],[],[999]⟩)
   ((fun (Z1:Bool)=>((fun (Z2:Bool)=>((fun (Z3:Bool)=>((fun (Z4:Bool)=>(True ∧ ((True ∧ (True ∧ True)) ∧ (True ∧ ((Z2 = true → True) ∧ ((Z2 = true → (((Z2 = true) ∧ True) ∧ (True ∧ True))) ∧ ((Z2 = true → True) ∧ ((Z4 = true → True) ∧ ((Z4 = true → True) ∧ ((Z4 = true → (((Z4 = true) ∧ True) ∧ (((Z4 = true) ∧ True) ∧ ((0 ≤ a) ∧ (a < (h.length : Int)))))) ∧ ((Z4 = true → ((Z4 = true) ∧ True)) ∧ ((Z4 = true → True) ∧ ((Z4 = true → True) ∧ ((Z4 = true → (((Z4 = true) ∧ True) ∧ (((Z4 = true) ∧ True) ∧ ((0 ≤ b) ∧ (b < (h.length : Int)))))) ∧ ((Z4 = true → ((Z4 = true) ∧ True)) ∧ ((Z4 = true → (True ∧ ((((Z4 = true) ∧ True) ∧ (((Z4 = true) ∧ True) ∧ True)) ∧ True))) ∧ ((Z2 = true → (((Z2 = true) ∧ ((Z2 = true) ∧ True)) ∧ ((Z3 = true → (Z4 = true) ∧ True) ∧ (Z3 = false → True)))) ∧ ((True ∧ ((Z1 = true → True) ∧ (Z1 = false → (Z2 = true) ∧ True))) ∧ (True ∧ True))))))))))))))))))) (Z2 && (Z2 && Z3)))) (decide ((0 : Int) ≤ a)))) (!Z1))) (decide (a = (-1 : Int)))) (by kernel_rfl) (by kernel_rfl)
   ⟨tt,⟨tt,tt,tt⟩,tt,(fun _ => trivial),(fun hG => ⟨⟨hG,tt⟩,tt,tt⟩),(fun _ => trivial),(fun _ => trivial),(fun _ => trivial),(fun hG => ⟨⟨hG,tt⟩,⟨hG,tt⟩,(by have hg0 : ¬ (a = (-1 : Int)) := of_decide_eq_false (not_f (and_l hG)); have hg1 : ¬ (a = (-1 : Int)) := of_decide_eq_false (not_f (and_l (and_r hG))); have hg2 : (0 : Int) ≤ a := of_decide_eq_true (and_r (and_r hG)); omega),(by have hg0 : ¬ (a = (-1 : Int)) := of_decide_eq_false (not_f (and_l hG)); have hg1 : ¬ (a = (-1 : Int)) := of_decide_eq_false (not_f (and_l (and_r hG))); have hg2 : (0 : Int) ≤ a := of_decide_eq_true (and_r (and_r hG)); omega)⟩),(fun hG => ⟨hG,tt⟩),(fun _ => trivial),(fun _ => trivial),(fun hG => ⟨⟨hG,tt⟩,⟨hG,tt⟩,(by have hg0 : ¬ (a = (-1 : Int)) := of_decide_eq_false (not_f (and_l hG)); have hg1 : ¬ (a = (-1 : Int)) := of_decide_eq_false (not_f (and_l (and_r hG))); have hg2 : (0 : Int) ≤ a := of_decide_eq_true (and_r (and_r hG)); omega),(by have hg0 : ¬ (a = (-1 : Int)) := of_decide_eq_false (not_f (and_l hG)); have hg1 : ¬ (a = (-1 : Int)) := of_decide_eq_false (not_f (and_l (and_r hG))); have hg2 : (0 : Int) ≤ a := of_decide_eq_true (and_r (and_r hG)); omega)⟩),(fun hG => ⟨hG,tt⟩),(fun hG => ⟨tt,⟨⟨hG,tt⟩,⟨hG,tt⟩,tt⟩,tt⟩),(fun hG => ⟨⟨hG,hG,tt⟩,(fun hp => ⟨(and_t hG (and_t hG hp)),tt⟩),(fun _ => trivial)⟩),⟨tt,(fun _ => trivial),(fun hp => ⟨(not_t hp),tt⟩)⟩,tt,tt⟩ ?_
  refine W.ret ?_
  exact endQ_ret (.b ((decide (a = (-1 : Int))) || ((decide ((0 : Int) ≤ a)) && (isBefore (h.getD (Int.toNat a) default) (h.getD (Int.toNat b) default))))) (by kernel_rfl) (@cast ((.bool ((decide (a = (-1 : Int))) || ((decide ((0 : Int) ≤ a)) && (isBefore (h.getD (Int.toNat a) default) (h.getD (Int.toNat b) default)))) : Value) = .bool (olderR h a b)) _ (by kernel_rfl) (congrArg Value.bool (by unfold olderR; rw [decide_eq_false n8]; rfl)))
theorem ent31 : Entr prog 31 := ⟨_,func31,rfl,by decide⟩
end Go.Proofs.Try
