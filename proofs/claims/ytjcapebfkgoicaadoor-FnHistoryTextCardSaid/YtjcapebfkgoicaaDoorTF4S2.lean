import Derived.Test.YtjcapebfkgoicaaDoorTF4S0
import Derived.Test.YtjcapebfkgoicaaDoorTF4S1
set_option linter.unusedSimpArgs false
set_option linter.unusedVariables false
namespace Go.Proofs.Tryd
open Go.Ab Go.RowKit
def fs20 : FnS := fnS [.s .calls] [.calls] (fun _ (h,_) => (.b (validHistory h),[],True))
abbrev T20 : Tab := lk [(37,fs37)]
theorem tab20 : TabOK prog T20 := (TabOK.cons ok37 ent37 TabOK.nil)
set_option maxRecDepth 100000 in
set_option maxHeartbeats 1000000 in
theorem ok20 : FnOK prog 20 fs20 := by
 refine FnOK.mk cok func20 rfl rfl rfl ?_
 rintro fl ⟨(h : List CallD),_⟩ hpre F hnt0 _
 have hnt : F.nt = 112 := hnt0.trans ntmps20
 clear hpre
 refine W.to (⟨[(0,.sl (.calls h))],[],[999]⟩) rfl ?_
 refine W.lenOf 0 (.calls h) (by kernel_rfl) ?_
 intro hl_h; replace hl_h : List.length h ≤ 9223372036854775807 := hl_h
 refine Kk cok tab20 hnt [] [0] (⟨[(0,.sl (.calls h))],[],[999]⟩)
  (True ∧ True)
  ⟨tt,tt⟩ ?_
 refine W.seq ?_
 refine Kk cok tab20 hnt [] [0,3] (⟨[(0,.sl (.calls h)),(3,.i (0 : Int))],[],[999]⟩)
  (True ∧ True)
  ⟨tt,tt⟩ ?_
 refine W.block ?_
 refine W.loop (ι := Nat) (fun (i : Nat) => (⟨[(0,.sl (.calls h)),(3,.i ((i : Nat) : Int))],[],[999]⟩ : St))
  (fun (i : Nat) => (i ≤ h.length) ∧ (∀ j,j < i → (isCall (callAt h j) && allN j (fun k => !clash (callAt h j) (callAt h k))) = true))
  (fun (i : Nat) => (h.length - i : Nat)) (0) ?_ ?_ ?_
 ·exact (show (0 ≤ h.length) ∧ (∀ j,j < 0 → (isCall (callAt h j) && allN j (fun k => !clash (callAt h j) (callAt h k))) = true) from ⟨(by first | assumption | omega | rfl | (intro _ hjj; omega) | (simp; done) | (simp; omega)),(by exact upto_zero)⟩)
 ·exact Sub.of [] (@cast (((Sd (.calls h)) ∧ ((.int .i64 (0 : Int) : Value) = .int .i64 ((0 : Nat) : Int)) ∧ True) ∧ True ∧ (true = true) ∧ (true = true)) _ (by kernel_rfl) ⟨⟨rfl,(congrArg (Value.int .i64) (by first | rfl | omega | assumption | simp | simp_all)),tt⟩,tt,rfl,rfl⟩)
 ·rintro i hC0
  have hC : (i ≤ h.length) ∧ (∀ j,j < i → (isCall (callAt h j) && allN j (fun k => !clash (callAt h j) (callAt h k))) = true) := hC0
  clear hC0
  obtain ⟨hi,hA⟩ := hC
  refine W.to (⟨[(0,.sl (.calls h)),(3,.i ((i : Nat) : Int))],[],[999]⟩) rfl ?_
  refine W.seq ?_
  refine Kk cok tab20 hnt [] [0,3,8] (⟨[(0,.sl (.calls h)),(3,.i ((i : Nat) : Int)),(8,.b (decide (((i : Nat) : Int) < (h.length : Int))))],[],[999]⟩)
   (True ∧ True ∧ True ∧ (True ∧ True ∧ True) ∧ True)
   ⟨tt,tt,tt,⟨tt,tt,tt⟩,tt⟩ ?_
  refine W.ifP (((i : Nat) : Int) < (h.length : Int)) (.b (decide (((i : Nat) : Int) < (h.length : Int)))) (by kernel_rfl) rfl trivial ?_ ?_
  ·intro h8
   refine W.skip (thenQ_normal ?_)
   refine W.seq ?_
   refine W.block ?_
   refine W.seq ?_
   refine Kk cok tab20 hnt [] [0,3,16] (⟨[(0,.sl (.calls h)),(3,.i ((i : Nat) : Int)),(16,.b (!(isCall (h.getD i default))))],[],[999]⟩)
    (True ∧ True ∧ (True ∧ True ∧ (0 ≤ ((i : Nat) : Int)) ∧ (((i : Nat) : Int) < (h.length : Int))) ∧ True ∧ (True ∧ (True ∧ True) ∧ True) ∧ True ∧ True)
    ⟨tt,tt,⟨tt,tt,(by omega),(by omega)⟩,tt,⟨tt,⟨tt,tt⟩,tt⟩,tt,tt⟩ ?_
   refine W.if' (!(isCall (h.getD i default))) (.b (!(isCall (h.getD i default)))) (by kernel_rfl) rfl trivial ?_ ?_
   ·intro h16
    refine Kk cok tab20 hnt [] [2] (⟨[(2,.b false)],[],[999]⟩)
     (True ∧ True)
     ⟨tt,tt⟩ ?_
    refine W.ret (thenQ_ret (blockQ_ret (thenQ_ret (thenQ_ret (blockQ_ret (thenQ_ret ?_))))))
    exact endQ_ret (.b false) (by kernel_rfl) (@cast ((.bool false : Value) = .bool (validHistory h)) _ (by kernel_rfl) (congrArg Value.bool (by unfold validHistory; symm; exact and_fr (allN_false (i := i) (by omega) (and_fl (not_f h16))))))
   ·intro n16
    refine W.skip (thenQ_normal ?_)
    refine Kk cok tab20 hnt [] [0,3,4] (⟨[(0,.sl (.calls h)),(3,.i ((i : Nat) : Int)),(4,.i (0 : Int))],[],[999]⟩)
     (True ∧ True)
     ⟨tt,tt⟩ ?_
    refine W.block ?_
    refine W.loop (ι := Nat) (fun (k : Nat) => (⟨[(0,.sl (.calls h)),(3,.i ((i : Nat) : Int)),(4,.i ((k : Nat) : Int))],[],[999]⟩ : St))
     (fun (k : Nat) => (k ≤ i) ∧ (∀ j,j < k → (!clash (callAt h i) (callAt h j)) = true))
     (fun (k : Nat) => (i - k : Nat)) (0) ?_ ?_ ?_
    ·exact (show (0 ≤ i) ∧ (∀ j,j < 0 → (!clash (callAt h i) (callAt h j)) = true) from ⟨(by first | assumption | omega | rfl | (intro _ hjj; omega) | (simp; done) | (simp; omega)),(by exact upto_zero)⟩)
    ·exact Sub.of [] (@cast (((Sd (.calls h)) ∧ (Si ((i : Nat) : Int)) ∧ ((.int .i64 (0 : Int) : Value) = .int .i64 ((0 : Nat) : Int)) ∧ True) ∧ True ∧ (true = true) ∧ (true = true)) _ (by kernel_rfl) ⟨⟨rfl,rfl,(congrArg (Value.int .i64) (by first | rfl | omega | assumption | simp | simp_all)),tt⟩,tt,rfl,rfl⟩)
    ·rintro k hC0
     have hC : (k ≤ i) ∧ (∀ j,j < k → (!clash (callAt h i) (callAt h j)) = true) := hC0
     clear hC0
     obtain ⟨hk,hB⟩ := hC
     refine W.to (⟨[(0,.sl (.calls h)),(3,.i ((i : Nat) : Int)),(4,.i ((k : Nat) : Int))],[],[999]⟩) rfl ?_
     refine W.seq ?_
     refine Kk cok tab20 hnt [] [0,3,4,19] (⟨[(0,.sl (.calls h)),(3,.i ((i : Nat) : Int)),(4,.i ((k : Nat) : Int)),(19,.b (decide (((k : Nat) : Int) < ((i : Nat) : Int))))],[],[999]⟩)
      (True ∧ True ∧ (True ∧ True ∧ True) ∧ True)
      ⟨tt,tt,⟨tt,tt,tt⟩,tt⟩ ?_
     refine W.ifP (((k : Nat) : Int) < ((i : Nat) : Int)) (.b (decide (((k : Nat) : Int) < ((i : Nat) : Int)))) (by kernel_rfl) rfl trivial ?_ ?_
     ·intro h19
      refine W.skip (thenQ_normal ?_)
      refine W.seq ?_
      refine W.block ?_
      refine W.seq ?_
      refine W.KA cok tab20 hnt [] [0,3,4,71] (⟨[(0,.sl (.calls h)),(3,.i ((i : Nat) : Int)),(4,.i ((k : Nat) : Int)),(71,.b ((((decide (((h.getD k default).frm) = ((h.getD i default).frm))) || (decide (((h.getD k default).frm) = ((h.getD i default).to)))) || (decide (((h.getD k default).to) = ((h.getD i default).frm)))) || (decide (((h.getD k default).to) = ((h.getD i default).to)))))],[],[999]⟩)
       ((fun (Z1:Bool)=>((fun (Z2:Bool)=>((fun (Z3:Bool)=>(True ∧ (True ∧ ((True ∧ (True ∧ ((0 ≤ ((k : Nat) : Int)) ∧ (((k : Nat) : Int) < (h.length : Int))))) ∧ (True ∧ (True ∧ (True ∧ (True ∧ ((True ∧ (True ∧ ((0 ≤ ((i : Nat) : Int)) ∧ (((i : Nat) : Int) < (h.length : Int))))) ∧ (True ∧ (True ∧ ((True ∧ (True ∧ True)) ∧ (True ∧ (((!Z1) = true → True) ∧ (((!Z1) = true → True) ∧ (((!Z1) = true → ((((!Z1) = true) ∧ True) ∧ ((((!Z1) = true) ∧ True) ∧ ((0 ≤ ((k : Nat) : Int)) ∧ (((k : Nat) : Int) < (h.length : Int)))))) ∧ (((!Z1) = true → (((!Z1) = true) ∧ True)) ∧ (((!Z1) = true → (((!Z1) = true) ∧ True)) ∧ (((!Z1) = true → True) ∧ (((!Z1) = true → True) ∧ (((!Z1) = true → ((((!Z1) = true) ∧ True) ∧ ((((!Z1) = true) ∧ True) ∧ ((0 ≤ ((i : Nat) : Int)) ∧ (((i : Nat) : Int) < (h.length : Int)))))) ∧ (((!Z1) = true → (((!Z1) = true) ∧ True)) ∧ (((!Z1) = true → (((!Z1) = true) ∧ True)) ∧ (((!Z1) = true → ((((!Z1) = true) ∧ True) ∧ ((((!Z1) = true) ∧ True) ∧ True))) ∧ ((True ∧ ((Z1 = true → True) ∧ (Z1 = false → ((!Z1) = true) ∧ True))) ∧ (True ∧ (((!Z2) = true → True) ∧ (((!Z2) = true → True) ∧ (((!Z2) = true → ((((!Z2) = true) ∧ True) ∧ ((((!Z2) = true) ∧ True) ∧ ((0 ≤ ((k : Nat) : Int)) ∧ (((k : Nat) : Int) < (h.length : Int)))))) ∧ (((!Z2) = true → (((!Z2) = true) ∧ True)) ∧ (((!Z2) = true → (((!Z2) = true) ∧ True)) ∧ (((!Z2) = true → True) ∧ (((!Z2) = true → True) ∧ (((!Z2) = true → ((((!Z2) = true) ∧ True) ∧ ((((!Z2) = true) ∧ True) ∧ ((0 ≤ ((i : Nat) : Int)) ∧ (((i : Nat) : Int) < (h.length : Int)))))) ∧ (((!Z2) = true → (((!Z2) = true) ∧ True)) ∧ (((!Z2) = true → (((!Z2) = true) ∧ True)) ∧ (((!Z2) = true → ((((!Z2) = true) ∧ True) ∧ ((((!Z2) = true) ∧ True) ∧ True))) ∧ ((True ∧ ((Z2 = true → True) ∧ (Z2 = false → ((!Z2) = true) ∧ True))) ∧ (True ∧ (((!Z3) = true → True) ∧ (((!Z3) = true → True) ∧ (((!Z3) = true → ((((!Z3) = true) ∧ True) ∧ ((((!Z3) = true) ∧ True) ∧ ((0 ≤ ((k : Nat) : Int)) ∧ (((k : Nat) : Int) < (h.length : Int)))))) ∧ (((!Z3) = true → (((!Z3) = true) ∧ True)) ∧ (((!Z3) = true → (((!Z3) = true) ∧ True)) ∧ (((!Z3) = true → True) ∧ (((!Z3) = true → True) ∧ (((!Z3) = true → ((((!Z3) = true) ∧ True) ∧ ((((!Z3) = true) ∧ True) ∧ ((0 ≤ ((i : Nat) : Int)) ∧ (((i : Nat) : Int) < (h.length : Int)))))) ∧ (((!Z3) = true → (((!Z3) = true) ∧ True)) ∧ (((!Z3) = true → (((!Z3) = true) ∧ True)) ∧ (((!Z3) = true → ((((!Z3) = true) ∧ True) ∧ ((((!Z3) = true) ∧ True) ∧ True))) ∧ ((True ∧ ((Z3 = true → True) ∧ (Z3 = false → ((!Z3) = true) ∧ True))) ∧ True))))))))))))))))))))))))))))))))))))))))))))))))))) (Z2 || (decide (((h.getD k default).to) = ((h.getD i default).frm)))))) (Z1 || (decide (((h.getD k default).frm) = ((h.getD i default).to)))))) (decide (((h.getD k default).frm) = ((h.getD i default).frm)))) (by kernel_rfl) (by kernel_rfl)
       ⟨tt,tt,⟨tt,tt,(by omega),(by omega)⟩,tt,tt,tt,tt,⟨tt,tt,(by omega),(by omega)⟩,tt,tt,⟨tt,tt,tt⟩,tt,(fun _ => trivial),(fun _ => trivial),(fun hG => ⟨⟨hG,tt⟩,⟨hG,tt⟩,(by have hg0 : ¬ (((h.getD k default).frm) = ((h.getD i default).frm)) := of_decide_eq_false (not_f hG); omega),(by have hg0 : ¬ (((h.getD k default).frm) = ((h.getD i default).frm)) := of_decide_eq_false (not_f hG); omega)⟩),(fun hG => ⟨hG,tt⟩),(fun hG => ⟨hG,tt⟩),(fun _ => trivial),(fun _ => trivial),(fun hG => ⟨⟨hG,tt⟩,⟨hG,tt⟩,(by have hg0 : ¬ (((h.getD k default).frm) = ((h.getD i default).frm)) := of_decide_eq_false (not_f hG); omega),(by have hg0 : ¬ (((h.getD k default).frm) = ((h.getD i default).frm)) := of_decide_eq_false (not_f hG); omega)⟩),(fun hG => ⟨hG,tt⟩),(fun hG => ⟨hG,tt⟩),(fun hG => ⟨⟨hG,tt⟩,⟨hG,tt⟩,tt⟩),⟨tt,(fun _ => trivial),(fun hp => ⟨(not_t hp),tt⟩)⟩,tt,(fun _ => trivial),(fun _ => trivial),(fun hG => ⟨⟨hG,tt⟩,⟨hG,tt⟩,(by have hg0 : ¬ (((h.getD k default).frm) = ((h.getD i default).frm)) := of_decide_eq_false (or_l (not_f hG)); have hg1 : ¬ (((h.getD k default).frm) = ((h.getD i default).to)) := of_decide_eq_false (or_r (not_f hG)); omega),(by have hg0 : ¬ (((h.getD k default).frm) = ((h.getD i default).frm)) := of_decide_eq_false (or_l (not_f hG)); have hg1 : ¬ (((h.getD k default).frm) = ((h.getD i default).to)) := of_decide_eq_false (or_r (not_f hG)); omega)⟩),(fun hG => ⟨hG,tt⟩),(fun hG => ⟨hG,tt⟩),(fun _ => trivial),(fun _ => trivial),(fun hG => ⟨⟨hG,tt⟩,⟨hG,tt⟩,(by have hg0 : ¬ (((h.getD k default).frm) = ((h.getD i default).frm)) := of_decide_eq_false (or_l (not_f hG)); have hg1 : ¬ (((h.getD k default).frm) = ((h.getD i default).to)) := of_decide_eq_false (or_r (not_f hG)); omega),(by have hg0 : ¬ (((h.getD k default).frm) = ((h.getD i default).frm)) := of_decide_eq_false (or_l (not_f hG)); have hg1 : ¬ (((h.getD k default).frm) = ((h.getD i default).to)) := of_decide_eq_false (or_r (not_f hG)); omega)⟩),(fun hG => ⟨hG,tt⟩),(fun hG => ⟨hG,tt⟩),(fun hG => ⟨⟨hG,tt⟩,⟨hG,tt⟩,tt⟩),⟨tt,(fun _ => trivial),(fun hp => ⟨(not_t hp),tt⟩)⟩,tt,(fun _ => trivial),(fun _ => trivial),(fun hG => ⟨⟨hG,tt⟩,⟨hG,tt⟩,(by have hg0 : ¬ (((h.getD k default).frm) = ((h.getD i default).frm)) := of_decide_eq_false (or_l (or_l (not_f hG))); have hg1 : ¬ (((h.getD k default).frm) = ((h.getD i default).to)) := of_decide_eq_false (or_r (or_l (not_f hG))); have hg2 : ¬ (((h.getD k default).to) = ((h.getD i default).frm)) := of_decide_eq_false (or_r (not_f hG)); omega),(by have hg0 : ¬ (((h.getD k default).frm) = ((h.getD i default).frm)) := of_decide_eq_false (or_l (or_l (not_f hG))); have hg1 : ¬ (((h.getD k default).frm) = ((h.getD i default).to)) := of_decide_eq_false (or_r (or_l (not_f hG))); have hg2 : ¬ (((h.getD k default).to) = ((h.getD i default).frm)) := of_decide_eq_false (or_r (not_f hG)); omega)⟩),(fun hG => ⟨hG,tt⟩),(fun hG => ⟨hG,tt⟩),(fun _ => trivial),(fun _ => trivial),(fun hG => ⟨⟨hG,tt⟩,⟨hG,tt⟩,(by have hg0 : ¬ (((h.getD k default).frm) = ((h.getD i default).frm)) := of_decide_eq_false (or_l (or_l (not_f hG))); have hg1 : ¬ (((h.getD k default).frm) = ((h.getD i default).to)) := of_decide_eq_false (or_r (or_l (not_f hG))); have hg2 : ¬ (((h.getD k default).to) = ((h.getD i default).frm)) := of_decide_eq_false (or_r (not_f hG)); omega),(by have hg0 : ¬ (((h.getD k default).frm) = ((h.getD i default).frm)) := of_decide_eq_false (or_l (or_l (not_f hG))); have hg1 : ¬ (((h.getD k default).frm) = ((h.getD i default).to)) := of_decide_eq_false (or_r (or_l (not_f hG))); have hg2 : ¬ (((h.getD k default).to) = ((h.getD i default).frm)) := of_decide_eq_false (or_r (not_f hG)); omega)⟩),(fun hG => ⟨hG,tt⟩),(fun hG => ⟨hG,tt⟩),(fun hG => ⟨⟨hG,tt⟩,⟨hG,tt⟩,tt⟩),⟨tt,(fun _ => trivial),(fun hp => ⟨(not_t hp),tt⟩)⟩,tt⟩ ?_
      refine W.if' ((((decide (((h.getD k default).frm) = ((h.getD i default).frm))) || (decide (((h.getD k default).frm) = ((h.getD i default).to)))) || (decide (((h.getD k default).to) = ((h.getD i default).frm)))) || (decide (((h.getD k default).to) = ((h.getD i default).to)))) (.b ((((decide (((h.getD k default).frm) = ((h.getD i default).frm))) || (decide (((h.getD k default).frm) = ((h.getD i default).to)))) || (decide (((h.getD k default).to) = ((h.getD i default).frm)))) || (decide (((h.getD k default).to) = ((h.getD i default).to))))) (by kernel_rfl) rfl trivial ?_ ?_
      ·intro h71
       refine Kk cok tab20 hnt [] [2] (⟨[(2,.b false)],[],[999]⟩)
        (True ∧ True)
        ⟨tt,tt⟩ ?_
       refine W.ret (thenQ_ret (blockQ_ret (thenQ_ret (thenQ_ret (blockQ_ret (blockQ_ret (thenQ_ret (thenQ_ret (blockQ_ret (thenQ_ret ?_))))))))))
       exact endQ_ret (.b false) (by kernel_rfl) (@cast ((.bool false : Value) = .bool (validHistory h)) _ (by kernel_rfl) (congrArg Value.bool (by unfold validHistory; symm; exact and_fr (allN_false (i := i) (by omega) (and_fr (allN_false (i := k) (by omega) (clash_true1 h71)))))))
      ·intro n71
       have n71_0 : ¬ (((h.getD k default).frm) = ((h.getD i default).frm)) := of_decide_eq_false (or_l (or_l (or_l n71)))
       have n71_1 : ¬ (((h.getD k default).frm) = ((h.getD i default).to)) := of_decide_eq_false (or_r (or_l (or_l n71)))
       have n71_2 : ¬ (((h.getD k default).to) = ((h.getD i default).frm)) := of_decide_eq_false (or_r (or_l n71))
       have n71_3 : ¬ (((h.getD k default).to) = ((h.getD i default).to)) := of_decide_eq_false (or_r n71)
       refine W.skip (thenQ_normal ?_)
       refine W.KA cok tab20 hnt [] [0,3,4,108] (⟨[(0,.sl (.calls h)),(3,.i ((i : Nat) : Int)),(4,.i ((k : Nat) : Int)),(108,.b (((decide (((h.getD k default).proc) = ((h.getD i default).proc))) && (decide (((h.getD i default).frm) < ((h.getD k default).to)))) && (decide (((h.getD k default).frm) < ((h.getD i default).to)))))],[],[999]⟩)
        ((fun (Z1:Bool)=>((fun (Z2:Bool)=>(True ∧ (True ∧ ((True ∧ (True ∧ ((0 ≤ ((k : Nat) : Int)) ∧ (((k : Nat) : Int) < (h.length : Int))))) ∧ (True ∧ (True ∧ (True ∧ (True ∧ ((True ∧ (True ∧ ((0 ≤ ((i : Nat) : Int)) ∧ (((i : Nat) : Int) < (h.length : Int))))) ∧ (True ∧ (True ∧ ((True ∧ (True ∧ True)) ∧ (True ∧ ((Z1 = true → True) ∧ ((Z1 = true → True) ∧ ((Z1 = true → (((Z1 = true) ∧ True) ∧ (((Z1 = true) ∧ True) ∧ ((0 ≤ ((k : Nat) : Int)) ∧ (((k : Nat) : Int) < (h.length : Int)))))) ∧ ((Z1 = true → ((Z1 = true) ∧ True)) ∧ ((Z1 = true → ((Z1 = true) ∧ True)) ∧ ((Z1 = true → True) ∧ ((Z1 = true → True) ∧ ((Z1 = true → (((Z1 = true) ∧ True) ∧ (((Z1 = true) ∧ True) ∧ ((0 ≤ ((i : Nat) : Int)) ∧ (((i : Nat) : Int) < (h.length : Int)))))) ∧ ((Z1 = true → ((Z1 = true) ∧ True)) ∧ ((Z1 = true → ((Z1 = true) ∧ True)) ∧ ((Z1 = true → (((Z1 = true) ∧ True) ∧ (((Z1 = true) ∧ True) ∧ True))) ∧ ((True ∧ ((Z1 = true → (Z1 = true) ∧ True) ∧ (Z1 = false → True))) ∧ (True ∧ ((Z2 = true → True) ∧ ((Z2 = true → True) ∧ ((Z2 = true → (((Z2 = true) ∧ True) ∧ (((Z2 = true) ∧ True) ∧ ((0 ≤ ((i : Nat) : Int)) ∧ (((i : Nat) : Int) < (h.length : Int)))))) ∧ ((Z2 = true → ((Z2 = true) ∧ True)) ∧ ((Z2 = true → ((Z2 = true) ∧ True)) ∧ ((Z2 = true → True) ∧ ((Z2 = true → True) ∧ ((Z2 = true → (((Z2 = true) ∧ True) ∧ (((Z2 = true) ∧ True) ∧ ((0 ≤ ((k : Nat) : Int)) ∧ (((k : Nat) : Int) < (h.length : Int)))))) ∧ ((Z2 = true → ((Z2 = true) ∧ True)) ∧ ((Z2 = true → ((Z2 = true) ∧ True)) ∧ ((Z2 = true → (((Z2 = true) ∧ True) ∧ (((Z2 = true) ∧ True) ∧ True))) ∧ ((True ∧ ((Z2 = true → (Z2 = true) ∧ True) ∧ (Z2 = false → True))) ∧ True)))))))))))))))))))))))))))))))))))))) (Z1 && (decide (((h.getD i default).frm) < ((h.getD k default).to)))))) (decide (((h.getD k default).proc) = ((h.getD i default).proc)))) (by kernel_rfl) (by kernel_rfl)
        ⟨tt,tt,⟨tt,tt,(by omega),(by omega)⟩,tt,tt,tt,tt,⟨tt,tt,(by omega),(by omega)⟩,tt,tt,⟨tt,tt,tt⟩,tt,(fun _ => trivial),(fun _ => trivial),(fun hG => ⟨⟨hG,tt⟩,⟨hG,tt⟩,(by have hg0 : ((h.getD k default).proc) = ((h.getD i default).proc) := of_decide_eq_true hG; omega),(by have hg0 : ((h.getD k default).proc) = ((h.getD i default).proc) := of_decide_eq_true hG; omega)⟩),(fun hG => ⟨hG,tt⟩),(fun hG => ⟨hG,tt⟩),(fun _ => trivial),(fun _ => trivial),(fun hG => ⟨⟨hG,tt⟩,⟨hG,tt⟩,(by have hg0 : ((h.getD k default).proc) = ((h.getD i default).proc) := of_decide_eq_true hG; omega),(by have hg0 : ((h.getD k default).proc) = ((h.getD i default).proc) := of_decide_eq_true hG; omega)⟩),(fun hG => ⟨hG,tt⟩),(fun hG => ⟨hG,tt⟩),(fun hG => ⟨⟨hG,tt⟩,⟨hG,tt⟩,tt⟩),⟨tt,(fun hp => ⟨hp,tt⟩),(fun _ => trivial)⟩,tt,(fun _ => trivial),(fun _ => trivial),(fun hG => ⟨⟨hG,tt⟩,⟨hG,tt⟩,(by have hg0 : ((h.getD k default).proc) = ((h.getD i default).proc) := of_decide_eq_true (and_l hG); have hg1 : ((h.getD i default).frm) < ((h.getD k default).to) := of_decide_eq_true (and_r hG); omega),(by have hg0 : ((h.getD k default).proc) = ((h.getD i default).proc) := of_decide_eq_true (and_l hG); have hg1 : ((h.getD i default).frm) < ((h.getD k default).to) := of_decide_eq_true (and_r hG); omega)⟩),(fun hG => ⟨hG,tt⟩),(fun hG => ⟨hG,tt⟩),(fun _ => trivial),(fun _ => trivial),(fun hG => ⟨⟨hG,tt⟩,⟨hG,tt⟩,(by have hg0 : ((h.getD k default).proc) = ((h.getD i default).proc) := of_decide_eq_true (and_l hG); have hg1 : ((h.getD i default).frm) < ((h.getD k default).to) := of_decide_eq_true (and_r hG); omega),(by have hg0 : ((h.getD k default).proc) = ((h.getD i default).proc) := of_decide_eq_true (and_l hG); have hg1 : ((h.getD i default).frm) < ((h.getD k default).to) := of_decide_eq_true (and_r hG); omega)⟩),(fun hG => ⟨hG,tt⟩),(fun hG => ⟨hG,tt⟩),(fun hG => ⟨⟨hG,tt⟩,⟨hG,tt⟩,tt⟩),⟨tt,(fun hp => ⟨hp,tt⟩),(fun _ => trivial)⟩,tt⟩ ?_
       refine W.if' (((decide (((h.getD k default).proc) = ((h.getD i default).proc))) && (decide (((h.getD i default).frm) < ((h.getD k default).to)))) && (decide (((h.getD k default).frm) < ((h.getD i default).to)))) (.b (((decide (((h.getD k default).proc) = ((h.getD i default).proc))) && (decide (((h.getD i default).frm) < ((h.getD k default).to)))) && (decide (((h.getD k default).frm) < ((h.getD i default).to))))) (by kernel_rfl) rfl trivial ?_ ?_
       ·intro h108
        have h108_0 : ((h.getD k default).proc) = ((h.getD i default).proc) := of_decide_eq_true (and_l (and_l h108))
        have h108_1 : ((h.getD i default).frm) < ((h.getD k default).to) := of_decide_eq_true (and_r (and_l h108))
        have h108_2 : ((h.getD k default).frm) < ((h.getD i default).to) := of_decide_eq_true (and_r h108)
        refine Kk cok tab20 hnt [] [2] (⟨[(2,.b false)],[],[999]⟩)
         (True ∧ True)
         ⟨tt,tt⟩ ?_
        refine W.ret (blockQ_ret (thenQ_ret (thenQ_ret (blockQ_ret (blockQ_ret (thenQ_ret (thenQ_ret (blockQ_ret (thenQ_ret ?_)))))))))
        exact endQ_ret (.b false) (by kernel_rfl) (@cast ((.bool false : Value) = .bool (validHistory h)) _ (by kernel_rfl) (congrArg Value.bool (by unfold validHistory; symm; exact and_fr (allN_false (i := i) (by omega) (and_fr (allN_false (i := k) (by omega) (clash_true2 h108)))))))
       ·intro n108
        refine W.skip (blockQ_normal (thenQ_normal ?_))
        refine Lk cok tab20 hnt [] (⟨[(0,.sl (.calls h)),(3,.i ((i : Nat) : Int)),(4,.i (((k + 1) : Nat) : Int)),(20,.i ((k : Nat) : Int)),(21,.i (((k + 1) : Nat) : Int)),(108,.b (((decide (((h.getD k default).proc) = ((h.getD i default).proc))) && (decide (((h.getD i default).frm) < ((h.getD k default).to)))) && (decide (((h.getD k default).frm) < ((h.getD i default).to)))))],[],[999]⟩)
         (True ∧ (True ∧ True ∧ (Fits .i64 (((k + 1) : Nat) : Int))) ∧ True ∧ True)
         ⟨tt,⟨tt,tt,(by exact fits_i64 (by omega) (by omega))⟩,tt,tt⟩ ?_
        refine thenQ_normal ?_
        refine ⟨((k + 1)),(show ((k + 1) ≤ i) ∧ (∀ j,j < (k + 1) → (!clash (callAt h i) (callAt h j)) = true) from ⟨(by first | assumption | omega | rfl | (intro _ hjj; omega) | (simp; done) | (simp; omega)),(by exact upto_succ hB (clash_false n71 n108))⟩),(show i - (k + 1) < i - k from (by first | omega | (simp_all; omega))),?_⟩
        exact Sub.of [] (@cast (((Sd (.calls h)) ∧ (Si ((i : Nat) : Int)) ∧ (Si (((k + 1) : Nat) : Int)) ∧ True) ∧ True ∧ (true = true) ∧ (true = true)) _ (by kernel_rfl) ⟨⟨rfl,rfl,rfl,tt⟩,tt,rfl,rfl⟩)
     ·intro n19
      refine W.exit (thenQ_exit (thenQ_exit (blockQ_hit ?_)))
      refine blockQ_normal (thenQ_normal ?_)
      refine Lk cok tab20 hnt [] (⟨[(0,.sl (.calls h)),(3,.i (((i + 1) : Nat) : Int)),(4,.i ((k : Nat) : Int)),(9,.i ((i : Nat) : Int)),(10,.i (((i + 1) : Nat) : Int)),(19,.b (decide (((k : Nat) : Int) < ((i : Nat) : Int))))],[],[999]⟩)
       (True ∧ (True ∧ True ∧ (Fits .i64 (((i + 1) : Nat) : Int))) ∧ True ∧ True)
       ⟨tt,⟨tt,tt,(by exact fits_i64 (by omega) (by omega))⟩,tt,tt⟩ ?_
      refine thenQ_normal ?_
      refine ⟨((i + 1)),(show ((i + 1) ≤ h.length) ∧ (∀ j,j < (i + 1) → (isCall (callAt h j) && allN j (fun k => !clash (callAt h j) (callAt h k))) = true) from ⟨(by first | assumption | omega | rfl | (intro _ hjj; omega) | (simp; done) | (simp; omega)),(by exact upto_succ hA (and_t (not_g n16) (allN_true (fun j hj => hB j (by omega)))))⟩),(show h.length - (i + 1) < h.length - i from (by first | omega | (simp_all; omega))),?_⟩
      exact Sub.of [] (@cast (((Sd (.calls h)) ∧ (Si (((i + 1) : Nat) : Int)) ∧ True) ∧ True ∧ (true = true) ∧ (true = true)) _ (by kernel_rfl) ⟨⟨rfl,rfl,tt⟩,tt,rfl,rfl⟩)
  ·intro n8
   refine W.exit (thenQ_exit (thenQ_exit (blockQ_hit ?_)))
   refine thenQ_normal ?_
   refine Kk cok tab20 hnt [] [2] (⟨[(2,.b (decide ((h.length : Int) ≤ (6 : Int))))],[],[999]⟩)
    (True ∧ True ∧ (True ∧ True ∧ True) ∧ True ∧ True)
    ⟨tt,tt,⟨tt,tt,tt⟩,tt,tt⟩ ?_
   refine W.ret ?_
   exact endQ_ret (.b (decide ((h.length : Int) ≤ (6 : Int)))) (by kernel_rfl) (@cast ((.bool (decide ((h.length : Int) ≤ (6 : Int))) : Value) = .bool (validHistory h)) _ (by kernel_rfl) (congrArg Value.bool (by unfold validHistory; symm; rw [allN_true (fun j hj => hA j (by omega)),Bool.and_true]; exact bool_ext (by simp only [decide_eq_true_eq]; omega))))
theorem ent20 : Entr prog 20 := ⟨_,func20,rfl,by decide⟩
end Go.Proofs.Tryd

set_option linter.unusedSimpArgs false
set_option linter.unusedVariables false
namespace Go.Proofs.Tryd
open Go.Ab Go.RowKit
def out38 : Bool → ATy [.int] → AV × List (TypeId × Dat) × Prop := fun _ (n,_) => (.v (.string (numB n)),[],(-1000000 ≤ n ∧ n ≤ 1000000))
def mu38 : ATy [.int] → Nat := fun (n,_) => (max (2 * n) (1 - 2 * n)).toNat
def fs38 : FnS := fnS [.o] [.int] out38
abbrev fsN38 (n : Nat) : FnS := fnS [.o] [.int] (lim out38 mu38 n)
theorem ent38 : Entr prog 38 := ⟨_,func38,rfl,by decide⟩
abbrev T38 (nn : Nat) : Tab := lk [(38,fsN38 nn)]
theorem tab38 {nn : Nat} (ih : FnOK prog 38 (fsN38 nn)) : TabOK prog (T38 nn) := (TabOK.cons ih ent38 TabOK.nil)
set_option maxRecDepth 100000 in
set_option maxHeartbeats 1000000 in
theorem okS38 (nn : Nat) (ih : FnOK prog 38 (fsN38 nn)) : FnOK prog 38 (fsN38 (nn + 1)) := by
 refine FnOK.mk cok func38 rfl rfl rfl ?_
 rintro fl ⟨(n : Int),_⟩ hpre F hnt0 _
 have hnt : F.nt = 22 := hnt0.trans ntmps38
 obtain ⟨hpre,hmu⟩ := hpre
 replace hmu : (max (2 * n) (1 - 2 * n)).toNat < nn + 1 := hmu
 replace hpre : (-1000000 ≤ n ∧ n ≤ 1000000) := hpre
 have hn := hpre
 refine W.to (⟨[(0,.i n)],[],[999]⟩) rfl ?_
 have hd1 : 0 ≤ n → Int.tdiv n 10 = n / 10 := fun h => Int.tdiv_eq_ediv_of_nonneg h
 have hd2 : 0 ≤ n → Int.tmod n 10 = n % 10 := fun h => Int.tmod_eq_emod_of_nonneg h
 have sn := numB_size (0 - n)
 have sd := numB_size (Int.tdiv n 10)
 have sm := numB_size (Int.tmod n 10)
 refine Kk cok (tab38 ih) hnt [] [0] (⟨[(0,.i n)],[],[999]⟩)
  (True ∧ True)
  ⟨tt,tt⟩ ?_
 refine W.seq ?_
 refine Kk cok (tab38 ih) hnt [] [0,4] (⟨[(0,.i n),(4,.b (decide (n < (0 : Int))))],[],[999]⟩)
  (True ∧ (True ∧ True ∧ True) ∧ True)
  ⟨tt,⟨tt,tt,tt⟩,tt⟩ ?_
 refine W.ifP (n < (0 : Int)) (.b (decide (n < (0 : Int)))) (by kernel_rfl) rfl trivial ?_ ?_
 ·intro h4
  refine Kk cok (tab38 ih) hnt [] [2] (⟨[(2,.v (.string ((⟨#[45]⟩ : ByteArray) ++ (numB (0 - n)))))],[],[999]⟩)
   (True ∧ (True ∧ (Fits .i64 (0 - n))) ∧ (True ∧ (True ∧ True) ∧ (-1000000 ≤ (0 - n) ∧ (0 - n) ≤ 1000000) ∧ ((max (2 * (0 - n)) (1 - 2 * (0 - n))).toNat < nn)) ∧ (True ∧ True ∧ ((⟨#[45]⟩ : ByteArray).size + (numB (0 - n)).size ≤ 9223372036854775807)) ∧ True ∧ True)
   ⟨tt,⟨tt,(by exact fits_i64 (by omega) (by omega))⟩,⟨tt,⟨tt,tt⟩,(by omega),(by omega)⟩,⟨tt,tt,(by (try simp only [ByteArray.size_append,ByteArray.size_extract,sz1,sz2,sz3,sz10]); omega)⟩,tt,tt⟩ ?_
  refine W.ret (thenQ_ret ?_)
  exact endQ_ret (.v (.string ((⟨#[45]⟩ : ByteArray) ++ (numB (0 - n))))) (by kernel_rfl) (@cast (((.string ((⟨#[45]⟩ : ByteArray) ++ (numB (0 - n)))) : Value) = (.string (numB n))) _ (by kernel_rfl) (congrArg Value.string (by exact numB_neg h4)))
 ·intro n4
  refine W.skip (thenQ_normal ?_)
  refine W.seq ?_
  refine Kk cok (tab38 ih) hnt [] [0,10] (⟨[(0,.i n),(10,.b (decide (n < (10 : Int))))],[],[999]⟩)
   (True ∧ (True ∧ True ∧ True) ∧ True)
   ⟨tt,⟨tt,tt,tt⟩,tt⟩ ?_
  refine W.ifP (n < (10 : Int)) (.b (decide (n < (10 : Int)))) (by kernel_rfl) rfl trivial ?_ ?_
  ·intro h10
   refine Kk cok (tab38 ih) hnt [] [2] (⟨[(2,.v (.string ((⟨#[48,49,50,51,52,53,54,55,56,57]⟩ : ByteArray).extract (Int.toNat n) (Int.toNat (n + (1 : Int))))))],[],[999]⟩)
    (True ∧ True ∧ (True ∧ True ∧ (Fits .i64 (n + (1 : Int)))) ∧ (True ∧ True ∧ True ∧ (0 ≤ n) ∧ (n ≤ (n + (1 : Int))) ∧ ((n + (1 : Int)) ≤ ((((⟨#[48,49,50,51,52,53,54,55,56,57]⟩ : ByteArray).size) : Nat) : Int))) ∧ True ∧ True)
    ⟨tt,tt,⟨tt,tt,(by exact fits_i64 (by omega) (by omega))⟩,⟨tt,tt,tt,(by omega),(by omega),(by (try simp only [ByteArray.size_append,ByteArray.size_extract,sz1,sz2,sz3,sz10]); omega)⟩,tt,tt⟩ ?_
   refine W.ret (thenQ_ret ?_)
   exact endQ_ret (.v (.string ((⟨#[48,49,50,51,52,53,54,55,56,57]⟩ : ByteArray).extract (Int.toNat n) (Int.toNat (n + (1 : Int)))))) (by kernel_rfl) (@cast (((.string ((⟨#[48,49,50,51,52,53,54,55,56,57]⟩ : ByteArray).extract (Int.toNat n) (Int.toNat (n + (1 : Int))))) : Value) = (.string (numB n))) _ (by kernel_rfl) (congrArg Value.string (by exact numB_one n4 h10)))
  ·intro n10
   refine W.skip (thenQ_normal ?_)
   refine Kk cok (tab38 ih) hnt [] [2] (⟨[(2,.v (.string ((numB (Int.tdiv n (10 : Int))) ++ (numB (Int.tmod n (10 : Int))))))],[],[999]⟩)
    (True ∧ (True ∧ True ∧ ((10 : Int) ≠ 0) ∧ (Fits .i64 (Int.tdiv n (10 : Int)))) ∧ (True ∧ (True ∧ True) ∧ (-1000000 ≤ (Int.tdiv n (10 : Int)) ∧ (Int.tdiv n (10 : Int)) ≤ 1000000) ∧ ((max (2 * (Int.tdiv n (10 : Int))) (1 - 2 * (Int.tdiv n (10 : Int)))).toNat < nn)) ∧ True ∧ (True ∧ True ∧ ((10 : Int) ≠ 0)) ∧ (True ∧ (True ∧ True) ∧ (-1000000 ≤ (Int.tmod n (10 : Int)) ∧ (Int.tmod n (10 : Int)) ≤ 1000000) ∧ ((max (2 * (Int.tmod n (10 : Int))) (1 - 2 * (Int.tmod n (10 : Int)))).toNat < nn)) ∧ (True ∧ True ∧ ((numB (Int.tdiv n (10 : Int))).size + (numB (Int.tmod n (10 : Int))).size ≤ 9223372036854775807)) ∧ True ∧ True)
    ⟨tt,⟨tt,tt,(by decide),(by rw [hd1 (by omega)]; exact fits_i64 (by omega) (by omega))⟩,⟨tt,⟨tt,tt⟩,(by have h8 := hd1 (by omega); omega),(by have h8 := hd1 (by omega); omega)⟩,tt,⟨tt,tt,(by decide)⟩,⟨tt,⟨tt,tt⟩,(by have h8 := hd2 (by omega); omega),(by have h8 := hd2 (by omega); omega)⟩,⟨tt,tt,(by (try simp only [ByteArray.size_append,ByteArray.size_extract,sz1,sz2,sz3,sz10]); omega)⟩,tt,tt⟩ ?_
   refine W.ret ?_
   exact endQ_ret (.v (.string ((numB (Int.tdiv n (10 : Int))) ++ (numB (Int.tmod n (10 : Int)))))) (by kernel_rfl) (@cast (((.string ((numB (Int.tdiv n (10 : Int))) ++ (numB (Int.tmod n (10 : Int))))) : Value) = (.string (numB n))) _ (by kernel_rfl) (congrArg Value.string (by exact numB_two n4 n10)))
theorem ok38 : FnOK prog 38 fs38 := FnOK.rec' okS38
end Go.Proofs.Tryd

set_option linter.unusedSimpArgs false
set_option linter.unusedVariables false
namespace Go.Proofs.Tryd
open Go.Ab Go.RowKit
def fs21 : FnS := fnS [.o] [.call] (fun _ (c,_) => (.v (.string (callTextB c)),[],(isCall c = true)))
abbrev T21 : Tab := lk [(38,fs38)]
theorem tab21 : TabOK prog T21 := (TabOK.cons ok38 ent38 TabOK.nil)
set_option maxRecDepth 100000 in
set_option maxHeartbeats 1000000 in
theorem ok21 : FnOK prog 21 fs21 := by
 refine FnOK.mk cok func21 rfl rfl rfl ?_
 rintro fl ⟨(c : CallD),_⟩ hpre F hnt0 _
 have hnt : F.nt = 39 := hnt0.trans ntmps21
 replace hpre : (isCall c = true) := hpre
 have hc := hpre
 refine W.to (⟨[(0,.agg [.i c.proc,.i c.obj,.i c.kind,.i c.arg,.i c.ret,.i c.frm,.i c.to])],[],[999]⟩) rfl ?_
 have hf := call_facts hc
 have s0 := numB_size c.proc
 have s1 := numB_size c.arg
 have s2 := numB_size c.ret
 have s3 := numB_size c.frm
 have s4 := numB_size c.to
 refine Kk cok tab21 hnt [] [1] (⟨[(1,.ptr 1 0)],[(1,⟨40,.fix [.i c.proc,.i c.obj,.i c.kind,.i c.arg,.i c.ret,.i c.frm,.i c.to]⟩)],[1,999]⟩)
  (True ∧ True ∧ True)
  ⟨tt,tt,tt⟩ ?_
 refine W.KA cok tab21 hnt [] [2] (⟨[(2,.v (.string ((((((((((numB c.proc) ++ ((⟨#[120,121]⟩ : ByteArray).extract (Int.toNat c.obj) (Int.toNat (c.obj + (1 : Int))))) ++ ((⟨#[112,116,108]⟩ : ByteArray).extract (Int.toNat c.kind) (Int.toNat (c.kind + (1 : Int))))) ++ (numB c.arg)) ++ (⟨#[61]⟩ : ByteArray)) ++ (numB c.ret)) ++ (⟨#[64]⟩ : ByteArray)) ++ (numB c.frm)) ++ (⟨#[45]⟩ : ByteArray)) ++ (numB c.to))))],[(1,⟨40,.fix [.i c.proc,.i c.obj,.i c.kind,.i c.arg,.i c.ret,.i c.frm,.i c.to]⟩)],[1,999]⟩)
  (True ∧ True ∧ (True ∧ (True ∧ True) ∧ -1000000 ≤ c.proc ∧ c.proc ≤ 1000000) ∧ True ∧ True ∧ True ∧ True ∧ (True ∧ True ∧ (Fits .i64 (c.obj + (1 : Int)))) ∧ (True ∧ True ∧ True ∧ (0 ≤ c.obj) ∧ (c.obj ≤ (c.obj + (1 : Int))) ∧ ((c.obj + (1 : Int)) ≤ ((((⟨#[120,121]⟩ : ByteArray).size) : Nat) : Int))) ∧ (True ∧ True ∧ ((numB c.proc).size + ((⟨#[120,121]⟩ : ByteArray).extract (Int.toNat c.obj) (Int.toNat (c.obj + (1 : Int)))).size ≤ 9223372036854775807)) ∧ True ∧ True ∧ True ∧ True ∧ (True ∧ True ∧ (Fits .i64 (c.kind + (1 : Int)))) ∧ (True ∧ True ∧ True ∧ (0 ≤ c.kind) ∧ (c.kind ≤ (c.kind + (1 : Int))) ∧ ((c.kind + (1 : Int)) ≤ ((((⟨#[112,116,108]⟩ : ByteArray).size) : Nat) : Int))) ∧ (True ∧ True ∧ (((numB c.proc) ++ ((⟨#[120,121]⟩ : ByteArray).extract (Int.toNat c.obj) (Int.toNat (c.obj + (1 : Int))))).size + ((⟨#[112,116,108]⟩ : ByteArray).extract (Int.toNat c.kind) (Int.toNat (c.kind + (1 : Int)))).size ≤ 9223372036854775807)) ∧ True ∧ True ∧ (True ∧ (True ∧ True) ∧ -1000000 ≤ c.arg ∧ c.arg ≤ 1000000) ∧ (True ∧ True ∧ ((((numB c.proc) ++ ((⟨#[120,121]⟩ : ByteArray).extract (Int.toNat c.obj) (Int.toNat (c.obj + (1 : Int))))) ++ ((⟨#[112,116,108]⟩ : ByteArray).extract (Int.toNat c.kind) (Int.toNat (c.kind + (1 : Int))))).size + (numB c.arg).size ≤ 9223372036854775807)) ∧ (True ∧ True ∧ (((((numB c.proc) ++ ((⟨#[120,121]⟩ : ByteArray).extract (Int.toNat c.obj) (Int.toNat (c.obj + (1 : Int))))) ++ ((⟨#[112,116,108]⟩ : ByteArray).extract (Int.toNat c.kind) (Int.toNat (c.kind + (1 : Int))))) ++ (numB c.arg)).size + (⟨#[61]⟩ : ByteArray).size ≤ 9223372036854775807)) ∧ True ∧ True ∧ (True ∧ (True ∧ True) ∧ -1000000 ≤ c.ret ∧ c.ret ≤ 1000000) ∧ (True ∧ True ∧ ((((((numB c.proc) ++ ((⟨#[120,121]⟩ : ByteArray).extract (Int.toNat c.obj) (Int.toNat (c.obj + (1 : Int))))) ++ ((⟨#[112,116,108]⟩ : ByteArray).extract (Int.toNat c.kind) (Int.toNat (c.kind + (1 : Int))))) ++ (numB c.arg)) ++ (⟨#[61]⟩ : ByteArray)).size + (numB c.ret).size ≤ 9223372036854775807)) ∧ (True ∧ True ∧ (((((((numB c.proc) ++ ((⟨#[120,121]⟩ : ByteArray).extract (Int.toNat c.obj) (Int.toNat (c.obj + (1 : Int))))) ++ ((⟨#[112,116,108]⟩ : ByteArray).extract (Int.toNat c.kind) (Int.toNat (c.kind + (1 : Int))))) ++ (numB c.arg)) ++ (⟨#[61]⟩ : ByteArray)) ++ (numB c.ret)).size + (⟨#[64]⟩ : ByteArray).size ≤ 9223372036854775807)) ∧ True ∧ True ∧ (True ∧ (True ∧ True) ∧ -1000000 ≤ c.frm ∧ c.frm ≤ 1000000) ∧ (True ∧ True ∧ ((((((((numB c.proc) ++ ((⟨#[120,121]⟩ : ByteArray).extract (Int.toNat c.obj) (Int.toNat (c.obj + (1 : Int))))) ++ ((⟨#[112,116,108]⟩ : ByteArray).extract (Int.toNat c.kind) (Int.toNat (c.kind + (1 : Int))))) ++ (numB c.arg)) ++ (⟨#[61]⟩ : ByteArray)) ++ (numB c.ret)) ++ (⟨#[64]⟩ : ByteArray)).size + (numB c.frm).size ≤ 9223372036854775807)) ∧ (True ∧ True ∧ (((((((((numB c.proc) ++ ((⟨#[120,121]⟩ : ByteArray).extract (Int.toNat c.obj) (Int.toNat (c.obj + (1 : Int))))) ++ ((⟨#[112,116,108]⟩ : ByteArray).extract (Int.toNat c.kind) (Int.toNat (c.kind + (1 : Int))))) ++ (numB c.arg)) ++ (⟨#[61]⟩ : ByteArray)) ++ (numB c.ret)) ++ (⟨#[64]⟩ : ByteArray)) ++ (numB c.frm)).size + (⟨#[45]⟩ : ByteArray).size ≤ 9223372036854775807)) ∧ True ∧ True ∧ (True ∧ (True ∧ True) ∧ -1000000 ≤ c.to ∧ c.to ≤ 1000000) ∧ (True ∧ True ∧ ((((((((((numB c.proc) ++ ((⟨#[120,121]⟩ : ByteArray).extract (Int.toNat c.obj) (Int.toNat (c.obj + (1 : Int))))) ++ ((⟨#[112,116,108]⟩ : ByteArray).extract (Int.toNat c.kind) (Int.toNat (c.kind + (1 : Int))))) ++ (numB c.arg)) ++ (⟨#[61]⟩ : ByteArray)) ++ (numB c.ret)) ++ (⟨#[64]⟩ : ByteArray)) ++ (numB c.frm)) ++ (⟨#[45]⟩ : ByteArray)).size + (numB c.to).size ≤ 9223372036854775807)) ∧ True ∧ True) (by kernel_rfl) (by kernel_rfl)
  ⟨tt,tt,⟨tt,⟨tt,tt⟩,(by omega)⟩,tt,tt,tt,tt,⟨tt,tt,(by exact fits_i64 (by omega) (by omega))⟩,⟨tt,tt,tt,(by omega),(by omega),(by (try simp only [ByteArray.size_append,ByteArray.size_extract,sz1,sz2,sz3,sz10]); omega)⟩,⟨tt,tt,(by (try simp only [ByteArray.size_append,ByteArray.size_extract,sz1,sz2,sz3,sz10]); omega)⟩,tt,tt,tt,tt,⟨tt,tt,(by exact fits_i64 (by omega) (by omega))⟩,⟨tt,tt,tt,(by omega),(by omega),(by (try simp only [ByteArray.size_append,ByteArray.size_extract,sz1,sz2,sz3,sz10]); omega)⟩,⟨tt,tt,(by (try simp only [ByteArray.size_append,ByteArray.size_extract,sz1,sz2,sz3,sz10]); omega)⟩,tt,tt,⟨tt,⟨tt,tt⟩,(by omega)⟩,⟨tt,tt,(by (try simp only [ByteArray.size_append,ByteArray.size_extract,sz1,sz2,sz3,sz10]); omega)⟩,⟨tt,tt,(by (try simp only [ByteArray.size_append,ByteArray.size_extract,sz1,sz2,sz3,sz10]); omega)⟩,tt,tt,⟨tt,⟨tt,tt⟩,(by omega)⟩,⟨tt,tt,(by (try simp only [ByteArray.size_append,ByteArray.size_extract,sz1,sz2,sz3,sz10]); omega)⟩,⟨tt,tt,(by (try simp only [ByteArray.size_append,ByteArray.size_extract,sz1,sz2,sz3,sz10]); omega)⟩,tt,tt,⟨tt,⟨tt,tt⟩,(by omega)⟩,⟨tt,tt,(by (try simp only [ByteArray.size_append,ByteArray.size_extract,sz1,sz2,sz3,sz10]); omega)⟩,⟨tt,tt,(by (try simp only [ByteArray.size_append,ByteArray.size_extract,sz1,sz2,sz3,sz10]); omega)⟩,tt,tt,⟨tt,⟨tt,tt⟩,(by omega)⟩,⟨tt,tt,(by (try simp only [ByteArray.size_append,ByteArray.size_extract,sz1,sz2,sz3,sz10]); omega)⟩,tt,tt⟩ ?_
 refine W.ret ?_
 exact endQ_ret (.v (.string ((((((((((numB c.proc) ++ ((⟨#[120,121]⟩ : ByteArray).extract (Int.toNat c.obj) (Int.toNat (c.obj + (1 : Int))))) ++ ((⟨#[112,116,108]⟩ : ByteArray).extract (Int.toNat c.kind) (Int.toNat (c.kind + (1 : Int))))) ++ (numB c.arg)) ++ (⟨#[61]⟩ : ByteArray)) ++ (numB c.ret)) ++ (⟨#[64]⟩ : ByteArray)) ++ (numB c.frm)) ++ (⟨#[45]⟩ : ByteArray)) ++ (numB c.to)))) (by kernel_rfl) (@cast (((.string ((((((((((numB c.proc) ++ ((⟨#[120,121]⟩ : ByteArray).extract (Int.toNat c.obj) (Int.toNat (c.obj + (1 : Int))))) ++ ((⟨#[112,116,108]⟩ : ByteArray).extract (Int.toNat c.kind) (Int.toNat (c.kind + (1 : Int))))) ++ (numB c.arg)) ++ (⟨#[61]⟩ : ByteArray)) ++ (numB c.ret)) ++ (⟨#[64]⟩ : ByteArray)) ++ (numB c.frm)) ++ (⟨#[45]⟩ : ByteArray)) ++ (numB c.to))) : Value) = (.string (callTextB c))) _ (by kernel_rfl) (congrArg Value.string (by exact text_val hc)))
theorem ent21 : Entr prog 21 := ⟨_,func21,rfl,by decide⟩
end Go.Proofs.Tryd

set_option linter.unusedSimpArgs false
set_option linter.unusedVariables false
namespace Go.Proofs.Tryd
open Go.Ab Go.RowKit
def fs8 : FnS := fnS [.s .calls] [.calls] (fun _ (h,_) => (.v (.string (histB h)),[],True))
abbrev T8 : Tab := lk [(20,fs20),(21,fs21)]
theorem tab8 : TabOK prog T8 := (TabOK.cons ok20 ent20 (TabOK.cons ok21 ent21 TabOK.nil))
set_option maxRecDepth 100000 in
set_option maxHeartbeats 1000000 in
theorem ok8 : FnOK prog 8 fs8 := by
 refine FnOK.mk cok func8 rfl rfl rfl ?_
 rintro fl ⟨(h : List CallD),_⟩ hpre F hnt0 _
 have hnt : F.nt = 26 := hnt0.trans ntmps8
 clear hpre
 refine W.to (⟨[(0,.sl (.calls h))],[],[999]⟩) rfl ?_
 refine W.lenOf 0 (.calls h) (by kernel_rfl) ?_
 intro hl_h; replace hl_h : List.length h ≤ 9223372036854775807 := hl_h
 refine Kk cok tab8 hnt [] [0] (⟨[(0,.sl (.calls h))],[],[999]⟩)
  (True ∧ True)
  ⟨tt,tt⟩ ?_
 refine W.seq ?_
 refine Kk cok tab8 hnt [] [0,7] (⟨[(0,.sl (.calls h)),(7,.b (!(validHistory h)))],[],[999]⟩)
  (True ∧ (True ∧ (True ∧ True) ∧ True) ∧ True ∧ True)
  ⟨tt,⟨tt,⟨tt,tt⟩,tt⟩,tt,tt⟩ ?_
 refine W.if' (!(validHistory h)) (.b (!(validHistory h))) (by kernel_rfl) rfl trivial ?_ ?_
 ·intro h7
  refine Kk cok tab8 hnt [] [2] (⟨[(2,.v (.string nEmpty))],[],[999]⟩)
   (True ∧ True)
   ⟨tt,tt⟩ ?_
  refine W.ret (thenQ_ret ?_)
  exact endQ_ret (.v (.string nEmpty)) (by kernel_rfl) (@cast (((.string nEmpty) : Value) = (.string (histB h))) _ (by kernel_rfl) (congrArg Value.string (by exact histB_no (not_f h7))))
 ·intro n7
  have hv : validHistory h = true := not_g n7
  have h6 := valid_len hv
  refine W.skip (thenQ_normal ?_)
  refine Kk cok tab8 hnt [] [0,3] (⟨[(0,.sl (.calls h)),(3,.v (.string nEmpty))],[],[999]⟩)
   (True ∧ True)
   ⟨tt,tt⟩ ?_
  refine W.seq ?_
  refine Kk cok tab8 hnt [] [0,3,4] (⟨[(0,.sl (.calls h)),(3,.v (.string nEmpty)),(4,.i (0 : Int))],[],[999]⟩)
   (True ∧ True)
   ⟨tt,tt⟩ ?_
  refine W.block ?_
  refine W.loop (ι := Nat × ByteArray) (fun (x : Nat × ByteArray) => match x with | (i,o) => (⟨[(0,.sl (.calls h)),(3,.v (.string o)),(4,.i ((i : Nat) : Int))],[],[999]⟩ : St))
   (fun (x : Nat × ByteArray) => match x with | (i,o) => (i ≤ h.length) ∧ (o = histUp h i))
   (fun (x : Nat × ByteArray) => match x with | (i,o) => (h.length - i : Nat)) (0,nEmpty) ?_ ?_ ?_
  ·exact (show (0 ≤ h.length) ∧ (nEmpty = histUp h 0) from ⟨(by first | assumption | omega | rfl | (intro _ hjj; omega) | (simp; done) | (simp; omega)),(by exact histUp_zero h)⟩)
  ·exact Sub.of [] (@cast (((Sd (.calls h)) ∧ (((.string nEmpty) : Value) = (.string nEmpty)) ∧ ((.int .i64 (0 : Int) : Value) = .int .i64 ((0 : Nat) : Int)) ∧ True) ∧ True ∧ (true = true) ∧ (true = true)) _ (by kernel_rfl) ⟨⟨rfl,rfl,(congrArg (Value.int .i64) (by first | rfl | omega | assumption | simp | simp_all)),tt⟩,tt,rfl,rfl⟩)
  ·rintro ⟨i,o⟩ hC0
   have hC : (i ≤ h.length) ∧ (o = histUp h i) := hC0
   clear hC0
   obtain ⟨hi,ho⟩ := hC
   refine W.to (⟨[(0,.sl (.calls h)),(3,.v (.string o)),(4,.i ((i : Nat) : Int))],[],[999]⟩) rfl ?_
   have hos : o.size ≤ 16 * i := by rw [ho]; exact hist_size h i
   have hts := text_size (h.getD i default)
   refine W.seq ?_
   refine Kk cok tab8 hnt [] [0,3,4,11] (⟨[(0,.sl (.calls h)),(3,.v (.string o)),(4,.i ((i : Nat) : Int)),(11,.b (decide (((i : Nat) : Int) < (h.length : Int))))],[],[999]⟩)
    (True ∧ True ∧ True ∧ (True ∧ True ∧ True) ∧ True)
    ⟨tt,tt,tt,⟨tt,tt,tt⟩,tt⟩ ?_
   refine W.ifP (((i : Nat) : Int) < (h.length : Int)) (.b (decide (((i : Nat) : Int) < (h.length : Int)))) (by kernel_rfl) rfl trivial ?_ ?_
   ·intro h11
    refine W.skip (thenQ_normal ?_)
    refine W.seq ?_
    refine W.block ?_
    refine W.seq ?_
    refine Kk cok tab8 hnt [] [0,3,4,15] (⟨[(0,.sl (.calls h)),(3,.v (.string o)),(4,.i ((i : Nat) : Int)),(15,.b (decide ((0 : Int) < ((i : Nat) : Int))))],[],[999]⟩)
     (True ∧ (True ∧ True ∧ True) ∧ True)
     ⟨tt,⟨tt,tt,tt⟩,tt⟩ ?_
    refine W.ifP ((0 : Int) < ((i : Nat) : Int)) (.b (decide ((0 : Int) < ((i : Nat) : Int)))) (by kernel_rfl) rfl trivial ?_ ?_
    ·intro h15
     refine Lk cok tab8 hnt [] (⟨[(0,.sl (.calls h)),(3,.v (.string (o ++ (⟨#[32]⟩ : ByteArray)))),(4,.i ((i : Nat) : Int)),(15,.b (decide ((0 : Int) < ((i : Nat) : Int)))),(16,.v (.string o)),(17,.v (.string (o ++ (⟨#[32]⟩ : ByteArray))))],[],[999]⟩)
      (True ∧ (True ∧ True ∧ (o.size + (⟨#[32]⟩ : ByteArray).size ≤ 9223372036854775807)) ∧ True ∧ True)
      ⟨tt,⟨tt,tt,(by (try simp only [ByteArray.size_append,ByteArray.size_extract,sz1,sz2,sz3,sz10]); omega)⟩,tt,tt⟩ ?_
     refine thenQ_normal ?_
     refine Lk cok tab8 hnt [] (⟨[(0,.sl (.calls h)),(3,.v (.string ((o ++ (⟨#[32]⟩ : ByteArray)) ++ (callTextB (h.getD i default))))),(4,.i ((i : Nat) : Int)),(15,.b (decide ((0 : Int) < ((i : Nat) : Int)))),(16,.v (.string o)),(17,.v (.string (o ++ (⟨#[32]⟩ : ByteArray)))),(18,.v (.string (o ++ (⟨#[32]⟩ : ByteArray)))),(19,.sl (.calls h)),(20,.i ((i : Nat) : Int)),(21,.ep [.i ((h.getD i default).proc),.i ((h.getD i default).obj),.i ((h.getD i default).kind),.i ((h.getD i default).arg),.i ((h.getD i default).ret),.i ((h.getD i default).frm),.i ((h.getD i default).to)]),(22,.agg [.i ((h.getD i default).proc),.i ((h.getD i default).obj),.i ((h.getD i default).kind),.i ((h.getD i default).arg),.i ((h.getD i default).ret),.i ((h.getD i default).frm),.i ((h.getD i default).to)]),(23,.v (.string (callTextB (h.getD i default)))),(24,.v (.string ((o ++ (⟨#[32]⟩ : ByteArray)) ++ (callTextB (h.getD i default)))))],[],[999]⟩)
      (True ∧ True ∧ True ∧ (True ∧ True ∧ (0 ≤ ((i : Nat) : Int)) ∧ (((i : Nat) : Int) < (h.length : Int))) ∧ True ∧ (True ∧ (True ∧ True) ∧ (isCall (h.getD i default) = true)) ∧ (True ∧ True ∧ ((o ++ (⟨#[32]⟩ : ByteArray)).size + (callTextB (h.getD i default)).size ≤ 9223372036854775807)) ∧ True ∧ True)
      ⟨tt,tt,tt,⟨tt,tt,(by omega),(by omega)⟩,tt,⟨tt,⟨tt,tt⟩,(by have h9 := valid_call hv _ (getD_mem h default (show i < h.length by omega)); exact h9)⟩,⟨tt,tt,(by (try simp only [ByteArray.size_append,ByteArray.size_extract,sz1,sz2,sz3,sz10]); omega)⟩,tt,tt⟩ ?_
     refine blockQ_normal (thenQ_normal ?_)
     refine Lk cok tab8 hnt [] (⟨[(0,.sl (.calls h)),(3,.v (.string ((o ++ (⟨#[32]⟩ : ByteArray)) ++ (callTextB (h.getD i default))))),(4,.i (((i + 1) : Nat) : Int)),(12,.i ((i : Nat) : Int)),(13,.i (((i + 1) : Nat) : Int)),(15,.b (decide ((0 : Int) < ((i : Nat) : Int)))),(16,.v (.string o)),(17,.v (.string (o ++ (⟨#[32]⟩ : ByteArray)))),(18,.v (.string (o ++ (⟨#[32]⟩ : ByteArray)))),(19,.sl (.calls h)),(20,.i ((i : Nat) : Int)),(21,.ep [.i ((h.getD i default).proc),.i ((h.getD i default).obj),.i ((h.getD i default).kind),.i ((h.getD i default).arg),.i ((h.getD i default).ret),.i ((h.getD i default).frm),.i ((h.getD i default).to)]),(22,.agg [.i ((h.getD i default).proc),.i ((h.getD i default).obj),.i ((h.getD i default).kind),.i ((h.getD i default).arg),.i ((h.getD i default).ret),.i ((h.getD i default).frm),.i ((h.getD i default).to)]),(23,.v (.string (callTextB (h.getD i default)))),(24,.v (.string ((o ++ (⟨#[32]⟩ : ByteArray)) ++ (callTextB (h.getD i default)))))],[],[999]⟩)
      (True ∧ (True ∧ True ∧ (Fits .i64 (((i + 1) : Nat) : Int))) ∧ True ∧ True)
      ⟨tt,⟨tt,tt,(by exact fits_i64 (by omega) (by omega))⟩,tt,tt⟩ ?_
     refine thenQ_normal ?_
     refine ⟨((i + 1),((o ++ (⟨#[32]⟩ : ByteArray)) ++ (callTextB (h.getD i default)))),(show ((i + 1) ≤ h.length) ∧ (((o ++ (⟨#[32]⟩ : ByteArray)) ++ (callTextB (h.getD i default))) = histUp h (i + 1)) from ⟨(by first | assumption | omega | rfl | (intro _ hjj; omega) | (simp; done) | (simp; omega)),(by first | exact histUp_next ho (by omega) h15 | exact histUp_one ho (by omega) n15)⟩),(show h.length - (i + 1) < h.length - i from (by first | omega | (simp_all; omega))),?_⟩
     exact Sub.of [] (@cast (((Sd (.calls h)) ∧ (((.string ((o ++ (⟨#[32]⟩ : ByteArray)) ++ (callTextB (h.getD i default)))) : Value) = (.string ((o ++ (⟨#[32]⟩ : ByteArray)) ++ (callTextB (h.getD i default))))) ∧ (Si (((i + 1) : Nat) : Int)) ∧ True) ∧ True ∧ (true = true) ∧ (true = true)) _ (by kernel_rfl) ⟨⟨rfl,rfl,rfl,tt⟩,tt,rfl,rfl⟩)
    ·intro n15
     refine W.skip (thenQ_normal ?_)
     refine Lk cok tab8 hnt [] (⟨[(0,.sl (.calls h)),(3,.v (.string (o ++ (callTextB (h.getD i default))))),(4,.i ((i : Nat) : Int)),(15,.b (decide ((0 : Int) < ((i : Nat) : Int)))),(18,.v (.string o)),(19,.sl (.calls h)),(20,.i ((i : Nat) : Int)),(21,.ep [.i ((h.getD i default).proc),.i ((h.getD i default).obj),.i ((h.getD i default).kind),.i ((h.getD i default).arg),.i ((h.getD i default).ret),.i ((h.getD i default).frm),.i ((h.getD i default).to)]),(22,.agg [.i ((h.getD i default).proc),.i ((h.getD i default).obj),.i ((h.getD i default).kind),.i ((h.getD i default).arg),.i ((h.getD i default).ret),.i ((h.getD i default).frm),.i ((h.getD i default).to)]),(23,.v (.string (callTextB (h.getD i default)))),(24,.v (.string (o ++ (callTextB (h.getD i default)))))],[],[999]⟩)
      (True ∧ True ∧ True ∧ (True ∧ True ∧ (0 ≤ ((i : Nat) : Int)) ∧ (((i : Nat) : Int) < (h.length : Int))) ∧ True ∧ (True ∧ (True ∧ True) ∧ (isCall (h.getD i default) = true)) ∧ (True ∧ True ∧ (o.size + (callTextB (h.getD i default)).size ≤ 9223372036854775807)) ∧ True ∧ True)
      ⟨tt,tt,tt,⟨tt,tt,(by omega),(by omega)⟩,tt,⟨tt,⟨tt,tt⟩,(by have h9 := valid_call hv _ (getD_mem h default (show i < h.length by omega)); exact h9)⟩,⟨tt,tt,(by (try simp only [ByteArray.size_append,ByteArray.size_extract,sz1,sz2,sz3,sz10]); omega)⟩,tt,tt⟩ ?_
     refine blockQ_normal (thenQ_normal ?_)
     refine Lk cok tab8 hnt [] (⟨[(0,.sl (.calls h)),(3,.v (.string (o ++ (callTextB (h.getD i default))))),(4,.i (((i + 1) : Nat) : Int)),(12,.i ((i : Nat) : Int)),(13,.i (((i + 1) : Nat) : Int)),(15,.b (decide ((0 : Int) < ((i : Nat) : Int)))),(18,.v (.string o)),(19,.sl (.calls h)),(20,.i ((i : Nat) : Int)),(21,.ep [.i ((h.getD i default).proc),.i ((h.getD i default).obj),.i ((h.getD i default).kind),.i ((h.getD i default).arg),.i ((h.getD i default).ret),.i ((h.getD i default).frm),.i ((h.getD i default).to)]),(22,.agg [.i ((h.getD i default).proc),.i ((h.getD i default).obj),.i ((h.getD i default).kind),.i ((h.getD i default).arg),.i ((h.getD i default).ret),.i ((h.getD i default).frm),.i ((h.getD i default).to)]),(23,.v (.string (callTextB (h.getD i default)))),(24,.v (.string (o ++ (callTextB (h.getD i default)))))],[],[999]⟩)
      (True ∧ (True ∧ True ∧ (Fits .i64 (((i + 1) : Nat) : Int))) ∧ True ∧ True)
      ⟨tt,⟨tt,tt,(by exact fits_i64 (by omega) (by omega))⟩,tt,tt⟩ ?_
     refine thenQ_normal ?_
     refine ⟨((i + 1),(o ++ (callTextB (h.getD i default)))),(show ((i + 1) ≤ h.length) ∧ ((o ++ (callTextB (h.getD i default))) = histUp h (i + 1)) from ⟨(by first | assumption | omega | rfl | (intro _ hjj; omega) | (simp; done) | (simp; omega)),(by first | exact histUp_next ho (by omega) h15 | exact histUp_one ho (by omega) n15)⟩),(show h.length - (i + 1) < h.length - i from (by first | omega | (simp_all; omega))),?_⟩
     exact Sub.of [] (@cast (((Sd (.calls h)) ∧ (((.string (o ++ (callTextB (h.getD i default)))) : Value) = (.string (o ++ (callTextB (h.getD i default))))) ∧ (Si (((i + 1) : Nat) : Int)) ∧ True) ∧ True ∧ (true = true) ∧ (true = true)) _ (by kernel_rfl) ⟨⟨rfl,rfl,rfl,tt⟩,tt,rfl,rfl⟩)
   ·intro n11
    refine W.exit (thenQ_exit (thenQ_exit (blockQ_hit ?_)))
    refine thenQ_normal ?_
    refine Kk cok tab8 hnt [] [2] (⟨[(2,.v (.string o))],[],[999]⟩)
     (True ∧ True ∧ True)
     ⟨tt,tt,tt⟩ ?_
    refine W.ret ?_
    exact endQ_ret (.v (.string o)) (by kernel_rfl) (@cast (((.string o) : Value) = (.string (histB h))) _ (by kernel_rfl) (congrArg Value.string (by exact histUp_all hv ho (by omega))))
theorem ent8 : Entr prog 8 := ⟨_,func8,rfl,by decide⟩
end Go.Proofs.Tryd

set_option linter.unusedSimpArgs false
set_option linter.unusedVariables false
namespace Go.Proofs.Tryd
open Go.Ab Go.RowKit Go.Shelf Go.Proofs Go.Lib
def fs62 : FnS := fnS [.o,.o] [.str,.str] (fun _ (s,sep,_) => (.i (idxB s sep),[],(sep.size = 1)))
def renX : Go.Shelf.Ren := ⟨fun k => bif Nat.beq k 143 then 62 else bif Nat.beq k 217 then 64 else bif Nat.beq k 219 then 76 else bif Nat.beq k 224 then 90 else bif Nat.beq k 225 then 89 else bif Nat.beq k 266 then 77 else bif Nat.beq k 267 then 91 else bif Nat.beq k 314 then 100 else k,fun k => bif Nat.beq k 3 then 3 else bif Nat.beq k 4 then 4 else bif Nat.beq k 5 then 5 else bif Nat.beq k 9 then 9 else bif Nat.beq k 46 then 106 else bif Nat.beq k 51 then 115 else bif Nat.beq k 146 then 123 else k,fun k => bif Nat.beq k 1 then 0 else k⟩
set_option maxRecDepth 100000 in
theorem laysX : Go.Proofs.Lays.n143 prog renX where
 mixed := by kernel_rfl
 f143 := by kernel_rfl
 f217 := by kernel_rfl
 f219 := by kernel_rfl
 f224 := by kernel_rfl
 f225 := by kernel_rfl
 f266 := by kernel_rfl
 f267 := by kernel_rfl
 f314 := by kernel_rfl
 t3 := underlying3
 a3 := isAgg3
 z3 := sizeOf3
 v3 := zeroValue3
 t4 := underlying4
 a4 := isAgg4
 z4 := sizeOf4
 v4 := zeroValue4
 t5 := underlying5
 a5 := isAgg5
 z5 := sizeOf5
 v5 := zeroValue5
 t9 := underlying9
 a9 := isAgg9
 z9 := sizeOf9
 v9 := zeroValue9
 t46 := underlying106
 a46 := isAgg106
 z46 := sizeOf106
 v46 := zeroValue106
 t51 := underlying115
 a51 := isAgg115
 z51 := sizeOf115
 v51 := zeroValue115
 t146 := underlying123
 a146 := isAgg123
 z146 := sizeOf123
 v146 := zeroValue123
 g1 := by kernel_rfl
theorem ok62 : FnOK prog 62 fs62 := index_ok laysX
theorem ent62 : Entr prog 62 := ⟨_,func62,rfl,by decide⟩
end Go.Proofs.Tryd

set_option linter.unusedSimpArgs false
set_option linter.unusedVariables false
namespace Go.Proofs.Tryd
open Go.Ab Go.RowKit
def fs46 : FnS := fnS [.o,.o,.o,.o] [.str,.str,.int,.int] (fun _ (s,sep,sv,n,_) => (.own 0 (List.length (splitNB sep n s)),[(9,.strs (splitNB sep n s))],(sep.size = 1) ∧ (sv = 0) ∧ (1 ≤ n ∧ n ≤ 1000) ∧ (s.size ≤ 2000000)))
abbrev T46 : Tab := lk [(62,fs62)]
theorem tab46 : TabOK prog T46 := (TabOK.cons ok62 ent62 TabOK.nil)
set_option maxRecDepth 100000 in
set_option maxHeartbeats 1000000 in
theorem ok46 : FnOK prog 46 fs46 := by
 refine FnOK.mk cok func46 rfl rfl rfl ?_
 rintro fl ⟨(s : ByteArray),(sep : ByteArray),(sv : Int),(n : Int),_⟩ hpre F hnt0 _
 have hnt : F.nt = 66 := hnt0.trans ntmps46
 replace hpre : (sep.size = 1) ∧ (sv = 0) ∧ (1 ≤ n ∧ n ≤ 1000) ∧ (s.size ≤ 2000000) := hpre
 obtain ⟨hs,hv,hn,hz⟩ := hpre
 refine W.to (⟨[(0,.v (.string s)),(1,.v (.string sep)),(2,.i sv),(3,.i n)],[],[999]⟩) rfl ?_
 refine Kk cok tab46 hnt [] [0,1,2,3] (⟨[(0,.v (.string s)),(1,.v (.string sep)),(2,.i sv),(3,.i n)],[],[999]⟩)
  (True ∧ True)
  ⟨tt,tt⟩ ?_
 refine W.seq ?_
 refine Kk cok tab46 hnt [] [0,1,2,3,13] (⟨[(0,.v (.string s)),(1,.v (.string sep)),(2,.i sv),(3,.i n),(13,.b (decide (n = (0 : Int))))],[],[999]⟩)
  (True ∧ (True ∧ True ∧ True) ∧ True)
  ⟨tt,⟨tt,tt,tt⟩,tt⟩ ?_
 refine W.ifP (n = (0 : Int)) (.b (decide (n = (0 : Int)))) (by kernel_rfl) rfl trivial ?_ ?_
 ·intro h13
  exact (show False from (by omega)).elim
 ·intro n13
  refine W.skip (thenQ_normal ?_)
  refine W.seq ?_
  refine Kk cok tab46 hnt [] [0,1,2,3,15] (⟨[(0,.v (.string s)),(1,.v (.string sep)),(2,.i sv),(3,.i n),(15,.b (eqS sep nEmpty))],[],[999]⟩)
   (True ∧ (True ∧ True ∧ True) ∧ True)
   ⟨tt,⟨tt,tt,tt⟩,tt⟩ ?_
  refine W.if' (eqS sep nEmpty) (.b (eqS sep nEmpty)) (by kernel_rfl) rfl trivial ?_ ?_
  ·intro h15
   exact (show False from (by rw [eqB_iff] at h15; rw [h15] at hs; cases hs)).elim
  ·intro n15
   refine W.skip (thenQ_normal ?_)
   refine W.seq ?_
   refine Kk cok tab46 hnt [] [0,1,2,3,20] (⟨[(0,.v (.string s)),(1,.v (.string sep)),(2,.i sv),(3,.i n),(20,.b (decide (n < (0 : Int))))],[],[999]⟩)
    (True ∧ (True ∧ True ∧ True) ∧ True)
    ⟨tt,⟨tt,tt,tt⟩,tt⟩ ?_
   refine W.ifP (n < (0 : Int)) (.b (decide (n < (0 : Int)))) (by kernel_rfl) rfl trivial ?_ ?_
   ·intro h20
    exact (show False from (by omega)).elim
   ·intro n20
    refine W.skip (thenQ_normal ?_)
    refine Kk cok tab46 hnt [] [0,1,2,3] (⟨[(0,.v (.string s)),(1,.v (.string sep)),(2,.i sv),(3,.i (min n (((s.size + 1) : Nat) : Int)))],[],[999]⟩)
     (True ∧ True ∧ True ∧ (True ∧ True ∧ (Fits .i64 (((s.size + 1) : Nat) : Int))) ∧ (True ∧ True) ∧ True ∧ True)
     ⟨tt,tt,tt,⟨tt,tt,(by exact fits_i64 (by omega) (by omega))⟩,⟨tt,tt⟩,tt,tt⟩ ?_
    refine Kk cok tab46 hnt [31] [0,1,2,3,9] (⟨[(0,.v (.string s)),(1,.v (.string sep)),(2,.i sv),(3,.i (min n (((s.size + 1) : Nat) : Int))),(9,.own 31 (List.length (List.replicate (Int.toNat (min n (((s.size + 1) : Nat) : Int))) ByteArray.empty)))],[(31,⟨9,.row (.strs (List.replicate (Int.toNat (min n (((s.size + 1) : Nat) : Int))) ByteArray.empty))⟩)],[31,999]⟩)
     (True ∧ (True ∧ True ∧ ((min n (((s.size + 1) : Nat) : Int)) = (min n (((s.size + 1) : Nat) : Int))) ∧ (0 ≤ (min n (((s.size + 1) : Nat) : Int))) ∧ ((min n (((s.size + 1) : Nat) : Int)) * 16 ≤ 281474976710656)) ∧ True ∧ True)
     ⟨tt,⟨tt,tt,rfl,(by omega),(by (try simp only [List.length_append,List.length_cons,List.length_nil,List.length_set]); omega)⟩,tt,tt⟩ ?_
    refine Kk cok tab46 hnt [] [0,1,2,3,9] (⟨[(0,.v (.string s)),(1,.v (.string sep)),(2,.i sv),(3,.i ((min n (((s.size + 1) : Nat) : Int)) - (1 : Int))),(9,.own 31 (List.length (List.replicate (Int.toNat (min n (((s.size + 1) : Nat) : Int))) ByteArray.empty)))],[(31,⟨9,.row (.strs (List.replicate (Int.toNat (min n (((s.size + 1) : Nat) : Int))) ByteArray.empty))⟩)],[31,999]⟩)
     (True ∧ (True ∧ True ∧ (Fits .i64 ((min n (((s.size + 1) : Nat) : Int)) - (1 : Int)))) ∧ True ∧ True)
     ⟨tt,⟨tt,tt,(by exact fits_i64 (by omega) (by omega))⟩,tt,tt⟩ ?_
    refine Kk cok tab46 hnt [] [0,1,2,3,9,10] (⟨[(0,.v (.string s)),(1,.v (.string sep)),(2,.i sv),(3,.i ((min n (((s.size + 1) : Nat) : Int)) - (1 : Int))),(9,.own 31 (List.length (List.replicate (Int.toNat (min n (((s.size + 1) : Nat) : Int))) ByteArray.empty))),(10,.i (0 : Int))],[(31,⟨9,.row (.strs (List.replicate (Int.toNat (min n (((s.size + 1) : Nat) : Int))) ByteArray.empty))⟩)],[31,999]⟩)
     (True ∧ True)
     ⟨tt,tt⟩ ?_
    refine W.seq ?_
    refine W.block ?_
    refine W.loop (ι := ByteArray × Nat × (List ByteArray)) (fun (x : ByteArray × Nat × (List ByteArray)) => match x with | (r,i,a) => (⟨[(0,.v (.string r)),(1,.v (.string sep)),(2,.i sv),(3,.i ((min n (((s.size + 1) : Nat) : Int)) - (1 : Int))),(9,.own 31 (List.length (List.replicate (Int.toNat (min n (((s.size + 1) : Nat) : Int))) ByteArray.empty))),(10,.i ((i : Nat) : Int))],[(31,⟨9,.row (.strs a)⟩)],[31,999]⟩ : St))
     (fun (x : ByteArray × Nat × (List ByteArray)) => match x with | (r,i,a) => (i + 1 ≤ Int.toNat (min n (((s.size : Nat) : Int) + 1))) ∧ (r.size ≤ s.size) ∧ (a.length = Int.toNat (min n (((s.size : Nat) : Int) + 1))) ∧ (a.take i ++ (splitNL (sepc sep) (Int.toNat (min n (((s.size : Nat) : Int) + 1)) - i) r.data.toList).map BA = splitNB sep n s))
     (fun (x : ByteArray × Nat × (List ByteArray)) => match x with | (r,i,a) => (Int.toNat n - i : Nat)) (s,0,(List.replicate (Int.toNat (min n (((s.size + 1) : Nat) : Int))) ByteArray.empty)) ?_ ?_ ?_
    ·exact (show (0 + 1 ≤ Int.toNat (min n (((s.size : Nat) : Int) + 1))) ∧ (s.size ≤ s.size) ∧ ((List.replicate (Int.toNat (min n (((s.size + 1) : Nat) : Int))) ByteArray.empty).length = Int.toNat (min n (((s.size : Nat) : Int) + 1))) ∧ ((List.replicate (Int.toNat (min n (((s.size + 1) : Nat) : Int))) ByteArray.empty).take 0 ++ (splitNL (sepc sep) (Int.toNat (min n (((s.size : Nat) : Int) + 1)) - 0) s.data.toList).map BA = splitNB sep n s) from ⟨(by omega),(by exact Nat.le_refl _),(by exact List.length_replicate),(by exact gs_init hn.1)⟩)
    ·exact Sub.of [] (@cast (((((.string s) : Value) = (.string s)) ∧ (((.string sep) : Value) = (.string sep)) ∧ (Si sv) ∧ (Si ((min n (((s.size + 1) : Nat) : Int)) - (1 : Int))) ∧ (((31 : Nat) = 31) ∧ ((List.length (List.replicate (Int.toNat (min n (((s.size + 1) : Nat) : Int))) ByteArray.empty)) = (List.length (List.replicate (Int.toNat (min n (((s.size + 1) : Nat) : Int))) ByteArray.empty))) ∧ ((31 : Nat) ∈ ([31,999] : List Nat))) ∧ ((.int .i64 (0 : Int) : Value) = .int .i64 ((0 : Nat) : Int)) ∧ True) ∧ ((((9 : Nat) = 9) ∧ (Sd (.strs (List.replicate (Int.toNat (min n (((s.size + 1) : Nat) : Int))) ByteArray.empty))) ∧ ((31 : Nat) ∈ ([31,999] : List Nat))) ∧ True) ∧ (true = true) ∧ (true = true)) _ (by kernel_rfl) ⟨⟨rfl,rfl,rfl,rfl,⟨rfl,rfl,(by decide)⟩,(congrArg (Value.int .i64) (by first | rfl | omega | assumption | simp | simp_all)),tt⟩,⟨⟨rfl,rfl,(by decide)⟩,tt⟩,rfl,rfl⟩)
    ·rintro ⟨r,i,a⟩ hC0
     have hC : (i + 1 ≤ Int.toNat (min n (((s.size : Nat) : Int) + 1))) ∧ (r.size ≤ s.size) ∧ (a.length = Int.toNat (min n (((s.size : Nat) : Int) + 1))) ∧ (a.take i ++ (splitNL (sepc sep) (Int.toNat (min n (((s.size : Nat) : Int) + 1)) - i) r.data.toList).map BA = splitNB sep n s) := hC0
     clear hC0
     obtain ⟨hi,hr,ha,hp⟩ := hC
     refine W.to (⟨[(0,.v (.string r)),(1,.v (.string sep)),(2,.i sv),(3,.i ((min n (((s.size + 1) : Nat) : Int)) - (1 : Int))),(9,.own 31 (List.length (List.replicate (Int.toNat (min n (((s.size + 1) : Nat) : Int))) ByteArray.empty))),(10,.i ((i : Nat) : Int))],[(31,⟨9,.row (.strs a)⟩)],[31,999]⟩) rfl ?_
     have hb := idx_bnd r sep
     refine W.seq ?_
     refine Kk cok tab46 hnt [] [0,1,2,3,9,10,36] (⟨[(0,.v (.string r)),(1,.v (.string sep)),(2,.i sv),(3,.i ((min n (((s.size + 1) : Nat) : Int)) - (1 : Int))),(9,.own 31 (List.length (List.replicate (Int.toNat (min n (((s.size + 1) : Nat) : Int))) ByteArray.empty))),(10,.i ((i : Nat) : Int)),(36,.b (decide (((i : Nat) : Int) < ((min n (((s.size + 1) : Nat) : Int)) - (1 : Int)))))],[(31,⟨9,.row (.strs a)⟩)],[31,999]⟩)
      (True ∧ True ∧ (True ∧ True ∧ True) ∧ True)
      ⟨tt,tt,⟨tt,tt,tt⟩,tt⟩ ?_
     refine W.ifP (((i : Nat) : Int) < ((min n (((s.size + 1) : Nat) : Int)) - (1 : Int))) (.b (decide (((i : Nat) : Int) < ((min n (((s.size + 1) : Nat) : Int)) - (1 : Int))))) (by kernel_rfl) rfl trivial ?_ ?_
     ·intro h36
      refine W.skip (thenQ_normal ?_)
      refine W.block ?_
      refine Kk cok tab46 hnt [] [0,1,2,3,9,10,11] (⟨[(0,.v (.string r)),(1,.v (.string sep)),(2,.i sv),(3,.i ((min n (((s.size + 1) : Nat) : Int)) - (1 : Int))),(9,.own 31 (List.length (List.replicate (Int.toNat (min n (((s.size + 1) : Nat) : Int))) ByteArray.empty))),(10,.i ((i : Nat) : Int)),(11,.i (idxB r sep))],[(31,⟨9,.row (.strs a)⟩)],[31,999]⟩)
       (True ∧ True ∧ (True ∧ (True ∧ True ∧ True) ∧ (sep.size = 1)) ∧ True ∧ True)
       ⟨tt,tt,⟨tt,⟨tt,tt,tt⟩,(by omega)⟩,tt,tt⟩ ?_
      refine W.seq ?_
      refine Kk cok tab46 hnt [] [0,1,2,3,9,10,11,41] (⟨[(0,.v (.string r)),(1,.v (.string sep)),(2,.i sv),(3,.i ((min n (((s.size + 1) : Nat) : Int)) - (1 : Int))),(9,.own 31 (List.length (List.replicate (Int.toNat (min n (((s.size + 1) : Nat) : Int))) ByteArray.empty))),(10,.i ((i : Nat) : Int)),(11,.i (idxB r sep)),(41,.b (decide ((idxB r sep) < (0 : Int))))],[(31,⟨9,.row (.strs a)⟩)],[31,999]⟩)
       (True ∧ (True ∧ True ∧ True) ∧ True)
       ⟨tt,⟨tt,tt,tt⟩,tt⟩ ?_
      refine W.ifP ((idxB r sep) < (0 : Int)) (.b (decide ((idxB r sep) < (0 : Int)))) (by kernel_rfl) rfl trivial ?_ ?_
      ·intro h41
       refine W.exit (thenQ_exit (blockQ_miss rfl (thenQ_exit (blockQ_hit ?_))))
       refine thenQ_normal ?_
       refine Kk cok tab46 hnt [] [9,10] (⟨[(9,.own 31 (List.length (List.replicate (Int.toNat (min n (((s.size + 1) : Nat) : Int))) ByteArray.empty))),(10,.i ((i : Nat) : Int))],[(31,⟨9,.row (.strs (List.set a i r))⟩)],[31,999]⟩)
        (True ∧ True ∧ True ∧ (True ∧ True ∧ (0 ≤ ((i : Nat) : Int)) ∧ (((i : Nat) : Int) < (((List.length (List.replicate (Int.toNat (min n (((s.size + 1) : Nat) : Int))) ByteArray.empty)) : Nat) : Int))) ∧ (True ∧ True ∧ (i < a.length)) ∧ True)
        ⟨tt,tt,tt,⟨tt,tt,(by omega),(by (try simp only [List.length_replicate,List.length_set]); omega)⟩,⟨tt,tt,(by omega)⟩,tt⟩ ?_
       refine Kk cok tab46 hnt [] [8] (⟨[(8,.own 31 (i + 1))],[(31,⟨9,.row (.strs (List.set a i r))⟩)],[31,999]⟩)
        (True ∧ True ∧ (True ∧ True ∧ (Fits .i64 (((i + 1) : Nat) : Int))) ∧ (True ∧ True ∧ (0 ≤ (((i + 1) : Nat) : Int)) ∧ ((((i + 1) : Nat) : Int) ≤ (((List.length (List.replicate (Int.toNat (min n (((s.size + 1) : Nat) : Int))) ByteArray.empty)) : Nat) : Int))) ∧ True ∧ True)
        ⟨tt,tt,⟨tt,tt,(by exact fits_i64 (by omega) (by omega))⟩,⟨tt,tt,(by omega),(by (try simp only [List.length_replicate,List.length_set]); omega)⟩,tt,tt⟩ ?_
       refine W.cutRow 31 9 (.strs (List.set a i r)) (.strs (List.take (i + 1) (List.set a i r))) (i + 1) (⟨[(8,.own 31 (i + 1))],[(31,⟨9,.row (.strs (List.take (i + 1) (List.set a i r)))⟩)],[31,999]⟩) (by kernel_rfl) (by rfl) (show (i + 1) ≤ (List.length (List.set a i r)) from (by (first | omega | (simp only [List.length_set]; done) | (simp only [List.length_append,List.length_cons,List.length_nil,List.length_take,List.length_drop,List.length_set,List.length_replicate,List.length_map] at *; omega) | assumption))) (by kernel_rfl) ?_
       refine W.ret ?_
       exact endQ_rows [(0,31)] (.own 31 (i + 1)) (by kernel_rfl) (@cast (((31 : Nat) = 31) ∧ ((i + 1) = (List.length (splitNB sep n s))) ∧ ((0 : Nat) ∈ ([0] : List Nat))) _ (by kernel_rfl) ⟨rfl,(by first | rfl | omega | assumption | (symm; assumption) | (exact congrArg List.length (by first | exact gs_end hp (by omega) ha (.inl h41) | (rw [← gs_end hp (by omega) ha (.inl h41),List.length_take,List.length_set]; omega))) | (first | exact gs_end hp (by omega) ha (.inl h41) | (rw [← gs_end hp (by omega) ha (.inl h41),List.length_take,List.length_set]; omega); done) | simp | simp_all),(by decide)⟩) (@cast ((((9 : Nat) = 9) ∧ ((.strs (List.take (i + 1) (List.set a i r)) : Dat) = .strs (splitNB sep n s)) ∧ ((0 : Nat) ∈ ([0] : List Nat))) ∧ True) _ (by kernel_rfl) ⟨⟨rfl,(congrArg Dat.strs (by first | exact gs_end hp (by omega) ha (.inl h41) | (rw [← gs_end hp (by omega) ha (.inl h41),List.length_take,List.length_set]; omega))),(by decide)⟩,tt⟩) (by kernel_rfl)
      ·intro n41
       have h41n := n41
       refine W.skip (thenQ_normal ?_)
       refine Kk cok tab46 hnt [] [0,1,2,3,9,10,11] (⟨[(0,.v (.string r)),(1,.v (.string sep)),(2,.i sv),(3,.i ((min n (((s.size + 1) : Nat) : Int)) - (1 : Int))),(9,.own 31 (List.length (List.replicate (Int.toNat (min n (((s.size + 1) : Nat) : Int))) ByteArray.empty))),(10,.i ((i : Nat) : Int)),(11,.i (idxB r sep))],[(31,⟨9,.row (.strs (List.set a i (r.extract 0 (Int.toNat ((idxB r sep) + sv)))))⟩)],[31,999]⟩)
        (True ∧ True ∧ True ∧ True ∧ True ∧ (True ∧ True ∧ (Fits .i64 ((idxB r sep) + sv))) ∧ (True ∧ True ∧ True ∧ (0 ≤ (0 : Int)) ∧ ((0 : Int) ≤ ((idxB r sep) + sv)) ∧ (((idxB r sep) + sv) ≤ ((r.size : Nat) : Int))) ∧ (True ∧ True ∧ (0 ≤ ((i : Nat) : Int)) ∧ (((i : Nat) : Int) < (((List.length (List.replicate (Int.toNat (min n (((s.size + 1) : Nat) : Int))) ByteArray.empty)) : Nat) : Int))) ∧ (True ∧ True ∧ (i < a.length)) ∧ True)
        ⟨tt,tt,tt,tt,tt,⟨tt,tt,(by exact fits_i64 (by omega) (by omega))⟩,⟨tt,tt,tt,(by omega),(by omega),(by omega)⟩,⟨tt,tt,(by omega),(by (try simp only [List.length_replicate,List.length_set]); omega)⟩,⟨tt,tt,(by omega)⟩,tt⟩ ?_
       refine Kk cok tab46 hnt [] [0,1,2,3,9,10] (⟨[(0,.v (.string (r.extract (Int.toNat ((idxB r sep) + ((sep.size : Nat) : Int))) r.size))),(1,.v (.string sep)),(2,.i sv),(3,.i ((min n (((s.size + 1) : Nat) : Int)) - (1 : Int))),(9,.own 31 (List.length (List.replicate (Int.toNat (min n (((s.size + 1) : Nat) : Int))) ByteArray.empty))),(10,.i ((i : Nat) : Int))],[(31,⟨9,.row (.strs (List.set a i (r.extract 0 (Int.toNat ((idxB r sep) + sv)))))⟩)],[31,999]⟩)
        (True ∧ True ∧ True ∧ True ∧ (True ∧ True ∧ (Fits .i64 ((idxB r sep) + ((sep.size : Nat) : Int)))) ∧ (True ∧ True ∧ True ∧ (0 ≤ ((idxB r sep) + ((sep.size : Nat) : Int))) ∧ (((idxB r sep) + ((sep.size : Nat) : Int)) ≤ ((r.size : Nat) : Int)) ∧ (((r.size : Nat) : Int) ≤ ((r.size : Nat) : Int))) ∧ True ∧ True)
        ⟨tt,tt,tt,tt,⟨tt,tt,(by exact fits_i64 (by omega) (by omega))⟩,⟨tt,tt,tt,(by omega),(by omega),(by omega)⟩,tt,tt⟩ ?_
       refine Lk cok tab46 hnt [] (⟨[(0,.v (.string (r.extract (Int.toNat ((idxB r sep) + ((sep.size : Nat) : Int))) r.size))),(1,.v (.string sep)),(2,.i sv),(3,.i ((min n (((s.size + 1) : Nat) : Int)) - (1 : Int))),(9,.own 31 (List.length (List.replicate (Int.toNat (min n (((s.size + 1) : Nat) : Int))) ByteArray.empty))),(10,.i (((i + 1) : Nat) : Int)),(56,.i ((i : Nat) : Int)),(57,.i (((i + 1) : Nat) : Int))],[(31,⟨9,.row (.strs (List.set a i (r.extract 0 (Int.toNat ((idxB r sep) + sv)))))⟩)],[31,999]⟩)
        (True ∧ (True ∧ True ∧ (Fits .i64 (((i + 1) : Nat) : Int))) ∧ True ∧ True)
        ⟨tt,⟨tt,tt,(by exact fits_i64 (by omega) (by omega))⟩,tt,tt⟩ ?_
       refine blockQ_normal (thenQ_normal ?_)
       refine ⟨((r.extract (Int.toNat ((idxB r sep) + ((sep.size : Nat) : Int))) r.size),(i + 1),(List.set a i (r.extract 0 (Int.toNat ((idxB r sep) + sv))))),(show ((i + 1) + 1 ≤ Int.toNat (min n (((s.size : Nat) : Int) + 1))) ∧ ((r.extract (Int.toNat ((idxB r sep) + ((sep.size : Nat) : Int))) r.size).size ≤ s.size) ∧ ((List.set a i (r.extract 0 (Int.toNat ((idxB r sep) + sv)))).length = Int.toNat (min n (((s.size : Nat) : Int) + 1))) ∧ ((List.set a i (r.extract 0 (Int.toNat ((idxB r sep) + sv)))).take (i + 1) ++ (splitNL (sepc sep) (Int.toNat (min n (((s.size : Nat) : Int) + 1)) - (i + 1)) (r.extract (Int.toNat ((idxB r sep) + ((sep.size : Nat) : Int))) r.size).data.toList).map BA = splitNB sep n s) from ⟨(by omega),(by rw [ByteArray.size_extract]; omega),(by rw [List.length_set]; exact ha),(by exact gs_step hp (by omega) ha h41n hv hs)⟩),(show Int.toNat n - (i + 1) < Int.toNat n - i from (by first | omega | (simp_all; omega))),?_⟩
       exact Sub.of [] (@cast (((((.string (r.extract (Int.toNat ((idxB r sep) + ((sep.size : Nat) : Int))) r.size)) : Value) = (.string (r.extract (Int.toNat ((idxB r sep) + ((sep.size : Nat) : Int))) r.size))) ∧ (((.string sep) : Value) = (.string sep)) ∧ (Si sv) ∧ (Si ((min n (((s.size + 1) : Nat) : Int)) - (1 : Int))) ∧ (((31 : Nat) = 31) ∧ ((List.length (List.replicate (Int.toNat (min n (((s.size + 1) : Nat) : Int))) ByteArray.empty)) = (List.length (List.replicate (Int.toNat (min n (((s.size + 1) : Nat) : Int))) ByteArray.empty))) ∧ ((31 : Nat) ∈ ([31,999] : List Nat))) ∧ (Si (((i + 1) : Nat) : Int)) ∧ True) ∧ ((((9 : Nat) = 9) ∧ (Sd (.strs (List.set a i (r.extract 0 (Int.toNat ((idxB r sep) + sv)))))) ∧ ((31 : Nat) ∈ ([31,999] : List Nat))) ∧ True) ∧ (true = true) ∧ (true = true)) _ (by kernel_rfl) ⟨⟨rfl,rfl,rfl,rfl,⟨rfl,rfl,(by decide)⟩,rfl,tt⟩,⟨⟨rfl,rfl,(by decide)⟩,tt⟩,rfl,rfl⟩)
     ·intro n36
      refine W.exit (thenQ_exit (thenQ_exit (blockQ_hit ?_)))
      refine thenQ_normal ?_
      refine Kk cok tab46 hnt [] [9,10] (⟨[(9,.own 31 (List.length (List.replicate (Int.toNat (min n (((s.size + 1) : Nat) : Int))) ByteArray.empty))),(10,.i ((i : Nat) : Int))],[(31,⟨9,.row (.strs (List.set a i r))⟩)],[31,999]⟩)
       (True ∧ True ∧ True ∧ (True ∧ True ∧ (0 ≤ ((i : Nat) : Int)) ∧ (((i : Nat) : Int) < (((List.length (List.replicate (Int.toNat (min n (((s.size + 1) : Nat) : Int))) ByteArray.empty)) : Nat) : Int))) ∧ (True ∧ True ∧ (i < a.length)) ∧ True)
       ⟨tt,tt,tt,⟨tt,tt,(by omega),(by (try simp only [List.length_replicate,List.length_set]); omega)⟩,⟨tt,tt,(by omega)⟩,tt⟩ ?_
      refine Kk cok tab46 hnt [] [8] (⟨[(8,.own 31 (i + 1))],[(31,⟨9,.row (.strs (List.set a i r))⟩)],[31,999]⟩)
       (True ∧ True ∧ (True ∧ True ∧ (Fits .i64 (((i + 1) : Nat) : Int))) ∧ (True ∧ True ∧ (0 ≤ (((i + 1) : Nat) : Int)) ∧ ((((i + 1) : Nat) : Int) ≤ (((List.length (List.replicate (Int.toNat (min n (((s.size + 1) : Nat) : Int))) ByteArray.empty)) : Nat) : Int))) ∧ True ∧ True)
       ⟨tt,tt,⟨tt,tt,(by exact fits_i64 (by omega) (by omega))⟩,⟨tt,tt,(by omega),(by (try simp only [List.length_replicate,List.length_set]); omega)⟩,tt,tt⟩ ?_
      refine W.cutRow 31 9 (.strs (List.set a i r)) (.strs (List.take (i + 1) (List.set a i r))) (i + 1) (⟨[(8,.own 31 (i + 1))],[(31,⟨9,.row (.strs (List.take (i + 1) (List.set a i r)))⟩)],[31,999]⟩) (by kernel_rfl) (by rfl) (show (i + 1) ≤ (List.length (List.set a i r)) from (by (first | omega | (simp only [List.length_set]; done) | (simp only [List.length_append,List.length_cons,List.length_nil,List.length_take,List.length_drop,List.length_set,List.length_replicate,List.length_map] at *; omega) | assumption))) (by kernel_rfl) ?_
      refine W.ret ?_
      exact endQ_rows [(0,31)] (.own 31 (i + 1)) (by kernel_rfl) (@cast (((31 : Nat) = 31) ∧ ((i + 1) = (List.length (splitNB sep n s))) ∧ ((0 : Nat) ∈ ([0] : List Nat))) _ (by kernel_rfl) ⟨rfl,(by first | rfl | omega | assumption | (symm; assumption) | (exact congrArg List.length (by first | exact gs_end hp (by omega) ha (.inr (by omega)) | (rw [← gs_end hp (by omega) ha (.inr (by omega)),List.length_take,List.length_set]; omega))) | (first | exact gs_end hp (by omega) ha (.inr (by omega)) | (rw [← gs_end hp (by omega) ha (.inr (by omega)),List.length_take,List.length_set]; omega); done) | simp | simp_all),(by decide)⟩) (@cast ((((9 : Nat) = 9) ∧ ((.strs (List.take (i + 1) (List.set a i r)) : Dat) = .strs (splitNB sep n s)) ∧ ((0 : Nat) ∈ ([0] : List Nat))) ∧ True) _ (by kernel_rfl) ⟨⟨rfl,(congrArg Dat.strs (by first | exact gs_end hp (by omega) ha (.inr (by omega)) | (rw [← gs_end hp (by omega) ha (.inr (by omega)),List.length_take,List.length_set]; omega))),(by decide)⟩,tt⟩) (by kernel_rfl)
theorem ent46 : Entr prog 46 := ⟨_,func46,rfl,by decide⟩
end Go.Proofs.Tryd

set_option linter.unusedSimpArgs false
set_option linter.unusedVariables false
namespace Go.Proofs.Tryd
open Go.Ab Go.RowKit
def fs30 : FnS := fnS [.o,.o,.o] [.str,.str,.int] (fun _ (s,sep,n,_) => (.own 0 (List.length (splitNB sep n s)),[(9,.strs (splitNB sep n s))],(sep.size = 1) ∧ (1 ≤ n ∧ n ≤ 1000) ∧ (s.size ≤ 2000000)))
abbrev T30 : Tab := lk [(46,fs46)]
theorem tab30 : TabOK prog T30 := (TabOK.cons ok46 ent46 TabOK.nil)
set_option maxRecDepth 100000 in
set_option maxHeartbeats 1000000 in
theorem ok30 : FnOK prog 30 fs30 := by
 refine FnOK.mk cok func30 rfl rfl rfl ?_
 rintro fl ⟨(s : ByteArray),(sep : ByteArray),(n : Int),_⟩ hpre F hnt0 _
 have hnt : F.nt = 11 := hnt0.trans ntmps30
 replace hpre : (sep.size = 1) ∧ (1 ≤ n ∧ n ≤ 1000) ∧ (s.size ≤ 2000000) := hpre
 obtain ⟨hs,hn,hz⟩ := hpre
 refine W.to (⟨[(0,.v (.string s)),(1,.v (.string sep)),(2,.i n)],[],[999]⟩) rfl ?_
 refine Kk cok tab30 hnt [] [0,1,2] (⟨[(0,.v (.string s)),(1,.v (.string sep)),(2,.i n)],[],[999]⟩)
  (True ∧ True)
  ⟨tt,tt⟩ ?_
 refine Kk cok tab30 hnt [10] [6] (⟨[(6,.own 10 (List.length (splitNB sep n s)))],[(10,⟨9,.row (.strs (splitNB sep n s))⟩)],[10,999]⟩)
  (True ∧ True ∧ True ∧ (True ∧ (True ∧ True ∧ True ∧ True ∧ True) ∧ (sep.size = 1) ∧ ((0 : Int) = 0) ∧ (1 ≤ n ∧ n ≤ 1000) ∧ (s.size ≤ 2000000)) ∧ True ∧ True)
  ⟨tt,tt,tt,⟨tt,⟨tt,tt,tt,tt,tt⟩,(by omega),(by rfl),(by omega),(by omega)⟩,tt,tt⟩ ?_
 refine W.ret ?_
 exact endQ_rows [(0,10)] (.own 10 (List.length (splitNB sep n s))) (by kernel_rfl) (@cast (((10 : Nat) = 10) ∧ ((List.length (splitNB sep n s)) = (List.length (splitNB sep n s))) ∧ ((0 : Nat) ∈ ([0] : List Nat))) _ (by kernel_rfl) ⟨rfl,rfl,(by decide)⟩) (@cast ((((9 : Nat) = 9) ∧ (Sd (.strs (splitNB sep n s))) ∧ ((0 : Nat) ∈ ([0] : List Nat))) ∧ True) _ (by kernel_rfl) ⟨⟨rfl,rfl,(by decide)⟩,tt⟩) (by kernel_rfl)
theorem ent30 : Entr prog 30 := ⟨_,func30,rfl,by decide⟩
end Go.Proofs.Tryd

set_option linter.unusedSimpArgs false
set_option linter.unusedVariables false
namespace Go.Proofs.Tryd
open Go.Ab Go.RowKit Go.Shelf Go.Proofs Go.Lib
def fs76 : FnS := fnS [.o,.o] [.str,.str] (fun _ (s,sep,_) => (.i (idxB s sep),[],(sep.size = 1)))
def renL : Go.Shelf.Ren := ⟨fun k => bif Nat.beq k 217 then 64 else bif Nat.beq k 219 then 76 else bif Nat.beq k 224 then 90 else bif Nat.beq k 225 then 89 else bif Nat.beq k 266 then 77 else bif Nat.beq k 267 then 91 else bif Nat.beq k 314 then 100 else k,fun k => bif Nat.beq k 3 then 3 else bif Nat.beq k 4 then 4 else bif Nat.beq k 5 then 5 else bif Nat.beq k 9 then 9 else bif Nat.beq k 46 then 106 else bif Nat.beq k 51 then 115 else bif Nat.beq k 146 then 123 else k,fun k => bif Nat.beq k 1 then 0 else k⟩
set_option maxRecDepth 100000 in
theorem laysL : Go.Proofs.Lays.n219 prog renL where
 mixed := by kernel_rfl
 f217 := by kernel_rfl
 f219 := by kernel_rfl
 f224 := by kernel_rfl
 f225 := by kernel_rfl
 f266 := by kernel_rfl
 f267 := by kernel_rfl
 f314 := by kernel_rfl
 t3 := underlying3
 a3 := isAgg3
 z3 := sizeOf3
 v3 := zeroValue3
 t4 := underlying4
 a4 := isAgg4
 z4 := sizeOf4
 v4 := zeroValue4
 t5 := underlying5
 a5 := isAgg5
 z5 := sizeOf5
 v5 := zeroValue5
 t9 := underlying9
 a9 := isAgg9
 z9 := sizeOf9
 v9 := zeroValue9
 t46 := underlying106
 a46 := isAgg106
 z46 := sizeOf106
 v46 := zeroValue106
 t51 := underlying115
 a51 := isAgg115
 z51 := sizeOf115
 v51 := zeroValue115
 t146 := underlying123
 a146 := isAgg123
 z146 := sizeOf123
 v146 := zeroValue123
 g1 := by kernel_rfl
theorem ok76 : FnOK prog 76 fs76 := lindex_ok laysL
theorem ent76 : Entr prog 76 := ⟨_,func76,rfl,by decide⟩
end Go.Proofs.Tryd

set_option linter.unusedSimpArgs false
set_option linter.unusedVariables false
namespace Go.Proofs.Tryd
open Go.Ab Go.RowKit
def fs63 : FnS := fnS [.o,.o] [.str,.str] (fun _ (s,sep,_) => (.tup [.v (.string (cutB1 s sep)),.v (.string (cutB2 s sep)),.b (decide (0 ≤ idxB s sep))],[],(sep.size = 1) ∧ (s.size ≤ 2000000)))
abbrev T63 : Tab := lk [(76,fs76)]
theorem tab63 : TabOK prog T63 := (TabOK.cons ok76 ent76 TabOK.nil)
set_option maxRecDepth 100000 in
set_option maxHeartbeats 1000000 in
theorem ok63 : FnOK prog 63 fs63 := by
 refine FnOK.mk cok func63 rfl rfl rfl ?_
 rintro fl ⟨(s : ByteArray),(sep : ByteArray),_⟩ hpre F hnt0 _
 have hnt : F.nt = 23 := hnt0.trans ntmps63
 replace hpre : (sep.size = 1) ∧ (s.size ≤ 2000000) := hpre
 obtain ⟨hs,hz⟩ := hpre
 refine W.to (⟨[(0,.v (.string s)),(1,.v (.string sep))],[],[999]⟩) rfl ?_
 have hb := idx_bnd s sep
 refine Kk cok tab63 hnt [] [0,1] (⟨[(0,.v (.string s)),(1,.v (.string sep))],[],[999]⟩)
  (True ∧ True ∧ True ∧ True)
  ⟨tt,tt,tt,tt⟩ ?_
 refine W.seq ?_
 refine Kk cok tab63 hnt [] [0,1,7] (⟨[(0,.v (.string s)),(1,.v (.string sep)),(7,.i (idxB s sep))],[],[999]⟩)
  (True ∧ True ∧ (True ∧ (True ∧ True ∧ True) ∧ (sep.size = 1)) ∧ True ∧ True)
  ⟨tt,tt,⟨tt,⟨tt,tt,tt⟩,(by exact hs)⟩,tt,tt⟩ ?_
 refine Kk cok tab63 hnt [] [0,1,7,12] (⟨[(0,.v (.string s)),(1,.v (.string sep)),(7,.i (idxB s sep)),(12,.b (decide ((0 : Int) ≤ (idxB s sep))))],[],[999]⟩)
  (True ∧ (True ∧ True ∧ True) ∧ True)
  ⟨tt,⟨tt,tt,tt⟩,tt⟩ ?_
 refine W.ifP ((0 : Int) ≤ (idxB s sep)) (.b (decide ((0 : Int) ≤ (idxB s sep)))) (by kernel_rfl) rfl trivial ?_ ?_
 ·intro h12
  refine W.KA cok tab63 hnt [] [4,5,6] (⟨[(4,.v (.string (s.extract 0 (Int.toNat (idxB s sep))))),(5,.v (.string (s.extract (Int.toNat ((idxB s sep) + ((sep.size : Nat) : Int))) s.size))),(6,.b true)],[],[999]⟩)
   (True ∧ True ∧ (True ∧ True ∧ True ∧ (0 ≤ (0 : Int)) ∧ ((0 : Int) ≤ (idxB s sep)) ∧ ((idxB s sep) ≤ ((s.size : Nat) : Int))) ∧ True ∧ True ∧ True ∧ True ∧ (True ∧ True ∧ (Fits .i64 ((idxB s sep) + ((sep.size : Nat) : Int)))) ∧ (True ∧ True ∧ True ∧ (0 ≤ ((idxB s sep) + ((sep.size : Nat) : Int))) ∧ (((idxB s sep) + ((sep.size : Nat) : Int)) ≤ ((s.size : Nat) : Int)) ∧ (((s.size : Nat) : Int) ≤ ((s.size : Nat) : Int))) ∧ True ∧ True ∧ True ∧ True) (by kernel_rfl) (by kernel_rfl)
   ⟨tt,tt,⟨tt,tt,tt,(by omega),(by omega),(by omega)⟩,tt,tt,tt,tt,⟨tt,tt,(by exact fits_i64 (by omega) (by omega))⟩,⟨tt,tt,tt,(by omega),(by omega),(by omega)⟩,tt,tt,tt,tt⟩ ?_
  refine W.ret (thenQ_ret ?_)
  exact endQ_ret (.tup [.v (.string (s.extract 0 (Int.toNat (idxB s sep)))),.v (.string (s.extract (Int.toNat ((idxB s sep) + ((sep.size : Nat) : Int))) s.size)),.b true]) (by kernel_rfl) (@cast ((((.string (s.extract 0 (Int.toNat (idxB s sep)))) : Value) = (.string (cutB1 s sep))) ∧ (((.string (s.extract (Int.toNat ((idxB s sep) + ((sep.size : Nat) : Int))) s.size)) : Value) = (.string (cutB2 s sep))) ∧ ((.bool true : Value) = .bool (decide (0 ≤ idxB s sep))) ∧ True) _ (by kernel_rfl) ⟨(congrArg Value.string (by first | exact cut_yes1 h12 | exact cut_yes2 hs h12 | exact (decide_eq_true h12).symm)),(congrArg Value.string (by first | exact cut_yes1 h12 | exact cut_yes2 hs h12 | exact (decide_eq_true h12).symm)),(congrArg Value.bool (by first | exact cut_yes1 h12 | exact cut_yes2 hs h12 | exact (decide_eq_true h12).symm)),tt⟩)
 ·intro n12
  refine W.skip (thenQ_normal ?_)
  refine Kk cok tab63 hnt [] [4,5,6] (⟨[(4,.v (.string s)),(5,.v (.string nEmpty)),(6,.b false)],[],[999]⟩)
   (True ∧ True ∧ True ∧ True ∧ True)
   ⟨tt,tt,tt,tt,tt⟩ ?_
  refine W.ret ?_
  exact endQ_ret (.tup [.v (.string s),.v (.string nEmpty),.b false]) (by kernel_rfl) (@cast ((((.string s) : Value) = (.string (cutB1 s sep))) ∧ (((.string nEmpty) : Value) = (.string (cutB2 s sep))) ∧ ((.bool false : Value) = .bool (decide (0 ≤ idxB s sep))) ∧ True) _ (by kernel_rfl) ⟨(congrArg Value.string (by first | exact cut_no1 n12 | exact cut_no2 n12 | exact (decide_eq_false n12).symm)),(congrArg Value.string (by first | exact cut_no1 n12 | exact cut_no2 n12 | exact (decide_eq_false n12).symm)),(congrArg Value.bool (by first | exact cut_no1 n12 | exact cut_no2 n12 | exact (decide_eq_false n12).symm)),tt⟩)
theorem ent63 : Entr prog 63 := ⟨_,func63,rfl,by decide⟩
end Go.Proofs.Tryd

set_option linter.unusedSimpArgs false
set_option linter.unusedVariables false
namespace Go.Proofs.Tryd
open Go.Ab Go.RowKit
def fs47 : FnS := fnS [.o,.o] [.str,.str] (fun _ (s,sep,_) => (.tup [.v (.string (cutB1 s sep)),.v (.string (cutB2 s sep)),.b (decide (0 ≤ idxB s sep))],[],(sep.size = 1) ∧ (s.size ≤ 2000000)))
abbrev T47 : Tab := lk [(63,fs63)]
theorem tab47 : TabOK prog T47 := (TabOK.cons ok63 ent63 TabOK.nil)
set_option maxRecDepth 100000 in
set_option maxHeartbeats 1000000 in
theorem ok47 : FnOK prog 47 fs47 := by
 refine FnOK.mk cok func47 rfl rfl rfl ?_
 rintro fl ⟨(s : ByteArray),(sep : ByteArray),_⟩ hpre F hnt0 _
 have hnt : F.nt = 13 := hnt0.trans ntmps47
 replace hpre : (sep.size = 1) ∧ (s.size ≤ 2000000) := hpre
 obtain ⟨hs,hz⟩ := hpre
 refine W.to (⟨[(0,.v (.string s)),(1,.v (.string sep))],[],[999]⟩) rfl ?_
 refine Kk cok tab47 hnt [] [0,1] (⟨[(0,.v (.string s)),(1,.v (.string sep))],[],[999]⟩)
  (True ∧ True ∧ True ∧ True)
  ⟨tt,tt,tt,tt⟩ ?_
 refine Kk cok tab47 hnt [] [4,5,6] (⟨[(4,.v (.string (cutB1 s sep))),(5,.v (.string (cutB2 s sep))),(6,.b (decide (0 ≤ idxB s sep)))],[],[999]⟩)
  (True ∧ True ∧ (True ∧ (True ∧ True ∧ True) ∧ (sep.size = 1) ∧ (s.size ≤ 2000000)) ∧ True ∧ True ∧ True ∧ True ∧ True ∧ True ∧ True)
  ⟨tt,tt,⟨tt,⟨tt,tt,tt⟩,(by omega),(by omega)⟩,tt,tt,tt,tt,tt,tt,tt⟩ ?_
 refine W.ret ?_
 exact endQ_ret (.tup [.v (.string (cutB1 s sep)),.v (.string (cutB2 s sep)),.b (decide (0 ≤ idxB s sep))]) (by kernel_rfl) (@cast ((((.string (cutB1 s sep)) : Value) = (.string (cutB1 s sep))) ∧ (((.string (cutB2 s sep)) : Value) = (.string (cutB2 s sep))) ∧ (Sv (.bool (decide (0 ≤ idxB s sep)))) ∧ True) _ (by kernel_rfl) ⟨rfl,rfl,rfl,tt⟩)
theorem ent47 : Entr prog 47 := ⟨_,func47,rfl,by decide⟩
end Go.Proofs.Tryd

set_option linter.unusedSimpArgs false
set_option linter.unusedVariables false
namespace Go.Proofs.Tryd
open Go.Ab Go.RowKit Go.Shelf Go.Proofs Go.Lib
def fs48 : FnS := fnS [.o,.o] [.str,.u8] (fun _ (s,c,_) => (.i (Lib.indexByte s.data.toList (Int.toNat c).toUInt8),[],True))
def renB : Go.Shelf.Ren := ⟨fun k => bif Nat.beq k 137 then 48 else bif Nat.beq k 217 then 64 else bif Nat.beq k 266 then 77 else k,fun k => bif Nat.beq k 3 then 3 else bif Nat.beq k 5 then 5 else bif Nat.beq k 9 then 9 else k,fun k => k⟩
set_option maxRecDepth 100000 in
theorem laysB : Go.Proofs.Lays.n137 prog renB where
 mixed := by kernel_rfl
 f137 := by kernel_rfl
 f217 := by kernel_rfl
 f266 := by kernel_rfl
 t3 := underlying3
 a3 := isAgg3
 z3 := sizeOf3
 v3 := zeroValue3
 t5 := underlying5
 a5 := isAgg5
 z5 := sizeOf5
 v5 := zeroValue5
 t9 := underlying9
 a9 := isAgg9
 z9 := sizeOf9
 v9 := zeroValue9
theorem ok48 : FnOK prog 48 fs48 := indexByte_ok laysB
theorem ent48 : Entr prog 48 := ⟨_,func48,rfl,by decide⟩
end Go.Proofs.Tryd
