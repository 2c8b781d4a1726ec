import Derived.Test.YthigacnknicfnaaMF4S0
import Derived.Test.YthigacnknicfnaaMF4S1
import Derived.Test.YthigacnknicfnaaMF4S2
set_option linter.unusedSimpArgs false
set_option linter.unusedVariables false
namespace Go.Proofs.Try
open Go.Ab Go.RowKit
def fs26 : FnS := fnS [.s .events] [.events] (fun _ (h,_) => (.b (validE h),[],True))
abbrev T26 : Tab := lk [(27,fs27)]
theorem tab26 : TabOK prog T26 := (TabOK.cons ok27 ent27 TabOK.nil)
set_option maxRecDepth 100000 in
set_option maxHeartbeats 1000000 in
theorem ok26 : FnOK prog 26 fs26 := by
 refine FnOK.mk cok func26 rfl rfl rfl ?_
 rintro fl ⟨(h : List EventD),_⟩ hpre F hnt0 _
 have hnt : F.nt = 137 := hnt0.trans ntmps26
 clear hpre
 refine W.to (⟨[(0,.sl (.events h))],[],[999]⟩) rfl ?_
 refine W.lenOf 0 (.events h) (by kernel_rfl) ?_
 intro hl_h; replace hl_h : List.length h ≤ 9223372036854775807 := hl_h
 refine Kk cok tab26 hnt [] [0] (⟨[(0,.sl (.events h))],[],[999]⟩)
  (True ∧ True)
  ⟨tt,tt⟩ ?_
 refine W.seq ?_
 refine Kk cok tab26 hnt [] [0,3] (⟨[(0,.sl (.events h)),(3,.i (0 : Int))],[],[999]⟩)
  (True ∧ True)
  ⟨tt,tt⟩ ?_
 refine W.block ?_
 refine W.loop (ι := Nat) (fun (i : Nat) => (⟨[(0,.sl (.events h)),(3,.i ((i : Nat) : Int))],[],[999]⟩ : St))
  (fun (i : Nat) => (i ≤ h.length) ∧ (∀ j,j < i → sAt h j = true))
  (fun (i : Nat) => (h.length - i : Nat)) (0) ?_ ?_ ?_
 ·exact (show (0 ≤ h.length) ∧ (∀ j,j < 0 → sAt h j = true) from ⟨(by first | assumption | omega | rfl | (intro _ hjj; omega) | (simp; done) | (simp; omega)),(by exact upto_zero)⟩)
 ·exact Sub.of [] (@cast (((Sd (.events h)) ∧ ((.int .i64 (0 : Int) : Value) = .int .i64 ((0 : Nat) : Int)) ∧ True) ∧ True ∧ (true = true) ∧ (true = true)) _ (by kernel_rfl) ⟨⟨rfl,(congrArg (Value.int .i64) (by first | rfl | omega | assumption | simp | simp_all)),tt⟩,tt,rfl,rfl⟩)
 ·rintro i hC0
  have hC : (i ≤ h.length) ∧ (∀ j,j < i → sAt h j = true) := hC0
  clear hC0
  obtain ⟨hi,hA⟩ := hC
  refine W.to (⟨[(0,.sl (.events h)),(3,.i ((i : Nat) : Int))],[],[999]⟩) rfl ?_
  refine W.seq ?_
  refine Kk cok tab26 hnt [] [0,3,9] (⟨[(0,.sl (.events h)),(3,.i ((i : Nat) : Int)),(9,.b (decide (((i : Nat) : Int) < (h.length : Int))))],[],[999]⟩)
   (True ∧ True ∧ True ∧ (True ∧ True ∧ True) ∧ True)
   ⟨tt,tt,tt,⟨tt,tt,tt⟩,tt⟩ ?_
  refine W.ifP (((i : Nat) : Int) < (h.length : Int)) (.b (decide (((i : Nat) : Int) < (h.length : Int)))) (by kernel_rfl) rfl trivial ?_ ?_
  ·intro h9
   refine W.skip (thenQ_normal ?_)
   refine W.seq ?_
   refine W.block ?_
   refine W.seq ?_
   refine Kk cok tab26 hnt [] [0,3,52] (⟨[(0,.sl (.events h)),(3,.i ((i : Nat) : Int)),(52,.b ((((!(within ((h.getD i default).proc) (0 : Int) (2 : Int))) || (!(within ((h.getD i default).kind) (0 : Int) (2 : Int)))) || (!(within ((h.getD i default).msg) (0 : Int) (6 : Int)))) || ((decide (((h.getD i default).kind) = (0 : Int))) && (decide (((h.getD i default).msg) ≠ (0 : Int))))))],[],[999]⟩)
    ((fun (Z1:Bool)=>((fun (Z2:Bool)=>((fun (Z3:Bool)=>((fun (Z4:Bool)=>((fun (Z5:Bool)=>((fun (Z6:Bool)=>(True ∧ (True ∧ ((True ∧ (True ∧ ((0 ≤ ((i : Nat) : Int)) ∧ (((i : Nat) : Int) < (h.length : Int))))) ∧ (True ∧ (True ∧ ((True ∧ ((True ∧ (True ∧ (True ∧ True))) ∧ True)) ∧ (True ∧ (True ∧ (((!Z2) = true → True) ∧ (((!Z2) = true → True) ∧ (((!Z2) = true → ((((!Z2) = true) ∧ True) ∧ ((((!Z2) = true) ∧ True) ∧ ((0 ≤ ((i : Nat) : Int)) ∧ (((i : Nat) : Int) < (h.length : Int)))))) ∧ (((!Z2) = true → (((!Z2) = true) ∧ True)) ∧ (((!Z2) = true → (((!Z2) = true) ∧ True)) ∧ (((!Z2) = true → (True ∧ (((((!Z2) = true) ∧ True) ∧ (True ∧ (True ∧ True))) ∧ True))) ∧ (((!Z2) = true → (((!Z2) = true) ∧ True)) ∧ ((True ∧ ((Z2 = true → True) ∧ (Z2 = false → ((!Z2) = true) ∧ True))) ∧ (True ∧ (((!Z3) = true → True) ∧ (((!Z3) = true → True) ∧ (((!Z3) = true → ((((!Z3) = true) ∧ True) ∧ ((((!Z3) = true) ∧ True) ∧ ((0 ≤ ((i : Nat) : Int)) ∧ (((i : Nat) : Int) < (h.length : Int)))))) ∧ (((!Z3) = true → (((!Z3) = true) ∧ True)) ∧ (((!Z3) = true → (((!Z3) = true) ∧ True)) ∧ (((!Z3) = true → (True ∧ (((((!Z3) = true) ∧ True) ∧ (True ∧ (True ∧ True))) ∧ True))) ∧ (((!Z3) = true → (((!Z3) = true) ∧ True)) ∧ ((True ∧ ((Z3 = true → True) ∧ (Z3 = false → ((!Z3) = true) ∧ True))) ∧ (True ∧ ((Z5 = true → True) ∧ ((Z5 = true → True) ∧ ((Z5 = true → (((Z5 = true) ∧ True) ∧ (((Z5 = true) ∧ True) ∧ ((0 ≤ ((i : Nat) : Int)) ∧ (((i : Nat) : Int) < (h.length : Int)))))) ∧ ((Z5 = true → ((Z5 = true) ∧ True)) ∧ ((Z5 = true → ((Z5 = true) ∧ True)) ∧ ((Z5 = true → (((Z5 = true) ∧ True) ∧ (True ∧ True))) ∧ ((Z5 = true → True) ∧ ((Z6 = true → True) ∧ ((Z6 = true → True) ∧ ((Z6 = true → (((Z6 = true) ∧ True) ∧ (((Z6 = true) ∧ True) ∧ ((0 ≤ ((i : Nat) : Int)) ∧ (((i : Nat) : Int) < (h.length : Int)))))) ∧ ((Z6 = true → ((Z6 = true) ∧ True)) ∧ ((Z6 = true → ((Z6 = true) ∧ True)) ∧ ((Z6 = true → (((Z6 = true) ∧ True) ∧ (True ∧ True))) ∧ ((Z5 = true → (((Z5 = true) ∧ ((Z5 = true) ∧ True)) ∧ ((Z1 = true → (Z6 = true) ∧ True) ∧ (Z1 = false → True)))) ∧ ((True ∧ ((Z4 = true → True) ∧ (Z4 = false → (Z5 = true) ∧ True))) ∧ True)))))))))))))))))))))))))))))))))))))))))) (Z5 && (Z5 && Z1)))) (!Z4))) (Z3 || (!(within ((h.getD i default).msg) (0 : Int) (6 : Int)))))) (Z2 || (!(within ((h.getD i default).kind) (0 : Int) (2 : Int)))))) (!(within ((h.getD i default).proc) (0 : Int) (2 : Int))))) (decide (((h.getD i default).kind) = (0 : Int))))
    ⟨tt,tt,⟨tt,tt,(by omega),(by omega)⟩,tt,tt,⟨tt,⟨tt,tt,tt,tt⟩,tt⟩,tt,tt,(fun _ => trivial),(fun _ => trivial),(fun hG => ⟨⟨hG,tt⟩,⟨hG,tt⟩,(by omega),(by omega)⟩),(fun hG => ⟨hG,tt⟩),(fun hG => ⟨hG,tt⟩),(fun hG => ⟨tt,⟨⟨hG,tt⟩,tt,tt,tt⟩,tt⟩),(fun hG => ⟨hG,tt⟩),⟨tt,(fun _ => trivial),(fun hp => ⟨(not_t hp),tt⟩)⟩,tt,(fun _ => trivial),(fun _ => trivial),(fun hG => ⟨⟨hG,tt⟩,⟨hG,tt⟩,(by omega),(by omega)⟩),(fun hG => ⟨hG,tt⟩),(fun hG => ⟨hG,tt⟩),(fun hG => ⟨tt,⟨⟨hG,tt⟩,tt,tt,tt⟩,tt⟩),(fun hG => ⟨hG,tt⟩),⟨tt,(fun _ => trivial),(fun hp => ⟨(not_t hp),tt⟩)⟩,tt,(fun _ => trivial),(fun _ => trivial),(fun hG => ⟨⟨hG,tt⟩,⟨hG,tt⟩,(by omega),(by omega)⟩),(fun hG => ⟨hG,tt⟩),(fun hG => ⟨hG,tt⟩),(fun hG => ⟨⟨hG,tt⟩,tt,tt⟩),(fun _ => trivial),(fun _ => trivial),(fun _ => trivial),(fun hG => ⟨⟨hG,tt⟩,⟨hG,tt⟩,(by have hg0 : ((h.getD i default).kind) = (0 : Int) := of_decide_eq_true (and_r (and_r hG)); omega),(by have hg0 : ((h.getD i default).kind) = (0 : Int) := of_decide_eq_true (and_r (and_r hG)); omega)⟩),(fun hG => ⟨hG,tt⟩),(fun hG => ⟨hG,tt⟩),(fun hG => ⟨⟨hG,tt⟩,tt,tt⟩),(fun hG => ⟨⟨hG,hG,tt⟩,(fun hp => ⟨(and_t hG (and_t hG hp)),tt⟩),(fun _ => trivial)⟩),⟨tt,(fun _ => trivial),(fun hp => ⟨(not_t hp),tt⟩)⟩,tt⟩ ?_
   refine W.if' ((((!(within ((h.getD i default).proc) (0 : Int) (2 : Int))) || (!(within ((h.getD i default).kind) (0 : Int) (2 : Int)))) || (!(within ((h.getD i default).msg) (0 : Int) (6 : Int)))) || ((decide (((h.getD i default).kind) = (0 : Int))) && (decide (((h.getD i default).msg) ≠ (0 : Int))))) (.b ((((!(within ((h.getD i default).proc) (0 : Int) (2 : Int))) || (!(within ((h.getD i default).kind) (0 : Int) (2 : Int)))) || (!(within ((h.getD i default).msg) (0 : Int) (6 : Int)))) || ((decide (((h.getD i default).kind) = (0 : Int))) && (decide (((h.getD i default).msg) ≠ (0 : Int)))))) (by kernel_rfl) rfl trivial ?_ ?_
   ·intro h52
    refine Kk cok tab26 hnt [] [2] (⟨[(2,.b false)],[],[999]⟩)
     (True ∧ True)
     ⟨tt,tt⟩ ?_
    refine W.ret (thenQ_ret (blockQ_ret (thenQ_ret (thenQ_ret (blockQ_ret (thenQ_ret ?_))))))
    exact endQ_ret (.b false) (by kernel_rfl) (@cast ((.bool false : Value) = .bool (validE h)) _ (by kernel_rfl) (congrArg Value.bool (by exact sv_no (i := i) (by omega) (s_no1 h52))))
   ·intro n52
    refine W.skip (thenQ_normal ?_)
    refine Kk cok tab26 hnt [] [0,3,4] (⟨[(0,.sl (.events h)),(3,.i ((i : Nat) : Int)),(4,.b false)],[],[999]⟩)
     (True ∧ True)
     ⟨tt,tt⟩ ?_
    refine W.seq ?_
    refine Kk cok tab26 hnt [] [0,3,4,5] (⟨[(0,.sl (.events h)),(3,.i ((i : Nat) : Int)),(4,.b false),(5,.i (0 : Int))],[],[999]⟩)
     (True ∧ True)
     ⟨tt,tt⟩ ?_
    refine W.block ?_
    refine W.loop (ι := Nat × Bool) (fun (x : Nat × Bool) => match x with | (k,sn) => (⟨[(0,.sl (.events h)),(3,.i ((i : Nat) : Int)),(4,.b sn),(5,.i ((k : Nat) : Int))],[],[999]⟩ : St))
     (fun (x : Nat × Bool) => match x with | (k,sn) => (k ≤ i) ∧ (sn = sentUp h i k) ∧ (∀ j,j < k → noAt h i j = true))
     (fun (x : Nat × Bool) => match x with | (k,sn) => (i - k : Nat)) (0,false) ?_ ?_ ?_
    ·exact (show (0 ≤ i) ∧ (false = sentUp h i 0) ∧ (∀ j,j < 0 → noAt h i j = true) from ⟨(by first | assumption | omega | rfl | (intro _ hjj; omega) | (simp; done) | (simp; omega)),(by rfl),(by exact upto_zero)⟩)
    ·exact Sub.of [] (@cast (((Sd (.events h)) ∧ (Si ((i : Nat) : Int)) ∧ (Sv (.bool false)) ∧ ((.int .i64 (0 : Int) : Value) = .int .i64 ((0 : Nat) : Int)) ∧ True) ∧ True ∧ (true = true) ∧ (true = true)) _ (by kernel_rfl) ⟨⟨rfl,rfl,rfl,(congrArg (Value.int .i64) (by first | rfl | omega | assumption | simp | simp_all)),tt⟩,tt,rfl,rfl⟩)
    ·rintro ⟨k,sn⟩ hC0
     have hC : (k ≤ i) ∧ (sn = sentUp h i k) ∧ (∀ j,j < k → noAt h i j = true) := hC0
     clear hC0
     obtain ⟨hk,hs,hB⟩ := hC
     refine W.to (⟨[(0,.sl (.events h)),(3,.i ((i : Nat) : Int)),(4,.b sn),(5,.i ((k : Nat) : Int))],[],[999]⟩) rfl ?_
     refine W.seq ?_
     refine Kk cok tab26 hnt [] [0,3,4,5,55] (⟨[(0,.sl (.events h)),(3,.i ((i : Nat) : Int)),(4,.b sn),(5,.i ((k : Nat) : Int)),(55,.b (decide (((k : Nat) : Int) < ((i : Nat) : Int))))],[],[999]⟩)
      (True ∧ True ∧ (True ∧ True ∧ True) ∧ True)
      ⟨tt,tt,⟨tt,tt,tt⟩,tt⟩ ?_
     refine W.ifP (((k : Nat) : Int) < ((i : Nat) : Int)) (.b (decide (((k : Nat) : Int) < ((i : Nat) : Int)))) (by kernel_rfl) rfl trivial ?_ ?_
     ·intro h55
      refine W.skip (thenQ_normal ?_)
      refine W.seq ?_
      refine W.block ?_
      refine W.KA cok tab26 hnt [] [0,3,4,5,84] (⟨[(0,.sl (.events h)),(3,.i ((i : Nat) : Int)),(4,.b sn),(5,.i ((k : Nat) : Int)),(84,.b (((decide (((h.getD k default).kind) ≠ (0 : Int))) && (decide (((h.getD i default).kind) ≠ (0 : Int)))) && (decide (((h.getD k default).msg) = ((h.getD i default).msg)))))],[],[999]⟩)
       ((fun (Z1:Bool)=>((fun (Z2:Bool)=>(True ∧ (True ∧ ((True ∧ (True ∧ ((0 ≤ ((k : Nat) : Int)) ∧ (((k : Nat) : Int) < (h.length : Int))))) ∧ (True ∧ (True ∧ ((True ∧ (True ∧ True)) ∧ (True ∧ ((Z1 = true → True) ∧ ((Z1 = true → True) ∧ ((Z1 = true → (((Z1 = true) ∧ True) ∧ (((Z1 = true) ∧ True) ∧ ((0 ≤ ((i : Nat) : Int)) ∧ (((i : Nat) : Int) < (h.length : Int)))))) ∧ ((Z1 = true → ((Z1 = true) ∧ True)) ∧ ((Z1 = true → ((Z1 = true) ∧ True)) ∧ ((Z1 = true → (((Z1 = true) ∧ True) ∧ (True ∧ True))) ∧ ((True ∧ ((Z1 = true → (Z1 = true) ∧ True) ∧ (Z1 = false → True))) ∧ (True ∧ ((Z2 = true → True) ∧ ((Z2 = true → True) ∧ ((Z2 = true → (((Z2 = true) ∧ True) ∧ (((Z2 = true) ∧ True) ∧ ((0 ≤ ((k : Nat) : Int)) ∧ (((k : Nat) : Int) < (h.length : Int)))))) ∧ ((Z2 = true → ((Z2 = true) ∧ True)) ∧ ((Z2 = true → ((Z2 = true) ∧ True)) ∧ ((Z2 = true → True) ∧ ((Z2 = true → True) ∧ ((Z2 = true → (((Z2 = true) ∧ True) ∧ (((Z2 = true) ∧ True) ∧ ((0 ≤ ((i : Nat) : Int)) ∧ (((i : Nat) : Int) < (h.length : Int)))))) ∧ ((Z2 = true → ((Z2 = true) ∧ True)) ∧ ((Z2 = true → ((Z2 = true) ∧ True)) ∧ ((Z2 = true → (((Z2 = true) ∧ True) ∧ (((Z2 = true) ∧ True) ∧ True))) ∧ ((True ∧ ((Z2 = true → (Z2 = true) ∧ True) ∧ (Z2 = false → True))) ∧ True)))))))))))))))))))))))))))) (Z1 && (decide (((h.getD i default).kind) ≠ (0 : Int)))))) (decide (((h.getD k default).kind) ≠ (0 : Int)))) (by kernel_rfl) (by kernel_rfl)
       ⟨tt,tt,⟨tt,tt,(by omega),(by omega)⟩,tt,tt,⟨tt,tt,tt⟩,tt,(fun _ => trivial),(fun _ => trivial),(fun hG => ⟨⟨hG,tt⟩,⟨hG,tt⟩,(by have hg0 : ((h.getD k default).kind) ≠ (0 : Int) := of_decide_eq_true hG; omega),(by have hg0 : ((h.getD k default).kind) ≠ (0 : Int) := of_decide_eq_true hG; omega)⟩),(fun hG => ⟨hG,tt⟩),(fun hG => ⟨hG,tt⟩),(fun hG => ⟨⟨hG,tt⟩,tt,tt⟩),⟨tt,(fun hp => ⟨hp,tt⟩),(fun _ => trivial)⟩,tt,(fun _ => trivial),(fun _ => trivial),(fun hG => ⟨⟨hG,tt⟩,⟨hG,tt⟩,(by have hg0 : ((h.getD k default).kind) ≠ (0 : Int) := of_decide_eq_true (and_l hG); have hg1 : ((h.getD i default).kind) ≠ (0 : Int) := of_decide_eq_true (and_r hG); omega),(by have hg0 : ((h.getD k default).kind) ≠ (0 : Int) := of_decide_eq_true (and_l hG); have hg1 : ((h.getD i default).kind) ≠ (0 : Int) := of_decide_eq_true (and_r hG); omega)⟩),(fun hG => ⟨hG,tt⟩),(fun hG => ⟨hG,tt⟩),(fun _ => trivial),(fun _ => trivial),(fun hG => ⟨⟨hG,tt⟩,⟨hG,tt⟩,(by have hg0 : ((h.getD k default).kind) ≠ (0 : Int) := of_decide_eq_true (and_l hG); have hg1 : ((h.getD i default).kind) ≠ (0 : Int) := of_decide_eq_true (and_r hG); omega),(by have hg0 : ((h.getD k default).kind) ≠ (0 : Int) := of_decide_eq_true (and_l hG); have hg1 : ((h.getD i default).kind) ≠ (0 : Int) := of_decide_eq_true (and_r hG); omega)⟩),(fun hG => ⟨hG,tt⟩),(fun hG => ⟨hG,tt⟩),(fun hG => ⟨⟨hG,tt⟩,⟨hG,tt⟩,tt⟩),⟨tt,(fun hp => ⟨hp,tt⟩),(fun _ => trivial)⟩,tt⟩ ?_
      refine W.if' (((decide (((h.getD k default).kind) ≠ (0 : Int))) && (decide (((h.getD i default).kind) ≠ (0 : Int)))) && (decide (((h.getD k default).msg) = ((h.getD i default).msg)))) (.b (((decide (((h.getD k default).kind) ≠ (0 : Int))) && (decide (((h.getD i default).kind) ≠ (0 : Int)))) && (decide (((h.getD k default).msg) = ((h.getD i default).msg))))) (by kernel_rfl) rfl trivial ?_ ?_
      ·intro h84
       have h84_0 : ((h.getD k default).kind) ≠ (0 : Int) := of_decide_eq_true (and_l (and_l h84))
       have h84_1 : ((h.getD i default).kind) ≠ (0 : Int) := of_decide_eq_true (and_r (and_l h84))
       have h84_2 : ((h.getD k default).msg) = ((h.getD i default).msg) := of_decide_eq_true (and_r h84)
       refine W.seq ?_
       refine W.KA cok tab26 hnt [] [0,3,4,5,95] (⟨[(0,.sl (.events h)),(3,.i ((i : Nat) : Int)),(4,.b sn),(5,.i ((k : Nat) : Int)),(95,.b (decide (((h.getD k default).kind) = ((h.getD i default).kind))))],[],[999]⟩)
        (True ∧ True ∧ (True ∧ True ∧ (0 ≤ ((k : Nat) : Int)) ∧ (((k : Nat) : Int) < (h.length : Int))) ∧ True ∧ True ∧ True ∧ True ∧ (True ∧ True ∧ (0 ≤ ((i : Nat) : Int)) ∧ (((i : Nat) : Int) < (h.length : Int))) ∧ True ∧ True ∧ (True ∧ True ∧ True) ∧ True) (by kernel_rfl) (by kernel_rfl)
        ⟨tt,tt,⟨tt,tt,(by omega),(by omega)⟩,tt,tt,tt,tt,⟨tt,tt,(by omega),(by omega)⟩,tt,tt,⟨tt,tt,tt⟩,tt⟩ ?_
       refine W.ifP (((h.getD k default).kind) = ((h.getD i default).kind)) (.b (decide (((h.getD k default).kind) = ((h.getD i default).kind)))) (by kernel_rfl) rfl trivial ?_ ?_
       ·intro h95
        refine Kk cok tab26 hnt [] [2] (⟨[(2,.b false)],[],[999]⟩)
         (True ∧ True)
         ⟨tt,tt⟩ ?_
        refine W.ret (thenQ_ret (blockQ_ret (thenQ_ret (thenQ_ret (blockQ_ret (thenQ_ret (blockQ_ret (thenQ_ret (thenQ_ret (blockQ_ret (thenQ_ret ?_)))))))))))
        exact endQ_ret (.b false) (by kernel_rfl) (@cast ((.bool false : Value) = .bool (validE h)) _ (by kernel_rfl) (congrArg Value.bool (by exact sv_no (i := i) (by omega) (s_no2 (k := k) (by omega) h84 (.inl h95)))))
       ·intro n95
        refine W.skip (thenQ_normal ?_)
        refine W.KA cok tab26 hnt [] [0,3,4,5] (⟨[(0,.sl (.events h)),(3,.i ((i : Nat) : Int)),(4,.b (sn || ((decide (((h.getD k default).kind) = (1 : Int))) && (decide (((h.getD k default).proc) ≠ ((h.getD i default).proc)))))),(5,.i ((k : Nat) : Int))],[],[999]⟩)
         ((fun (Z1:Bool)=>((fun (Z2:Bool)=>((fun (Z3:Bool)=>(True ∧ (True ∧ ((Z1 = true → True) ∧ ((Z1 = true → True) ∧ ((Z1 = true → (((Z1 = true) ∧ True) ∧ (((Z1 = true) ∧ True) ∧ ((0 ≤ ((k : Nat) : Int)) ∧ (((k : Nat) : Int) < (h.length : Int)))))) ∧ ((Z1 = true → ((Z1 = true) ∧ True)) ∧ ((Z1 = true → ((Z1 = true) ∧ True)) ∧ ((Z1 = true → (((Z1 = true) ∧ True) ∧ (True ∧ True))) ∧ ((Z1 = true → True) ∧ ((Z3 = true → True) ∧ ((Z3 = true → True) ∧ ((Z3 = true → (((Z3 = true) ∧ True) ∧ (((Z3 = true) ∧ True) ∧ ((0 ≤ ((k : Nat) : Int)) ∧ (((k : Nat) : Int) < (h.length : Int)))))) ∧ ((Z3 = true → ((Z3 = true) ∧ True)) ∧ ((Z3 = true → ((Z3 = true) ∧ True)) ∧ ((Z3 = true → True) ∧ ((Z3 = true → True) ∧ ((Z3 = true → (((Z3 = true) ∧ True) ∧ (((Z3 = true) ∧ True) ∧ ((0 ≤ ((i : Nat) : Int)) ∧ (((i : Nat) : Int) < (h.length : Int)))))) ∧ ((Z3 = true → ((Z3 = true) ∧ True)) ∧ ((Z3 = true → ((Z3 = true) ∧ True)) ∧ ((Z3 = true → (((Z3 = true) ∧ True) ∧ (((Z3 = true) ∧ True) ∧ True))) ∧ ((Z1 = true → (((Z1 = true) ∧ ((Z1 = true) ∧ True)) ∧ ((Z2 = true → (Z3 = true) ∧ True) ∧ (Z2 = false → True)))) ∧ ((True ∧ ((sn = true → True) ∧ (sn = false → (Z1 = true) ∧ True))) ∧ (True ∧ True)))))))))))))))))))))))) (Z1 && (Z1 && Z2)))) (decide (((h.getD k default).kind) = (1 : Int))))) (!sn)) (by kernel_rfl) (by kernel_rfl)
         ⟨tt,tt,(fun _ => trivial),(fun _ => trivial),(fun hG => ⟨⟨hG,tt⟩,⟨hG,tt⟩,(by omega),(by omega)⟩),(fun hG => ⟨hG,tt⟩),(fun hG => ⟨hG,tt⟩),(fun hG => ⟨⟨hG,tt⟩,tt,tt⟩),(fun _ => trivial),(fun _ => trivial),(fun _ => trivial),(fun hG => ⟨⟨hG,tt⟩,⟨hG,tt⟩,(by have hg0 : ((h.getD k default).kind) = (1 : Int) := of_decide_eq_true (and_r (and_r hG)); omega),(by have hg0 : ((h.getD k default).kind) = (1 : Int) := of_decide_eq_true (and_r (and_r hG)); omega)⟩),(fun hG => ⟨hG,tt⟩),(fun hG => ⟨hG,tt⟩),(fun _ => trivial),(fun _ => trivial),(fun hG => ⟨⟨hG,tt⟩,⟨hG,tt⟩,(by have hg0 : ((h.getD k default).kind) = (1 : Int) := of_decide_eq_true (and_r (and_r hG)); omega),(by have hg0 : ((h.getD k default).kind) = (1 : Int) := of_decide_eq_true (and_r (and_r hG)); omega)⟩),(fun hG => ⟨hG,tt⟩),(fun hG => ⟨hG,tt⟩),(fun hG => ⟨⟨hG,tt⟩,⟨hG,tt⟩,tt⟩),(fun hG => ⟨⟨hG,hG,tt⟩,(fun hp => ⟨(and_t hG (and_t hG hp)),tt⟩),(fun _ => trivial)⟩),⟨tt,(fun _ => trivial),(fun hp => ⟨(not_t hp),tt⟩)⟩,tt,tt⟩ ?_
        refine Kk cok tab26 hnt [] [0,3,4,5,123] (⟨[(0,.sl (.events h)),(3,.i ((i : Nat) : Int)),(4,.b (sn || ((decide (((h.getD k default).kind) = (1 : Int))) && (decide (((h.getD k default).proc) ≠ ((h.getD i default).proc)))))),(5,.i ((k : Nat) : Int)),(123,.b (decide (((h.getD i default).kind) = (1 : Int))))],[],[999]⟩)
         (True ∧ True ∧ (True ∧ True ∧ (0 ≤ ((i : Nat) : Int)) ∧ (((i : Nat) : Int) < (h.length : Int))) ∧ True ∧ True ∧ (True ∧ True ∧ True) ∧ True)
         ⟨tt,tt,⟨tt,tt,(by omega),(by omega)⟩,tt,tt,⟨tt,tt,tt⟩,tt⟩ ?_
        refine W.ifP (((h.getD i default).kind) = (1 : Int)) (.b (decide (((h.getD i default).kind) = (1 : Int)))) (by kernel_rfl) rfl trivial ?_ ?_
        ·intro h123
         refine Kk cok tab26 hnt [] [2] (⟨[(2,.b false)],[],[999]⟩)
          (True ∧ True)
          ⟨tt,tt⟩ ?_
         refine W.ret (blockQ_ret (thenQ_ret (thenQ_ret (blockQ_ret (thenQ_ret (blockQ_ret (thenQ_ret (thenQ_ret (blockQ_ret (thenQ_ret ?_))))))))))
         exact endQ_ret (.b false) (by kernel_rfl) (@cast ((.bool false : Value) = .bool (validE h)) _ (by kernel_rfl) (congrArg Value.bool (by exact sv_no (i := i) (by omega) (s_no2 (k := k) (by omega) h84 (.inr h123)))))
        ·intro n123
         refine W.skip (blockQ_normal (thenQ_normal ?_))
         refine Lk cok tab26 hnt [] (⟨[(0,.sl (.events h)),(3,.i ((i : Nat) : Int)),(4,.b (sn || ((decide (((h.getD k default).kind) = (1 : Int))) && (decide (((h.getD k default).proc) ≠ ((h.getD i default).proc)))))),(5,.i (((k + 1) : Nat) : Int)),(56,.i ((k : Nat) : Int)),(57,.i (((k + 1) : Nat) : Int)),(123,.b (decide (((h.getD i default).kind) = (1 : Int))))],[],[999]⟩)
          (True ∧ (True ∧ True ∧ (Fits .i64 (((k + 1) : Nat) : Int))) ∧ True ∧ True)
          ⟨tt,⟨tt,tt,(by exact fits_i64 (by omega) (by omega))⟩,tt,tt⟩ ?_
         refine thenQ_normal ?_
         refine ⟨((k + 1),(sn || ((decide (((h.getD k default).kind) = (1 : Int))) && (decide (((h.getD k default).proc) ≠ ((h.getD i default).proc)))))),(show ((k + 1) ≤ i) ∧ ((sn || ((decide (((h.getD k default).kind) = (1 : Int))) && (decide (((h.getD k default).proc) ≠ ((h.getD i default).proc))))) = sentUp h i (k + 1)) ∧ (∀ j,j < (k + 1) → noAt h i j = true) from ⟨(by first | assumption | omega | rfl | (intro _ hjj; omega) | (simp; done) | (simp; omega)),(by first | exact sent_hit hs h84 | exact sent_no hs n84),(by first | exact upto_succ hB (no_yes n95 n123) | exact upto_succ hB (no_hit n84))⟩),(show i - (k + 1) < i - k from (by first | omega | (simp_all; omega))),?_⟩
         exact Sub.of [] (@cast (((Sd (.events h)) ∧ (Si ((i : Nat) : Int)) ∧ (Sv (.bool (sn || ((decide (((h.getD k default).kind) = (1 : Int))) && (decide (((h.getD k default).proc) ≠ ((h.getD i default).proc))))))) ∧ (Si (((k + 1) : Nat) : Int)) ∧ True) ∧ True ∧ (true = true) ∧ (true = true)) _ (by kernel_rfl) ⟨⟨rfl,rfl,rfl,rfl,tt⟩,tt,rfl,rfl⟩)
      ·intro n84
       refine W.skip (blockQ_normal (thenQ_normal ?_))
       refine Lk cok tab26 hnt [] (⟨[(0,.sl (.events h)),(3,.i ((i : Nat) : Int)),(4,.b sn),(5,.i (((k + 1) : Nat) : Int)),(56,.i ((k : Nat) : Int)),(57,.i (((k + 1) : Nat) : Int)),(84,.b (((decide (((h.getD k default).kind) ≠ (0 : Int))) && (decide (((h.getD i default).kind) ≠ (0 : Int)))) && (decide (((h.getD k default).msg) = ((h.getD i default).msg)))))],[],[999]⟩)
        (True ∧ (True ∧ True ∧ (Fits .i64 (((k + 1) : Nat) : Int))) ∧ True ∧ True)
        ⟨tt,⟨tt,tt,(by exact fits_i64 (by omega) (by omega))⟩,tt,tt⟩ ?_
       refine thenQ_normal ?_
       refine ⟨((k + 1),sn),(show ((k + 1) ≤ i) ∧ (sn = sentUp h i (k + 1)) ∧ (∀ j,j < (k + 1) → noAt h i j = true) from ⟨(by first | assumption | omega | rfl | (intro _ hjj; omega) | (simp; done) | (simp; omega)),(by first | exact sent_hit hs h84 | exact sent_no hs n84),(by first | exact upto_succ hB (no_yes n95 n123) | exact upto_succ hB (no_hit n84))⟩),(show i - (k + 1) < i - k from (by first | omega | (simp_all; omega))),?_⟩
       exact Sub.of [] (@cast (((Sd (.events h)) ∧ (Si ((i : Nat) : Int)) ∧ (Sv (.bool sn)) ∧ (Si (((k + 1) : Nat) : Int)) ∧ True) ∧ True ∧ (true = true) ∧ (true = true)) _ (by kernel_rfl) ⟨⟨rfl,rfl,rfl,rfl,tt⟩,tt,rfl,rfl⟩)
     ·intro n55
      refine W.exit (thenQ_exit (thenQ_exit (blockQ_hit ?_)))
      refine thenQ_normal ?_
      refine Kk cok tab26 hnt [] [0,3,133] (⟨[(0,.sl (.events h)),(3,.i ((i : Nat) : Int)),(133,.b ((decide (((h.getD i default).kind) = (2 : Int))) && (!sn)))],[],[999]⟩)
       ((fun (Z1:Bool)=>(True ∧ (True ∧ ((True ∧ (True ∧ ((0 ≤ ((i : Nat) : Int)) ∧ (((i : Nat) : Int) < (h.length : Int))))) ∧ (True ∧ (True ∧ ((True ∧ (True ∧ True)) ∧ (True ∧ ((Z1 = true → True) ∧ ((Z1 = true → ((Z1 = true) ∧ True)) ∧ ((True ∧ ((Z1 = true → (Z1 = true) ∧ True) ∧ (Z1 = false → True))) ∧ True))))))))))) (decide (((h.getD i default).kind) = (2 : Int))))
       ⟨tt,tt,⟨tt,tt,(by omega),(by omega)⟩,tt,tt,⟨tt,tt,tt⟩,tt,(fun _ => trivial),(fun hG => ⟨hG,tt⟩),⟨tt,(fun hp => ⟨hp,tt⟩),(fun _ => trivial)⟩,tt⟩ ?_
      refine W.if' ((decide (((h.getD i default).kind) = (2 : Int))) && (!sn)) (.b ((decide (((h.getD i default).kind) = (2 : Int))) && (!sn))) (by kernel_rfl) rfl trivial ?_ ?_
      ·intro h133
       have h133_0 : ((h.getD i default).kind) = (2 : Int) := of_decide_eq_true (and_l h133)
       refine Kk cok tab26 hnt [] [2] (⟨[(2,.b false)],[],[999]⟩)
        (True ∧ True)
        ⟨tt,tt⟩ ?_
       refine W.ret (blockQ_ret (thenQ_ret (thenQ_ret (blockQ_ret (thenQ_ret ?_)))))
       exact endQ_ret (.b false) (by kernel_rfl) (@cast ((.bool false : Value) = .bool (validE h)) _ (by kernel_rfl) (congrArg Value.bool (by exact sv_no (i := i) (by omega) (s_no3 (show k = i by omega) hs h133))))
      ·intro n133
       refine W.skip (blockQ_normal (thenQ_normal ?_))
       refine Lk cok tab26 hnt [] (⟨[(0,.sl (.events h)),(3,.i (((i + 1) : Nat) : Int)),(10,.i ((i : Nat) : Int)),(11,.i (((i + 1) : Nat) : Int)),(133,.b ((decide (((h.getD i default).kind) = (2 : Int))) && (!sn)))],[],[999]⟩)
        (True ∧ (True ∧ True ∧ (Fits .i64 (((i + 1) : Nat) : Int))) ∧ True ∧ True)
        ⟨tt,⟨tt,tt,(by exact fits_i64 (by omega) (by omega))⟩,tt,tt⟩ ?_
       refine thenQ_normal ?_
       refine ⟨((i + 1)),(show ((i + 1) ≤ h.length) ∧ (∀ j,j < (i + 1) → sAt h j = true) from ⟨(by first | assumption | omega | rfl | (intro _ hjj; omega) | (simp; done) | (simp; omega)),(by exact upto_succ hA (s_yes (show k = i by omega) hs n52 hB n133))⟩),(show h.length - (i + 1) < h.length - i from (by first | omega | (simp_all; omega))),?_⟩
       exact Sub.of [] (@cast (((Sd (.events h)) ∧ (Si (((i + 1) : Nat) : Int)) ∧ True) ∧ True ∧ (true = true) ∧ (true = true)) _ (by kernel_rfl) ⟨⟨rfl,rfl,tt⟩,tt,rfl,rfl⟩)
  ·intro n9
   refine W.exit (thenQ_exit (thenQ_exit (blockQ_hit ?_)))
   refine thenQ_normal ?_
   refine Kk cok tab26 hnt [] [2] (⟨[(2,.b (decide ((h.length : Int) ≤ (7 : Int))))],[],[999]⟩)
    (True ∧ True ∧ (True ∧ True ∧ True) ∧ True ∧ True)
    ⟨tt,tt,⟨tt,tt,tt⟩,tt,tt⟩ ?_
   refine W.ret ?_
   exact endQ_ret (.b (decide ((h.length : Int) ≤ (7 : Int)))) (by kernel_rfl) (@cast ((.bool (decide ((h.length : Int) ≤ (7 : Int))) : Value) = .bool (validE h)) _ (by kernel_rfl) (congrArg Value.bool (by exact sv_yes (by omega) hA)))
theorem ent26 : Entr prog 26 := ⟨_,func26,rfl,by decide⟩
end Go.Proofs.Try

set_option linter.unusedSimpArgs false
set_option linter.unusedVariables false
namespace Go.Proofs.Try
open Go.Ab Go.RowKit
def fs19 : FnS := fnS [.o] [.int] (fun _ (n,_) => (.i (power n),[],(n ≤ 60)))
abbrev T19 : Tab := lk []
theorem tab19 : TabOK prog T19 := TabOK.nil
set_option maxRecDepth 100000 in
set_option maxHeartbeats 1000000 in
theorem ok19 : FnOK prog 19 fs19 := by
 refine FnOK.mk cok func19 rfl rfl rfl ?_
 rintro fl ⟨(n : Int),_⟩ hpre F hnt0 _
 have hnt : F.nt = 11 := hnt0.trans ntmps19
 replace hpre : (n ≤ 60) := hpre
 have hn := hpre
 refine W.to (⟨[(0,.i n)],[],[999]⟩) rfl ?_
 refine Kk cok tab19 hnt [] [0] (⟨[(0,.i n)],[],[999]⟩)
  (True ∧ True)
  ⟨tt,tt⟩ ?_
 refine Kk cok tab19 hnt [] [0,3] (⟨[(0,.i n),(3,.i (1 : Int))],[],[999]⟩)
  (True ∧ True)
  ⟨tt,tt⟩ ?_
 refine W.seq ?_
 refine W.block ?_
 refine W.loop (ι := Int × Int) (fun (x : Int × Int) => match x with | (k,x) => (⟨[(0,.i k),(3,.i x)],[],[999]⟩ : St))
  (fun (x : Int × Int) => match x with | (k,x) => (k ≤ n) ∧ (x * power k = power n) ∧ (1 ≤ x))
  (fun (x : Int × Int) => match x with | (k,x) => (k.toNat : Nat)) (n,(1 : Int)) ?_ ?_ ?_
 ·exact (show (n ≤ n) ∧ ((1 : Int) * power n = power n) ∧ (1 ≤ (1 : Int)) from ⟨(by first | assumption | omega | rfl | (intro _ hjj; omega) | (simp; done) | (simp; omega)),(by exact Int.one_mul _),(by first | assumption | omega | rfl | (intro _ hjj; omega) | (simp; done) | (simp; omega))⟩)
 ·exact Sub.of [] (@cast (((Si n) ∧ (Si (1 : Int)) ∧ True) ∧ True ∧ (true = true) ∧ (true = true)) _ (by kernel_rfl) ⟨⟨rfl,rfl,tt⟩,tt,rfl,rfl⟩)
 ·rintro ⟨k,x⟩ hC0
  have hC : (k ≤ n) ∧ (x * power k = power n) ∧ (1 ≤ x) := hC0
  clear hC0
  obtain ⟨hk,hx,hx0⟩ := hC
  refine W.to (⟨[(0,.i k),(3,.i x)],[],[999]⟩) rfl ?_
  have hp := power_le (n := n) hn
  have hxp : x ≤ power n := power_factor hx hx0
  refine W.seq ?_
  refine Kk cok tab19 hnt [] [0,3,5] (⟨[(0,.i k),(3,.i x),(5,.b (decide ((0 : Int) < k)))],[],[999]⟩)
   (True ∧ (True ∧ True ∧ True) ∧ True)
   ⟨tt,⟨tt,tt,tt⟩,tt⟩ ?_
  refine W.ifP ((0 : Int) < k) (.b (decide ((0 : Int) < k))) (by kernel_rfl) rfl trivial ?_ ?_
  ·intro h5
   refine W.skip (thenQ_normal ?_)
   refine W.seq ?_
   refine W.block ?_
   refine Lk cok tab19 hnt [] (⟨[(0,.i k),(3,.i ((2 : Int) * x)),(5,.b (decide ((0 : Int) < k))),(8,.i x),(9,.i ((2 : Int) * x))],[],[999]⟩)
    (True ∧ (True ∧ True ∧ (Fits .i64 ((2 : Int) * x))) ∧ True ∧ True)
    ⟨tt,⟨tt,tt,(by exact fits_i64 (by omega) (by omega))⟩,tt,tt⟩ ?_
   refine blockQ_normal (thenQ_normal ?_)
   refine Lk cok tab19 hnt [] (⟨[(0,.i (k - (1 : Int))),(3,.i ((2 : Int) * x)),(5,.b (decide ((0 : Int) < k))),(6,.i k),(7,.i (k - (1 : Int))),(8,.i x),(9,.i ((2 : Int) * x))],[],[999]⟩)
    (True ∧ (True ∧ True ∧ (Fits .i64 (k - (1 : Int)))) ∧ True ∧ True)
    ⟨tt,⟨tt,tt,(by exact fits_i64 (by omega) (by omega))⟩,tt,tt⟩ ?_
   refine thenQ_normal ?_
   refine ⟨((k - (1 : Int)),((2 : Int) * x)),(show ((k - (1 : Int)) ≤ n) ∧ (((2 : Int) * x) * power (k - (1 : Int)) = power n) ∧ (1 ≤ ((2 : Int) * x)) from ⟨(by first | assumption | omega | rfl | (intro _ hjj; omega) | (simp; done) | (simp; omega)),(by rw [← hx]; exact power_step h5),(by first | assumption | omega | rfl | (intro _ hjj; omega) | (simp; done) | (simp; omega))⟩),(show (k - (1 : Int)).toNat < k.toNat from (by first | omega | (simp_all; omega))),?_⟩
   exact Sub.of [] (@cast (((Si (k - (1 : Int))) ∧ (Si ((2 : Int) * x)) ∧ True) ∧ True ∧ (true = true) ∧ (true = true)) _ (by kernel_rfl) ⟨⟨rfl,rfl,tt⟩,tt,rfl,rfl⟩)
  ·intro n5
   refine W.exit (thenQ_exit (thenQ_exit (blockQ_hit ?_)))
   refine thenQ_normal ?_
   refine Kk cok tab19 hnt [] [2] (⟨[(2,.i x)],[],[999]⟩)
    (True ∧ True ∧ True)
    ⟨tt,tt,tt⟩ ?_
   refine W.ret ?_
   exact endQ_ret (.i x) (by kernel_rfl) (@cast ((.int .i64 x : Value) = .int .i64 (power n)) _ (by kernel_rfl) (congrArg (Value.int .i64) (by first | rfl | exact power_done hx n5)))
theorem ent19 : Entr prog 19 := ⟨_,func19,rfl,by decide⟩
end Go.Proofs.Try

set_option linter.unusedSimpArgs false
set_option linter.unusedVariables false
namespace Go.Proofs.Try
open Go.Ab Go.RowKit
def fs40 : FnS := fnS [.o,.o] [.int,.int] (fun _ (x,j,_) => (.i (bitOf x j),[],(j ≤ 60) ∧ (0 ≤ x ∧ x ≤ 4611686018427387904)))
abbrev T40 : Tab := lk [(19,fs19)]
theorem tab40 : TabOK prog T40 := (TabOK.cons ok19 ent19 TabOK.nil)
set_option maxRecDepth 100000 in
set_option maxHeartbeats 1000000 in
theorem ok40 : FnOK prog 40 fs40 := by
 refine FnOK.mk cok func40 rfl rfl rfl ?_
 rintro fl ⟨(x : Int),(j : Int),_⟩ hpre F hnt0 _
 have hnt : F.nt = 10 := hnt0.trans ntmps40
 replace hpre : (j ≤ 60) ∧ (0 ≤ x ∧ x ≤ 4611686018427387904) := hpre
 obtain ⟨hj,hx⟩ := hpre
 refine W.to (⟨[(0,.i x),(1,.i j)],[],[999]⟩) rfl ?_
 refine Kk cok tab40 hnt [] [0,1] (⟨[(0,.i x),(1,.i j)],[],[999]⟩)
  (True ∧ True)
  ⟨tt,tt⟩ ?_
 have hp := power_pos j
 refine Kk cok tab40 hnt [] [4] (⟨[(4,.i (Int.tmod (Int.tdiv x (power j)) (2 : Int)))],[],[999]⟩)
  (True ∧ True ∧ (True ∧ (True ∧ True) ∧ (j ≤ 60)) ∧ (True ∧ True ∧ ((power j) ≠ 0) ∧ (Fits .i64 (Int.tdiv x (power j)))) ∧ (True ∧ True ∧ ((2 : Int) ≠ 0)) ∧ True ∧ True)
  ⟨tt,tt,⟨tt,⟨tt,tt⟩,(by omega)⟩,⟨tt,tt,(by omega),(by exact fits_i64 (Int.le_trans (by omega) (Int.tdiv_nonneg (by omega) (by omega))) (Int.le_trans (Int.tdiv_le_self _ (by omega)) (by omega)))⟩,⟨tt,tt,(by decide)⟩,tt,tt⟩ ?_
 refine W.ret ?_
 exact endQ_ret (.i (Int.tmod (Int.tdiv x (power j)) (2 : Int))) (by kernel_rfl) (@cast ((.int .i64 (Int.tmod (Int.tdiv x (power j)) (2 : Int)) : Value) = .int .i64 (bitOf x j)) _ (by kernel_rfl) (congrArg (Value.int .i64) (by first | rfl | simp_all)))
theorem ent40 : Entr prog 40 := ⟨_,func40,rfl,by decide⟩
end Go.Proofs.Try

set_option linter.unusedSimpArgs false
set_option linter.unusedVariables false
namespace Go.Proofs.Try
open Go.Ab Go.RowKit
def fs29 : FnS := fnS [.s .events,.o,.o] [.events,.int,.int] (fun _ (h,mk,c,_) => (.b (markedE h mk.toNat c.toNat),[],(h.length ≤ 60) ∧ (0 ≤ c ∧ c < 4611686018427387904) ∧ (0 ≤ mk ∧ mk < 4611686018427387904)))
abbrev T29 : Tab := lk [(40,fs40)]
theorem tab29 : TabOK prog T29 := (TabOK.cons ok40 ent40 TabOK.nil)
set_option maxRecDepth 100000 in
set_option maxHeartbeats 1000000 in
theorem ok29 : FnOK prog 29 fs29 := by
 refine FnOK.mk cok func29 rfl rfl rfl ?_
 rintro fl ⟨(h : List EventD),(mk : Int),(c : Int),_⟩ hpre F hnt0 _
 have hnt : F.nt = 42 := hnt0.trans ntmps29
 replace hpre : (h.length ≤ 60) ∧ (0 ≤ c ∧ c < 4611686018427387904) ∧ (0 ≤ mk ∧ mk < 4611686018427387904) := hpre
 obtain ⟨hn,hc,hm⟩ := hpre
 refine W.to (⟨[(0,.sl (.events h)),(1,.i mk),(2,.i c)],[],[999]⟩) rfl ?_
 refine W.lenOf 0 (.events h) (by kernel_rfl) ?_
 intro hl_h; replace hl_h : List.length h ≤ 9223372036854775807 := hl_h
 refine Kk cok tab29 hnt [] [0,1,2] (⟨[(0,.sl (.events h)),(1,.i mk),(2,.i c)],[],[999]⟩)
  (True ∧ True)
  ⟨tt,tt⟩ ?_
 refine W.seq ?_
 refine Kk cok tab29 hnt [] [0,1,2,7] (⟨[(0,.sl (.events h)),(1,.i mk),(2,.i c),(7,.i (0 : Int))],[],[999]⟩)
  (True ∧ True)
  ⟨tt,tt⟩ ?_
 refine W.block ?_
 refine W.loop (ι := Nat) (fun (p : Nat) => (⟨[(0,.sl (.events h)),(1,.i mk),(2,.i c),(7,.i ((p : Nat) : Int))],[],[999]⟩ : St))
  (fun (p : Nat) => (p ≤ 3) ∧ (∀ j,j < p → markedAt h mk.toNat c.toNat j = true))
  (fun (p : Nat) => (3 - p : Nat)) (0) ?_ ?_ ?_
 ·exact (show (0 ≤ 3) ∧ (∀ j,j < 0 → markedAt h mk.toNat c.toNat j = true) from ⟨(by first | assumption | omega | rfl | (intro _ hjj; omega) | (simp; done) | (simp; omega)),(by exact upto_zero)⟩)
 ·exact Sub.of [] (@cast (((Sd (.events h)) ∧ (Si mk) ∧ (Si c) ∧ ((.int .i64 (0 : Int) : Value) = .int .i64 ((0 : Nat) : Int)) ∧ True) ∧ True ∧ (true = true) ∧ (true = true)) _ (by kernel_rfl) ⟨⟨rfl,rfl,rfl,(congrArg (Value.int .i64) (by first | rfl | omega | assumption | simp | simp_all)),tt⟩,tt,rfl,rfl⟩)
 ·rintro p hC0
  have hC : (p ≤ 3) ∧ (∀ j,j < p → markedAt h mk.toNat c.toNat j = true) := hC0
  clear hC0
  obtain ⟨hp,hA⟩ := hC
  refine W.to (⟨[(0,.sl (.events h)),(1,.i mk),(2,.i c),(7,.i ((p : Nat) : Int))],[],[999]⟩) rfl ?_
  refine W.seq ?_
  refine Kk cok tab29 hnt [] [0,1,2,7,11] (⟨[(0,.sl (.events h)),(1,.i mk),(2,.i c),(7,.i ((p : Nat) : Int)),(11,.b (decide (((p : Nat) : Int) < (3 : Int))))],[],[999]⟩)
   (True ∧ (True ∧ True ∧ True) ∧ True)
   ⟨tt,⟨tt,tt,tt⟩,tt⟩ ?_
  refine W.ifP (((p : Nat) : Int) < (3 : Int)) (.b (decide (((p : Nat) : Int) < (3 : Int)))) (by kernel_rfl) rfl trivial ?_ ?_
  ·intro h11
   refine W.skip (thenQ_normal ?_)
   refine W.seq ?_
   refine W.block ?_
   refine Kk cok tab29 hnt [] [0,1,2,7,8] (⟨[(0,.sl (.events h)),(1,.i mk),(2,.i c),(7,.i ((p : Nat) : Int)),(8,.i (-1 : Int))],[],[999]⟩)
    (True ∧ True)
    ⟨tt,tt⟩ ?_
   refine W.seq ?_
   refine Kk cok tab29 hnt [] [0,1,2,7,8,9] (⟨[(0,.sl (.events h)),(1,.i mk),(2,.i c),(7,.i ((p : Nat) : Int)),(8,.i (-1 : Int)),(9,.i (0 : Int))],[],[999]⟩)
    (True ∧ True)
    ⟨tt,tt⟩ ?_
   refine W.block ?_
   refine W.loop (ι := Int × Nat) (fun (x : Int × Nat) => match x with | (x,k) => (⟨[(0,.sl (.events h)),(1,.i mk),(2,.i c),(7,.i ((p : Nat) : Int)),(8,.i x),(9,.i ((k : Nat) : Int))],[],[999]⟩ : St))
    (fun (x : Int × Nat) => match x with | (x,k) => (k ≤ h.length) ∧ (x = lastE h c.toNat ((p : Nat) : Int) k))
    (fun (x : Int × Nat) => match x with | (x,k) => (h.length - k : Nat)) ((-1 : Int),0) ?_ ?_ ?_
   ·exact (show (0 ≤ h.length) ∧ ((-1 : Int) = lastE h c.toNat ((p : Nat) : Int) 0) from ⟨(by first | assumption | omega | rfl | (intro _ hjj; omega) | (simp; done) | (simp; omega)),(by rfl)⟩)
   ·exact Sub.of [] (@cast (((Sd (.events h)) ∧ (Si mk) ∧ (Si c) ∧ (Si ((p : Nat) : Int)) ∧ (Si (-1 : Int)) ∧ ((.int .i64 (0 : Int) : Value) = .int .i64 ((0 : Nat) : Int)) ∧ True) ∧ True ∧ (true = true) ∧ (true = true)) _ (by kernel_rfl) ⟨⟨rfl,rfl,rfl,rfl,rfl,(congrArg (Value.int .i64) (by first | rfl | omega | assumption | simp | simp_all)),tt⟩,tt,rfl,rfl⟩)
   ·rintro ⟨x,k⟩ hC0
    have hC : (k ≤ h.length) ∧ (x = lastE h c.toNat ((p : Nat) : Int) k) := hC0
    clear hC0
    obtain ⟨hk,hx⟩ := hC
    refine W.to (⟨[(0,.sl (.events h)),(1,.i mk),(2,.i c),(7,.i ((p : Nat) : Int)),(8,.i x),(9,.i ((k : Nat) : Int))],[],[999]⟩) rfl ?_
    have hbd := lastE_bnd h c.toNat ((p : Nat) : Int) k
    rw [← hx] at hbd
    refine W.seq ?_
    refine Kk cok tab29 hnt [] [0,1,2,7,8,9,17] (⟨[(0,.sl (.events h)),(1,.i mk),(2,.i c),(7,.i ((p : Nat) : Int)),(8,.i x),(9,.i ((k : Nat) : Int)),(17,.b (decide (((k : Nat) : Int) < (h.length : Int))))],[],[999]⟩)
     (True ∧ True ∧ True ∧ (True ∧ True ∧ True) ∧ True)
     ⟨tt,tt,tt,⟨tt,tt,tt⟩,tt⟩ ?_
    refine W.ifP (((k : Nat) : Int) < (h.length : Int)) (.b (decide (((k : Nat) : Int) < (h.length : Int)))) (by kernel_rfl) rfl trivial ?_ ?_
    ·intro h17
     refine W.skip (thenQ_normal ?_)
     refine W.seq ?_
     refine W.block ?_
     refine Kk cok tab29 hnt [] [0,1,2,7,8,9,32] (⟨[(0,.sl (.events h)),(1,.i mk),(2,.i c),(7,.i ((p : Nat) : Int)),(8,.i x),(9,.i ((k : Nat) : Int)),(32,.b ((decide ((bitOf c ((k : Nat) : Int)) = (1 : Int))) && (decide (((h.getD k default).proc) = ((p : Nat) : Int)))))],[],[999]⟩)
      ((fun (Z1:Bool)=>(True ∧ (True ∧ ((True ∧ ((True ∧ (True ∧ True)) ∧ ((((k : Nat) : Int) ≤ 60) ∧ (0 ≤ c ∧ c ≤ 4611686018427387904)))) ∧ ((True ∧ (True ∧ True)) ∧ (True ∧ ((Z1 = true → True) ∧ ((Z1 = true → True) ∧ ((Z1 = true → (((Z1 = true) ∧ True) ∧ (((Z1 = true) ∧ True) ∧ ((0 ≤ ((k : Nat) : Int)) ∧ (((k : Nat) : Int) < (h.length : Int)))))) ∧ ((Z1 = true → ((Z1 = true) ∧ True)) ∧ ((Z1 = true → ((Z1 = true) ∧ True)) ∧ ((Z1 = true → True) ∧ ((Z1 = true → (((Z1 = true) ∧ True) ∧ (((Z1 = true) ∧ True) ∧ True))) ∧ ((True ∧ ((Z1 = true → (Z1 = true) ∧ True) ∧ (Z1 = false → True))) ∧ True)))))))))))))) (decide ((bitOf c ((k : Nat) : Int)) = (1 : Int))))
      ⟨tt,tt,⟨tt,⟨tt,tt,tt⟩,(by omega),(by omega)⟩,⟨tt,tt,tt⟩,tt,(fun _ => trivial),(fun _ => trivial),(fun hG => ⟨⟨hG,tt⟩,⟨hG,tt⟩,(by have hg0 : (bitOf c ((k : Nat) : Int)) = (1 : Int) := of_decide_eq_true hG; omega),(by have hg0 : (bitOf c ((k : Nat) : Int)) = (1 : Int) := of_decide_eq_true hG; omega)⟩),(fun hG => ⟨hG,tt⟩),(fun hG => ⟨hG,tt⟩),(fun _ => trivial),(fun hG => ⟨⟨hG,tt⟩,⟨hG,tt⟩,tt⟩),⟨tt,(fun hp => ⟨hp,tt⟩),(fun _ => trivial)⟩,tt⟩ ?_
     refine W.if' ((decide ((bitOf c ((k : Nat) : Int)) = (1 : Int))) && (decide (((h.getD k default).proc) = ((p : Nat) : Int)))) (.b ((decide ((bitOf c ((k : Nat) : Int)) = (1 : Int))) && (decide (((h.getD k default).proc) = ((p : Nat) : Int))))) (by kernel_rfl) rfl trivial ?_ ?_
     ·intro h32
      have h32_0 : (bitOf c ((k : Nat) : Int)) = (1 : Int) := of_decide_eq_true (and_l h32)
      have h32_1 : ((h.getD k default).proc) = ((p : Nat) : Int) := of_decide_eq_true (and_r h32)
      refine Lk cok tab29 hnt [] (⟨[(0,.sl (.events h)),(1,.i mk),(2,.i c),(7,.i ((p : Nat) : Int)),(8,.i ((k : Nat) : Int)),(9,.i ((k : Nat) : Int)),(32,.b ((decide ((bitOf c ((k : Nat) : Int)) = (1 : Int))) && (decide (((h.getD k default).proc) = ((p : Nat) : Int))))),(33,.i ((k : Nat) : Int))],[],[999]⟩)
       (True ∧ True ∧ True)
       ⟨tt,tt,tt⟩ ?_
      refine blockQ_normal (thenQ_normal ?_)
      refine Lk cok tab29 hnt [] (⟨[(0,.sl (.events h)),(1,.i mk),(2,.i c),(7,.i ((p : Nat) : Int)),(8,.i ((k : Nat) : Int)),(9,.i (((k + 1) : Nat) : Int)),(18,.i ((k : Nat) : Int)),(19,.i (((k + 1) : Nat) : Int)),(32,.b ((decide ((bitOf c ((k : Nat) : Int)) = (1 : Int))) && (decide (((h.getD k default).proc) = ((p : Nat) : Int))))),(33,.i ((k : Nat) : Int))],[],[999]⟩)
       (True ∧ (True ∧ True ∧ (Fits .i64 (((k + 1) : Nat) : Int))) ∧ True ∧ True)
       ⟨tt,⟨tt,tt,(by exact fits_i64 (by omega) (by omega))⟩,tt,tt⟩ ?_
      refine thenQ_normal ?_
      refine ⟨(((k : Nat) : Int),(k + 1)),(show ((k + 1) ≤ h.length) ∧ (((k : Nat) : Int) = lastE h c.toNat ((p : Nat) : Int) (k + 1)) from ⟨(by first | assumption | omega | rfl | (intro _ hjj; omega) | (simp; done) | (simp; omega)),(by first | exact (lastS hc.1 h32).symm | (rw [hx]; exact (lastS hc.1 n32).symm))⟩),(show h.length - (k + 1) < h.length - k from (by first | omega | (simp_all; omega))),?_⟩
      exact Sub.of [] (@cast (((Sd (.events h)) ∧ (Si mk) ∧ (Si c) ∧ (Si ((p : Nat) : Int)) ∧ (Si ((k : Nat) : Int)) ∧ (Si (((k + 1) : Nat) : Int)) ∧ True) ∧ True ∧ (true = true) ∧ (true = true)) _ (by kernel_rfl) ⟨⟨rfl,rfl,rfl,rfl,rfl,rfl,tt⟩,tt,rfl,rfl⟩)
     ·intro n32
      refine W.skip (blockQ_normal (thenQ_normal ?_))
      refine Lk cok tab29 hnt [] (⟨[(0,.sl (.events h)),(1,.i mk),(2,.i c),(7,.i ((p : Nat) : Int)),(8,.i x),(9,.i (((k + 1) : Nat) : Int)),(18,.i ((k : Nat) : Int)),(19,.i (((k + 1) : Nat) : Int)),(32,.b ((decide ((bitOf c ((k : Nat) : Int)) = (1 : Int))) && (decide (((h.getD k default).proc) = ((p : Nat) : Int)))))],[],[999]⟩)
       (True ∧ (True ∧ True ∧ (Fits .i64 (((k + 1) : Nat) : Int))) ∧ True ∧ True)
       ⟨tt,⟨tt,tt,(by exact fits_i64 (by omega) (by omega))⟩,tt,tt⟩ ?_
      refine thenQ_normal ?_
      refine ⟨(x,(k + 1)),(show ((k + 1) ≤ h.length) ∧ (x = lastE h c.toNat ((p : Nat) : Int) (k + 1)) from ⟨(by first | assumption | omega | rfl | (intro _ hjj; omega) | (simp; done) | (simp; omega)),(by first | exact (lastS hc.1 h32).symm | (rw [hx]; exact (lastS hc.1 n32).symm))⟩),(show h.length - (k + 1) < h.length - k from (by first | omega | (simp_all; omega))),?_⟩
      exact Sub.of [] (@cast (((Sd (.events h)) ∧ (Si mk) ∧ (Si c) ∧ (Si ((p : Nat) : Int)) ∧ (Si x) ∧ (Si (((k + 1) : Nat) : Int)) ∧ True) ∧ True ∧ (true = true) ∧ (true = true)) _ (by kernel_rfl) ⟨⟨rfl,rfl,rfl,rfl,rfl,rfl,tt⟩,tt,rfl,rfl⟩)
    ·intro n17
     refine W.exit (thenQ_exit (thenQ_exit (blockQ_hit ?_)))
     refine thenQ_normal ?_
     refine Kk cok tab29 hnt [] [0,1,2,7,41] (⟨[(0,.sl (.events h)),(1,.i mk),(2,.i c),(7,.i ((p : Nat) : Int)),(41,.b ((decide (x < (0 : Int))) || (decide ((bitOf mk x) = (0 : Int)))))],[],[999]⟩)
      ((fun (Z1:Bool)=>(True ∧ ((True ∧ (True ∧ True)) ∧ (True ∧ (((!Z1) = true → True) ∧ (((!Z1) = true → True) ∧ (((!Z1) = true → (True ∧ (((((!Z1) = true) ∧ True) ∧ ((((!Z1) = true) ∧ True) ∧ True)) ∧ ((x ≤ 60) ∧ (0 ≤ mk ∧ mk ≤ 4611686018427387904))))) ∧ (((!Z1) = true → ((((!Z1) = true) ∧ True) ∧ (True ∧ True))) ∧ ((True ∧ ((Z1 = true → True) ∧ (Z1 = false → ((!Z1) = true) ∧ True))) ∧ True))))))))) (decide (x < (0 : Int))))
      ⟨tt,⟨tt,tt,tt⟩,tt,(fun _ => trivial),(fun _ => trivial),(fun hG => ⟨tt,⟨⟨hG,tt⟩,⟨hG,tt⟩,tt⟩,(by have hg0 : ¬ (x < (0 : Int)) := of_decide_eq_false (not_f hG); omega),(by have hg0 : ¬ (x < (0 : Int)) := of_decide_eq_false (not_f hG); omega)⟩),(fun hG => ⟨⟨hG,tt⟩,tt,tt⟩),⟨tt,(fun _ => trivial),(fun hp => ⟨(not_t hp),tt⟩)⟩,tt⟩ ?_
     refine W.if' ((decide (x < (0 : Int))) || (decide ((bitOf mk x) = (0 : Int)))) (.b ((decide (x < (0 : Int))) || (decide ((bitOf mk x) = (0 : Int))))) (by kernel_rfl) rfl trivial ?_ ?_
     ·intro h41
      refine Kk cok tab29 hnt [] [6] (⟨[(6,.b false)],[],[999]⟩)
       (True ∧ True)
       ⟨tt,tt⟩ ?_
      refine W.ret (blockQ_ret (thenQ_ret (thenQ_ret (blockQ_ret (thenQ_ret ?_)))))
      exact endQ_ret (.b false) (by kernel_rfl) (@cast ((.bool false : Value) = .bool (markedE h mk.toNat c.toNat)) _ (by kernel_rfl) (congrArg Value.bool (by rw [show k = h.length by omega] at hx; exact (allN_false (i := p) (by omega) (markS hm.1 hx h41)).symm)))
     ·intro n41
      have n41_0 : ¬ (x < (0 : Int)) := of_decide_eq_false (or_l n41)
      have n41_1 : ¬ ((bitOf mk x) = (0 : Int)) := of_decide_eq_false (or_r n41)
      refine W.skip (blockQ_normal (thenQ_normal ?_))
      refine Lk cok tab29 hnt [] (⟨[(0,.sl (.events h)),(1,.i mk),(2,.i c),(7,.i (((p + 1) : Nat) : Int)),(12,.i ((p : Nat) : Int)),(13,.i (((p + 1) : Nat) : Int)),(41,.b ((decide (x < (0 : Int))) || (decide ((bitOf mk x) = (0 : Int)))))],[],[999]⟩)
       (True ∧ (True ∧ True ∧ (Fits .i64 (((p + 1) : Nat) : Int))) ∧ True ∧ True)
       ⟨tt,⟨tt,tt,(by exact fits_i64 (by omega) (by omega))⟩,tt,tt⟩ ?_
      refine thenQ_normal ?_
      refine ⟨((p + 1)),(show ((p + 1) ≤ 3) ∧ (∀ j,j < (p + 1) → markedAt h mk.toNat c.toNat j = true) from ⟨(by first | assumption | omega | rfl | (intro _ hjj; omega) | (simp; done) | (simp; omega)),(by rw [show k = h.length by omega] at hx; exact upto_succ hA (markS hm.1 hx n41))⟩),(show 3 - (p + 1) < 3 - p from (by first | omega | (simp_all; omega))),?_⟩
      exact Sub.of [] (@cast (((Sd (.events h)) ∧ (Si mk) ∧ (Si c) ∧ (Si (((p + 1) : Nat) : Int)) ∧ True) ∧ True ∧ (true = true) ∧ (true = true)) _ (by kernel_rfl) ⟨⟨rfl,rfl,rfl,rfl,tt⟩,tt,rfl,rfl⟩)
  ·intro n11
   refine W.exit (thenQ_exit (thenQ_exit (blockQ_hit ?_)))
   refine thenQ_normal ?_
   refine Kk cok tab29 hnt [] [6] (⟨[(6,.b true)],[],[999]⟩)
    (True ∧ True)
    ⟨tt,tt⟩ ?_
   refine W.ret ?_
   exact endQ_ret (.b true) (by kernel_rfl) (@cast ((.bool true : Value) = .bool (markedE h mk.toNat c.toNat)) _ (by kernel_rfl) (congrArg Value.bool (by exact (allN_true (fun j hj => hA j (by omega))).symm)))
theorem ent29 : Entr prog 29 := ⟨_,func29,rfl,by decide⟩
end Go.Proofs.Try

set_option linter.unusedSimpArgs false
set_option linter.unusedVariables false
namespace Go.Proofs.Try
open Go.Ab Go.RowKit
def fs43 : FnS := fnS [.s .events] [.events] (fun _ (h,_) => (.sl (.ints (pastL h h.length)),[],(h.length ≤ 60)))
abbrev T43 : Tab := lk [(19,fs19)]
theorem tab43 : TabOK prog T43 := (TabOK.cons ok19 ent19 TabOK.nil)
set_option maxRecDepth 100000 in
set_option maxHeartbeats 1000000 in
theorem ok43 : FnOK prog 43 fs43 := by
 refine FnOK.mk cok func43 rfl rfl rfl ?_
 rintro fl ⟨(h : List EventD),_⟩ hpre F hnt0 _
 have hnt : F.nt = 72 := hnt0.trans ntmps43
 replace hpre : (h.length ≤ 60) := hpre
 have hn := hpre
 refine W.to (⟨[(0,.sl (.events h))],[],[999]⟩) rfl ?_
 refine W.lenOf 0 (.events h) (by kernel_rfl) ?_
 intro hl_h; replace hl_h : List.length h ≤ 9223372036854775807 := hl_h
 refine Kk cok tab43 hnt [] [0] (⟨[(0,.sl (.events h))],[],[999]⟩)
  (True ∧ True)
  ⟨tt,tt⟩ ?_
 refine Kk cok tab43 hnt [7] [0,3] (⟨[(0,.sl (.events h)),(3,.own 7 (List.length ([] : List Int)))],[(7,⟨3,.row (.ints ([] : List Int))⟩)],[7,999]⟩)
  (True ∧ True ∧ True)
  ⟨tt,tt,tt⟩ ?_
 refine W.seq ?_
 refine Kk cok tab43 hnt [] [0,3,4] (⟨[(0,.sl (.events h)),(3,.own 7 (List.length ([] : List Int))),(4,.i (0 : Int))],[(7,⟨3,.row (.ints ([] : List Int))⟩)],[7,999]⟩)
  (True ∧ True)
  ⟨tt,tt⟩ ?_
 refine W.block ?_
 refine W.loop (ι := Nat × (List Int)) (fun (x : Nat × (List Int)) => match x with | (i,o) => (⟨[(0,.sl (.events h)),(3,.own 7 o.length),(4,.i ((i : Nat) : Int))],[(7,⟨3,.row (.ints o)⟩)],[7,999]⟩ : St))
  (fun (x : Nat × (List Int)) => match x with | (i,o) => (i ≤ h.length) ∧ (o = pastL h i))
  (fun (x : Nat × (List Int)) => match x with | (i,o) => (h.length - i : Nat)) (0,([] : List Int)) ?_ ?_ ?_
 ·exact (show (0 ≤ h.length) ∧ (([] : List Int) = pastL h 0) from ⟨(by first | assumption | omega | rfl | (intro _ hjj; omega) | (simp; done) | (simp; omega)),(by rfl)⟩)
 ·exact Sub.of [] (@cast (((Sd (.events h)) ∧ (((7 : Nat) = 7) ∧ ((List.length ([] : List Int)) = (List.length ([] : List Int))) ∧ ((7 : Nat) ∈ ([7,999] : List Nat))) ∧ ((.int .i64 (0 : Int) : Value) = .int .i64 ((0 : Nat) : Int)) ∧ True) ∧ ((((3 : Nat) = 3) ∧ (Sd (.ints ([] : List Int))) ∧ ((7 : Nat) ∈ ([7,999] : List Nat))) ∧ True) ∧ (true = true) ∧ (true = true)) _ (by kernel_rfl) ⟨⟨rfl,⟨rfl,rfl,(by decide)⟩,(congrArg (Value.int .i64) (by first | rfl | omega | assumption | simp | simp_all)),tt⟩,⟨⟨rfl,rfl,(by decide)⟩,tt⟩,rfl,rfl⟩)
 ·rintro ⟨i,o⟩ hC0
  have hC : (i ≤ h.length) ∧ (o = pastL h i) := hC0
  clear hC0
  obtain ⟨hi,ho⟩ := hC
  refine W.to (⟨[(0,.sl (.events h)),(3,.own 7 o.length),(4,.i ((i : Nat) : Int))],[(7,⟨3,.row (.ints o)⟩)],[7,999]⟩) rfl ?_
  have hol : o.length = i := by rw [ho]; exact pastL_len h i
  refine W.seq ?_
  refine Kk cok tab43 hnt [] [0,3,4,11] (⟨[(0,.sl (.events h)),(3,.own 7 o.length),(4,.i ((i : Nat) : Int)),(11,.b (decide (((i : Nat) : Int) < (h.length : Int))))],[(7,⟨3,.row (.ints o)⟩)],[7,999]⟩)
   (True ∧ True ∧ True ∧ (True ∧ True ∧ True) ∧ True)
   ⟨tt,tt,tt,⟨tt,tt,tt⟩,tt⟩ ?_
  refine W.ifP (((i : Nat) : Int) < (h.length : Int)) (.b (decide (((i : Nat) : Int) < (h.length : Int)))) (by kernel_rfl) rfl trivial ?_ ?_
  ·intro h11
   refine W.skip (thenQ_normal ?_)
   refine W.seq ?_
   refine W.block ?_
   refine Kk cok tab43 hnt [] [0,3,4,5] (⟨[(0,.sl (.events h)),(3,.own 7 o.length),(4,.i ((i : Nat) : Int)),(5,.i (power ((i : Nat) : Int)))],[(7,⟨3,.row (.ints o)⟩)],[7,999]⟩)
    (True ∧ (True ∧ (True ∧ True) ∧ (((i : Nat) : Int) ≤ 60)) ∧ True ∧ True)
    ⟨tt,⟨tt,⟨tt,tt⟩,(by omega)⟩,tt,tt⟩ ?_
   refine W.seq ?_
   refine Kk cok tab43 hnt [] [0,3,4,5,6] (⟨[(0,.sl (.events h)),(3,.own 7 o.length),(4,.i ((i : Nat) : Int)),(5,.i (power ((i : Nat) : Int))),(6,.i (0 : Int))],[(7,⟨3,.row (.ints o)⟩)],[7,999]⟩)
    (True ∧ True)
    ⟨tt,tt⟩ ?_
   refine W.block ?_
   refine W.loop (ι := Nat × Int) (fun (x : Nat × Int) => match x with | (k,x) => (⟨[(0,.sl (.events h)),(3,.own 7 o.length),(4,.i ((i : Nat) : Int)),(5,.i x),(6,.i ((k : Nat) : Int))],[(7,⟨3,.row (.ints o)⟩)],[7,999]⟩ : St))
    (fun (x : Nat × Int) => match x with | (k,x) => (k ≤ i) ∧ (x = pastStep h (pastL h i) i k))
    (fun (x : Nat × Int) => match x with | (k,x) => (i - k : Nat)) (0,(power ((i : Nat) : Int))) ?_ ?_ ?_
   ·exact (show (0 ≤ i) ∧ ((power ((i : Nat) : Int)) = pastStep h (pastL h i) i 0) from ⟨(by first | assumption | omega | rfl | (intro _ hjj; omega) | (simp; done) | (simp; omega)),(by first | rfl | (rw [shl_one (by omega),← power_nat]; rfl))⟩)
   ·exact Sub.of [] (@cast (((Sd (.events h)) ∧ (((7 : Nat) = 7) ∧ (o.length = o.length) ∧ ((7 : Nat) ∈ ([7,999] : List Nat))) ∧ (Si ((i : Nat) : Int)) ∧ (Si (power ((i : Nat) : Int))) ∧ ((.int .i64 (0 : Int) : Value) = .int .i64 ((0 : Nat) : Int)) ∧ True) ∧ ((((3 : Nat) = 3) ∧ (Sd (.ints o)) ∧ ((7 : Nat) ∈ ([7,999] : List Nat))) ∧ True) ∧ (true = true) ∧ (true = true)) _ (by kernel_rfl) ⟨⟨rfl,⟨rfl,rfl,(by decide)⟩,rfl,rfl,(congrArg (Value.int .i64) (by first | rfl | omega | assumption | simp | simp_all)),tt⟩,⟨⟨rfl,rfl,(by decide)⟩,tt⟩,rfl,rfl⟩)
   ·rintro ⟨k,x⟩ hC0
    have hC : (k ≤ i) ∧ (x = pastStep h (pastL h i) i k) := hC0
    clear hC0
    obtain ⟨hk,hx⟩ := hC
    refine W.to (⟨[(0,.sl (.events h)),(3,.own 7 o.length),(4,.i ((i : Nat) : Int)),(5,.i x),(6,.i ((k : Nat) : Int))],[(7,⟨3,.row (.ints o)⟩)],[7,999]⟩) rfl ?_
    refine W.seq ?_
    refine Kk cok tab43 hnt [] [0,3,4,5,6,18] (⟨[(0,.sl (.events h)),(3,.own 7 o.length),(4,.i ((i : Nat) : Int)),(5,.i x),(6,.i ((k : Nat) : Int)),(18,.b (decide (((k : Nat) : Int) < ((i : Nat) : Int))))],[(7,⟨3,.row (.ints o)⟩)],[7,999]⟩)
     (True ∧ True ∧ (True ∧ True ∧ True) ∧ True)
     ⟨tt,tt,⟨tt,tt,tt⟩,tt⟩ ?_
    refine W.ifP (((k : Nat) : Int) < ((i : Nat) : Int)) (.b (decide (((k : Nat) : Int) < ((i : Nat) : Int)))) (by kernel_rfl) rfl trivial ?_ ?_
    ·intro h18
     refine W.skip (thenQ_normal ?_)
     refine W.seq ?_
     refine W.block ?_
     refine W.KA cok tab43 hnt [] [0,3,4,5,6,60] (⟨[(0,.sl (.events h)),(3,.own 7 o.length),(4,.i ((i : Nat) : Int)),(5,.i x),(6,.i ((k : Nat) : Int)),(60,.b ((decide (((h.getD k default).proc) = ((h.getD i default).proc))) || (((decide (((h.getD k default).kind) = (1 : Int))) && (decide (((h.getD i default).kind) = (2 : Int)))) && (decide (((h.getD k default).msg) = ((h.getD i default).msg))))))],[(7,⟨3,.row (.ints o)⟩)],[7,999]⟩)
      ((fun (Z1:Bool)=>((fun (Z2:Bool)=>((fun (Z3:Bool)=>((fun (Z4:Bool)=>((fun (Z5:Bool)=>((fun (Z6:Bool)=>(True ∧ (True ∧ ((True ∧ (True ∧ ((0 ≤ ((k : Nat) : Int)) ∧ (((k : Nat) : Int) < (h.length : Int))))) ∧ (True ∧ (True ∧ (True ∧ (True ∧ ((True ∧ (True ∧ ((0 ≤ ((i : Nat) : Int)) ∧ (((i : Nat) : Int) < (h.length : Int))))) ∧ (True ∧ (True ∧ ((True ∧ (True ∧ True)) ∧ (True ∧ ((Z4 = true → True) ∧ ((Z4 = true → True) ∧ ((Z4 = true → (((Z4 = true) ∧ True) ∧ (((Z4 = true) ∧ True) ∧ ((0 ≤ ((k : Nat) : Int)) ∧ (((k : Nat) : Int) < (h.length : Int)))))) ∧ ((Z4 = true → ((Z4 = true) ∧ True)) ∧ ((Z4 = true → ((Z4 = true) ∧ True)) ∧ ((Z4 = true → (((Z4 = true) ∧ True) ∧ (True ∧ True))) ∧ ((Z4 = true → True) ∧ ((Z5 = true → True) ∧ ((Z5 = true → True) ∧ ((Z5 = true → (((Z5 = true) ∧ True) ∧ (((Z5 = true) ∧ True) ∧ ((0 ≤ ((i : Nat) : Int)) ∧ (((i : Nat) : Int) < (h.length : Int)))))) ∧ ((Z5 = true → ((Z5 = true) ∧ True)) ∧ ((Z5 = true → ((Z5 = true) ∧ True)) ∧ ((Z5 = true → (((Z5 = true) ∧ True) ∧ (True ∧ True))) ∧ ((Z4 = true → (((Z4 = true) ∧ ((Z4 = true) ∧ True)) ∧ ((Z1 = true → (Z5 = true) ∧ True) ∧ (Z1 = false → True)))) ∧ ((Z4 = true → True) ∧ ((Z6 = true → True) ∧ ((Z6 = true → True) ∧ ((Z6 = true → (((Z6 = true) ∧ True) ∧ (((Z6 = true) ∧ True) ∧ ((0 ≤ ((k : Nat) : Int)) ∧ (((k : Nat) : Int) < (h.length : Int)))))) ∧ ((Z6 = true → ((Z6 = true) ∧ True)) ∧ ((Z6 = true → ((Z6 = true) ∧ True)) ∧ ((Z6 = true → True) ∧ ((Z6 = true → True) ∧ ((Z6 = true → (((Z6 = true) ∧ True) ∧ (((Z6 = true) ∧ True) ∧ ((0 ≤ ((i : Nat) : Int)) ∧ (((i : Nat) : Int) < (h.length : Int)))))) ∧ ((Z6 = true → ((Z6 = true) ∧ True)) ∧ ((Z6 = true → ((Z6 = true) ∧ True)) ∧ ((Z6 = true → (((Z6 = true) ∧ True) ∧ (((Z6 = true) ∧ True) ∧ True))) ∧ ((Z4 = true → (((Z4 = true) ∧ ((Z4 = true) ∧ True)) ∧ ((Z2 = true → (Z6 = true) ∧ True) ∧ (Z2 = false → True)))) ∧ ((True ∧ ((Z3 = true → True) ∧ (Z3 = false → (Z4 = true) ∧ True))) ∧ True))))))))))))))))))))))))))))))))))))))))) (Z4 && (Z4 && Z2)))) (Z4 && (Z4 && Z1)))) (!Z3))) (decide (((h.getD k default).proc) = ((h.getD i default).proc))))) (Z1 && (decide (((h.getD i default).kind) = (2 : Int)))))) (decide (((h.getD k default).kind) = (1 : Int)))) (by kernel_rfl) (by kernel_rfl)
      ⟨tt,tt,⟨tt,tt,(by omega),(by omega)⟩,tt,tt,tt,tt,⟨tt,tt,(by omega),(by omega)⟩,tt,tt,⟨tt,tt,tt⟩,tt,(fun _ => trivial),(fun _ => trivial),(fun hG => ⟨⟨hG,tt⟩,⟨hG,tt⟩,(by have hg0 : ¬ (((h.getD k default).proc) = ((h.getD i default).proc)) := of_decide_eq_false (not_f hG); omega),(by have hg0 : ¬ (((h.getD k default).proc) = ((h.getD i default).proc)) := of_decide_eq_false (not_f hG); omega)⟩),(fun hG => ⟨hG,tt⟩),(fun hG => ⟨hG,tt⟩),(fun hG => ⟨⟨hG,tt⟩,tt,tt⟩),(fun _ => trivial),(fun _ => trivial),(fun _ => trivial),(fun hG => ⟨⟨hG,tt⟩,⟨hG,tt⟩,(by have hg0 : ¬ (((h.getD k default).proc) = ((h.getD i default).proc)) := of_decide_eq_false (not_f (and_l hG)); have hg1 : ¬ (((h.getD k default).proc) = ((h.getD i default).proc)) := of_decide_eq_false (not_f (and_l (and_r hG))); have hg2 : ((h.getD k default).kind) = (1 : Int) := of_decide_eq_true (and_r (and_r hG)); omega),(by have hg0 : ¬ (((h.getD k default).proc) = ((h.getD i default).proc)) := of_decide_eq_false (not_f (and_l hG)); have hg1 : ¬ (((h.getD k default).proc) = ((h.getD i default).proc)) := of_decide_eq_false (not_f (and_l (and_r hG))); have hg2 : ((h.getD k default).kind) = (1 : Int) := of_decide_eq_true (and_r (and_r hG)); omega)⟩),(fun hG => ⟨hG,tt⟩),(fun hG => ⟨hG,tt⟩),(fun hG => ⟨⟨hG,tt⟩,tt,tt⟩),(fun hG => ⟨⟨hG,hG,tt⟩,(fun hp => ⟨(and_t hG (and_t hG hp)),tt⟩),(fun _ => trivial)⟩),(fun _ => trivial),(fun _ => trivial),(fun _ => trivial),(fun hG => ⟨⟨hG,tt⟩,⟨hG,tt⟩,(by have hg0 : ¬ (((h.getD k default).proc) = ((h.getD i default).proc)) := of_decide_eq_false (not_f (and_l hG)); have hg1 : ¬ (((h.getD k default).proc) = ((h.getD i default).proc)) := of_decide_eq_false (not_f (and_l (and_r hG))); have hg2 : ((h.getD k default).kind) = (1 : Int) := of_decide_eq_true (and_l (and_r (and_r hG))); have hg3 : ((h.getD i default).kind) = (2 : Int) := of_decide_eq_true (and_r (and_r (and_r hG))); omega),(by have hg0 : ¬ (((h.getD k default).proc) = ((h.getD i default).proc)) := of_decide_eq_false (not_f (and_l hG)); have hg1 : ¬ (((h.getD k default).proc) = ((h.getD i default).proc)) := of_decide_eq_false (not_f (and_l (and_r hG))); have hg2 : ((h.getD k default).kind) = (1 : Int) := of_decide_eq_true (and_l (and_r (and_r hG))); have hg3 : ((h.getD i default).kind) = (2 : Int) := of_decide_eq_true (and_r (and_r (and_r hG))); omega)⟩),(fun hG => ⟨hG,tt⟩),(fun hG => ⟨hG,tt⟩),(fun _ => trivial),(fun _ => trivial),(fun hG => ⟨⟨hG,tt⟩,⟨hG,tt⟩,(by have hg0 : ¬ (((h.getD k default).proc) = ((h.getD i default).proc)) := of_decide_eq_false (not_f (and_l hG)); have hg1 : ¬ (((h.getD k default).proc) = ((h.getD i default).proc)) := of_decide_eq_false (not_f (and_l (and_r hG))); have hg2 : ((h.getD k default).kind) = (1 : Int) := of_decide_eq_true (and_l (and_r (and_r hG))); have hg3 : ((h.getD i default).kind) = (2 : Int) := of_decide_eq_true (and_r (and_r (and_r hG))); omega),(by have hg0 : ¬ (((h.getD k default).proc) = ((h.getD i default).proc)) := of_decide_eq_false (not_f (and_l hG)); have hg1 : ¬ (((h.getD k default).proc) = ((h.getD i default).proc)) := of_decide_eq_false (not_f (and_l (and_r hG))); have hg2 : ((h.getD k default).kind) = (1 : Int) := of_decide_eq_true (and_l (and_r (and_r hG))); have hg3 : ((h.getD i default).kind) = (2 : Int) := of_decide_eq_true (and_r (and_r (and_r hG))); omega)⟩),(fun hG => ⟨hG,tt⟩),(fun hG => ⟨hG,tt⟩),(fun hG => ⟨⟨hG,tt⟩,⟨hG,tt⟩,tt⟩),(fun hG => ⟨⟨hG,hG,tt⟩,(fun hp => ⟨(and_t hG (and_t hG hp)),tt⟩),(fun _ => trivial)⟩),⟨tt,(fun _ => trivial),(fun hp => ⟨(not_t hp),tt⟩)⟩,tt⟩ ?_
     refine W.if' ((decide (((h.getD k default).proc) = ((h.getD i default).proc))) || (((decide (((h.getD k default).kind) = (1 : Int))) && (decide (((h.getD i default).kind) = (2 : Int)))) && (decide (((h.getD k default).msg) = ((h.getD i default).msg))))) (.b ((decide (((h.getD k default).proc) = ((h.getD i default).proc))) || (((decide (((h.getD k default).kind) = (1 : Int))) && (decide (((h.getD i default).kind) = (2 : Int)))) && (decide (((h.getD k default).msg) = ((h.getD i default).msg)))))) (by kernel_rfl) rfl trivial ?_ ?_
     ·intro h60
      refine Lk cok tab43 hnt [] (⟨[(0,.sl (.events h)),(3,.own 7 o.length),(4,.i ((i : Nat) : Int)),(5,.i (bitsI .or .i64 x (o.getD k 0))),(6,.i ((k : Nat) : Int)),(60,.b ((decide (((h.getD k default).proc) = ((h.getD i default).proc))) || (((decide (((h.getD k default).kind) = (1 : Int))) && (decide (((h.getD i default).kind) = (2 : Int)))) && (decide (((h.getD k default).msg) = ((h.getD i default).msg)))))),(61,.i x),(62,.own 7 o.length),(63,.i ((k : Nat) : Int)),(64,.pel 7 1 k 0),(65,.i (o.getD k 0)),(66,.i (bitsI .or .i64 x (o.getD k 0)))],[(7,⟨3,.row (.ints o)⟩)],[7,999]⟩)
       (True ∧ True ∧ True ∧ (True ∧ True ∧ (0 ≤ ((k : Nat) : Int)) ∧ (((k : Nat) : Int) < (o.length : Int))) ∧ (True ∧ (k < o.length)) ∧ (True ∧ True ∧ True) ∧ True ∧ True)
       ⟨tt,tt,tt,⟨tt,tt,(by omega),(by omega)⟩,⟨tt,(by omega)⟩,⟨tt,tt,tt⟩,tt,tt⟩ ?_
      refine blockQ_normal (thenQ_normal ?_)
      refine Lk cok tab43 hnt [] (⟨[(0,.sl (.events h)),(3,.own 7 o.length),(4,.i ((i : Nat) : Int)),(5,.i (bitsI .or .i64 x (o.getD k 0))),(6,.i (((k + 1) : Nat) : Int)),(19,.i ((k : Nat) : Int)),(20,.i (((k + 1) : Nat) : Int)),(60,.b ((decide (((h.getD k default).proc) = ((h.getD i default).proc))) || (((decide (((h.getD k default).kind) = (1 : Int))) && (decide (((h.getD i default).kind) = (2 : Int)))) && (decide (((h.getD k default).msg) = ((h.getD i default).msg)))))),(61,.i x),(62,.own 7 o.length),(63,.i ((k : Nat) : Int)),(64,.pel 7 1 k 0),(65,.i (o.getD k 0)),(66,.i (bitsI .or .i64 x (o.getD k 0)))],[(7,⟨3,.row (.ints o)⟩)],[7,999]⟩)
       (True ∧ (True ∧ True ∧ (Fits .i64 (((k + 1) : Nat) : Int))) ∧ True ∧ True)
       ⟨tt,⟨tt,tt,(by exact fits_i64 (by omega) (by omega))⟩,tt,tt⟩ ?_
      refine thenQ_normal ?_
      refine ⟨((k + 1),(bitsI .or .i64 x (o.getD k 0))),(show ((k + 1) ≤ i) ∧ ((bitsI .or .i64 x (o.getD k 0)) = pastStep h (pastL h i) i (k + 1)) from ⟨(by first | assumption | omega | rfl | (intro _ hjj; omega) | (simp; done) | (simp; omega)),(by first | (rw [hx,ho]; exact (past_yes (by rw [Bool.and_comm (decide ((h.getD i default).kind = 2))]; exact h60)).symm) | (rw [hx]; exact (past_no (by rw [Bool.and_comm (decide ((h.getD i default).kind = 2))]; exact n60)).symm))⟩),(show i - (k + 1) < i - k from (by first | omega | (simp_all; omega))),?_⟩
      exact Sub.of [] (@cast (((Sd (.events h)) ∧ (((7 : Nat) = 7) ∧ (o.length = o.length) ∧ ((7 : Nat) ∈ ([7,999] : List Nat))) ∧ (Si ((i : Nat) : Int)) ∧ (Si (bitsI .or .i64 x (o.getD k 0))) ∧ (Si (((k + 1) : Nat) : Int)) ∧ True) ∧ ((((3 : Nat) = 3) ∧ (Sd (.ints o)) ∧ ((7 : Nat) ∈ ([7,999] : List Nat))) ∧ True) ∧ (true = true) ∧ (true = true)) _ (by kernel_rfl) ⟨⟨rfl,⟨rfl,rfl,(by decide)⟩,rfl,rfl,rfl,tt⟩,⟨⟨rfl,rfl,(by decide)⟩,tt⟩,rfl,rfl⟩)
     ·intro n60
      have n60_0 : ¬ (((h.getD k default).proc) = ((h.getD i default).proc)) := of_decide_eq_false (or_l n60)
      refine W.skip (blockQ_normal (thenQ_normal ?_))
      refine Lk cok tab43 hnt [] (⟨[(0,.sl (.events h)),(3,.own 7 o.length),(4,.i ((i : Nat) : Int)),(5,.i x),(6,.i (((k + 1) : Nat) : Int)),(19,.i ((k : Nat) : Int)),(20,.i (((k + 1) : Nat) : Int)),(60,.b ((decide (((h.getD k default).proc) = ((h.getD i default).proc))) || (((decide (((h.getD k default).kind) = (1 : Int))) && (decide (((h.getD i default).kind) = (2 : Int)))) && (decide (((h.getD k default).msg) = ((h.getD i default).msg))))))],[(7,⟨3,.row (.ints o)⟩)],[7,999]⟩)
       (True ∧ (True ∧ True ∧ (Fits .i64 (((k + 1) : Nat) : Int))) ∧ True ∧ True)
       ⟨tt,⟨tt,tt,(by exact fits_i64 (by omega) (by omega))⟩,tt,tt⟩ ?_
      refine thenQ_normal ?_
      refine ⟨((k + 1),x),(show ((k + 1) ≤ i) ∧ (x = pastStep h (pastL h i) i (k + 1)) from ⟨(by first | assumption | omega | rfl | (intro _ hjj; omega) | (simp; done) | (simp; omega)),(by first | (rw [hx,ho]; exact (past_yes (by rw [Bool.and_comm (decide ((h.getD i default).kind = 2))]; exact h60)).symm) | (rw [hx]; exact (past_no (by rw [Bool.and_comm (decide ((h.getD i default).kind = 2))]; exact n60)).symm))⟩),(show i - (k + 1) < i - k from (by first | omega | (simp_all; omega))),?_⟩
      exact Sub.of [] (@cast (((Sd (.events h)) ∧ (((7 : Nat) = 7) ∧ (o.length = o.length) ∧ ((7 : Nat) ∈ ([7,999] : List Nat))) ∧ (Si ((i : Nat) : Int)) ∧ (Si x) ∧ (Si (((k + 1) : Nat) : Int)) ∧ True) ∧ ((((3 : Nat) = 3) ∧ (Sd (.ints o)) ∧ ((7 : Nat) ∈ ([7,999] : List Nat))) ∧ True) ∧ (true = true) ∧ (true = true)) _ (by kernel_rfl) ⟨⟨rfl,⟨rfl,rfl,(by decide)⟩,rfl,rfl,rfl,tt⟩,⟨⟨rfl,rfl,(by decide)⟩,tt⟩,rfl,rfl⟩)
    ·intro n18
     refine W.exit (thenQ_exit (thenQ_exit (blockQ_hit ?_)))
     refine thenQ_normal ?_
     refine Lk cok tab43 hnt [70] (⟨[(0,.sl (.events h)),(3,.own 70 (List.length (o ++ ([x])))),(4,.i ((i : Nat) : Int)),(5,.i x),(6,.i ((k : Nat) : Int)),(18,.b (decide (((k : Nat) : Int) < ((i : Nat) : Int)))),(67,.own 7 o.length),(68,.i x),(69,.sl (.ints ([x]))),(70,.own 70 (List.length (o ++ ([x]))))],[(70,⟨3,.row (.ints (o ++ ([x])))⟩)],[70,69,7,999]⟩)
      (True ∧ True ∧ (True ∧ True) ∧ ((True ∧ (o.length = o.length)) ∧ True ∧ ((o.length + (List.length ([x]))) * 8 ≤ 140737488355328)) ∧ True ∧ True)
      ⟨tt,tt,⟨tt,tt⟩,⟨⟨tt,rfl⟩,tt,(by (first | omega | (simp only [List.length_set]; done) | (simp only [List.length_append,List.length_cons,List.length_nil,List.length_take,List.length_drop,List.length_set,List.length_replicate,List.length_map] at *; omega) | assumption))⟩,tt,tt⟩ ?_
     refine blockQ_normal (thenQ_normal ?_)
     refine Lk cok tab43 hnt [] (⟨[(0,.sl (.events h)),(3,.own 70 (List.length (o ++ ([x])))),(4,.i (((i + 1) : Nat) : Int)),(5,.i x),(6,.i ((k : Nat) : Int)),(12,.i ((i : Nat) : Int)),(13,.i (((i + 1) : Nat) : Int)),(18,.b (decide (((k : Nat) : Int) < ((i : Nat) : Int)))),(67,.own 7 o.length),(68,.i x),(69,.sl (.ints ([x]))),(70,.own 70 (List.length (o ++ ([x]))))],[(70,⟨3,.row (.ints (o ++ ([x])))⟩)],[70,69,7,999]⟩)
      (True ∧ (True ∧ True ∧ (Fits .i64 (((i + 1) : Nat) : Int))) ∧ True ∧ True)
      ⟨tt,⟨tt,tt,(by exact fits_i64 (by omega) (by omega))⟩,tt,tt⟩ ?_
     refine thenQ_normal ?_
     refine ⟨((i + 1),(o ++ ([x]))),(show ((i + 1) ≤ h.length) ∧ ((o ++ ([x])) = pastL h (i + 1)) from ⟨(by first | assumption | omega | rfl | (intro _ hjj; omega) | (simp; done) | (simp; omega)),(by rw [ho,hx,show k = i by omega]; rfl)⟩),(show h.length - (i + 1) < h.length - i from (by first | omega | (simp_all; omega))),?_⟩
     exact Sub.of [(7,70)] (@cast (((Sd (.events h)) ∧ (((70 : Nat) = 70) ∧ ((List.length (o ++ ([x]))) = (List.length (o ++ ([x])))) ∧ ((7 : Nat) ∈ ([7,999] : List Nat))) ∧ (Si (((i + 1) : Nat) : Int)) ∧ True) ∧ ((((3 : Nat) = 3) ∧ (Sd (.ints (o ++ ([x])))) ∧ ((7 : Nat) ∈ ([7,999] : List Nat))) ∧ True) ∧ (true = true) ∧ (true = true)) _ (by kernel_rfl) ⟨⟨rfl,⟨rfl,rfl,(by decide)⟩,rfl,tt⟩,⟨⟨rfl,rfl,(by decide)⟩,tt⟩,rfl,rfl⟩)
  ·intro n11
   refine W.exit (thenQ_exit (thenQ_exit (blockQ_hit ?_)))
   refine thenQ_normal ?_
   refine Kk cok tab43 hnt [] [2] (⟨[(2,.own 7 o.length)],[(7,⟨3,.row (.ints o)⟩)],[7,999]⟩)
    (True ∧ True ∧ True)
    ⟨tt,tt,tt⟩ ?_
   refine W.subS [] (⟨[(2,.sl (.ints o))],[],[999]⟩) (@cast ((((o.length = o.length) ∧ (Sd (.ints o)) ∧ ((7 : Nat) ∉ ([] : List Nat))) ∧ True) ∧ True ∧ (true = true) ∧ (true = true)) _ (by kernel_rfl) ⟨⟨⟨rfl,rfl,(by decide)⟩,tt⟩,tt,rfl,rfl⟩) ?_
   refine W.ret ?_
   exact endQ_ret (.sl (.ints o)) (by kernel_rfl) (@cast ((.ints o : Dat) = .ints (pastL h h.length)) _ (by kernel_rfl) (congrArg Dat.ints (by rw [ho,show i = h.length by omega])))
theorem ent43 : Entr prog 43 := ⟨_,func43,rfl,by decide⟩
end Go.Proofs.Try

set_option linter.unusedSimpArgs false
set_option linter.unusedVariables false
namespace Go.Proofs.Try
open Go.Ab Go.RowKit
def fs39 : FnS := fnS [.s .events,.o] [.events,.int] (fun _ (h,s,_) => (.b (isCutE h s),[],(h.length ≤ 60)))
abbrev T39 : Tab := lk [(19,fs19),(27,fs27),(40,fs40),(43,fs43)]
theorem tab39 : TabOK prog T39 := (TabOK.cons ok19 ent19 (TabOK.cons ok27 ent27 (TabOK.cons ok40 ent40 (TabOK.cons ok43 ent43 TabOK.nil))))
set_option maxRecDepth 100000 in
set_option maxHeartbeats 1000000 in
theorem ok39 : FnOK prog 39 fs39 := by
 refine FnOK.mk cok func39 rfl rfl rfl ?_
 rintro fl ⟨(h : List EventD),(s : Int),_⟩ hpre F hnt0 _
 have hnt : F.nt = 39 := hnt0.trans ntmps39
 replace hpre : (h.length ≤ 60) := hpre
 have hn := hpre
 refine W.to (⟨[(0,.sl (.events h)),(1,.i s)],[],[999]⟩) rfl ?_
 have hpl := pastL_len h h.length
 have hpo := pastL_ok h h.length (by omega)
 have hpw := power_le (n := (h.length : Int)) (by omega)
 have hpp := power_pos (h.length : Int)
 refine W.lenOf 0 (.events h) (by kernel_rfl) ?_
 intro hl_h; replace hl_h : List.length h ≤ 9223372036854775807 := hl_h
 refine Kk cok tab39 hnt [] [0,1] (⟨[(0,.sl (.events h)),(1,.i s)],[],[999]⟩)
  (True ∧ True)
  ⟨tt,tt⟩ ?_
 refine Kk cok tab39 hnt [] [0,1,5] (⟨[(0,.sl (.events h)),(1,.i s),(5,.sl (.ints (pastL h h.length)))],[],[999]⟩)
  (True ∧ (True ∧ (True ∧ True) ∧ (h.length ≤ 60)) ∧ True ∧ True)
  ⟨tt,⟨tt,⟨tt,tt⟩,(by omega)⟩,tt,tt⟩ ?_
 refine W.seq ?_
 refine Kk cok tab39 hnt [] [0,1,5,15] (⟨[(0,.sl (.events h)),(1,.i s),(5,.sl (.ints (pastL h h.length))),(15,.b (!(within s (0 : Int) ((power (h.length : Int)) - (1 : Int)))))],[],[999]⟩)
  (True ∧ True ∧ True ∧ (True ∧ (True ∧ True) ∧ ((h.length : Int) ≤ 60)) ∧ (True ∧ True ∧ (Fits .i64 ((power (h.length : Int)) - (1 : Int)))) ∧ (True ∧ (True ∧ True ∧ True ∧ True) ∧ True) ∧ True ∧ True)
  ⟨tt,tt,tt,⟨tt,⟨tt,tt⟩,(by omega)⟩,⟨tt,tt,(by exact fits_i64 (by omega) (by omega))⟩,⟨tt,⟨tt,tt,tt,tt⟩,tt⟩,tt,tt⟩ ?_
 refine W.if' (!(within s (0 : Int) ((power (h.length : Int)) - (1 : Int)))) (.b (!(within s (0 : Int) ((power (h.length : Int)) - (1 : Int))))) (by kernel_rfl) rfl trivial ?_ ?_
 ·intro h15
  refine Kk cok tab39 hnt [] [4] (⟨[(4,.b false)],[],[999]⟩)
   (True ∧ True)
   ⟨tt,tt⟩ ?_
  refine W.ret (thenQ_ret ?_)
  exact endQ_ret (.b false) (by kernel_rfl) (@cast ((.bool false : Value) = .bool (isCutE h s)) _ (by kernel_rfl) (congrArg Value.bool (by unfold isCutE; symm; exact and_fl (not_f h15))))
 ·intro n15
  refine W.skip (thenQ_normal ?_)
  refine W.seq ?_
  refine Kk cok tab39 hnt [] [0,1,5,6] (⟨[(0,.sl (.events h)),(1,.i s),(5,.sl (.ints (pastL h h.length))),(6,.i (0 : Int))],[],[999]⟩)
   (True ∧ True)
   ⟨tt,tt⟩ ?_
  refine W.block ?_
  refine W.loop (ι := Nat) (fun (i : Nat) => (⟨[(0,.sl (.events h)),(1,.i s),(5,.sl (.ints (pastL h h.length))),(6,.i ((i : Nat) : Int))],[],[999]⟩ : St))
   (fun (i : Nat) => (i ≤ h.length) ∧ (∀ j,j < i → cutAt (pastL h h.length) s.toNat j = true))
   (fun (i : Nat) => (h.length - i : Nat)) (0) ?_ ?_ ?_
  ·exact (show (0 ≤ h.length) ∧ (∀ j,j < 0 → cutAt (pastL h h.length) s.toNat j = true) from ⟨(by first | assumption | omega | rfl | (intro _ hjj; omega) | (simp; done) | (simp; omega)),(by exact upto_zero)⟩)
  ·exact Sub.of [] (@cast (((Sd (.events h)) ∧ (Si s) ∧ (Sd (.ints (pastL h h.length))) ∧ ((.int .i64 (0 : Int) : Value) = .int .i64 ((0 : Nat) : Int)) ∧ True) ∧ True ∧ (true = true) ∧ (true = true)) _ (by kernel_rfl) ⟨⟨rfl,rfl,rfl,(congrArg (Value.int .i64) (by first | rfl | omega | assumption | simp | simp_all)),tt⟩,tt,rfl,rfl⟩)
  ·rintro i hC0
   have hC : (i ≤ h.length) ∧ (∀ j,j < i → cutAt (pastL h h.length) s.toNat j = true) := hC0
   clear hC0
   obtain ⟨hi,hA⟩ := hC
   refine W.to (⟨[(0,.sl (.events h)),(1,.i s),(5,.sl (.ints (pastL h h.length))),(6,.i ((i : Nat) : Int))],[],[999]⟩) rfl ?_
   have hr := inRange_iff.1 (not_g n15)
   have hpi := hpo i
   unfold okBits at hpi
   refine W.seq ?_
   refine Kk cok tab39 hnt [] [0,1,5,6,19] (⟨[(0,.sl (.events h)),(1,.i s),(5,.sl (.ints (pastL h h.length))),(6,.i ((i : Nat) : Int)),(19,.b (decide (((i : Nat) : Int) < (h.length : Int))))],[],[999]⟩)
    (True ∧ True ∧ True ∧ (True ∧ True ∧ True) ∧ True)
    ⟨tt,tt,tt,⟨tt,tt,tt⟩,tt⟩ ?_
   refine W.ifP (((i : Nat) : Int) < (h.length : Int)) (.b (decide (((i : Nat) : Int) < (h.length : Int)))) (by kernel_rfl) rfl trivial ?_ ?_
   ·intro h19
    refine W.skip (thenQ_normal ?_)
    refine W.seq ?_
    refine W.block ?_
    refine W.KA cok tab39 hnt [] [0,1,5,6,38] (⟨[(0,.sl (.events h)),(1,.i s),(5,.sl (.ints (pastL h h.length))),(6,.i ((i : Nat) : Int)),(38,.b ((decide ((bitOf s ((i : Nat) : Int)) = (1 : Int))) && (decide ((bitsI .and .i64 (List.getD (pastL h h.length) i 0) s) ≠ (List.getD (pastL h h.length) i 0)))))],[],[999]⟩)
     ((fun (Z1:Bool)=>(True ∧ (True ∧ ((True ∧ ((True ∧ (True ∧ True)) ∧ ((((i : Nat) : Int) ≤ 60) ∧ (0 ≤ s ∧ s ≤ 4611686018427387904)))) ∧ ((True ∧ (True ∧ True)) ∧ (True ∧ ((Z1 = true → True) ∧ ((Z1 = true → True) ∧ ((Z1 = true → (((Z1 = true) ∧ True) ∧ (((Z1 = true) ∧ True) ∧ ((0 ≤ ((i : Nat) : Int)) ∧ (((i : Nat) : Int) < (((List.length (pastL h h.length)) : Nat) : Int)))))) ∧ ((Z1 = true → ((Z1 = true) ∧ True)) ∧ ((Z1 = true → True) ∧ ((Z1 = true → (((Z1 = true) ∧ True) ∧ (((Z1 = true) ∧ True) ∧ True))) ∧ ((Z1 = true → True) ∧ ((Z1 = true → True) ∧ ((Z1 = true → (((Z1 = true) ∧ True) ∧ (((Z1 = true) ∧ True) ∧ ((0 ≤ ((i : Nat) : Int)) ∧ (((i : Nat) : Int) < (((List.length (pastL h h.length)) : Nat) : Int)))))) ∧ ((Z1 = true → ((Z1 = true) ∧ True)) ∧ ((Z1 = true → (((Z1 = true) ∧ True) ∧ (((Z1 = true) ∧ True) ∧ True))) ∧ ((True ∧ ((Z1 = true → (Z1 = true) ∧ True) ∧ (Z1 = false → True))) ∧ True)))))))))))))))))) (decide ((bitOf s ((i : Nat) : Int)) = (1 : Int)))) (by kernel_rfl) (by kernel_rfl)
     ⟨tt,tt,⟨tt,⟨tt,tt,tt⟩,(by omega),(by omega)⟩,⟨tt,tt,tt⟩,tt,(fun _ => trivial),(fun _ => trivial),(fun hG => ⟨⟨hG,tt⟩,⟨hG,tt⟩,(by have hg0 : (bitOf s ((i : Nat) : Int)) = (1 : Int) := of_decide_eq_true hG; omega),(by have hg0 : (bitOf s ((i : Nat) : Int)) = (1 : Int) := of_decide_eq_true hG; omega)⟩),(fun hG => ⟨hG,tt⟩),(fun _ => trivial),(fun hG => ⟨⟨hG,tt⟩,⟨hG,tt⟩,tt⟩),(fun _ => trivial),(fun _ => trivial),(fun hG => ⟨⟨hG,tt⟩,⟨hG,tt⟩,(by have hg0 : (bitOf s ((i : Nat) : Int)) = (1 : Int) := of_decide_eq_true hG; omega),(by have hg0 : (bitOf s ((i : Nat) : Int)) = (1 : Int) := of_decide_eq_true hG; omega)⟩),(fun hG => ⟨hG,tt⟩),(fun hG => ⟨⟨hG,tt⟩,⟨hG,tt⟩,tt⟩),⟨tt,(fun hp => ⟨hp,tt⟩),(fun _ => trivial)⟩,tt⟩ ?_
    refine W.if' ((decide ((bitOf s ((i : Nat) : Int)) = (1 : Int))) && (decide ((bitsI .and .i64 (List.getD (pastL h h.length) i 0) s) ≠ (List.getD (pastL h h.length) i 0)))) (.b ((decide ((bitOf s ((i : Nat) : Int)) = (1 : Int))) && (decide ((bitsI .and .i64 (List.getD (pastL h h.length) i 0) s) ≠ (List.getD (pastL h h.length) i 0))))) (by kernel_rfl) rfl trivial ?_ ?_
    ·intro h38
     have h38_0 : (bitOf s ((i : Nat) : Int)) = (1 : Int) := of_decide_eq_true (and_l h38)
     have h38_1 : (bitsI .and .i64 (List.getD (pastL h h.length) i 0) s) ≠ (List.getD (pastL h h.length) i 0) := of_decide_eq_true (and_r h38)
     refine Kk cok tab39 hnt [] [4] (⟨[(4,.b false)],[],[999]⟩)
      (True ∧ True)
      ⟨tt,tt⟩ ?_
     refine W.ret (blockQ_ret (thenQ_ret (thenQ_ret (blockQ_ret (thenQ_ret ?_)))))
     exact endQ_ret (.b false) (by kernel_rfl) (@cast ((.bool false : Value) = .bool (isCutE h s)) _ (by kernel_rfl) (congrArg Value.bool (by unfold isCutE; symm; exact and_fr (allN_false (i := i) (by omega) (cut_spec (by omega) (by omega) h38)))))
    ·intro n38
     refine W.skip (blockQ_normal (thenQ_normal ?_))
     refine Lk cok tab39 hnt [] (⟨[(0,.sl (.events h)),(1,.i s),(5,.sl (.ints (pastL h h.length))),(6,.i (((i + 1) : Nat) : Int)),(20,.i ((i : Nat) : Int)),(21,.i (((i + 1) : Nat) : Int)),(38,.b ((decide ((bitOf s ((i : Nat) : Int)) = (1 : Int))) && (decide ((bitsI .and .i64 (List.getD (pastL h h.length) i 0) s) ≠ (List.getD (pastL h h.length) i 0)))))],[],[999]⟩)
      (True ∧ (True ∧ True ∧ (Fits .i64 (((i + 1) : Nat) : Int))) ∧ True ∧ True)
      ⟨tt,⟨tt,tt,(by exact fits_i64 (by omega) (by omega))⟩,tt,tt⟩ ?_
     refine thenQ_normal ?_
     refine ⟨((i + 1)),(show ((i + 1) ≤ h.length) ∧ (∀ j,j < (i + 1) → cutAt (pastL h h.length) s.toNat j = true) from ⟨(by first | assumption | omega | rfl | (intro _ hjj; omega) | (simp; done) | (simp; omega)),(by exact upto_succ hA (cut_spec (by omega) (by omega) n38))⟩),(show h.length - (i + 1) < h.length - i from (by first | omega | (simp_all; omega))),?_⟩
     exact Sub.of [] (@cast (((Sd (.events h)) ∧ (Si s) ∧ (Sd (.ints (pastL h h.length))) ∧ (Si (((i + 1) : Nat) : Int)) ∧ True) ∧ True ∧ (true = true) ∧ (true = true)) _ (by kernel_rfl) ⟨⟨rfl,rfl,rfl,rfl,tt⟩,tt,rfl,rfl⟩)
   ·intro n19
    refine W.exit (thenQ_exit (thenQ_exit (blockQ_hit ?_)))
    refine thenQ_normal ?_
    refine Kk cok tab39 hnt [] [4] (⟨[(4,.b true)],[],[999]⟩)
     (True ∧ True)
     ⟨tt,tt⟩ ?_
    refine W.ret ?_
    exact endQ_ret (.b true) (by kernel_rfl) (@cast ((.bool true : Value) = .bool (isCutE h s)) _ (by kernel_rfl) (congrArg Value.bool (by unfold isCutE; symm; exact and_t (not_g n15) (allN_true (fun j hj => hA j (by omega))))))
theorem ent39 : Entr prog 39 := ⟨_,func39,rfl,by decide⟩
end Go.Proofs.Try
