import Derived.Test.YthigacnknicfnaaMF3S0
import Derived.Test.YthigacnknicfnaaMF3S1
set_option linter.unusedSimpArgs false
set_option linter.unusedVariables false
namespace Go.Proofs.Try
open Go.Ab Go.RowKit
def fs25 : FnS := fnS [.s .events,.o,.o] [.events,.int,.int] (fun _ (h,c,mk,_) => (.b (markedE h mk.toNat c.toNat),[],(h.length ≤ 60) ∧ (0 ≤ c ∧ c < 4611686018427387904) ∧ (0 ≤ mk ∧ mk < 4611686018427387904)))
abbrev T25 : Tab := lk []
theorem tab25 : TabOK prog T25 := TabOK.nil
set_option maxRecDepth 100000 in
set_option maxHeartbeats 1000000 in
theorem ok25 : FnOK prog 25 fs25 := by
 refine FnOK.mk cok func25 rfl rfl rfl ?_
 rintro fl ⟨(h : List EventD),(c : Int),(mk : Int),_⟩ hpre F hnt0 _
 have hnt : F.nt = 46 := hnt0.trans ntmps25
 replace hpre : (h.length ≤ 60) ∧ (0 ≤ c ∧ c < 4611686018427387904) ∧ (0 ≤ mk ∧ mk < 4611686018427387904) := hpre
 obtain ⟨hn,hc,hm⟩ := hpre
 refine W.to (⟨[(0,.sl (.events h)),(1,.i c),(2,.i mk)],[],[999]⟩) rfl ?_
 refine W.lenOf 0 (.events h) (by kernel_rfl) ?_
 intro hl_h; replace hl_h : List.length h ≤ 9223372036854775807 := hl_h
 refine Kk cok tab25 hnt [] [0,1,2] (⟨[(0,.sl (.events h)),(1,.i c),(2,.i mk)],[],[999]⟩)
  (True ∧ True)
  ⟨tt,tt⟩ ?_
 refine W.seq ?_
 refine Kk cok tab25 hnt [] [0,1,2,11] (⟨[(0,.sl (.events h)),(1,.i c),(2,.i mk),(11,.i (0 : Int))],[],[999]⟩)
  (True ∧ True)
  ⟨tt,tt⟩ ?_
 refine W.block ?_
 refine W.loop (ι := Nat) (fun (p : Nat) => (⟨[(0,.sl (.events h)),(1,.i c),(2,.i mk),(11,.i ((p : Nat) : Int))],[],[999]⟩ : St))
  (fun (p : Nat) => (p ≤ 3) ∧ (∀ j,j < p → markedAt h mk.toNat c.toNat j = true))
  (fun (p : Nat) => (3 - p : Nat)) (0) ?_ ?_ ?_
 ·exact (show (0 ≤ 3) ∧ (∀ j,j < 0 → markedAt h mk.toNat c.toNat j = true) from ⟨(by first | assumption | omega | rfl | (intro _ hjj; omega) | (simp; done) | (simp; omega)),(by exact upto_zero)⟩)
 ·exact Sub.of [] (@cast (((Sd (.events h)) ∧ (Si c) ∧ (Si mk) ∧ ((.int .i64 (0 : Int) : Value) = .int .i64 ((0 : Nat) : Int)) ∧ True) ∧ True ∧ (true = true) ∧ (true = true)) _ (by kernel_rfl) ⟨⟨rfl,rfl,rfl,(congrArg (Value.int .i64) (by first | rfl | omega | assumption | simp | simp_all)),tt⟩,tt,rfl,rfl⟩)
 ·rintro p hC0
  have hC : (p ≤ 3) ∧ (∀ j,j < p → markedAt h mk.toNat c.toNat j = true) := hC0
  clear hC0
  obtain ⟨hp,hA⟩ := hC
  refine W.to (⟨[(0,.sl (.events h)),(1,.i c),(2,.i mk),(11,.i ((p : Nat) : Int))],[],[999]⟩) rfl ?_
  refine Kk cok tab25 hnt [] [0,1,2,11,12] (⟨[(0,.sl (.events h)),(1,.i c),(2,.i mk),(11,.i ((p : Nat) : Int)),(12,.b (decide (((p : Nat) : Int) < (3 : Int))))],[],[999]⟩)
   ((True ∧ True ∧ True) ∧ True)
   ⟨⟨tt,tt,tt⟩,tt⟩ ?_
  refine W.seq ?_
  refine W.ifP (((p : Nat) : Int) < (3 : Int)) (.b (decide (((p : Nat) : Int) < (3 : Int)))) (by kernel_rfl) rfl trivial ?_ ?_
  ·intro h12
   refine W.skip (thenQ_normal ?_)
   refine W.seq ?_
   refine W.block ?_
   refine Kk cok tab25 hnt [] [0,1,2,7,11] (⟨[(0,.sl (.events h)),(1,.i c),(2,.i mk),(7,.i ((p : Nat) : Int)),(11,.i ((p : Nat) : Int))],[],[999]⟩)
    (True ∧ True ∧ True)
    ⟨tt,tt,tt⟩ ?_
   refine Kk cok tab25 hnt [] [0,1,2,7,8,11] (⟨[(0,.sl (.events h)),(1,.i c),(2,.i mk),(7,.i ((p : Nat) : Int)),(8,.i (-1 : Int)),(11,.i ((p : Nat) : Int))],[],[999]⟩)
    (True ∧ True)
    ⟨tt,tt⟩ ?_
   refine W.seq ?_
   refine Kk cok tab25 hnt [] [0,1,2,7,8,11,14,15,16] (⟨[(0,.sl (.events h)),(1,.i c),(2,.i mk),(7,.i ((p : Nat) : Int)),(8,.i (-1 : Int)),(11,.i ((p : Nat) : Int)),(14,.sl (.events h)),(15,.i (h.length : Int)),(16,.i (0 : Int))],[],[999]⟩)
    (True ∧ True ∧ True ∧ True)
    ⟨tt,tt,tt,tt⟩ ?_
   refine W.block ?_
   refine W.loop (ι := Int × Nat) (fun (x : Int × Nat) => match x with | (x,k) => (⟨[(0,.sl (.events h)),(1,.i c),(2,.i mk),(7,.i ((p : Nat) : Int)),(8,.i x),(11,.i ((p : Nat) : Int)),(14,.sl (.events h)),(15,.i (h.length : Int)),(16,.i ((k : Nat) : Int))],[],[999]⟩ : St))
    (fun (x : Int × Nat) => match x with | (x,k) => (k ≤ h.length) ∧ (x = lastE h c.toNat ((p : Nat) : Int) k))
    (fun (x : Int × Nat) => match x with | (x,k) => (h.length - k : Nat)) ((-1 : Int),0) ?_ ?_ ?_
   ·exact (show (0 ≤ h.length) ∧ ((-1 : Int) = lastE h c.toNat ((p : Nat) : Int) 0) from ⟨(by first | assumption | omega | rfl | (intro _ hjj; omega) | (simp; done) | (simp; omega)),(by rfl)⟩)
   ·exact Sub.of [] (@cast (((Sd (.events h)) ∧ (Si c) ∧ (Si mk) ∧ (Si ((p : Nat) : Int)) ∧ (Si (-1 : Int)) ∧ (Si ((p : Nat) : Int)) ∧ (Sd (.events h)) ∧ (Si (h.length : Int)) ∧ ((.int .i64 (0 : Int) : Value) = .int .i64 ((0 : Nat) : Int)) ∧ True) ∧ True ∧ (true = true) ∧ (true = true)) _ (by kernel_rfl) ⟨⟨rfl,rfl,rfl,rfl,rfl,rfl,rfl,rfl,(congrArg (Value.int .i64) (by first | rfl | omega | assumption | simp | simp_all)),tt⟩,tt,rfl,rfl⟩)
   ·rintro ⟨x,k⟩ hC0
    have hC : (k ≤ h.length) ∧ (x = lastE h c.toNat ((p : Nat) : Int) k) := hC0
    clear hC0
    obtain ⟨hk,hx⟩ := hC
    refine W.to (⟨[(0,.sl (.events h)),(1,.i c),(2,.i mk),(7,.i ((p : Nat) : Int)),(8,.i x),(11,.i ((p : Nat) : Int)),(14,.sl (.events h)),(15,.i (h.length : Int)),(16,.i ((k : Nat) : Int))],[],[999]⟩) rfl ?_
    have hbd := lastE_bnd h c.toNat ((p : Nat) : Int) k
    rw [← hx] at hbd
    refine Kk cok tab25 hnt [] [0,1,2,7,8,11,14,15,16,17] (⟨[(0,.sl (.events h)),(1,.i c),(2,.i mk),(7,.i ((p : Nat) : Int)),(8,.i x),(11,.i ((p : Nat) : Int)),(14,.sl (.events h)),(15,.i (h.length : Int)),(16,.i ((k : Nat) : Int)),(17,.b (decide (((k : Nat) : Int) < (h.length : Int))))],[],[999]⟩)
     ((True ∧ True ∧ True) ∧ True)
     ⟨⟨tt,tt,tt⟩,tt⟩ ?_
    refine W.seq ?_
    refine W.ifP (((k : Nat) : Int) < (h.length : Int)) (.b (decide (((k : Nat) : Int) < (h.length : Int)))) (by kernel_rfl) rfl trivial ?_ ?_
    ·intro h17
     refine W.skip (thenQ_normal ?_)
     refine W.seq ?_
     refine W.block ?_
     refine Kk cok tab25 hnt [] [0,1,2,7,8,9,10,11,14,15,16] (⟨[(0,.sl (.events h)),(1,.i c),(2,.i mk),(7,.i ((p : Nat) : Int)),(8,.i x),(9,.i ((k : Nat) : Int)),(10,.ptr 10 0),(11,.i ((p : Nat) : Int)),(14,.sl (.events h)),(15,.i (h.length : Int)),(16,.i ((k : Nat) : Int))],[(10,⟨47,.fix [.i ((h.getD k default).proc),.i ((h.getD k default).kind),.i ((h.getD k default).msg)]⟩)],[10,999]⟩)
      (True ∧ (True ∧ True ∧ (0 ≤ ((k : Nat) : Int)) ∧ (((k : Nat) : Int) < (h.length : Int))) ∧ True ∧ True ∧ True ∧ (True ∧ True) ∧ True)
      ⟨tt,⟨tt,tt,(by omega),(by omega)⟩,tt,tt,tt,⟨tt,tt⟩,tt⟩ ?_
     refine Kk cok tab25 hnt [] [0,1,2,7,8,9,11,14,15,16,32] (⟨[(0,.sl (.events h)),(1,.i c),(2,.i mk),(7,.i ((p : Nat) : Int)),(8,.i x),(9,.i ((k : Nat) : Int)),(11,.i ((p : Nat) : Int)),(14,.sl (.events h)),(15,.i (h.length : Int)),(16,.i ((k : Nat) : Int)),(32,.b ((decide (((h.getD k default).proc) = ((p : Nat) : Int))) && (decide ((bitsI .and .i64 (shrI .i64 c ((k : Nat) : Int)) (1 : Int)) = (1 : Int)))))],[(10,⟨47,.fix [.i ((h.getD k default).proc),.i ((h.getD k default).kind),.i ((h.getD k default).msg)]⟩)],[10,999]⟩)
      ((fun (Z1:Bool)=>(True ∧ (True ∧ (True ∧ ((True ∧ (True ∧ True)) ∧ (True ∧ ((Z1 = true → True) ∧ ((Z1 = true → True) ∧ ((Z1 = true → (((Z1 = true) ∧ True) ∧ (Fits .u64 ((k : Nat) : Int)))) ∧ ((Z1 = true → (((Z1 = true) ∧ True) ∧ (((Z1 = true) ∧ True) ∧ (0 ≤ ((k : Nat) : Int))))) ∧ ((Z1 = true → (((Z1 = true) ∧ True) ∧ (True ∧ True))) ∧ ((Z1 = true → (((Z1 = true) ∧ True) ∧ (True ∧ True))) ∧ ((True ∧ ((Z1 = true → (Z1 = true) ∧ True) ∧ (Z1 = false → True))) ∧ True))))))))))))) (decide (((h.getD k default).proc) = ((p : Nat) : Int))))
      ⟨tt,tt,tt,⟨tt,tt,tt⟩,tt,(fun _ => trivial),(fun _ => trivial),(fun hG => ⟨⟨hG,tt⟩,(by have hg0 : ((h.getD k default).proc) = ((p : Nat) : Int) := of_decide_eq_true hG; exact fits_u64 (by omega) (by omega))⟩),(fun hG => ⟨⟨hG,tt⟩,⟨hG,tt⟩,(by have hg0 : ((h.getD k default).proc) = ((p : Nat) : Int) := of_decide_eq_true hG; omega)⟩),(fun hG => ⟨⟨hG,tt⟩,tt,tt⟩),(fun hG => ⟨⟨hG,tt⟩,tt,tt⟩),⟨tt,(fun hp => ⟨hp,tt⟩),(fun _ => trivial)⟩,tt⟩ ?_
     refine W.if' ((decide (((h.getD k default).proc) = ((p : Nat) : Int))) && (decide ((bitsI .and .i64 (shrI .i64 c ((k : Nat) : Int)) (1 : Int)) = (1 : Int)))) (.b ((decide (((h.getD k default).proc) = ((p : Nat) : Int))) && (decide ((bitsI .and .i64 (shrI .i64 c ((k : Nat) : Int)) (1 : Int)) = (1 : Int))))) (by kernel_rfl) rfl trivial ?_ ?_
     ·intro h32
      have h32_0 : ((h.getD k default).proc) = ((p : Nat) : Int) := of_decide_eq_true (and_l h32)
      have h32_1 : (bitsI .and .i64 (shrI .i64 c ((k : Nat) : Int)) (1 : Int)) = (1 : Int) := of_decide_eq_true (and_r h32)
      refine Lk cok tab25 hnt [] (⟨[(0,.sl (.events h)),(1,.i c),(2,.i mk),(7,.i ((p : Nat) : Int)),(8,.i ((k : Nat) : Int)),(9,.i ((k : Nat) : Int)),(11,.i ((p : Nat) : Int)),(14,.sl (.events h)),(15,.i (h.length : Int)),(16,.i ((k : Nat) : Int)),(32,.b ((decide (((h.getD k default).proc) = ((p : Nat) : Int))) && (decide ((bitsI .and .i64 (shrI .i64 c ((k : Nat) : Int)) (1 : Int)) = (1 : Int))))),(33,.i ((k : Nat) : Int))],[(10,⟨47,.fix [.i ((h.getD k default).proc),.i ((h.getD k default).kind),.i ((h.getD k default).msg)]⟩)],[10,999]⟩)
       (True ∧ True ∧ True)
       ⟨tt,tt,tt⟩ ?_
      refine blockQ_normal (thenQ_normal ?_)
      refine Lk cok tab25 hnt [] (⟨[(0,.sl (.events h)),(1,.i c),(2,.i mk),(7,.i ((p : Nat) : Int)),(8,.i ((k : Nat) : Int)),(9,.i ((k : Nat) : Int)),(11,.i ((p : Nat) : Int)),(14,.sl (.events h)),(15,.i (h.length : Int)),(16,.i (((k + 1) : Nat) : Int)),(32,.b ((decide (((h.getD k default).proc) = ((p : Nat) : Int))) && (decide ((bitsI .and .i64 (shrI .i64 c ((k : Nat) : Int)) (1 : Int)) = (1 : Int))))),(33,.i ((k : Nat) : Int)),(34,.i (((k + 1) : Nat) : Int))],[(10,⟨47,.fix [.i ((h.getD k default).proc),.i ((h.getD k default).kind),.i ((h.getD k default).msg)]⟩)],[10,999]⟩)
       ((True ∧ True ∧ (Fits .i64 (((k + 1) : Nat) : Int))) ∧ True ∧ True)
       ⟨⟨tt,tt,(by exact fits_i64 (by omega) (by omega))⟩,tt,tt⟩ ?_
      refine thenQ_normal ?_
      refine ⟨(((k : Nat) : Int),(k + 1)),(show ((k + 1) ≤ h.length) ∧ (((k : Nat) : Int) = lastE h c.toNat ((p : Nat) : Int) (k + 1)) from ⟨(by first | assumption | omega | rfl | (intro _ hjj; omega) | (simp; done) | (simp; omega)),(by first | exact (lastI_yes hc (by omega) h32).symm | (rw [hx]; exact (lastI_no hc (by omega) n32).symm))⟩),(show h.length - (k + 1) < h.length - k from (by first | omega | (simp_all; omega))),?_⟩
      exact Sub.of [] (@cast (((Sd (.events h)) ∧ (Si c) ∧ (Si mk) ∧ (Si ((p : Nat) : Int)) ∧ (Si ((k : Nat) : Int)) ∧ (Si ((p : Nat) : Int)) ∧ (Sd (.events h)) ∧ (Si (h.length : Int)) ∧ (Si (((k + 1) : Nat) : Int)) ∧ True) ∧ True ∧ (true = true) ∧ (true = true)) _ (by kernel_rfl) ⟨⟨rfl,rfl,rfl,rfl,rfl,rfl,rfl,rfl,rfl,tt⟩,tt,rfl,rfl⟩)
     ·intro n32
      refine W.skip (blockQ_normal (thenQ_normal ?_))
      refine Lk cok tab25 hnt [] (⟨[(0,.sl (.events h)),(1,.i c),(2,.i mk),(7,.i ((p : Nat) : Int)),(8,.i x),(9,.i ((k : Nat) : Int)),(11,.i ((p : Nat) : Int)),(14,.sl (.events h)),(15,.i (h.length : Int)),(16,.i (((k + 1) : Nat) : Int)),(32,.b ((decide (((h.getD k default).proc) = ((p : Nat) : Int))) && (decide ((bitsI .and .i64 (shrI .i64 c ((k : Nat) : Int)) (1 : Int)) = (1 : Int))))),(34,.i (((k + 1) : Nat) : Int))],[(10,⟨47,.fix [.i ((h.getD k default).proc),.i ((h.getD k default).kind),.i ((h.getD k default).msg)]⟩)],[10,999]⟩)
       ((True ∧ True ∧ (Fits .i64 (((k + 1) : Nat) : Int))) ∧ True ∧ True)
       ⟨⟨tt,tt,(by exact fits_i64 (by omega) (by omega))⟩,tt,tt⟩ ?_
      refine thenQ_normal ?_
      refine ⟨(x,(k + 1)),(show ((k + 1) ≤ h.length) ∧ (x = lastE h c.toNat ((p : Nat) : Int) (k + 1)) from ⟨(by first | assumption | omega | rfl | (intro _ hjj; omega) | (simp; done) | (simp; omega)),(by first | exact (lastI_yes hc (by omega) h32).symm | (rw [hx]; exact (lastI_no hc (by omega) n32).symm))⟩),(show h.length - (k + 1) < h.length - k from (by first | omega | (simp_all; omega))),?_⟩
      exact Sub.of [] (@cast (((Sd (.events h)) ∧ (Si c) ∧ (Si mk) ∧ (Si ((p : Nat) : Int)) ∧ (Si x) ∧ (Si ((p : Nat) : Int)) ∧ (Sd (.events h)) ∧ (Si (h.length : Int)) ∧ (Si (((k + 1) : Nat) : Int)) ∧ True) ∧ True ∧ (true = true) ∧ (true = true)) _ (by kernel_rfl) ⟨⟨rfl,rfl,rfl,rfl,rfl,rfl,rfl,rfl,rfl,tt⟩,tt,rfl,rfl⟩)
    ·intro n17
     refine W.exit (thenQ_exit (thenQ_exit (blockQ_hit ?_)))
     refine thenQ_normal ?_
     refine Kk cok tab25 hnt [] [0,1,2,11,44] (⟨[(0,.sl (.events h)),(1,.i c),(2,.i mk),(11,.i ((p : Nat) : Int)),(44,.b ((decide (x < (0 : Int))) || (decide ((bitsI .and .i64 (shrI .i64 mk x) (1 : Int)) = (0 : Int)))))],[],[999]⟩)
      ((fun (Z1:Bool)=>(True ∧ ((True ∧ (True ∧ True)) ∧ (True ∧ (((!Z1) = true → True) ∧ (((!Z1) = true → True) ∧ (((!Z1) = true → ((((!Z1) = true) ∧ True) ∧ (Fits .u64 x))) ∧ (((!Z1) = true → ((((!Z1) = true) ∧ True) ∧ ((((!Z1) = true) ∧ True) ∧ (0 ≤ x)))) ∧ (((!Z1) = true → ((((!Z1) = true) ∧ True) ∧ (True ∧ True))) ∧ (((!Z1) = true → ((((!Z1) = true) ∧ True) ∧ (True ∧ True))) ∧ ((True ∧ ((Z1 = true → True) ∧ (Z1 = false → ((!Z1) = true) ∧ True))) ∧ True))))))))))) (decide (x < (0 : Int))))
      ⟨tt,⟨tt,tt,tt⟩,tt,(fun _ => trivial),(fun _ => trivial),(fun hG => ⟨⟨hG,tt⟩,(by have hg0 : ¬ (x < (0 : Int)) := of_decide_eq_false (not_f hG); exact fits_u64 (by omega) (by omega))⟩),(fun hG => ⟨⟨hG,tt⟩,⟨hG,tt⟩,(by have hg0 : ¬ (x < (0 : Int)) := of_decide_eq_false (not_f hG); omega)⟩),(fun hG => ⟨⟨hG,tt⟩,tt,tt⟩),(fun hG => ⟨⟨hG,tt⟩,tt,tt⟩),⟨tt,(fun _ => trivial),(fun hp => ⟨(not_t hp),tt⟩)⟩,tt⟩ ?_
     refine W.if' ((decide (x < (0 : Int))) || (decide ((bitsI .and .i64 (shrI .i64 mk x) (1 : Int)) = (0 : Int)))) (.b ((decide (x < (0 : Int))) || (decide ((bitsI .and .i64 (shrI .i64 mk x) (1 : Int)) = (0 : Int))))) (by kernel_rfl) rfl trivial ?_ ?_
     ·intro h44
      refine Kk cok tab25 hnt [] [6] (⟨[(6,.b false)],[],[999]⟩)
       (True ∧ True)
       ⟨tt,tt⟩ ?_
      refine W.ret (blockQ_ret (thenQ_ret (thenQ_ret (blockQ_ret (thenQ_ret ?_)))))
      exact endQ_ret (.b false) (by kernel_rfl) (@cast ((.bool false : Value) = .bool (markedE h mk.toNat c.toNat)) _ (by kernel_rfl) (congrArg Value.bool (by rw [show k = h.length by omega] at hx; exact (allN_false (i := p) (by omega) (markI hm hn hx h44)).symm)))
     ·intro n44
      have n44_0 : ¬ (x < (0 : Int)) := of_decide_eq_false (or_l n44)
      have n44_1 : ¬ ((bitsI .and .i64 (shrI .i64 mk x) (1 : Int)) = (0 : Int)) := of_decide_eq_false (or_r n44)
      refine W.skip (blockQ_normal (thenQ_normal ?_))
      refine Lk cok tab25 hnt [] (⟨[(0,.sl (.events h)),(1,.i c),(2,.i mk),(11,.i (((p + 1) : Nat) : Int)),(44,.b ((decide (x < (0 : Int))) || (decide ((bitsI .and .i64 (shrI .i64 mk x) (1 : Int)) = (0 : Int))))),(45,.i (((p + 1) : Nat) : Int))],[],[999]⟩)
       ((True ∧ True ∧ (Fits .i64 (((p + 1) : Nat) : Int))) ∧ True ∧ True)
       ⟨⟨tt,tt,(by exact fits_i64 (by omega) (by omega))⟩,tt,tt⟩ ?_
      refine thenQ_normal ?_
      refine ⟨((p + 1)),(show ((p + 1) ≤ 3) ∧ (∀ j,j < (p + 1) → markedAt h mk.toNat c.toNat j = true) from ⟨(by first | assumption | omega | rfl | (intro _ hjj; omega) | (simp; done) | (simp; omega)),(by rw [show k = h.length by omega] at hx; exact upto_succ hA (markI hm hn hx n44))⟩),(show 3 - (p + 1) < 3 - p from (by first | omega | (simp_all; omega))),?_⟩
      exact Sub.of [] (@cast (((Sd (.events h)) ∧ (Si c) ∧ (Si mk) ∧ (Si (((p + 1) : Nat) : Int)) ∧ True) ∧ True ∧ (true = true) ∧ (true = true)) _ (by kernel_rfl) ⟨⟨rfl,rfl,rfl,rfl,tt⟩,tt,rfl,rfl⟩)
  ·intro n12
   refine W.exit (thenQ_exit (thenQ_exit (blockQ_hit ?_)))
   refine thenQ_normal ?_
   refine Kk cok tab25 hnt [] [6] (⟨[(6,.b true)],[],[999]⟩)
    (True ∧ True)
    ⟨tt,tt⟩ ?_
   refine W.ret ?_
   exact endQ_ret (.b true) (by kernel_rfl) (@cast ((.bool true : Value) = .bool (markedE h mk.toNat c.toNat)) _ (by kernel_rfl) (congrArg Value.bool (by exact (allN_true (fun j hj => hA j (by omega))).symm)))
theorem ent25 : Entr prog 25 := ⟨_,func25,rfl,by decide⟩
end Go.Proofs.Try

set_option linter.unusedSimpArgs false
set_option linter.unusedVariables false
namespace Go.Proofs.Try
open Go.Ab Go.RowKit
def fs24 : FnS := fnS [.o,.o,.o] [.int,(.ep .events),(.ep .int)] (fun _ (c,h,mk,_) => (.b (!markedE h mk.toNat c.toNat),[],(h.length ≤ 60) ∧ (0 ≤ c ∧ c < 4611686018427387904) ∧ (0 ≤ mk ∧ mk < 4611686018427387904)))
abbrev T24 : Tab := lk [(25,fs25)]
theorem tab24 : TabOK prog T24 := (TabOK.cons ok25 ent25 TabOK.nil)
set_option maxRecDepth 100000 in
set_option maxHeartbeats 1000000 in
theorem ok24 : FnOK prog 24 fs24 := by
 refine FnOK.mk cok func24 rfl rfl rfl ?_
 rintro fl ⟨(c : Int),(h : List EventD),(mk : Int),_⟩ hpre F hnt0 _
 have hnt : F.nt = 10 := hnt0.trans ntmps24
 replace hpre : (h.length ≤ 60) ∧ (0 ≤ c ∧ c < 4611686018427387904) ∧ (0 ≤ mk ∧ mk < 4611686018427387904) := hpre
 obtain ⟨hn,hc,hm⟩ := hpre
 refine W.to (⟨[(0,.i c),(1,.ep [.sl (.events h)]),(2,.ep [.i mk])],[],[999]⟩) rfl ?_
 refine Kk cok tab24 hnt [] [0,1,2] (⟨[(0,.i c),(1,.ep [.sl (.events h)]),(2,.ep [.i mk])],[],[999]⟩)
  (True ∧ True)
  ⟨tt,tt⟩ ?_
 refine Kk cok tab24 hnt [] [4] (⟨[(4,.b (!(markedE h mk.toNat c.toNat)))],[],[999]⟩)
  (True ∧ True ∧ True ∧ (True ∧ (True ∧ True ∧ True ∧ True) ∧ (h.length ≤ 60) ∧ (0 ≤ c ∧ c < 4611686018427387904) ∧ 0 ≤ mk ∧ mk < 4611686018427387904) ∧ True ∧ True ∧ True)
  ⟨tt,tt,tt,⟨tt,⟨tt,tt,tt,tt⟩,(by omega),(by omega),(by omega)⟩,tt,tt,tt⟩ ?_
 refine W.ret ?_
 exact endQ_ret (.b (!(markedE h mk.toNat c.toNat))) (by kernel_rfl) (@cast ((.bool (!(markedE h mk.toNat c.toNat)) : Value) = .bool (!markedE h mk.toNat c.toNat)) _ (by kernel_rfl) (congrArg Value.bool (by first | rfl | simp_all)))
theorem ent24 : Entr prog 24 := ⟨_,func24,rfl,by decide⟩
end Go.Proofs.Try

set_option linter.unusedSimpArgs false
set_option linter.unusedVariables false
namespace Go.Proofs.Try
open Go.Ab Go.RowKit
def fs38mk : FnS := fnS [.s .ints,.o] [.ints,(.fn2 24 (.ep .events) (.ep .int))] (fun _ (l,(h,mk),_) => (.i (firstI l.length (fun jj => !markedE h mk.toNat (l.getD jj 0).toNat)),[],(l.length ≤ 1000) ∧ (h.length ≤ 60) ∧ (0 ≤ mk ∧ mk < 4611686018427387904) ∧ (∀ j,j < l.length → 0 ≤ l.getD j 0 ∧ l.getD j 0 < 4611686018427387904)))
abbrev T38mk : Tab := lk [(24,fs24)]
theorem tab38mk : TabOK prog T38mk := (TabOK.cons ok24 ent24 TabOK.nil)
set_option maxRecDepth 100000 in
set_option maxHeartbeats 1000000 in
theorem ok38mk : FnOK prog 38 fs38mk := by
 refine FnOK.mk cok func38 rfl rfl rfl ?_
 rintro fl ⟨(l : List Int),⟨(h : List EventD),(mk : Int)⟩,_⟩ hpre F hnt0 _
 have hnt : F.nt = 19 := hnt0.trans ntmps38
 replace hpre : (l.length ≤ 1000) ∧ (h.length ≤ 60) ∧ (0 ≤ mk ∧ mk < 4611686018427387904) ∧ (∀ j,j < l.length → 0 ≤ l.getD j 0 ∧ l.getD j 0 < 4611686018427387904) := hpre
 obtain ⟨hll,hn,hm,hL⟩ := hpre
 refine W.to (⟨[(0,.sl (.ints l)),(1,.fn 24 [.ep [.sl (.events h)],.ep [.i mk]])],[],[999]⟩) rfl ?_
 refine W.lenOf 0 (.ints l) (by kernel_rfl) ?_
 intro hl_l; replace hl_l : List.length l ≤ 9223372036854775807 := hl_l
 refine Kk cok tab38mk hnt [] [0,1] (⟨[(0,.sl (.ints l)),(1,.fn 24 [.ep [.sl (.events h)],.ep [.i mk]])],[],[999]⟩)
  (True ∧ True)
  ⟨tt,tt⟩ ?_
 refine W.seq ?_
 refine Kk cok tab38mk hnt [] [0,1,7,8] (⟨[(0,.sl (.ints l)),(1,.fn 24 [.ep [.sl (.events h)],.ep [.i mk]]),(7,.i (l.length : Int)),(8,.i (0 : Int))],[],[999]⟩)
  (True ∧ True ∧ True ∧ True)
  ⟨tt,tt,tt,tt⟩ ?_
 refine W.block ?_
 refine W.loop (ι := Nat) (fun (i : Nat) => (⟨[(0,.sl (.ints l)),(1,.fn 24 [.ep [.sl (.events h)],.ep [.i mk]]),(7,.i (l.length : Int)),(8,.i ((i : Nat) : Int))],[],[999]⟩ : St))
  (fun (i : Nat) => (i ≤ l.length) ∧ (∀ jj,jj < i → (!markedE h mk.toNat (l.getD jj 0).toNat) = false))
  (fun (i : Nat) => (l.length - i : Nat)) (0) ?_ ?_ ?_
 ·exact (show (0 ≤ l.length) ∧ (∀ jj,jj < 0 → (!markedE h mk.toNat (l.getD jj 0).toNat) = false) from ⟨(by first | assumption | omega | rfl | (intro _ hjj; omega) | (simp; done) | (simp; omega)),(by exact upto_zero)⟩)
 ·exact Sub.of [] (@cast (((Sd (.ints l)) ∧ (((24 : Nat) = 24) ∧ (((.ep [.sl (.events h)] : AV) = .ep [.sl (.events h)]) ∧ (([] : List Nat) = [])) ∧ (((.ep [.i mk] : AV) = .ep [.i mk]) ∧ (([] : List Nat) = [])) ∧ True) ∧ (Si (l.length : Int)) ∧ ((.int .i64 (0 : Int) : Value) = .int .i64 ((0 : Nat) : Int)) ∧ True) ∧ True ∧ (true = true) ∧ (true = true)) _ (by kernel_rfl) ⟨⟨rfl,⟨rfl,⟨rfl,rfl⟩,⟨rfl,rfl⟩,tt⟩,rfl,(congrArg (Value.int .i64) (by first | rfl | omega | assumption | simp | simp_all)),tt⟩,tt,rfl,rfl⟩)
 ·rintro i hC0
  have hC : (i ≤ l.length) ∧ (∀ jj,jj < i → (!markedE h mk.toNat (l.getD jj 0).toNat) = false) := hC0
  clear hC0
  obtain ⟨hi,hA⟩ := hC
  refine W.to (⟨[(0,.sl (.ints l)),(1,.fn 24 [.ep [.sl (.events h)],.ep [.i mk]]),(7,.i (l.length : Int)),(8,.i ((i : Nat) : Int))],[],[999]⟩) rfl ?_
  have hLi := fun hh => hL i hh
  refine Kk cok tab38mk hnt [] [0,1,7,8,9] (⟨[(0,.sl (.ints l)),(1,.fn 24 [.ep [.sl (.events h)],.ep [.i mk]]),(7,.i (l.length : Int)),(8,.i ((i : Nat) : Int)),(9,.b (decide (((i : Nat) : Int) < (l.length : Int))))],[],[999]⟩)
   ((True ∧ True ∧ True) ∧ True)
   ⟨⟨tt,tt,tt⟩,tt⟩ ?_
  refine W.seq ?_
  refine W.ifP (((i : Nat) : Int) < (l.length : Int)) (.b (decide (((i : Nat) : Int) < (l.length : Int)))) (by kernel_rfl) rfl trivial ?_ ?_
  ·intro h9
   refine W.skip (thenQ_normal ?_)
   refine W.seq ?_
   refine W.block ?_
   refine Kk cok tab38mk hnt [] [0,1,5,7,8] (⟨[(0,.sl (.ints l)),(1,.fn 24 [.ep [.sl (.events h)],.ep [.i mk]]),(5,.i ((i : Nat) : Int)),(7,.i (l.length : Int)),(8,.i ((i : Nat) : Int))],[],[999]⟩)
    (True ∧ True ∧ True)
    ⟨tt,tt,tt⟩ ?_
   refine Kk cok tab38mk hnt [] [0,1,5,7,8,16] (⟨[(0,.sl (.ints l)),(1,.fn 24 [.ep [.sl (.events h)],.ep [.i mk]]),(5,.i ((i : Nat) : Int)),(7,.i (l.length : Int)),(8,.i ((i : Nat) : Int)),(16,.b (!markedE h mk.toNat (l.getD i 0).toNat))],[],[999]⟩)
    (True ∧ True ∧ True ∧ (True ∧ True ∧ (0 ≤ ((i : Nat) : Int)) ∧ (((i : Nat) : Int) < (l.length : Int))) ∧ True ∧ (True ∧ (True ∧ True ∧ True ∧ True) ∧ (h.length ≤ 60) ∧ (0 ≤ (l.getD i 0) ∧ (l.getD i 0) < 4611686018427387904) ∧ 0 ≤ mk ∧ mk < 4611686018427387904) ∧ True)
    ⟨tt,tt,tt,⟨tt,tt,(by omega),(by omega)⟩,tt,⟨tt,⟨tt,tt,tt,tt⟩,(by omega),(by have h9 := hLi (by omega); omega),(by omega)⟩,tt⟩ ?_
   refine W.if' (!markedE h mk.toNat (l.getD i 0).toNat) (.b (!markedE h mk.toNat (l.getD i 0).toNat)) (by kernel_rfl) rfl trivial ?_ ?_
   ·intro h16
    refine Kk cok tab38mk hnt [] [4] (⟨[(4,.i ((i : Nat) : Int))],[],[999]⟩)
     (True ∧ True ∧ True)
     ⟨tt,tt,tt⟩ ?_
    refine W.ret (blockQ_ret (thenQ_ret (thenQ_ret (blockQ_ret (thenQ_ret ?_)))))
    exact endQ_ret (.i ((i : Nat) : Int)) (by kernel_rfl) (@cast ((.int .i64 ((i : Nat) : Int) : Value) = .int .i64 (firstI l.length (fun jj => !markedE h mk.toNat (l.getD jj 0).toNat))) _ (by kernel_rfl) (congrArg (Value.int .i64) (by exact (firstI_yes (by omega) h16 hA).symm)))
   ·intro n16
    refine W.skip (blockQ_normal (thenQ_normal ?_))
    refine Lk cok tab38mk hnt [] (⟨[(0,.sl (.ints l)),(1,.fn 24 [.ep [.sl (.events h)],.ep [.i mk]]),(5,.i ((i : Nat) : Int)),(7,.i (l.length : Int)),(8,.i (((i + 1) : Nat) : Int)),(16,.b (!markedE h mk.toNat (l.getD i 0).toNat)),(18,.i (((i + 1) : Nat) : Int))],[],[999]⟩)
     ((True ∧ True ∧ (Fits .i64 (((i + 1) : Nat) : Int))) ∧ True ∧ True)
     ⟨⟨tt,tt,(by exact fits_i64 (by omega) (by omega))⟩,tt,tt⟩ ?_
    refine thenQ_normal ?_
    refine ⟨((i + 1)),(show ((i + 1) ≤ l.length) ∧ (∀ jj,jj < (i + 1) → (!markedE h mk.toNat (l.getD jj 0).toNat) = false) from ⟨(by first | assumption | omega | rfl | (intro _ hjj; omega) | (simp; done) | (simp; omega)),(by exact upto_succ hA n16)⟩),(show l.length - (i + 1) < l.length - i from (by first | omega | (simp_all; omega))),?_⟩
    exact Sub.of [] (@cast (((Sd (.ints l)) ∧ (((24 : Nat) = 24) ∧ (((.ep [.sl (.events h)] : AV) = .ep [.sl (.events h)]) ∧ (([] : List Nat) = [])) ∧ (((.ep [.i mk] : AV) = .ep [.i mk]) ∧ (([] : List Nat) = [])) ∧ True) ∧ (Si (l.length : Int)) ∧ (Si (((i + 1) : Nat) : Int)) ∧ True) ∧ True ∧ (true = true) ∧ (true = true)) _ (by kernel_rfl) ⟨⟨rfl,⟨rfl,⟨rfl,rfl⟩,⟨rfl,rfl⟩,tt⟩,rfl,rfl,tt⟩,tt,rfl,rfl⟩)
  ·intro n9
   refine W.exit (thenQ_exit (thenQ_exit (blockQ_hit ?_)))
   refine thenQ_normal ?_
   refine Kk cok tab38mk hnt [] [4] (⟨[(4,.i (-1 : Int))],[],[999]⟩)
    (True ∧ True)
    ⟨tt,tt⟩ ?_
   refine W.ret ?_
   exact endQ_ret (.i (-1 : Int)) (by kernel_rfl) (@cast ((.int .i64 (-1 : Int) : Value) = .int .i64 (firstI l.length (fun jj => !markedE h mk.toNat (l.getD jj 0).toNat))) _ (by kernel_rfl) (congrArg (Value.int .i64) (by exact (firstI_no (fun j hj => hA j (by omega))).symm)))
theorem ent38mk : Entr prog 38 := ⟨_,func38,rfl,by decide⟩
end Go.Proofs.Try

set_option linter.unusedSimpArgs false
set_option linter.unusedVariables false
namespace Go.Proofs.Try
open Go.Ab Go.RowKit
def fs23 : FnS := fnS [.c .ints 3,.o] [.ints,(.fn2 24 (.ep .events) (.ep .int))] (fun _ (l,(h,mk),_) => (.own 0 (List.length (l.filter (fun c => markedE h mk.toNat c.toNat))),[(3,.ints (l.filter (fun c => markedE h mk.toNat c.toNat)))],(l.length ≤ 1000) ∧ (h.length ≤ 60) ∧ (0 ≤ mk ∧ mk < 4611686018427387904) ∧ (∀ j,j < l.length → 0 ≤ l.getD j 0 ∧ l.getD j 0 < 4611686018427387904)))
abbrev T23 : Tab := lk [(24,fs24),(38,fs38mk)]
theorem tab23 : TabOK prog T23 := (TabOK.cons ok24 ent24 (TabOK.cons ok38mk ent38mk TabOK.nil))
set_option maxRecDepth 100000 in
set_option maxHeartbeats 1000000 in
theorem ok23 : FnOK prog 23 fs23 := by
 refine FnOK.mk cok func23 rfl rfl rfl ?_
 rintro fl ⟨(l : List Int),⟨(h : List EventD),(mk : Int)⟩,_⟩ hpre F hnt0 _
 have hnt : F.nt = 42 := hnt0.trans ntmps23
 replace hpre : (l.length ≤ 1000) ∧ (h.length ≤ 60) ∧ (0 ≤ mk ∧ mk < 4611686018427387904) ∧ (∀ j,j < l.length → 0 ≤ l.getD j 0 ∧ l.getD j 0 < 4611686018427387904) := hpre
 obtain ⟨hll,hn,hm,hL⟩ := hpre
 refine W.to (⟨[(0,.own 999 l.length),(1,.fn 24 [.ep [.sl (.events h)],.ep [.i mk]])],[(999,⟨3,.row (.ints l)⟩)],[999]⟩) rfl ?_
 have hfs := firstI_spec (n := l.length) (p := fun jj => !markedE h mk.toNat (l.getD jj 0).toNat)
 have hfb : -1 ≤ firstI l.length (fun jj => !markedE h mk.toNat (l.getD jj 0).toNat) ∧ firstI l.length (fun jj => !markedE h mk.toNat (l.getD jj 0).toNat) < l.length := by rcases hfs with ⟨e,_⟩ | ⟨q,hq,e,_⟩ <;> rw [e] <;> omega
 refine Kk cok tab23 hnt [] [0,1] (⟨[(0,.own 999 l.length),(1,.fn 24 [.ep [.sl (.events h)],.ep [.i mk]])],[(999,⟨3,.row (.ints l)⟩)],[999]⟩)
  (True ∧ True)
  ⟨tt,tt⟩ ?_
 refine Kk cok tab23 hnt [] [0,1,5] (⟨[(0,.own 999 l.length),(1,.fn 24 [.ep [.sl (.events h)],.ep [.i mk]]),(5,.i (firstI l.length (fun jj => !markedE h mk.toNat (l.getD jj 0).toNat)))],[(999,⟨3,.row (.ints l)⟩)],[999]⟩)
  (True ∧ True ∧ (True ∧ ((True ∧ (l.length = l.length)) ∧ True ∧ True) ∧ (l.length ≤ 1000) ∧ (h.length ≤ 60) ∧ (0 ≤ mk ∧ mk < 4611686018427387904) ∧ (∀ j,j < l.length → 0 ≤ l.getD j 0 ∧ l.getD j 0 < 4611686018427387904)) ∧ True ∧ True)
  ⟨tt,tt,⟨tt,⟨⟨tt,rfl⟩,tt,tt⟩,(by omega),(by omega),(by omega),(by exact hL)⟩,tt,tt⟩ ?_
 refine W.seq ?_
 refine Kk cok tab23 hnt [] [0,1,5,12] (⟨[(0,.own 999 l.length),(1,.fn 24 [.ep [.sl (.events h)],.ep [.i mk]]),(5,.i (firstI l.length (fun jj => !markedE h mk.toNat (l.getD jj 0).toNat))),(12,.b (decide ((firstI l.length (fun jj => !markedE h mk.toNat (l.getD jj 0).toNat)) = (-1 : Int))))],[(999,⟨3,.row (.ints l)⟩)],[999]⟩)
  (True ∧ (True ∧ True ∧ True) ∧ True)
  ⟨tt,⟨tt,tt,tt⟩,tt⟩ ?_
 refine W.ifP ((firstI l.length (fun jj => !markedE h mk.toNat (l.getD jj 0).toNat)) = (-1 : Int)) (.b (decide ((firstI l.length (fun jj => !markedE h mk.toNat (l.getD jj 0).toNat)) = (-1 : Int)))) (by kernel_rfl) rfl trivial ?_ ?_
 ·intro h12
  refine Kk cok tab23 hnt [] [4] (⟨[(4,.own 999 l.length)],[(999,⟨3,.row (.ints l)⟩)],[999]⟩)
   (True ∧ True ∧ True)
   ⟨tt,tt,tt⟩ ?_
  refine W.ret (thenQ_ret ?_)
  exact endQ_rows [(0,999)] (.own 999 l.length) (by kernel_rfl) (@cast (((999 : Nat) = 999) ∧ (l.length = (List.length (l.filter (fun c => markedE h mk.toNat c.toNat)))) ∧ ((0 : Nat) ∈ ([0] : List Nat))) _ (by kernel_rfl) ⟨rfl,(by first | rfl | omega | assumption | (symm; assumption) | (exact congrArg List.length (by exact DelI.none (fun j hj => del_none hfs h12 j hj))) | (exact DelI.none (fun j hj => del_none hfs h12 j hj); done) | simp | simp_all),(by decide)⟩) (@cast ((((3 : Nat) = 3) ∧ ((.ints l : Dat) = .ints (l.filter (fun c => markedE h mk.toNat c.toNat))) ∧ ((0 : Nat) ∈ ([0] : List Nat))) ∧ True) _ (by kernel_rfl) ⟨⟨rfl,(congrArg Dat.ints (by exact DelI.none (fun j hj => del_none hfs h12 j hj))),(by decide)⟩,tt⟩) (by kernel_rfl)
 ·intro n12
  refine W.skip (thenQ_normal ?_)
  refine W.seq ?_
  refine Kk cok tab23 hnt [] [0,1,5,6] (⟨[(0,.own 999 l.length),(1,.fn 24 [.ep [.sl (.events h)],.ep [.i mk]]),(5,.i (firstI l.length (fun jj => !markedE h mk.toNat (l.getD jj 0).toNat))),(6,.i ((firstI l.length (fun jj => !markedE h mk.toNat (l.getD jj 0).toNat)) + (1 : Int)))],[(999,⟨3,.row (.ints l)⟩)],[999]⟩)
   (True ∧ (True ∧ True ∧ (Fits .i64 ((firstI l.length (fun jj => !markedE h mk.toNat (l.getD jj 0).toNat)) + (1 : Int)))) ∧ True ∧ True)
   ⟨tt,⟨tt,tt,(by exact fits_i64 (by omega) (by omega))⟩,tt,tt⟩ ?_
  refine W.block ?_
  refine W.loop (ι := Int × Int × (List Int)) (fun (x : Int × Int × (List Int)) => match x with | (i,j,xs) => (⟨[(0,.own 999 l.length),(1,.fn 24 [.ep [.sl (.events h)],.ep [.i mk]]),(5,.i i),(6,.i j)],[(999,⟨3,.row (.ints xs)⟩)],[999]⟩ : St))
   (fun (x : Int × Int × (List Int)) => match x with | (i,j,xs) => (0 ≤ i ∧ 0 ≤ j ∧ j ≤ (l.length : Int)) ∧ (DelI (fun c => markedE h mk.toNat c.toNat) l xs i.toNat j.toNat))
   (fun (x : Int × Int × (List Int)) => match x with | (i,j,xs) => (l.length - j.toNat : Nat)) ((firstI l.length (fun jj => !markedE h mk.toNat (l.getD jj 0).toNat)),((firstI l.length (fun jj => !markedE h mk.toNat (l.getD jj 0).toNat)) + (1 : Int)),l) ?_ ?_ ?_
  ·exact (show (0 ≤ (firstI l.length (fun jj => !markedE h mk.toNat (l.getD jj 0).toNat)) ∧ 0 ≤ ((firstI l.length (fun jj => !markedE h mk.toNat (l.getD jj 0).toNat)) + (1 : Int)) ∧ ((firstI l.length (fun jj => !markedE h mk.toNat (l.getD jj 0).toNat)) + (1 : Int)) ≤ (l.length : Int)) ∧ (DelI (fun c => markedE h mk.toNat c.toNat) l l (firstI l.length (fun jj => !markedE h mk.toNat (l.getD jj 0).toNat)).toNat ((firstI l.length (fun jj => !markedE h mk.toNat (l.getD jj 0).toNat)) + (1 : Int)).toNat) from ⟨(by first | assumption | omega | rfl | (intro _ hjj; omega) | (simp; done) | (simp; omega)),(by exact del_start hfs n12)⟩)
  ·exact Sub.of [] (@cast (((((999 : Nat) = 999) ∧ (l.length = l.length) ∧ ((999 : Nat) ∈ ([999] : List Nat))) ∧ (((24 : Nat) = 24) ∧ (((.ep [.sl (.events h)] : AV) = .ep [.sl (.events h)]) ∧ (([] : List Nat) = [])) ∧ (((.ep [.i mk] : AV) = .ep [.i mk]) ∧ (([] : List Nat) = [])) ∧ True) ∧ (Si (firstI l.length (fun jj => !markedE h mk.toNat (l.getD jj 0).toNat))) ∧ (Si ((firstI l.length (fun jj => !markedE h mk.toNat (l.getD jj 0).toNat)) + (1 : Int))) ∧ True) ∧ ((((3 : Nat) = 3) ∧ (Sd (.ints l)) ∧ ((999 : Nat) ∈ ([999] : List Nat))) ∧ True) ∧ (true = true) ∧ (true = true)) _ (by kernel_rfl) ⟨⟨⟨rfl,rfl,(by decide)⟩,⟨rfl,⟨rfl,rfl⟩,⟨rfl,rfl⟩,tt⟩,rfl,rfl,tt⟩,⟨⟨rfl,rfl,(by decide)⟩,tt⟩,rfl,rfl⟩)
  ·rintro ⟨i,j,xs⟩ hC0
   have hC : (0 ≤ i ∧ 0 ≤ j ∧ j ≤ (l.length : Int)) ∧ (DelI (fun c => markedE h mk.toNat c.toNat) l xs i.toNat j.toNat) := hC0
   clear hC0
   obtain ⟨hj0,hD⟩ := hC
   refine W.to (⟨[(0,.own 999 l.length),(1,.fn 24 [.ep [.sl (.events h)],.ep [.i mk]]),(5,.i i),(6,.i j)],[(999,⟨3,.row (.ints xs)⟩)],[999]⟩) rfl ?_
   have hlt := hD.lt
   have hxl := hD.len
   have hLj := fun hh => hL j.toNat hh
   have hhj := hD.high j.toNat (Nat.le_refl _)
   refine W.seq ?_
   refine Kk cok tab23 hnt [] [0,1,5,6,19] (⟨[(0,.own 999 l.length),(1,.fn 24 [.ep [.sl (.events h)],.ep [.i mk]]),(5,.i i),(6,.i j),(19,.b (decide (j < (l.length : Int))))],[(999,⟨3,.row (.ints xs)⟩)],[999]⟩)
    (True ∧ True ∧ True ∧ (True ∧ True ∧ True) ∧ True)
    ⟨tt,tt,tt,⟨tt,tt,tt⟩,tt⟩ ?_
   refine W.ifP (j < (l.length : Int)) (.b (decide (j < (l.length : Int)))) (by kernel_rfl) rfl trivial ?_ ?_
   ·intro h19
    refine W.skip (thenQ_normal ?_)
    refine W.seq ?_
    refine W.block ?_
    refine Kk cok tab23 hnt [] [0,1,5,6,7] (⟨[(0,.own 999 l.length),(1,.fn 24 [.ep [.sl (.events h)],.ep [.i mk]]),(5,.i i),(6,.i j),(7,.i (xs.getD (Int.toNat j) 0))],[(999,⟨3,.row (.ints xs)⟩)],[999]⟩)
     (True ∧ True ∧ (True ∧ True ∧ (0 ≤ j) ∧ (j < (l.length : Int))) ∧ (True ∧ ((Int.toNat j) < xs.length)) ∧ True ∧ True)
     ⟨tt,tt,⟨tt,tt,(by omega),(by omega)⟩,⟨tt,(by omega)⟩,tt,tt⟩ ?_
    refine Kk cok tab23 hnt [] [0,1,5,6,7,29] (⟨[(0,.own 999 l.length),(1,.fn 24 [.ep [.sl (.events h)],.ep [.i mk]]),(5,.i i),(6,.i j),(7,.i (xs.getD (Int.toNat j) 0)),(29,.b (!(!markedE h mk.toNat (xs.getD (Int.toNat j) 0).toNat)))],[(999,⟨3,.row (.ints xs)⟩)],[999]⟩)
     (True ∧ True ∧ (True ∧ (True ∧ True ∧ True ∧ True) ∧ (h.length ≤ 60) ∧ (0 ≤ (xs.getD (Int.toNat j) 0) ∧ (xs.getD (Int.toNat j) 0) < 4611686018427387904) ∧ 0 ≤ mk ∧ mk < 4611686018427387904) ∧ True ∧ True)
     ⟨tt,tt,⟨tt,⟨tt,tt,tt,tt⟩,(by omega),(by have h9 := hLj (by omega); have h8 := hhj (by omega); omega),(by omega)⟩,tt,tt⟩ ?_
    refine W.if' (!(!markedE h mk.toNat (xs.getD (Int.toNat j) 0).toNat)) (.b (!(!markedE h mk.toNat (xs.getD (Int.toNat j) 0).toNat))) (by kernel_rfl) rfl trivial ?_ ?_
    ·intro h29
     refine Kk cok tab23 hnt [] [0,1,5,6] (⟨[(0,.own 999 l.length),(1,.fn 24 [.ep [.sl (.events h)],.ep [.i mk]]),(5,.i i),(6,.i j)],[(999,⟨3,.row (.ints (List.set xs (Int.toNat i) (xs.getD (Int.toNat j) 0)))⟩)],[999]⟩)
      (True ∧ True ∧ True ∧ (True ∧ True ∧ (0 ≤ i) ∧ (i < (l.length : Int))) ∧ (True ∧ True ∧ ((Int.toNat i) < xs.length)) ∧ True)
      ⟨tt,tt,tt,⟨tt,tt,(by omega),(by omega)⟩,⟨tt,tt,(by omega)⟩,tt⟩ ?_
     refine Lk cok tab23 hnt [] (⟨[(0,.own 999 l.length),(1,.fn 24 [.ep [.sl (.events h)],.ep [.i mk]]),(5,.i (i + (1 : Int))),(6,.i j),(34,.i i),(35,.i (i + (1 : Int)))],[(999,⟨3,.row (.ints (List.set xs (Int.toNat i) (xs.getD (Int.toNat j) 0)))⟩)],[999]⟩)
      (True ∧ (True ∧ True ∧ (Fits .i64 (i + (1 : Int)))) ∧ True ∧ True)
      ⟨tt,⟨tt,tt,(by exact fits_i64 (by omega) (by omega))⟩,tt,tt⟩ ?_
     refine blockQ_normal (thenQ_normal ?_)
     refine Lk cok tab23 hnt [] (⟨[(0,.own 999 l.length),(1,.fn 24 [.ep [.sl (.events h)],.ep [.i mk]]),(5,.i (i + (1 : Int))),(6,.i (j + (1 : Int))),(20,.i j),(21,.i (j + (1 : Int))),(34,.i i),(35,.i (i + (1 : Int)))],[(999,⟨3,.row (.ints (List.set xs (Int.toNat i) (xs.getD (Int.toNat j) 0)))⟩)],[999]⟩)
      (True ∧ (True ∧ True ∧ (Fits .i64 (j + (1 : Int)))) ∧ True ∧ True)
      ⟨tt,⟨tt,tt,(by exact fits_i64 (by omega) (by omega))⟩,tt,tt⟩ ?_
     refine thenQ_normal ?_
     refine ⟨((i + (1 : Int)),(j + (1 : Int)),(List.set xs (Int.toNat i) (xs.getD (Int.toNat j) 0))),(show (0 ≤ (i + (1 : Int)) ∧ 0 ≤ (j + (1 : Int)) ∧ (j + (1 : Int)) ≤ (l.length : Int)) ∧ (DelI (fun c => markedE h mk.toNat c.toNat) l (List.set xs (Int.toNat i) (xs.getD (Int.toNat j) 0)) (i + (1 : Int)).toNat (j + (1 : Int)).toNat) from ⟨(by first | assumption | omega | rfl | (intro _ hjj; omega) | (simp; done) | (simp; omega)),(by first | exact del_keep hD (by omega) (by omega) (by omega) (by simpa using h29) | exact del_skip hD (by omega) (by omega) (by simpa using n29))⟩),(show l.length - (j + (1 : Int)).toNat < l.length - j.toNat from (by first | omega | (simp_all; omega))),?_⟩
     exact Sub.of [] (@cast (((((999 : Nat) = 999) ∧ (l.length = l.length) ∧ ((999 : Nat) ∈ ([999] : List Nat))) ∧ (((24 : Nat) = 24) ∧ (((.ep [.sl (.events h)] : AV) = .ep [.sl (.events h)]) ∧ (([] : List Nat) = [])) ∧ (((.ep [.i mk] : AV) = .ep [.i mk]) ∧ (([] : List Nat) = [])) ∧ True) ∧ (Si (i + (1 : Int))) ∧ (Si (j + (1 : Int))) ∧ True) ∧ ((((3 : Nat) = 3) ∧ (Sd (.ints (List.set xs (Int.toNat i) (xs.getD (Int.toNat j) 0)))) ∧ ((999 : Nat) ∈ ([999] : List Nat))) ∧ True) ∧ (true = true) ∧ (true = true)) _ (by kernel_rfl) ⟨⟨⟨rfl,rfl,(by decide)⟩,⟨rfl,⟨rfl,rfl⟩,⟨rfl,rfl⟩,tt⟩,rfl,rfl,tt⟩,⟨⟨rfl,rfl,(by decide)⟩,tt⟩,rfl,rfl⟩)
    ·intro n29
     refine W.skip (blockQ_normal (thenQ_normal ?_))
     refine Lk cok tab23 hnt [] (⟨[(0,.own 999 l.length),(1,.fn 24 [.ep [.sl (.events h)],.ep [.i mk]]),(5,.i i),(6,.i (j + (1 : Int))),(7,.i (xs.getD (Int.toNat j) 0)),(20,.i j),(21,.i (j + (1 : Int))),(29,.b (!(!markedE h mk.toNat (xs.getD (Int.toNat j) 0).toNat)))],[(999,⟨3,.row (.ints xs)⟩)],[999]⟩)
      (True ∧ (True ∧ True ∧ (Fits .i64 (j + (1 : Int)))) ∧ True ∧ True)
      ⟨tt,⟨tt,tt,(by exact fits_i64 (by omega) (by omega))⟩,tt,tt⟩ ?_
     refine thenQ_normal ?_
     refine ⟨(i,(j + (1 : Int)),xs),(show (0 ≤ i ∧ 0 ≤ (j + (1 : Int)) ∧ (j + (1 : Int)) ≤ (l.length : Int)) ∧ (DelI (fun c => markedE h mk.toNat c.toNat) l xs i.toNat (j + (1 : Int)).toNat) from ⟨(by first | assumption | omega | rfl | (intro _ hjj; omega) | (simp; done) | (simp; omega)),(by first | exact del_keep hD (by omega) (by omega) (by omega) (by simpa using h29) | exact del_skip hD (by omega) (by omega) (by simpa using n29))⟩),(show l.length - (j + (1 : Int)).toNat < l.length - j.toNat from (by first | omega | (simp_all; omega))),?_⟩
     exact Sub.of [] (@cast (((((999 : Nat) = 999) ∧ (l.length = l.length) ∧ ((999 : Nat) ∈ ([999] : List Nat))) ∧ (((24 : Nat) = 24) ∧ (((.ep [.sl (.events h)] : AV) = .ep [.sl (.events h)]) ∧ (([] : List Nat) = [])) ∧ (((.ep [.i mk] : AV) = .ep [.i mk]) ∧ (([] : List Nat) = [])) ∧ True) ∧ (Si i) ∧ (Si (j + (1 : Int))) ∧ True) ∧ ((((3 : Nat) = 3) ∧ (Sd (.ints xs)) ∧ ((999 : Nat) ∈ ([999] : List Nat))) ∧ True) ∧ (true = true) ∧ (true = true)) _ (by kernel_rfl) ⟨⟨⟨rfl,rfl,(by decide)⟩,⟨rfl,⟨rfl,rfl⟩,⟨rfl,rfl⟩,tt⟩,rfl,rfl,tt⟩,⟨⟨rfl,rfl,(by decide)⟩,tt⟩,rfl,rfl⟩)
   ·intro n19
    refine W.exit (thenQ_exit (thenQ_exit (blockQ_hit ?_)))
    refine thenQ_normal ?_
    refine W.seq (W.wi ?_)
    refine WI.runT cok tab23 hnt [] 2 2 (⟨[(0,.own 999 l.length),(1,.fn 24 [.ep [.sl (.events h)],.ep [.i mk]]),(5,.i i),(6,.i j),(19,.b (decide (j < (l.length : Int)))),(36,.own 999 l.length),(37,.i i)],[(999,⟨3,.row (.ints xs)⟩)],[999]⟩)
     (True ∧ True ∧ True) (by kernel_rfl) rfl
     ⟨tt,tt,tt⟩ ?_
    refine WI.clearOwn 999 l.length xs i 26 3 3 .i64 38 cok rfl rfl hnt (wanted_none rfl) (wanted_none rfl) rfl rfl rfl rfl rfl rfl (show l.length = xs.length from (by omega)) rfl rfl (And.intro (show 0 ≤ i from (by omega)) (show i < (xs.length : Int) from (by omega))) rfl ?_
    refine WI.to (⟨[(0,.own 999 l.length),(1,.fn 24 [.ep [.sl (.events h)],.ep [.i mk]]),(5,.i i),(6,.i j),(19,.b (decide (j < (l.length : Int)))),(36,.own 999 l.length),(37,.i i),(38,.any)],[(999,⟨3,.row (.ints (List.take (Int.toNat i) xs))⟩)],[999]⟩) 4 (by kernel_rfl) rfl ?_
    refine WI.nil rfl (thenQ_normal ?_)
    refine W.keepE [0,5] [(0,.own 999 l.length),(5,.i i)] (by kernel_rfl) ?_
    refine W.to (⟨[(0,.own 999 l.length),(5,.i i)],[(999,⟨3,.row (.ints (List.take (Int.toNat i) xs))⟩)],[999]⟩) rfl ?_
    have hdn := hD.done (by omega)
    have hdl : i.toNat = (l.filter (fun c => markedE h mk.toNat c.toNat)).length := by rw [← hdn,List.length_take]; omega
    refine Kk cok tab23 hnt [] [4] (⟨[(4,.own 999 (Int.toNat i))],[(999,⟨3,.row (.ints (List.take (Int.toNat i) xs))⟩)],[999]⟩)
     (True ∧ True ∧ (True ∧ True ∧ (0 ≤ i) ∧ (i ≤ (l.length : Int))) ∧ True ∧ True)
     ⟨tt,tt,⟨tt,tt,(by omega),(by omega)⟩,tt,tt⟩ ?_
    refine W.ret ?_
    exact endQ_rows [(0,999)] (.own 999 (Int.toNat i)) (by kernel_rfl) (@cast (((999 : Nat) = 999) ∧ ((Int.toNat i) = (List.length (l.filter (fun c => markedE h mk.toNat c.toNat)))) ∧ ((0 : Nat) ∈ ([0] : List Nat))) _ (by kernel_rfl) ⟨rfl,(by first | rfl | omega | assumption | (symm; assumption) | (exact congrArg List.length (by exact hdn)) | (exact hdn; done) | simp | simp_all),(by decide)⟩) (@cast ((((3 : Nat) = 3) ∧ ((.ints (List.take (Int.toNat i) xs) : Dat) = .ints (l.filter (fun c => markedE h mk.toNat c.toNat))) ∧ ((0 : Nat) ∈ ([0] : List Nat))) ∧ True) _ (by kernel_rfl) ⟨⟨rfl,(congrArg Dat.ints (by exact hdn)),(by decide)⟩,tt⟩) (by kernel_rfl)
theorem ent23 : Entr prog 23 := ⟨_,func23,rfl,by decide⟩
end Go.Proofs.Try

set_option linter.unusedSimpArgs false
set_option linter.unusedVariables false
namespace Go.Proofs.Try
open Go.Ab Go.RowKit
def fs6 : FnS := fnS [.s .events,.o] [.events,.int] (fun _ (h,mk,_) => (.sl (.ints (mkCuts h mk)),[],True))
abbrev T6 : Tab := lk [(9,fs9),(22,fs22),(23,fs23)]
theorem tab6 : TabOK prog T6 := (TabOK.cons ok9 ent9 (TabOK.cons ok22 ent22 (TabOK.cons ok23 ent23 TabOK.nil)))
set_option maxRecDepth 100000 in
set_option maxHeartbeats 1000000 in
theorem ok6 : FnOK prog 6 fs6 := by
 refine FnOK.mk cok func6 rfl rfl rfl ?_
 rintro fl ⟨(h : List EventD),(mk : Int),_⟩ hpre F hnt0 _
 have hnt : F.nt = 13 := hnt0.trans ntmps6
 clear hpre
 refine W.to (⟨[(0,.sl (.events h)),(1,.i mk)],[],[999]⟩) rfl ?_
 refine W.lenOf 0 (.events h) (by kernel_rfl) ?_
 intro hl_h; replace hl_h : List.length h ≤ 9223372036854775807 := hl_h
 refine Kk cok tab6 hnt [] [2,3] (⟨[(2,.ptr 2 0),(3,.ptr 3 0)],[(2,⟨23,.fix [.sl (.events h)]⟩),(3,⟨3,.fix [.i mk]⟩)],[3,2,999]⟩)
  (True ∧ True ∧ True ∧ True)
  ⟨tt,tt,tt,tt⟩ ?_
 refine W.subS [] (⟨[(2,.ep [.sl (.events h)]),(3,.ep [.i mk])],[],[999]⟩) (@cast ((((([.sl (.events h)] : List AV) = [.sl (.events h)]) ∧ (([] : List Nat) = []) ∧ ((2 : Nat) ∉ ([] : List Nat))) ∧ ((([.i mk] : List AV) = [.i mk]) ∧ (([] : List Nat) = []) ∧ ((3 : Nat) ∉ ([] : List Nat))) ∧ True) ∧ True ∧ (true = true) ∧ (true = true)) _ (by kernel_rfl) ⟨⟨⟨rfl,rfl,(by decide)⟩,⟨rfl,rfl,(by decide)⟩,tt⟩,tt,rfl,rfl⟩) ?_
 refine W.seq ?_
 refine Kk cok tab6 hnt [] [2,3,8] (⟨[(2,.ep [.sl (.events h)]),(3,.ep [.i mk]),(8,.b (!(isSetE h mk)))],[],[999]⟩)
  (True ∧ True ∧ (True ∧ (True ∧ True ∧ True) ∧ True) ∧ True ∧ True)
  ⟨tt,tt,⟨tt,⟨tt,tt,tt⟩,tt⟩,tt,tt⟩ ?_
 refine W.if' (!(isSetE h mk)) (.b (!(isSetE h mk))) (by kernel_rfl) rfl trivial ?_ ?_
 ·intro h8
  refine Kk cok tab6 hnt [] [4] (⟨[(4,.v (.slice none 0 0))],[],[999]⟩)
   (True ∧ True)
   ⟨tt,tt⟩ ?_
  refine W.ret (thenQ_ret ?_)
  exact endQ_ret (.v (.slice none 0 0)) (by kernel_rfl) (@cast (((Value.slice none 0 0 : Value) = .slice none 0 0) ∧ ((Dat.ints (mkCuts h mk)).len = 0)) _ (by kernel_rfl) ⟨rfl,(by show List.length (mkCuts h mk) = 0; first | exact mk_no (not_f h8) | exact mk_no0 (not_f h8))⟩)
 ·intro n8
  have hs : isSetE h mk = true := not_g n8
  have hss := set_small hs
  have hmb := set_bnd hs
  have hcl := cutsOf_len h
  refine W.skip (thenQ_normal ?_)
  refine Kk cok tab6 hnt [10] [4] (⟨[(4,.sl (.ints ((cutsOf h).filter (fun c => markedE h mk.toNat c.toNat))))],[],[12,10,999]⟩)
   (True ∧ (True ∧ (True ∧ True) ∧ True) ∧ True ∧ ((True ∧ ((True ∧ ((List.length (cutsOf h)) = (List.length (cutsOf h)))) ∧ True ∧ True) ∧ ((cutsOf h).length ≤ 1000) ∧ (h.length ≤ 60) ∧ (0 ≤ mk ∧ mk < 4611686018427387904) ∧ (∀ j,j < (cutsOf h).length → 0 ≤ (cutsOf h).getD j 0 ∧ (cutsOf h).getD j 0 < 4611686018427387904)) ∧ ((List.length ((cutsOf h).filter (fun c => markedE h mk.toNat c.toNat))) = (List.length ((cutsOf h).filter (fun c => markedE h mk.toNat c.toNat))))) ∧ True ∧ True)
   ⟨tt,⟨tt,⟨tt,tt⟩,tt⟩,tt,⟨⟨tt,⟨⟨tt,rfl⟩,tt,tt⟩,(by omega),(by omega),(by omega),(by intro j hj; have h9 := cutsOf_small hj; omega)⟩,rfl⟩,tt,tt⟩ ?_
  refine W.ret ?_
  exact endQ_ret (.sl (.ints ((cutsOf h).filter (fun c => markedE h mk.toNat c.toNat)))) (by kernel_rfl) (@cast ((.ints ((cutsOf h).filter (fun c => markedE h mk.toNat c.toNat)) : Dat) = .ints (mkCuts h mk)) _ (by kernel_rfl) (congrArg Dat.ints (by exact mk_yes hs hss.2)))
theorem ent6 : Entr prog 6 := ⟨_,func6,rfl,by decide⟩
end Go.Proofs.Try

set_option linter.unusedSimpArgs false
set_option linter.unusedVariables false
namespace Go.Proofs.Try
open Go.Ab Go.RowKit
def fs27 : FnS := fnS [.o,.o,.o] [.int,.int,.int] (fun _ (n,low,high,_) => (.b (within n low high),[],True))
abbrev T27 : Tab := lk []
theorem tab27 : TabOK prog T27 := TabOK.nil
set_option maxRecDepth 100000 in
set_option maxHeartbeats 1000000 in
theorem ok27 : FnOK prog 27 fs27 := by
 refine FnOK.mk cok func27 rfl rfl rfl ?_
 rintro fl ⟨(n : Int),(low : Int),(high : Int),_⟩ hpre F hnt0 _
 have hnt : F.nt = 15 := hnt0.trans ntmps27
 clear hpre
 refine W.to (⟨[(0,.i n),(1,.i low),(2,.i high)],[],[999]⟩) rfl ?_
 refine Kk cok tab27 hnt [] [0,1,2] (⟨[(0,.i n),(1,.i low),(2,.i high)],[],[999]⟩)
  (True ∧ True)
  ⟨tt,tt⟩ ?_
 refine Kk cok tab27 hnt [] [6] (⟨[(6,.b ((decide (low ≤ n)) && (decide (n ≤ high))))],[],[999]⟩)
  ((fun (Z1:Bool)=>(True ∧ (True ∧ ((True ∧ (True ∧ True)) ∧ (True ∧ ((Z1 = true → True) ∧ ((Z1 = true → True) ∧ ((Z1 = true → (((Z1 = true) ∧ True) ∧ (((Z1 = true) ∧ True) ∧ True))) ∧ ((True ∧ ((Z1 = true → (Z1 = true) ∧ True) ∧ (Z1 = false → True))) ∧ (True ∧ True)))))))))) (decide (low ≤ n)))
  ⟨tt,tt,⟨tt,tt,tt⟩,tt,(fun _ => trivial),(fun _ => trivial),(fun hG => ⟨⟨hG,tt⟩,⟨hG,tt⟩,tt⟩),⟨tt,(fun hp => ⟨hp,tt⟩),(fun _ => trivial)⟩,tt,tt⟩ ?_
 refine W.ret ?_
 exact endQ_ret (.b ((decide (low ≤ n)) && (decide (n ≤ high)))) (by kernel_rfl) (@cast ((.bool ((decide (low ≤ n)) && (decide (n ≤ high))) : Value) = .bool (within n low high)) _ (by kernel_rfl) (congrArg Value.bool (by first | rfl | simp_all)))
theorem ent27 : Entr prog 27 := ⟨_,func27,rfl,by decide⟩
end Go.Proofs.Try

set_option linter.unusedSimpArgs false
set_option linter.unusedVariables false
namespace Go.Proofs.Try
open Go.Ab Go.RowKit
def fs26 : FnS := fnS [.s .events] [.events] (fun _ (h,_) => (.b (validE h),[],True))
abbrev T26 : Tab := lk [(27,fs27)]
theorem tab26 : TabOK prog T26 := (TabOK.cons ok27 ent27 TabOK.nil)
set_option maxRecDepth 100000 in
set_option maxHeartbeats 1000000 in
theorem ok26 : FnOK prog 26 fs26 := by
 refine FnOK.mk cok func26 rfl rfl rfl ?_
 rintro fl ⟨(h : List EventD),_⟩ hpre F hnt0 _
 have hnt : F.nt = 137 := hnt0.trans ntmps26
 clear hpre
 refine W.to (⟨[(0,.sl (.events h))],[],[999]⟩) rfl ?_
 refine W.lenOf 0 (.events h) (by kernel_rfl) ?_
 intro hl_h; replace hl_h : List.length h ≤ 9223372036854775807 := hl_h
 refine Kk cok tab26 hnt [] [0] (⟨[(0,.sl (.events h))],[],[999]⟩)
  (True ∧ True)
  ⟨tt,tt⟩ ?_
 refine W.seq ?_
 refine Kk cok tab26 hnt [] [0,3] (⟨[(0,.sl (.events h)),(3,.i (0 : Int))],[],[999]⟩)
  (True ∧ True)
  ⟨tt,tt⟩ ?_
 refine W.block ?_
 refine W.loop (ι := Nat) (fun (i : Nat) => (⟨[(0,.sl (.events h)),(3,.i ((i : Nat) : Int))],[],[999]⟩ : St))
  (fun (i : Nat) => (i ≤ h.length) ∧ (∀ j,j < i → sAt h j = true))
  (fun (i : Nat) => (h.length - i : Nat)) (0) ?_ ?_ ?_
 ·exact (show (0 ≤ h.length) ∧ (∀ j,j < 0 → sAt h j = true) from ⟨(by first | assumption | omega | rfl | (intro _ hjj; omega) | (simp; done) | (simp; omega)),(by exact upto_zero)⟩)
 ·exact Sub.of [] (@cast (((Sd (.events h)) ∧ ((.int .i64 (0 : Int) : Value) = .int .i64 ((0 : Nat) : Int)) ∧ True) ∧ True ∧ (true = true) ∧ (true = true)) _ (by kernel_rfl) ⟨⟨rfl,(congrArg (Value.int .i64) (by first | rfl | omega | assumption | simp | simp_all)),tt⟩,tt,rfl,rfl⟩)
 ·rintro i hC0
  have hC : (i ≤ h.length) ∧ (∀ j,j < i → sAt h j = true) := hC0
  clear hC0
  obtain ⟨hi,hA⟩ := hC
  refine W.to (⟨[(0,.sl (.events h)),(3,.i ((i : Nat) : Int))],[],[999]⟩) rfl ?_
  refine W.seq ?_
  refine Kk cok tab26 hnt [] [0,3,9] (⟨[(0,.sl (.events h)),(3,.i ((i : Nat) : Int)),(9,.b (decide (((i : Nat) : Int) < (h.length : Int))))],[],[999]⟩)
   (True ∧ True ∧ True ∧ (True ∧ True ∧ True) ∧ True)
   ⟨tt,tt,tt,⟨tt,tt,tt⟩,tt⟩ ?_
  refine W.ifP (((i : Nat) : Int) < (h.length : Int)) (.b (decide (((i : Nat) : Int) < (h.length : Int)))) (by kernel_rfl) rfl trivial ?_ ?_
  ·intro h9
   refine W.skip (thenQ_normal ?_)
   refine W.seq ?_
   refine W.block ?_
   refine W.seq ?_
   refine Kk cok tab26 hnt [] [0,3,52] (⟨[(0,.sl (.events h)),(3,.i ((i : Nat) : Int)),(52,.b ((((!(within ((h.getD i default).proc) (0 : Int) (2 : Int))) || (!(within ((h.getD i default).kind) (0 : Int) (2 : Int)))) || (!(within ((h.getD i default).msg) (0 : Int) (6 : Int)))) || ((decide (((h.getD i default).kind) = (0 : Int))) && (decide (((h.getD i default).msg) ≠ (0 : Int))))))],[],[999]⟩)
    ((fun (Z1:Bool)=>((fun (Z2:Bool)=>((fun (Z3:Bool)=>((fun (Z4:Bool)=>((fun (Z5:Bool)=>((fun (Z6:Bool)=>(True ∧ (True ∧ ((True ∧ (True ∧ ((0 ≤ ((i : Nat) : Int)) ∧ (((i : Nat) : Int) < (h.length : Int))))) ∧ (True ∧ (True ∧ ((True ∧ ((True ∧ (True ∧ (True ∧ True))) ∧ True)) ∧ (True ∧ (True ∧ (((!Z2) = true → True) ∧ (((!Z2) = true → True) ∧ (((!Z2) = true → ((((!Z2) = true) ∧ True) ∧ ((((!Z2) = true) ∧ True) ∧ ((0 ≤ ((i : Nat) : Int)) ∧ (((i : Nat) : Int) < (h.length : Int)))))) ∧ (((!Z2) = true → (((!Z2) = true) ∧ True)) ∧ (((!Z2) = true → (((!Z2) = true) ∧ True)) ∧ (((!Z2) = true → (True ∧ (((((!Z2) = true) ∧ True) ∧ (True ∧ (True ∧ True))) ∧ True))) ∧ (((!Z2) = true → (((!Z2) = true) ∧ True)) ∧ ((True ∧ ((Z2 = true → True) ∧ (Z2 = false → ((!Z2) = true) ∧ True))) ∧ (True ∧ (((!Z3) = true → True) ∧ (((!Z3) = true → True) ∧ (((!Z3) = true → ((((!Z3) = true) ∧ True) ∧ ((((!Z3) = true) ∧ True) ∧ ((0 ≤ ((i : Nat) : Int)) ∧ (((i : Nat) : Int) < (h.length : Int)))))) ∧ (((!Z3) = true → (((!Z3) = true) ∧ True)) ∧ (((!Z3) = true → (((!Z3) = true) ∧ True)) ∧ (((!Z3) = true → (True ∧ (((((!Z3) = true) ∧ True) ∧ (True ∧ (True ∧ True))) ∧ True))) ∧ (((!Z3) = true → (((!Z3) = true) ∧ True)) ∧ ((True ∧ ((Z3 = true → True) ∧ (Z3 = false → ((!Z3) = true) ∧ True))) ∧ (True ∧ ((Z5 = true → True) ∧ ((Z5 = true → True) ∧ ((Z5 = true → (((Z5 = true) ∧ True) ∧ (((Z5 = true) ∧ True) ∧ ((0 ≤ ((i : Nat) : Int)) ∧ (((i : Nat) : Int) < (h.length : Int)))))) ∧ ((Z5 = true → ((Z5 = true) ∧ True)) ∧ ((Z5 = true → ((Z5 = true) ∧ True)) ∧ ((Z5 = true → (((Z5 = true) ∧ True) ∧ (True ∧ True))) ∧ ((Z5 = true → True) ∧ ((Z6 = true → True) ∧ ((Z6 = true → True) ∧ ((Z6 = true → (((Z6 = true) ∧ True) ∧ (((Z6 = true) ∧ True) ∧ ((0 ≤ ((i : Nat) : Int)) ∧ (((i : Nat) : Int) < (h.length : Int)))))) ∧ ((Z6 = true → ((Z6 = true) ∧ True)) ∧ ((Z6 = true → ((Z6 = true) ∧ True)) ∧ ((Z6 = true → (((Z6 = true) ∧ True) ∧ (True ∧ True))) ∧ ((Z5 = true → (((Z5 = true) ∧ ((Z5 = true) ∧ True)) ∧ ((Z1 = true → (Z6 = true) ∧ True) ∧ (Z1 = false → True)))) ∧ ((True ∧ ((Z4 = true → True) ∧ (Z4 = false → (Z5 = true) ∧ True))) ∧ True)))))))))))))))))))))))))))))))))))))))))) (Z5 && (Z5 && Z1)))) (!Z4))) (Z3 || (!(within ((h.getD i default).msg) (0 : Int) (6 : Int)))))) (Z2 || (!(within ((h.getD i default).kind) (0 : Int) (2 : Int)))))) (!(within ((h.getD i default).proc) (0 : Int) (2 : Int))))) (decide (((h.getD i default).kind) = (0 : Int))))
    ⟨tt,tt,⟨tt,tt,(by omega),(by omega)⟩,tt,tt,⟨tt,⟨tt,tt,tt,tt⟩,tt⟩,tt,tt,(fun _ => trivial),(fun _ => trivial),(fun hG => ⟨⟨hG,tt⟩,⟨hG,tt⟩,(by omega),(by omega)⟩),(fun hG => ⟨hG,tt⟩),(fun hG => ⟨hG,tt⟩),(fun hG => ⟨tt,⟨⟨hG,tt⟩,tt,tt,tt⟩,tt⟩),(fun hG => ⟨hG,tt⟩),⟨tt,(fun _ => trivial),(fun hp => ⟨(not_t hp),tt⟩)⟩,tt,(fun _ => trivial),(fun _ => trivial),(fun hG => ⟨⟨hG,tt⟩,⟨hG,tt⟩,(by omega),(by omega)⟩),(fun hG => ⟨hG,tt⟩),(fun hG => ⟨hG,tt⟩),(fun hG => ⟨tt,⟨⟨hG,tt⟩,tt,tt,tt⟩,tt⟩),(fun hG => ⟨hG,tt⟩),⟨tt,(fun _ => trivial),(fun hp => ⟨(not_t hp),tt⟩)⟩,tt,(fun _ => trivial),(fun _ => trivial),(fun hG => ⟨⟨hG,tt⟩,⟨hG,tt⟩,(by omega),(by omega)⟩),(fun hG => ⟨hG,tt⟩),(fun hG => ⟨hG,tt⟩),(fun hG => ⟨⟨hG,tt⟩,tt,tt⟩),(fun _ => trivial),(fun _ => trivial),(fun _ => trivial),(fun hG => ⟨⟨hG,tt⟩,⟨hG,tt⟩,(by have hg0 : ((h.getD i default).kind) = (0 : Int) := of_decide_eq_true (and_r (and_r hG)); omega),(by have hg0 : ((h.getD i default).kind) = (0 : Int) := of_decide_eq_true (and_r (and_r hG)); omega)⟩),(fun hG => ⟨hG,tt⟩),(fun hG => ⟨hG,tt⟩),(fun hG => ⟨⟨hG,tt⟩,tt,tt⟩),(fun hG => ⟨⟨hG,hG,tt⟩,(fun hp => ⟨(and_t hG (and_t hG hp)),tt⟩),(fun _ => trivial)⟩),⟨tt,(fun _ => trivial),(fun hp => ⟨(not_t hp),tt⟩)⟩,tt⟩ ?_
   refine W.if' ((((!(within ((h.getD i default).proc) (0 : Int) (2 : Int))) || (!(within ((h.getD i default).kind) (0 : Int) (2 : Int)))) || (!(within ((h.getD i default).msg) (0 : Int) (6 : Int)))) || ((decide (((h.getD i default).kind) = (0 : Int))) && (decide (((h.getD i default).msg) ≠ (0 : Int))))) (.b ((((!(within ((h.getD i default).proc) (0 : Int) (2 : Int))) || (!(within ((h.getD i default).kind) (0 : Int) (2 : Int)))) || (!(within ((h.getD i default).msg) (0 : Int) (6 : Int)))) || ((decide (((h.getD i default).kind) = (0 : Int))) && (decide (((h.getD i default).msg) ≠ (0 : Int)))))) (by kernel_rfl) rfl trivial ?_ ?_
   ·intro h52
    refine Kk cok tab26 hnt [] [2] (⟨[(2,.b false)],[],[999]⟩)
     (True ∧ True)
     ⟨tt,tt⟩ ?_
    refine W.ret (thenQ_ret (blockQ_ret (thenQ_ret (thenQ_ret (blockQ_ret (thenQ_ret ?_))))))
    exact endQ_ret (.b false) (by kernel_rfl) (@cast ((.bool false : Value) = .bool (validE h)) _ (by kernel_rfl) (congrArg Value.bool (by exact sv_no (i := i) (by omega) (s_no1 h52))))
   ·intro n52
    refine W.skip (thenQ_normal ?_)
    refine Kk cok tab26 hnt [] [0,3,4] (⟨[(0,.sl (.events h)),(3,.i ((i : Nat) : Int)),(4,.b false)],[],[999]⟩)
     (True ∧ True)
     ⟨tt,tt⟩ ?_
    refine W.seq ?_
    refine Kk cok tab26 hnt [] [0,3,4,5] (⟨[(0,.sl (.events h)),(3,.i ((i : Nat) : Int)),(4,.b false),(5,.i (0 : Int))],[],[999]⟩)
     (True ∧ True)
     ⟨tt,tt⟩ ?_
    refine W.block ?_
    refine W.loop (ι := Nat × Bool) (fun (x : Nat × Bool) => match x with | (k,sn) => (⟨[(0,.sl (.events h)),(3,.i ((i : Nat) : Int)),(4,.b sn),(5,.i ((k : Nat) : Int))],[],[999]⟩ : St))
     (fun (x : Nat × Bool) => match x with | (k,sn) => (k ≤ i) ∧ (sn = sentUp h i k) ∧ (∀ j,j < k → noAt h i j = true))
     (fun (x : Nat × Bool) => match x with | (k,sn) => (i - k : Nat)) (0,false) ?_ ?_ ?_
    ·exact (show (0 ≤ i) ∧ (false = sentUp h i 0) ∧ (∀ j,j < 0 → noAt h i j = true) from ⟨(by first | assumption | omega | rfl | (intro _ hjj; omega) | (simp; done) | (simp; omega)),(by rfl),(by exact upto_zero)⟩)
    ·exact Sub.of [] (@cast (((Sd (.events h)) ∧ (Si ((i : Nat) : Int)) ∧ (Sv (.bool false)) ∧ ((.int .i64 (0 : Int) : Value) = .int .i64 ((0 : Nat) : Int)) ∧ True) ∧ True ∧ (true = true) ∧ (true = true)) _ (by kernel_rfl) ⟨⟨rfl,rfl,rfl,(congrArg (Value.int .i64) (by first | rfl | omega | assumption | simp | simp_all)),tt⟩,tt,rfl,rfl⟩)
    ·rintro ⟨k,sn⟩ hC0
     have hC : (k ≤ i) ∧ (sn = sentUp h i k) ∧ (∀ j,j < k → noAt h i j = true) := hC0
     clear hC0
     obtain ⟨hk,hs,hB⟩ := hC
     refine W.to (⟨[(0,.sl (.events h)),(3,.i ((i : Nat) : Int)),(4,.b sn),(5,.i ((k : Nat) : Int))],[],[999]⟩) rfl ?_
     refine W.seq ?_
     refine Kk cok tab26 hnt [] [0,3,4,5,55] (⟨[(0,.sl (.events h)),(3,.i ((i : Nat) : Int)),(4,.b sn),(5,.i ((k : Nat) : Int)),(55,.b (decide (((k : Nat) : Int) < ((i : Nat) : Int))))],[],[999]⟩)
      (True ∧ True ∧ (True ∧ True ∧ True) ∧ True)
      ⟨tt,tt,⟨tt,tt,tt⟩,tt⟩ ?_
     refine W.ifP (((k : Nat) : Int) < ((i : Nat) : Int)) (.b (decide (((k : Nat) : Int) < ((i : Nat) : Int)))) (by kernel_rfl) rfl trivial ?_ ?_
     ·intro h55
      refine W.skip (thenQ_normal ?_)
      refine W.seq ?_
      refine W.block ?_
      refine W.KA cok tab26 hnt [] [0,3,4,5,84] (⟨[(0,.sl (.events h)),(3,.i ((i : Nat) : Int)),(4,.b sn),(5,.i ((k : Nat) : Int)),(84,.b (((decide (((h.getD k default).kind) ≠ (0 : Int))) && (decide (((h.getD i default).kind) ≠ (0 : Int)))) && (decide (((h.getD k default).msg) = ((h.getD i default).msg)))))],[],[999]⟩)
       ((fun (Z1:Bool)=>((fun (Z2:Bool)=>(True ∧ (True ∧ ((True ∧ (True ∧ ((0 ≤ ((k : Nat) : Int)) ∧ (((k : Nat) : Int) < (h.length : Int))))) ∧ (True ∧ (True ∧ ((True ∧ (True ∧ True)) ∧ (True ∧ ((Z1 = true → True) ∧ ((Z1 = true → True) ∧ ((Z1 = true → (((Z1 = true) ∧ True) ∧ (((Z1 = true) ∧ True) ∧ ((0 ≤ ((i : Nat) : Int)) ∧ (((i : Nat) : Int) < (h.length : Int)))))) ∧ ((Z1 = true → ((Z1 = true) ∧ True)) ∧ ((Z1 = true → ((Z1 = true) ∧ True)) ∧ ((Z1 = true → (((Z1 = true) ∧ True) ∧ (True ∧ True))) ∧ ((True ∧ ((Z1 = true → (Z1 = true) ∧ True) ∧ (Z1 = false → True))) ∧ (True ∧ ((Z2 = true → True) ∧ ((Z2 = true → True) ∧ ((Z2 = true → (((Z2 = true) ∧ True) ∧ (((Z2 = true) ∧ True) ∧ ((0 ≤ ((k : Nat) : Int)) ∧ (((k : Nat) : Int) < (h.length : Int)))))) ∧ ((Z2 = true → ((Z2 = true) ∧ True)) ∧ ((Z2 = true → ((Z2 = true) ∧ True)) ∧ ((Z2 = true → True) ∧ ((Z2 = true → True) ∧ ((Z2 = true → (((Z2 = true) ∧ True) ∧ (((Z2 = true) ∧ True) ∧ ((0 ≤ ((i : Nat) : Int)) ∧ (((i : Nat) : Int) < (h.length : Int)))))) ∧ ((Z2 = true → ((Z2 = true) ∧ True)) ∧ ((Z2 = true → ((Z2 = true) ∧ True)) ∧ ((Z2 = true → (((Z2 = true) ∧ True) ∧ (((Z2 = true) ∧ True) ∧ True))) ∧ ((True ∧ ((Z2 = true → (Z2 = true) ∧ True) ∧ (Z2 = false → True))) ∧ True)))))))))))))))))))))))))))) (Z1 && (decide (((h.getD i default).kind) ≠ (0 : Int)))))) (decide (((h.getD k default).kind) ≠ (0 : Int)))) (by kernel_rfl) (by kernel_rfl)
       ⟨tt,tt,⟨tt,tt,(by omega),(by omega)⟩,tt,tt,⟨tt,tt,tt⟩,tt,(fun _ => trivial),(fun _ => trivial),(fun hG => ⟨⟨hG,tt⟩,⟨hG,tt⟩,(by have hg0 : ((h.getD k default).kind) ≠ (0 : Int) := of_decide_eq_true hG; omega),(by have hg0 : ((h.getD k default).kind) ≠ (0 : Int) := of_decide_eq_true hG; omega)⟩),(fun hG => ⟨hG,tt⟩),(fun hG => ⟨hG,tt⟩),(fun hG => ⟨⟨hG,tt⟩,tt,tt⟩),⟨tt,(fun hp => ⟨hp,tt⟩),(fun _ => trivial)⟩,tt,(fun _ => trivial),(fun _ => trivial),(fun hG => ⟨⟨hG,tt⟩,⟨hG,tt⟩,(by have hg0 : ((h.getD k default).kind) ≠ (0 : Int) := of_decide_eq_true (and_l hG); have hg1 : ((h.getD i default).kind) ≠ (0 : Int) := of_decide_eq_true (and_r hG); omega),(by have hg0 : ((h.getD k default).kind) ≠ (0 : Int) := of_decide_eq_true (and_l hG); have hg1 : ((h.getD i default).kind) ≠ (0 : Int) := of_decide_eq_true (and_r hG); omega)⟩),(fun hG => ⟨hG,tt⟩),(fun hG => ⟨hG,tt⟩),(fun _ => trivial),(fun _ => trivial),(fun hG => ⟨⟨hG,tt⟩,⟨hG,tt⟩,(by have hg0 : ((h.getD k default).kind) ≠ (0 : Int) := of_decide_eq_true (and_l hG); have hg1 : ((h.getD i default).kind) ≠ (0 : Int) := of_decide_eq_true (and_r hG); omega),(by have hg0 : ((h.getD k default).kind) ≠ (0 : Int) := of_decide_eq_true (and_l hG); have hg1 : ((h.getD i default).kind) ≠ (0 : Int) := of_decide_eq_true (and_r hG); omega)⟩),(fun hG => ⟨hG,tt⟩),(fun hG => ⟨hG,tt⟩),(fun hG => ⟨⟨hG,tt⟩,⟨hG,tt⟩,tt⟩),⟨tt,(fun hp => ⟨hp,tt⟩),(fun _ => trivial)⟩,tt⟩ ?_
      refine W.if' (((decide (((h.getD k default).kind) ≠ (0 : Int))) && (decide (((h.getD i default).kind) ≠ (0 : Int)))) && (decide (((h.getD k default).msg) = ((h.getD i default).msg)))) (.b (((decide (((h.getD k default).kind) ≠ (0 : Int))) && (decide (((h.getD i default).kind) ≠ (0 : Int)))) && (decide (((h.getD k default).msg) = ((h.getD i default).msg))))) (by kernel_rfl) rfl trivial ?_ ?_
      ·intro h84
       have h84_0 : ((h.getD k default).kind) ≠ (0 : Int) := of_decide_eq_true (and_l (and_l h84))
       have h84_1 : ((h.getD i default).kind) ≠ (0 : Int) := of_decide_eq_true (and_r (and_l h84))
       have h84_2 : ((h.getD k default).msg) = ((h.getD i default).msg) := of_decide_eq_true (and_r h84)
       refine W.seq ?_
       refine W.KA cok tab26 hnt [] [0,3,4,5,95] (⟨[(0,.sl (.events h)),(3,.i ((i : Nat) : Int)),(4,.b sn),(5,.i ((k : Nat) : Int)),(95,.b (decide (((h.getD k default).kind) = ((h.getD i default).kind))))],[],[999]⟩)
        (True ∧ True ∧ (True ∧ True ∧ (0 ≤ ((k : Nat) : Int)) ∧ (((k : Nat) : Int) < (h.length : Int))) ∧ True ∧ True ∧ True ∧ True ∧ (True ∧ True ∧ (0 ≤ ((i : Nat) : Int)) ∧ (((i : Nat) : Int) < (h.length : Int))) ∧ True ∧ True ∧ (True ∧ True ∧ True) ∧ True) (by kernel_rfl) (by kernel_rfl)
        ⟨tt,tt,⟨tt,tt,(by omega),(by omega)⟩,tt,tt,tt,tt,⟨tt,tt,(by omega),(by omega)⟩,tt,tt,⟨tt,tt,tt⟩,tt⟩ ?_
       refine W.ifP (((h.getD k default).kind) = ((h.getD i default).kind)) (.b (decide (((h.getD k default).kind) = ((h.getD i default).kind)))) (by kernel_rfl) rfl trivial ?_ ?_
       ·intro h95
        refine Kk cok tab26 hnt [] [2] (⟨[(2,.b false)],[],[999]⟩)
         (True ∧ True)
         ⟨tt,tt⟩ ?_
        refine W.ret (thenQ_ret (blockQ_ret (thenQ_ret (thenQ_ret (blockQ_ret (thenQ_ret (blockQ_ret (thenQ_ret (thenQ_ret (blockQ_ret (thenQ_ret ?_)))))))))))
        exact endQ_ret (.b false) (by kernel_rfl) (@cast ((.bool false : Value) = .bool (validE h)) _ (by kernel_rfl) (congrArg Value.bool (by exact sv_no (i := i) (by omega) (s_no2 (k := k) (by omega) h84 (.inl h95)))))
       ·intro n95
        refine W.skip (thenQ_normal ?_)
        refine W.KA cok tab26 hnt [] [0,3,4,5] (⟨[(0,.sl (.events h)),(3,.i ((i : Nat) : Int)),(4,.b (sn || ((decide (((h.getD k default).kind) = (1 : Int))) && (decide (((h.getD k default).proc) ≠ ((h.getD i default).proc)))))),(5,.i ((k : Nat) : Int))],[],[999]⟩)
         ((fun (Z1:Bool)=>((fun (Z2:Bool)=>((fun (Z3:Bool)=>(True ∧ (True ∧ ((Z1 = true → True) ∧ ((Z1 = true → True) ∧ ((Z1 = true → (((Z1 = true) ∧ True) ∧ (((Z1 = true) ∧ True) ∧ ((0 ≤ ((k : Nat) : Int)) ∧ (((k : Nat) : Int) < (h.length : Int)))))) ∧ ((Z1 = true → ((Z1 = true) ∧ True)) ∧ ((Z1 = true → ((Z1 = true) ∧ True)) ∧ ((Z1 = true → (((Z1 = true) ∧ True) ∧ (True ∧ True))) ∧ ((Z1 = true → True) ∧ ((Z3 = true → True) ∧ ((Z3 = true → True) ∧ ((Z3 = true → (((Z3 = true) ∧ True) ∧ (((Z3 = true) ∧ True) ∧ ((0 ≤ ((k : Nat) : Int)) ∧ (((k : Nat) : Int) < (h.length : Int)))))) ∧ ((Z3 = true → ((Z3 = true) ∧ True)) ∧ ((Z3 = true → ((Z3 = true) ∧ True)) ∧ ((Z3 = true → True) ∧ ((Z3 = true → True) ∧ ((Z3 = true → (((Z3 = true) ∧ True) ∧ (((Z3 = true) ∧ True) ∧ ((0 ≤ ((i : Nat) : Int)) ∧ (((i : Nat) : Int) < (h.length : Int)))))) ∧ ((Z3 = true → ((Z3 = true) ∧ True)) ∧ ((Z3 = true → ((Z3 = true) ∧ True)) ∧ ((Z3 = true → (((Z3 = true) ∧ True) ∧ (((Z3 = true) ∧ True) ∧ True))) ∧ ((Z1 = true → (((Z1 = true) ∧ ((Z1 = true) ∧ True)) ∧ ((Z2 = true → (Z3 = true) ∧ True) ∧ (Z2 = false → True)))) ∧ ((True ∧ ((sn = true → True) ∧ (sn = false → (Z1 = true) ∧ True))) ∧ (True ∧ True)))))))))))))))))))))))) (Z1 && (Z1 && Z2)))) (decide (((h.getD k default).kind) = (1 : Int))))) (!sn)) (by kernel_rfl) (by kernel_rfl)
         ⟨tt,tt,(fun _ => trivial),(fun _ => trivial),(fun hG => ⟨⟨hG,tt⟩,⟨hG,tt⟩,(by omega),(by omega)⟩),(fun hG => ⟨hG,tt⟩),(fun hG => ⟨hG,tt⟩),(fun hG => ⟨⟨hG,tt⟩,tt,tt⟩),(fun _ => trivial),(fun _ => trivial),(fun _ => trivial),(fun hG => ⟨⟨hG,tt⟩,⟨hG,tt⟩,(by have hg0 : ((h.getD k default).kind) = (1 : Int) := of_decide_eq_true (and_r (and_r hG)); omega),(by have hg0 : ((h.getD k default).kind) = (1 : Int) := of_decide_eq_true (and_r (and_r hG)); omega)⟩),(fun hG => ⟨hG,tt⟩),(fun hG => ⟨hG,tt⟩),(fun _ => trivial),(fun _ => trivial),(fun hG => ⟨⟨hG,tt⟩,⟨hG,tt⟩,(by have hg0 : ((h.getD k default).kind) = (1 : Int) := of_decide_eq_true (and_r (and_r hG)); omega),(by have hg0 : ((h.getD k default).kind) = (1 : Int) := of_decide_eq_true (and_r (and_r hG)); omega)⟩),(fun hG => ⟨hG,tt⟩),(fun hG => ⟨hG,tt⟩),(fun hG => ⟨⟨hG,tt⟩,⟨hG,tt⟩,tt⟩),(fun hG => ⟨⟨hG,hG,tt⟩,(fun hp => ⟨(and_t hG (and_t hG hp)),tt⟩),(fun _ => trivial)⟩),⟨tt,(fun _ => trivial),(fun hp => ⟨(not_t hp),tt⟩)⟩,tt,tt⟩ ?_
        refine Kk cok tab26 hnt [] [0,3,4,5,123] (⟨[(0,.sl (.events h)),(3,.i ((i : Nat) : Int)),(4,.b (sn || ((decide (((h.getD k default).kind) = (1 : Int))) && (decide (((h.getD k default).proc) ≠ ((h.getD i default).proc)))))),(5,.i ((k : Nat) : Int)),(123,.b (decide (((h.getD i default).kind) = (1 : Int))))],[],[999]⟩)
         (True ∧ True ∧ (True ∧ True ∧ (0 ≤ ((i : Nat) : Int)) ∧ (((i : Nat) : Int) < (h.length : Int))) ∧ True ∧ True ∧ (True ∧ True ∧ True) ∧ True)
         ⟨tt,tt,⟨tt,tt,(by omega),(by omega)⟩,tt,tt,⟨tt,tt,tt⟩,tt⟩ ?_
        refine W.ifP (((h.getD i default).kind) = (1 : Int)) (.b (decide (((h.getD i default).kind) = (1 : Int)))) (by kernel_rfl) rfl trivial ?_ ?_
        ·intro h123
         refine Kk cok tab26 hnt [] [2] (⟨[(2,.b false)],[],[999]⟩)
          (True ∧ True)
          ⟨tt,tt⟩ ?_
         refine W.ret (blockQ_ret (thenQ_ret (thenQ_ret (blockQ_ret (thenQ_ret (blockQ_ret (thenQ_ret (thenQ_ret (blockQ_ret (thenQ_ret ?_))))))))))
         exact endQ_ret (.b false) (by kernel_rfl) (@cast ((.bool false : Value) = .bool (validE h)) _ (by kernel_rfl) (congrArg Value.bool (by exact sv_no (i := i) (by omega) (s_no2 (k := k) (by omega) h84 (.inr h123)))))
        ·intro n123
         refine W.skip (blockQ_normal (thenQ_normal ?_))
         refine Lk cok tab26 hnt [] (⟨[(0,.sl (.events h)),(3,.i ((i : Nat) : Int)),(4,.b (sn || ((decide (((h.getD k default).kind) = (1 : Int))) && (decide (((h.getD k default).proc) ≠ ((h.getD i default).proc)))))),(5,.i (((k + 1) : Nat) : Int)),(56,.i ((k : Nat) : Int)),(57,.i (((k + 1) : Nat) : Int)),(123,.b (decide (((h.getD i default).kind) = (1 : Int))))],[],[999]⟩)
          (True ∧ (True ∧ True ∧ (Fits .i64 (((k + 1) : Nat) : Int))) ∧ True ∧ True)
          ⟨tt,⟨tt,tt,(by exact fits_i64 (by omega) (by omega))⟩,tt,tt⟩ ?_
         refine thenQ_normal ?_
         refine ⟨((k + 1),(sn || ((decide (((h.getD k default).kind) = (1 : Int))) && (decide (((h.getD k default).proc) ≠ ((h.getD i default).proc)))))),(show ((k + 1) ≤ i) ∧ ((sn || ((decide (((h.getD k default).kind) = (1 : Int))) && (decide (((h.getD k default).proc) ≠ ((h.getD i default).proc))))) = sentUp h i (k + 1)) ∧ (∀ j,j < (k + 1) → noAt h i j = true) from ⟨(by first | assumption | omega | rfl | (intro _ hjj; omega) | (simp; done) | (simp; omega)),(by first | exact sent_hit hs h84 | exact sent_no hs n84),(by first | exact upto_succ hB (no_yes n95 n123) | exact upto_succ hB (no_hit n84))⟩),(show i - (k + 1) < i - k from (by first | omega | (simp_all; omega))),?_⟩
         exact Sub.of [] (@cast (((Sd (.events h)) ∧ (Si ((i : Nat) : Int)) ∧ (Sv (.bool (sn || ((decide (((h.getD k default).kind) = (1 : Int))) && (decide (((h.getD k default).proc) ≠ ((h.getD i default).proc))))))) ∧ (Si (((k + 1) : Nat) : Int)) ∧ True) ∧ True ∧ (true = true) ∧ (true = true)) _ (by kernel_rfl) ⟨⟨rfl,rfl,rfl,rfl,tt⟩,tt,rfl,rfl⟩)
      ·intro n84
       refine W.skip (blockQ_normal (thenQ_normal ?_))
       refine Lk cok tab26 hnt [] (⟨[(0,.sl (.events h)),(3,.i ((i : Nat) : Int)),(4,.b sn),(5,.i (((k + 1) : Nat) : Int)),(56,.i ((k : Nat) : Int)),(57,.i (((k + 1) : Nat) : Int)),(84,.b (((decide (((h.getD k default).kind) ≠ (0 : Int))) && (decide (((h.getD i default).kind) ≠ (0 : Int)))) && (decide (((h.getD k default).msg) = ((h.getD i default).msg)))))],[],[999]⟩)
        (True ∧ (True ∧ True ∧ (Fits .i64 (((k + 1) : Nat) : Int))) ∧ True ∧ True)
        ⟨tt,⟨tt,tt,(by exact fits_i64 (by omega) (by omega))⟩,tt,tt⟩ ?_
       refine thenQ_normal ?_
       refine ⟨((k + 1),sn),(show ((k + 1) ≤ i) ∧ (sn = sentUp h i (k + 1)) ∧ (∀ j,j < (k + 1) → noAt h i j = true) from ⟨(by first | assumption | omega | rfl | (intro _ hjj; omega) | (simp; done) | (simp; omega)),(by first | exact sent_hit hs h84 | exact sent_no hs n84),(by first | exact upto_succ hB (no_yes n95 n123) | exact upto_succ hB (no_hit n84))⟩),(show i - (k + 1) < i - k from (by first | omega | (simp_all; omega))),?_⟩
       exact Sub.of [] (@cast (((Sd (.events h)) ∧ (Si ((i : Nat) : Int)) ∧ (Sv (.bool sn)) ∧ (Si (((k + 1) : Nat) : Int)) ∧ True) ∧ True ∧ (true = true) ∧ (true = true)) _ (by kernel_rfl) ⟨⟨rfl,rfl,rfl,rfl,tt⟩,tt,rfl,rfl⟩)
     ·intro n55
      refine W.exit (thenQ_exit (thenQ_exit (blockQ_hit ?_)))
      refine thenQ_normal ?_
      refine Kk cok tab26 hnt [] [0,3,133] (⟨[(0,.sl (.events h)),(3,.i ((i : Nat) : Int)),(133,.b ((decide (((h.getD i default).kind) = (2 : Int))) && (!sn)))],[],[999]⟩)
       ((fun (Z1:Bool)=>(True ∧ (True ∧ ((True ∧ (True ∧ ((0 ≤ ((i : Nat) : Int)) ∧ (((i : Nat) : Int) < (h.length : Int))))) ∧ (True ∧ (True ∧ ((True ∧ (True ∧ True)) ∧ (True ∧ ((Z1 = true → True) ∧ ((Z1 = true → ((Z1 = true) ∧ True)) ∧ ((True ∧ ((Z1 = true → (Z1 = true) ∧ True) ∧ (Z1 = false → True))) ∧ True))))))))))) (decide (((h.getD i default).kind) = (2 : Int))))
       ⟨tt,tt,⟨tt,tt,(by omega),(by omega)⟩,tt,tt,⟨tt,tt,tt⟩,tt,(fun _ => trivial),(fun hG => ⟨hG,tt⟩),⟨tt,(fun hp => ⟨hp,tt⟩),(fun _ => trivial)⟩,tt⟩ ?_
      refine W.if' ((decide (((h.getD i default).kind) = (2 : Int))) && (!sn)) (.b ((decide (((h.getD i default).kind) = (2 : Int))) && (!sn))) (by kernel_rfl) rfl trivial ?_ ?_
      ·intro h133
       have h133_0 : ((h.getD i default).kind) = (2 : Int) := of_decide_eq_true (and_l h133)
       refine Kk cok tab26 hnt [] [2] (⟨[(2,.b false)],[],[999]⟩)
        (True ∧ True)
        ⟨tt,tt⟩ ?_
       refine W.ret (blockQ_ret (thenQ_ret (thenQ_ret (blockQ_ret (thenQ_ret ?_)))))
       exact endQ_ret (.b false) (by kernel_rfl) (@cast ((.bool false : Value) = .bool (validE h)) _ (by kernel_rfl) (congrArg Value.bool (by exact sv_no (i := i) (by omega) (s_no3 (show k = i by omega) hs h133))))
      ·intro n133
       refine W.skip (blockQ_normal (thenQ_normal ?_))
       refine Lk cok tab26 hnt [] (⟨[(0,.sl (.events h)),(3,.i (((i + 1) : Nat) : Int)),(10,.i ((i : Nat) : Int)),(11,.i (((i + 1) : Nat) : Int)),(133,.b ((decide (((h.getD i default).kind) = (2 : Int))) && (!sn)))],[],[999]⟩)
        (True ∧ (True ∧ True ∧ (Fits .i64 (((i + 1) : Nat) : Int))) ∧ True ∧ True)
        ⟨tt,⟨tt,tt,(by exact fits_i64 (by omega) (by omega))⟩,tt,tt⟩ ?_
       refine thenQ_normal ?_
       refine ⟨((i + 1)),(show ((i + 1) ≤ h.length) ∧ (∀ j,j < (i + 1) → sAt h j = true) from ⟨(by first | assumption | omega | rfl | (intro _ hjj; omega) | (simp; done) | (simp; omega)),(by exact upto_succ hA (s_yes (show k = i by omega) hs n52 hB n133))⟩),(show h.length - (i + 1) < h.length - i from (by first | omega | (simp_all; omega))),?_⟩
       exact Sub.of [] (@cast (((Sd (.events h)) ∧ (Si (((i + 1) : Nat) : Int)) ∧ True) ∧ True ∧ (true = true) ∧ (true = true)) _ (by kernel_rfl) ⟨⟨rfl,rfl,tt⟩,tt,rfl,rfl⟩)
  ·intro n9
   refine W.exit (thenQ_exit (thenQ_exit (blockQ_hit ?_)))
   refine thenQ_normal ?_
   refine Kk cok tab26 hnt [] [2] (⟨[(2,.b (decide ((h.length : Int) ≤ (7 : Int))))],[],[999]⟩)
    (True ∧ True ∧ (True ∧ True ∧ True) ∧ True ∧ True)
    ⟨tt,tt,⟨tt,tt,tt⟩,tt,tt⟩ ?_
   refine W.ret ?_
   exact endQ_ret (.b (decide ((h.length : Int) ≤ (7 : Int)))) (by kernel_rfl) (@cast ((.bool (decide ((h.length : Int) ≤ (7 : Int))) : Value) = .bool (validE h)) _ (by kernel_rfl) (congrArg Value.bool (by exact sv_yes (by omega) hA)))
theorem ent26 : Entr prog 26 := ⟨_,func26,rfl,by decide⟩
end Go.Proofs.Try

set_option linter.unusedSimpArgs false
set_option linter.unusedVariables false
namespace Go.Proofs.Try
open Go.Ab Go.RowKit
def fs19 : FnS := fnS [.o] [.int] (fun _ (n,_) => (.i (power n),[],(n ≤ 60)))
abbrev T19 : Tab := lk []
theorem tab19 : TabOK prog T19 := TabOK.nil
set_option maxRecDepth 100000 in
set_option maxHeartbeats 1000000 in
theorem ok19 : FnOK prog 19 fs19 := by
 refine FnOK.mk cok func19 rfl rfl rfl ?_
 rintro fl ⟨(n : Int),_⟩ hpre F hnt0 _
 have hnt : F.nt = 11 := hnt0.trans ntmps19
 replace hpre : (n ≤ 60) := hpre
 have hn := hpre
 refine W.to (⟨[(0,.i n)],[],[999]⟩) rfl ?_
 refine Kk cok tab19 hnt [] [0] (⟨[(0,.i n)],[],[999]⟩)
  (True ∧ True)
  ⟨tt,tt⟩ ?_
 refine Kk cok tab19 hnt [] [0,3] (⟨[(0,.i n),(3,.i (1 : Int))],[],[999]⟩)
  (True ∧ True)
  ⟨tt,tt⟩ ?_
 refine W.seq ?_
 refine W.block ?_
 refine W.loop (ι := Int × Int) (fun (x : Int × Int) => match x with | (k,x) => (⟨[(0,.i k),(3,.i x)],[],[999]⟩ : St))
  (fun (x : Int × Int) => match x with | (k,x) => (k ≤ n) ∧ (x * power k = power n) ∧ (1 ≤ x))
  (fun (x : Int × Int) => match x with | (k,x) => (k.toNat : Nat)) (n,(1 : Int)) ?_ ?_ ?_
 ·exact (show (n ≤ n) ∧ ((1 : Int) * power n = power n) ∧ (1 ≤ (1 : Int)) from ⟨(by first | assumption | omega | rfl | (intro _ hjj; omega) | (simp; done) | (simp; omega)),(by exact Int.one_mul _),(by first | assumption | omega | rfl | (intro _ hjj; omega) | (simp; done) | (simp; omega))⟩)
 ·exact Sub.of [] (@cast (((Si n) ∧ (Si (1 : Int)) ∧ True) ∧ True ∧ (true = true) ∧ (true = true)) _ (by kernel_rfl) ⟨⟨rfl,rfl,tt⟩,tt,rfl,rfl⟩)
 ·rintro ⟨k,x⟩ hC0
  have hC : (k ≤ n) ∧ (x * power k = power n) ∧ (1 ≤ x) := hC0
  clear hC0
  obtain ⟨hk,hx,hx0⟩ := hC
  refine W.to (⟨[(0,.i k),(3,.i x)],[],[999]⟩) rfl ?_
  have hp := power_le (n := n) hn
  have hxp : x ≤ power n := power_factor hx hx0
  refine W.seq ?_
  refine Kk cok tab19 hnt [] [0,3,5] (⟨[(0,.i k),(3,.i x),(5,.b (decide ((0 : Int) < k)))],[],[999]⟩)
   (True ∧ (True ∧ True ∧ True) ∧ True)
   ⟨tt,⟨tt,tt,tt⟩,tt⟩ ?_
  refine W.ifP ((0 : Int) < k) (.b (decide ((0 : Int) < k))) (by kernel_rfl) rfl trivial ?_ ?_
  ·intro h5
   refine W.skip (thenQ_normal ?_)
   refine W.seq ?_
   refine W.block ?_
   refine Lk cok tab19 hnt [] (⟨[(0,.i k),(3,.i ((2 : Int) * x)),(5,.b (decide ((0 : Int) < k))),(8,.i x),(9,.i ((2 : Int) * x))],[],[999]⟩)
    (True ∧ (True ∧ True ∧ (Fits .i64 ((2 : Int) * x))) ∧ True ∧ True)
    ⟨tt,⟨tt,tt,(by exact fits_i64 (by omega) (by omega))⟩,tt,tt⟩ ?_
   refine blockQ_normal (thenQ_normal ?_)
   refine Lk cok tab19 hnt [] (⟨[(0,.i (k - (1 : Int))),(3,.i ((2 : Int) * x)),(5,.b (decide ((0 : Int) < k))),(6,.i k),(7,.i (k - (1 : Int))),(8,.i x),(9,.i ((2 : Int) * x))],[],[999]⟩)
    (True ∧ (True ∧ True ∧ (Fits .i64 (k - (1 : Int)))) ∧ True ∧ True)
    ⟨tt,⟨tt,tt,(by exact fits_i64 (by omega) (by omega))⟩,tt,tt⟩ ?_
   refine thenQ_normal ?_
   refine ⟨((k - (1 : Int)),((2 : Int) * x)),(show ((k - (1 : Int)) ≤ n) ∧ (((2 : Int) * x) * power (k - (1 : Int)) = power n) ∧ (1 ≤ ((2 : Int) * x)) from ⟨(by first | assumption | omega | rfl | (intro _ hjj; omega) | (simp; done) | (simp; omega)),(by rw [← hx]; exact power_step h5),(by first | assumption | omega | rfl | (intro _ hjj; omega) | (simp; done) | (simp; omega))⟩),(show (k - (1 : Int)).toNat < k.toNat from (by first | omega | (simp_all; omega))),?_⟩
   exact Sub.of [] (@cast (((Si (k - (1 : Int))) ∧ (Si ((2 : Int) * x)) ∧ True) ∧ True ∧ (true = true) ∧ (true = true)) _ (by kernel_rfl) ⟨⟨rfl,rfl,tt⟩,tt,rfl,rfl⟩)
  ·intro n5
   refine W.exit (thenQ_exit (thenQ_exit (blockQ_hit ?_)))
   refine thenQ_normal ?_
   refine Kk cok tab19 hnt [] [2] (⟨[(2,.i x)],[],[999]⟩)
    (True ∧ True ∧ True)
    ⟨tt,tt,tt⟩ ?_
   refine W.ret ?_
   exact endQ_ret (.i x) (by kernel_rfl) (@cast ((.int .i64 x : Value) = .int .i64 (power n)) _ (by kernel_rfl) (congrArg (Value.int .i64) (by first | rfl | exact power_done hx n5)))
theorem ent19 : Entr prog 19 := ⟨_,func19,rfl,by decide⟩
end Go.Proofs.Try
