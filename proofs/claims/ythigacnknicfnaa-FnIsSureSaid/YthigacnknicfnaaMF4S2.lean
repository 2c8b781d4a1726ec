import Derived.Test.YthigacnknicfnaaMF4S0
import Derived.Test.YthigacnknicfnaaMF4S1
set_option linter.unusedSimpArgs false
set_option linter.unusedVariables false
namespace Go.Proofs.Try
open Go.Ab Go.RowKit
def fs31 : FnS := fnS [.s .ints,.o] [.ints,.int] (fun _ (l,s,_) => (.b (cutF l s.toNat),[],(0 ≤ s ∧ s < 4611686018427387904) ∧ (l.length ≤ 60) ∧ (∀ j,j < l.length → 0 ≤ l.getD j 0 ∧ l.getD j 0 < 4611686018427387904)))
abbrev T31 : Tab := lk []
theorem tab31 : TabOK prog T31 := TabOK.nil
set_option maxRecDepth 100000 in
set_option maxHeartbeats 1000000 in
theorem ok31 : FnOK prog 31 fs31 := by
 refine FnOK.mk cok func31 rfl rfl rfl ?_
 rintro fl ⟨(l : List Int),(s : Int),_⟩ hpre F hnt0 _
 have hnt : F.nt = 27 := hnt0.trans ntmps31
 replace hpre : (0 ≤ s ∧ s < 4611686018427387904) ∧ (l.length ≤ 60) ∧ (∀ j,j < l.length → 0 ≤ l.getD j 0 ∧ l.getD j 0 < 4611686018427387904) := hpre
 obtain ⟨hs,hn,hL⟩ := hpre
 refine W.to (⟨[(0,.sl (.ints l)),(1,.i s)],[],[999]⟩) rfl ?_
 refine W.lenOf 0 (.ints l) (by kernel_rfl) ?_
 intro hl_l; replace hl_l : List.length l ≤ 9223372036854775807 := hl_l
 refine Kk cok tab31 hnt [] [0,1] (⟨[(0,.sl (.ints l)),(1,.i s)],[],[999]⟩)
  (True ∧ True)
  ⟨tt,tt⟩ ?_
 refine W.seq ?_
 refine Kk cok tab31 hnt [] [1,7,8,9] (⟨[(1,.i s),(7,.sl (.ints l)),(8,.i (l.length : Int)),(9,.i (0 : Int))],[],[999]⟩)
  (True ∧ True ∧ True ∧ True)
  ⟨tt,tt,tt,tt⟩ ?_
 refine W.block ?_
 refine W.loop (ι := Nat) (fun (i : Nat) => (⟨[(1,.i s),(7,.sl (.ints l)),(8,.i (l.length : Int)),(9,.i ((i : Nat) : Int))],[],[999]⟩ : St))
  (fun (i : Nat) => (i ≤ l.length) ∧ (∀ j,j < i → cutAt l s.toNat j = true))
  (fun (i : Nat) => (l.length - i : Nat)) (0) ?_ ?_ ?_
 ·exact (show (0 ≤ l.length) ∧ (∀ j,j < 0 → cutAt l s.toNat j = true) from ⟨(by first | assumption | omega | rfl | (intro _ hjj; omega) | (simp; done) | (simp; omega)),(by exact upto_zero)⟩)
 ·exact Sub.of [] (@cast (((Si s) ∧ (Sd (.ints l)) ∧ (Si (l.length : Int)) ∧ ((.int .i64 (0 : Int) : Value) = .int .i64 ((0 : Nat) : Int)) ∧ True) ∧ True ∧ (true = true) ∧ (true = true)) _ (by kernel_rfl) ⟨⟨rfl,rfl,rfl,(congrArg (Value.int .i64) (by first | rfl | omega | assumption | simp | simp_all)),tt⟩,tt,rfl,rfl⟩)
 ·rintro i hC0
  have hC : (i ≤ l.length) ∧ (∀ j,j < i → cutAt l s.toNat j = true) := hC0
  clear hC0
  obtain ⟨hi,hA⟩ := hC
  refine W.to (⟨[(1,.i s),(7,.sl (.ints l)),(8,.i (l.length : Int)),(9,.i ((i : Nat) : Int))],[],[999]⟩) rfl ?_
  refine Kk cok tab31 hnt [] [1,7,8,9,10] (⟨[(1,.i s),(7,.sl (.ints l)),(8,.i (l.length : Int)),(9,.i ((i : Nat) : Int)),(10,.b (decide (((i : Nat) : Int) < (l.length : Int))))],[],[999]⟩)
   ((True ∧ True ∧ True) ∧ True)
   ⟨⟨tt,tt,tt⟩,tt⟩ ?_
  refine W.seq ?_
  refine W.ifP (((i : Nat) : Int) < (l.length : Int)) (.b (decide (((i : Nat) : Int) < (l.length : Int)))) (by kernel_rfl) rfl trivial ?_ ?_
  ·intro h10
   refine W.skip (thenQ_normal ?_)
   refine W.seq ?_
   refine W.block ?_
   refine Kk cok tab31 hnt [] [1,5,6,7,8,9] (⟨[(1,.i s),(5,.i ((i : Nat) : Int)),(6,.i (l.getD i 0)),(7,.sl (.ints l)),(8,.i (l.length : Int)),(9,.i ((i : Nat) : Int))],[],[999]⟩)
    (True ∧ (True ∧ True ∧ (0 ≤ ((i : Nat) : Int)) ∧ (((i : Nat) : Int) < (l.length : Int))) ∧ True ∧ True ∧ True ∧ True)
    ⟨tt,⟨tt,tt,(by omega),(by omega)⟩,tt,tt,tt,tt⟩ ?_
   refine Kk cok tab31 hnt [] [1,7,8,9,25] (⟨[(1,.i s),(7,.sl (.ints l)),(8,.i (l.length : Int)),(9,.i ((i : Nat) : Int)),(25,.b ((decide ((bitsI .and .i64 (shrI .i64 s ((i : Nat) : Int)) (1 : Int)) = (1 : Int))) && (decide ((bitsI .andNot .i64 (l.getD i 0) s) ≠ (0 : Int)))))],[],[999]⟩)
    ((fun (Z1:Bool)=>(True ∧ (True ∧ ((True ∧ (Fits .u64 ((i : Nat) : Int))) ∧ ((True ∧ (True ∧ (0 ≤ ((i : Nat) : Int)))) ∧ ((True ∧ (True ∧ True)) ∧ ((True ∧ (True ∧ True)) ∧ (True ∧ ((Z1 = true → True) ∧ ((Z1 = true → True) ∧ ((Z1 = true → (((Z1 = true) ∧ True) ∧ (((Z1 = true) ∧ True) ∧ True))) ∧ ((Z1 = true → (((Z1 = true) ∧ True) ∧ (True ∧ True))) ∧ ((True ∧ ((Z1 = true → (Z1 = true) ∧ True) ∧ (Z1 = false → True))) ∧ True))))))))))))) (decide ((bitsI .and .i64 (shrI .i64 s ((i : Nat) : Int)) (1 : Int)) = (1 : Int))))
    ⟨tt,tt,⟨tt,(by exact fits_u64 (by omega) (by omega))⟩,⟨tt,tt,(by omega)⟩,⟨tt,tt,tt⟩,⟨tt,tt,tt⟩,tt,(fun _ => trivial),(fun _ => trivial),(fun hG => ⟨⟨hG,tt⟩,⟨hG,tt⟩,tt⟩),(fun hG => ⟨⟨hG,tt⟩,tt,tt⟩),⟨tt,(fun hp => ⟨hp,tt⟩),(fun _ => trivial)⟩,tt⟩ ?_
   refine W.if' ((decide ((bitsI .and .i64 (shrI .i64 s ((i : Nat) : Int)) (1 : Int)) = (1 : Int))) && (decide ((bitsI .andNot .i64 (l.getD i 0) s) ≠ (0 : Int)))) (.b ((decide ((bitsI .and .i64 (shrI .i64 s ((i : Nat) : Int)) (1 : Int)) = (1 : Int))) && (decide ((bitsI .andNot .i64 (l.getD i 0) s) ≠ (0 : Int))))) (by kernel_rfl) rfl trivial ?_ ?_
   ·intro h25
    have h25_0 : (bitsI .and .i64 (shrI .i64 s ((i : Nat) : Int)) (1 : Int)) = (1 : Int) := of_decide_eq_true (and_l h25)
    have h25_1 : (bitsI .andNot .i64 (l.getD i 0) s) ≠ (0 : Int) := of_decide_eq_true (and_r h25)
    refine Kk cok tab31 hnt [] [4] (⟨[(4,.b false)],[],[999]⟩)
     (True ∧ True)
     ⟨tt,tt⟩ ?_
    refine W.ret (blockQ_ret (thenQ_ret (thenQ_ret (blockQ_ret (thenQ_ret ?_)))))
    exact endQ_ret (.b false) (by kernel_rfl) (@cast ((.bool false : Value) = .bool (cutF l s.toNat)) _ (by kernel_rfl) (congrArg Value.bool (by exact (allN_false (i := i) (by omega) (cut_impl hs (by omega) (hL i (by omega)) h25)).symm)))
   ·intro n25
    refine W.skip (blockQ_normal (thenQ_normal ?_))
    refine Lk cok tab31 hnt [] (⟨[(1,.i s),(7,.sl (.ints l)),(8,.i (l.length : Int)),(9,.i (((i + 1) : Nat) : Int)),(25,.b ((decide ((bitsI .and .i64 (shrI .i64 s ((i : Nat) : Int)) (1 : Int)) = (1 : Int))) && (decide ((bitsI .andNot .i64 (l.getD i 0) s) ≠ (0 : Int))))),(26,.i (((i + 1) : Nat) : Int))],[],[999]⟩)
     ((True ∧ True ∧ (Fits .i64 (((i + 1) : Nat) : Int))) ∧ True ∧ True)
     ⟨⟨tt,tt,(by exact fits_i64 (by omega) (by omega))⟩,tt,tt⟩ ?_
    refine thenQ_normal ?_
    refine ⟨((i + 1)),(show ((i + 1) ≤ l.length) ∧ (∀ j,j < (i + 1) → cutAt l s.toNat j = true) from ⟨(by first | assumption | omega | rfl | (intro _ hjj; omega) | (simp; done) | (simp; omega)),(by exact upto_succ hA (cut_impl hs (by omega) (hL i (by omega)) n25))⟩),(show l.length - (i + 1) < l.length - i from (by first | omega | (simp_all; omega))),?_⟩
    exact Sub.of [] (@cast (((Si s) ∧ (Sd (.ints l)) ∧ (Si (l.length : Int)) ∧ (Si (((i + 1) : Nat) : Int)) ∧ True) ∧ True ∧ (true = true) ∧ (true = true)) _ (by kernel_rfl) ⟨⟨rfl,rfl,rfl,rfl,tt⟩,tt,rfl,rfl⟩)
  ·intro n10
   refine W.exit (thenQ_exit (thenQ_exit (blockQ_hit ?_)))
   refine thenQ_normal ?_
   refine Kk cok tab31 hnt [] [4] (⟨[(4,.b true)],[],[999]⟩)
    (True ∧ True)
    ⟨tt,tt⟩ ?_
   refine W.ret ?_
   exact endQ_ret (.b true) (by kernel_rfl) (@cast ((.bool true : Value) = .bool (cutF l s.toNat)) _ (by kernel_rfl) (congrArg Value.bool (by exact (allN_true (fun j hj => hA j (by omega))).symm)))
theorem ent31 : Entr prog 31 := ⟨_,func31,rfl,by decide⟩
end Go.Proofs.Try

set_option linter.unusedSimpArgs false
set_option linter.unusedVariables false
namespace Go.Proofs.Try
open Go.Ab Go.RowKit
def fs25 : FnS := fnS [.s .events,.o,.o] [.events,.int,.int] (fun _ (h,c,mk,_) => (.b (markedE h mk.toNat c.toNat),[],(h.length ≤ 60) ∧ (0 ≤ c ∧ c < 4611686018427387904) ∧ (0 ≤ mk ∧ mk < 4611686018427387904)))
abbrev T25 : Tab := lk []
theorem tab25 : TabOK prog T25 := TabOK.nil
set_option maxRecDepth 100000 in
set_option maxHeartbeats 1000000 in
theorem ok25 : FnOK prog 25 fs25 := by
 refine FnOK.mk cok func25 rfl rfl rfl ?_
 rintro fl ⟨(h : List EventD),(c : Int),(mk : Int),_⟩ hpre F hnt0 _
 have hnt : F.nt = 46 := hnt0.trans ntmps25
 replace hpre : (h.length ≤ 60) ∧ (0 ≤ c ∧ c < 4611686018427387904) ∧ (0 ≤ mk ∧ mk < 4611686018427387904) := hpre
 obtain ⟨hn,hc,hm⟩ := hpre
 refine W.to (⟨[(0,.sl (.events h)),(1,.i c),(2,.i mk)],[],[999]⟩) rfl ?_
 refine W.lenOf 0 (.events h) (by kernel_rfl) ?_
 intro hl_h; replace hl_h : List.length h ≤ 9223372036854775807 := hl_h
 refine Kk cok tab25 hnt [] [0,1,2] (⟨[(0,.sl (.events h)),(1,.i c),(2,.i mk)],[],[999]⟩)
  (True ∧ True)
  ⟨tt,tt⟩ ?_
 refine W.seq ?_
 refine Kk cok tab25 hnt [] [0,1,2,11] (⟨[(0,.sl (.events h)),(1,.i c),(2,.i mk),(11,.i (0 : Int))],[],[999]⟩)
  (True ∧ True)
  ⟨tt,tt⟩ ?_
 refine W.block ?_
 refine W.loop (ι := Nat) (fun (p : Nat) => (⟨[(0,.sl (.events h)),(1,.i c),(2,.i mk),(11,.i ((p : Nat) : Int))],[],[999]⟩ : St))
  (fun (p : Nat) => (p ≤ 3) ∧ (∀ j,j < p → markedAt h mk.toNat c.toNat j = true))
  (fun (p : Nat) => (3 - p : Nat)) (0) ?_ ?_ ?_
 ·exact (show (0 ≤ 3) ∧ (∀ j,j < 0 → markedAt h mk.toNat c.toNat j = true) from ⟨(by first | assumption | omega | rfl | (intro _ hjj; omega) | (simp; done) | (simp; omega)),(by exact upto_zero)⟩)
 ·exact Sub.of [] (@cast (((Sd (.events h)) ∧ (Si c) ∧ (Si mk) ∧ ((.int .i64 (0 : Int) : Value) = .int .i64 ((0 : Nat) : Int)) ∧ True) ∧ True ∧ (true = true) ∧ (true = true)) _ (by kernel_rfl) ⟨⟨rfl,rfl,rfl,(congrArg (Value.int .i64) (by first | rfl | omega | assumption | simp | simp_all)),tt⟩,tt,rfl,rfl⟩)
 ·rintro p hC0
  have hC : (p ≤ 3) ∧ (∀ j,j < p → markedAt h mk.toNat c.toNat j = true) := hC0
  clear hC0
  obtain ⟨hp,hA⟩ := hC
  refine W.to (⟨[(0,.sl (.events h)),(1,.i c),(2,.i mk),(11,.i ((p : Nat) : Int))],[],[999]⟩) rfl ?_
  refine Kk cok tab25 hnt [] [0,1,2,11,12] (⟨[(0,.sl (.events h)),(1,.i c),(2,.i mk),(11,.i ((p : Nat) : Int)),(12,.b (decide (((p : Nat) : Int) < (3 : Int))))],[],[999]⟩)
   ((True ∧ True ∧ True) ∧ True)
   ⟨⟨tt,tt,tt⟩,tt⟩ ?_
  refine W.seq ?_
  refine W.ifP (((p : Nat) : Int) < (3 : Int)) (.b (decide (((p : Nat) : Int) < (3 : Int)))) (by kernel_rfl) rfl trivial ?_ ?_
  ·intro h12
   refine W.skip (thenQ_normal ?_)
   refine W.seq ?_
   refine W.block ?_
   refine Kk cok tab25 hnt [] [0,1,2,7,11] (⟨[(0,.sl (.events h)),(1,.i c),(2,.i mk),(7,.i ((p : Nat) : Int)),(11,.i ((p : Nat) : Int))],[],[999]⟩)
    (True ∧ True ∧ True)
    ⟨tt,tt,tt⟩ ?_
   refine Kk cok tab25 hnt [] [0,1,2,7,8,11] (⟨[(0,.sl (.events h)),(1,.i c),(2,.i mk),(7,.i ((p : Nat) : Int)),(8,.i (-1 : Int)),(11,.i ((p : Nat) : Int))],[],[999]⟩)
    (True ∧ True)
    ⟨tt,tt⟩ ?_
   refine W.seq ?_
   refine Kk cok tab25 hnt [] [0,1,2,7,8,11,14,15,16] (⟨[(0,.sl (.events h)),(1,.i c),(2,.i mk),(7,.i ((p : Nat) : Int)),(8,.i (-1 : Int)),(11,.i ((p : Nat) : Int)),(14,.sl (.events h)),(15,.i (h.length : Int)),(16,.i (0 : Int))],[],[999]⟩)
    (True ∧ True ∧ True ∧ True)
    ⟨tt,tt,tt,tt⟩ ?_
   refine W.block ?_
   refine W.loop (ι := Int × Nat) (fun (x : Int × Nat) => match x with | (x,k) => (⟨[(0,.sl (.events h)),(1,.i c),(2,.i mk),(7,.i ((p : Nat) : Int)),(8,.i x),(11,.i ((p : Nat) : Int)),(14,.sl (.events h)),(15,.i (h.length : Int)),(16,.i ((k : Nat) : Int))],[],[999]⟩ : St))
    (fun (x : Int × Nat) => match x with | (x,k) => (k ≤ h.length) ∧ (x = lastE h c.toNat ((p : Nat) : Int) k))
    (fun (x : Int × Nat) => match x with | (x,k) => (h.length - k : Nat)) ((-1 : Int),0) ?_ ?_ ?_
   ·exact (show (0 ≤ h.length) ∧ ((-1 : Int) = lastE h c.toNat ((p : Nat) : Int) 0) from ⟨(by first | assumption | omega | rfl | (intro _ hjj; omega) | (simp; done) | (simp; omega)),(by rfl)⟩)
   ·exact Sub.of [] (@cast (((Sd (.events h)) ∧ (Si c) ∧ (Si mk) ∧ (Si ((p : Nat) : Int)) ∧ (Si (-1 : Int)) ∧ (Si ((p : Nat) : Int)) ∧ (Sd (.events h)) ∧ (Si (h.length : Int)) ∧ ((.int .i64 (0 : Int) : Value) = .int .i64 ((0 : Nat) : Int)) ∧ True) ∧ True ∧ (true = true) ∧ (true = true)) _ (by kernel_rfl) ⟨⟨rfl,rfl,rfl,rfl,rfl,rfl,rfl,rfl,(congrArg (Value.int .i64) (by first | rfl | omega | assumption | simp | simp_all)),tt⟩,tt,rfl,rfl⟩)
   ·rintro ⟨x,k⟩ hC0
    have hC : (k ≤ h.length) ∧ (x = lastE h c.toNat ((p : Nat) : Int) k) := hC0
    clear hC0
    obtain ⟨hk,hx⟩ := hC
    refine W.to (⟨[(0,.sl (.events h)),(1,.i c),(2,.i mk),(7,.i ((p : Nat) : Int)),(8,.i x),(11,.i ((p : Nat) : Int)),(14,.sl (.events h)),(15,.i (h.length : Int)),(16,.i ((k : Nat) : Int))],[],[999]⟩) rfl ?_
    have hbd := lastE_bnd h c.toNat ((p : Nat) : Int) k
    rw [← hx] at hbd
    refine Kk cok tab25 hnt [] [0,1,2,7,8,11,14,15,16,17] (⟨[(0,.sl (.events h)),(1,.i c),(2,.i mk),(7,.i ((p : Nat) : Int)),(8,.i x),(11,.i ((p : Nat) : Int)),(14,.sl (.events h)),(15,.i (h.length : Int)),(16,.i ((k : Nat) : Int)),(17,.b (decide (((k : Nat) : Int) < (h.length : Int))))],[],[999]⟩)
     ((True ∧ True ∧ True) ∧ True)
     ⟨⟨tt,tt,tt⟩,tt⟩ ?_
    refine W.seq ?_
    refine W.ifP (((k : Nat) : Int) < (h.length : Int)) (.b (decide (((k : Nat) : Int) < (h.length : Int)))) (by kernel_rfl) rfl trivial ?_ ?_
    ·intro h17
     refine W.skip (thenQ_normal ?_)
     refine W.seq ?_
     refine W.block ?_
     refine Kk cok tab25 hnt [] [0,1,2,7,8,9,10,11,14,15,16] (⟨[(0,.sl (.events h)),(1,.i c),(2,.i mk),(7,.i ((p : Nat) : Int)),(8,.i x),(9,.i ((k : Nat) : Int)),(10,.ptr 10 0),(11,.i ((p : Nat) : Int)),(14,.sl (.events h)),(15,.i (h.length : Int)),(16,.i ((k : Nat) : Int))],[(10,⟨47,.fix [.i ((h.getD k default).proc),.i ((h.getD k default).kind),.i ((h.getD k default).msg)]⟩)],[10,999]⟩)
      (True ∧ (True ∧ True ∧ (0 ≤ ((k : Nat) : Int)) ∧ (((k : Nat) : Int) < (h.length : Int))) ∧ True ∧ True ∧ True ∧ (True ∧ True) ∧ True)
      ⟨tt,⟨tt,tt,(by omega),(by omega)⟩,tt,tt,tt,⟨tt,tt⟩,tt⟩ ?_
     refine Kk cok tab25 hnt [] [0,1,2,7,8,9,11,14,15,16,32] (⟨[(0,.sl (.events h)),(1,.i c),(2,.i mk),(7,.i ((p : Nat) : Int)),(8,.i x),(9,.i ((k : Nat) : Int)),(11,.i ((p : Nat) : Int)),(14,.sl (.events h)),(15,.i (h.length : Int)),(16,.i ((k : Nat) : Int)),(32,.b ((decide (((h.getD k default).proc) = ((p : Nat) : Int))) && (decide ((bitsI .and .i64 (shrI .i64 c ((k : Nat) : Int)) (1 : Int)) = (1 : Int)))))],[(10,⟨47,.fix [.i ((h.getD k default).proc),.i ((h.getD k default).kind),.i ((h.getD k default).msg)]⟩)],[10,999]⟩)
      ((fun (Z1:Bool)=>(True ∧ (True ∧ (True ∧ ((True ∧ (True ∧ True)) ∧ (True ∧ ((Z1 = true → True) ∧ ((Z1 = true → True) ∧ ((Z1 = true → (((Z1 = true) ∧ True) ∧ (Fits .u64 ((k : Nat) : Int)))) ∧ ((Z1 = true → (((Z1 = true) ∧ True) ∧ (((Z1 = true) ∧ True) ∧ (0 ≤ ((k : Nat) : Int))))) ∧ ((Z1 = true → (((Z1 = true) ∧ True) ∧ (True ∧ True))) ∧ ((Z1 = true → (((Z1 = true) ∧ True) ∧ (True ∧ True))) ∧ ((True ∧ ((Z1 = true → (Z1 = true) ∧ True) ∧ (Z1 = false → True))) ∧ True))))))))))))) (decide (((h.getD k default).proc) = ((p : Nat) : Int))))
      ⟨tt,tt,tt,⟨tt,tt,tt⟩,tt,(fun _ => trivial),(fun _ => trivial),(fun hG => ⟨⟨hG,tt⟩,(by have hg0 : ((h.getD k default).proc) = ((p : Nat) : Int) := of_decide_eq_true hG; exact fits_u64 (by omega) (by omega))⟩),(fun hG => ⟨⟨hG,tt⟩,⟨hG,tt⟩,(by have hg0 : ((h.getD k default).proc) = ((p : Nat) : Int) := of_decide_eq_true hG; omega)⟩),(fun hG => ⟨⟨hG,tt⟩,tt,tt⟩),(fun hG => ⟨⟨hG,tt⟩,tt,tt⟩),⟨tt,(fun hp => ⟨hp,tt⟩),(fun _ => trivial)⟩,tt⟩ ?_
     refine W.if' ((decide (((h.getD k default).proc) = ((p : Nat) : Int))) && (decide ((bitsI .and .i64 (shrI .i64 c ((k : Nat) : Int)) (1 : Int)) = (1 : Int)))) (.b ((decide (((h.getD k default).proc) = ((p : Nat) : Int))) && (decide ((bitsI .and .i64 (shrI .i64 c ((k : Nat) : Int)) (1 : Int)) = (1 : Int))))) (by kernel_rfl) rfl trivial ?_ ?_
     ·intro h32
      have h32_0 : ((h.getD k default).proc) = ((p : Nat) : Int) := of_decide_eq_true (and_l h32)
      have h32_1 : (bitsI .and .i64 (shrI .i64 c ((k : Nat) : Int)) (1 : Int)) = (1 : Int) := of_decide_eq_true (and_r h32)
      refine Lk cok tab25 hnt [] (⟨[(0,.sl (.events h)),(1,.i c),(2,.i mk),(7,.i ((p : Nat) : Int)),(8,.i ((k : Nat) : Int)),(9,.i ((k : Nat) : Int)),(11,.i ((p : Nat) : Int)),(14,.sl (.events h)),(15,.i (h.length : Int)),(16,.i ((k : Nat) : Int)),(32,.b ((decide (((h.getD k default).proc) = ((p : Nat) : Int))) && (decide ((bitsI .and .i64 (shrI .i64 c ((k : Nat) : Int)) (1 : Int)) = (1 : Int))))),(33,.i ((k : Nat) : Int))],[(10,⟨47,.fix [.i ((h.getD k default).proc),.i ((h.getD k default).kind),.i ((h.getD k default).msg)]⟩)],[10,999]⟩)
       (True ∧ True ∧ True)
       ⟨tt,tt,tt⟩ ?_
      refine blockQ_normal (thenQ_normal ?_)
      refine Lk cok tab25 hnt [] (⟨[(0,.sl (.events h)),(1,.i c),(2,.i mk),(7,.i ((p : Nat) : Int)),(8,.i ((k : Nat) : Int)),(9,.i ((k : Nat) : Int)),(11,.i ((p : Nat) : Int)),(14,.sl (.events h)),(15,.i (h.length : Int)),(16,.i (((k + 1) : Nat) : Int)),(32,.b ((decide (((h.getD k default).proc) = ((p : Nat) : Int))) && (decide ((bitsI .and .i64 (shrI .i64 c ((k : Nat) : Int)) (1 : Int)) = (1 : Int))))),(33,.i ((k : Nat) : Int)),(34,.i (((k + 1) : Nat) : Int))],[(10,⟨47,.fix [.i ((h.getD k default).proc),.i ((h.getD k default).kind),.i ((h.getD k default).msg)]⟩)],[10,999]⟩)
       ((True ∧ True ∧ (Fits .i64 (((k + 1) : Nat) : Int))) ∧ True ∧ True)
       ⟨⟨tt,tt,(by exact fits_i64 (by omega) (by omega))⟩,tt,tt⟩ ?_
      refine thenQ_normal ?_
      refine ⟨(((k : Nat) : Int),(k + 1)),(show ((k + 1) ≤ h.length) ∧ (((k : Nat) : Int) = lastE h c.toNat ((p : Nat) : Int) (k + 1)) from ⟨(by first | assumption | omega | rfl | (intro _ hjj; omega) | (simp; done) | (simp; omega)),(by first | exact (lastI_yes hc (by omega) h32).symm | (rw [hx]; exact (lastI_no hc (by omega) n32).symm))⟩),(show h.length - (k + 1) < h.length - k from (by first | omega | (simp_all; omega))),?_⟩
      exact Sub.of [] (@cast (((Sd (.events h)) ∧ (Si c) ∧ (Si mk) ∧ (Si ((p : Nat) : Int)) ∧ (Si ((k : Nat) : Int)) ∧ (Si ((p : Nat) : Int)) ∧ (Sd (.events h)) ∧ (Si (h.length : Int)) ∧ (Si (((k + 1) : Nat) : Int)) ∧ True) ∧ True ∧ (true = true) ∧ (true = true)) _ (by kernel_rfl) ⟨⟨rfl,rfl,rfl,rfl,rfl,rfl,rfl,rfl,rfl,tt⟩,tt,rfl,rfl⟩)
     ·intro n32
      refine W.skip (blockQ_normal (thenQ_normal ?_))
      refine Lk cok tab25 hnt [] (⟨[(0,.sl (.events h)),(1,.i c),(2,.i mk),(7,.i ((p : Nat) : Int)),(8,.i x),(9,.i ((k : Nat) : Int)),(11,.i ((p : Nat) : Int)),(14,.sl (.events h)),(15,.i (h.length : Int)),(16,.i (((k + 1) : Nat) : Int)),(32,.b ((decide (((h.getD k default).proc) = ((p : Nat) : Int))) && (decide ((bitsI .and .i64 (shrI .i64 c ((k : Nat) : Int)) (1 : Int)) = (1 : Int))))),(34,.i (((k + 1) : Nat) : Int))],[(10,⟨47,.fix [.i ((h.getD k default).proc),.i ((h.getD k default).kind),.i ((h.getD k default).msg)]⟩)],[10,999]⟩)
       ((True ∧ True ∧ (Fits .i64 (((k + 1) : Nat) : Int))) ∧ True ∧ True)
       ⟨⟨tt,tt,(by exact fits_i64 (by omega) (by omega))⟩,tt,tt⟩ ?_
      refine thenQ_normal ?_
      refine ⟨(x,(k + 1)),(show ((k + 1) ≤ h.length) ∧ (x = lastE h c.toNat ((p : Nat) : Int) (k + 1)) from ⟨(by first | assumption | omega | rfl | (intro _ hjj; omega) | (simp; done) | (simp; omega)),(by first | exact (lastI_yes hc (by omega) h32).symm | (rw [hx]; exact (lastI_no hc (by omega) n32).symm))⟩),(show h.length - (k + 1) < h.length - k from (by first | omega | (simp_all; omega))),?_⟩
      exact Sub.of [] (@cast (((Sd (.events h)) ∧ (Si c) ∧ (Si mk) ∧ (Si ((p : Nat) : Int)) ∧ (Si x) ∧ (Si ((p : Nat) : Int)) ∧ (Sd (.events h)) ∧ (Si (h.length : Int)) ∧ (Si (((k + 1) : Nat) : Int)) ∧ True) ∧ True ∧ (true = true) ∧ (true = true)) _ (by kernel_rfl) ⟨⟨rfl,rfl,rfl,rfl,rfl,rfl,rfl,rfl,rfl,tt⟩,tt,rfl,rfl⟩)
    ·intro n17
     refine W.exit (thenQ_exit (thenQ_exit (blockQ_hit ?_)))
     refine thenQ_normal ?_
     refine Kk cok tab25 hnt [] [0,1,2,11,44] (⟨[(0,.sl (.events h)),(1,.i c),(2,.i mk),(11,.i ((p : Nat) : Int)),(44,.b ((decide (x < (0 : Int))) || (decide ((bitsI .and .i64 (shrI .i64 mk x) (1 : Int)) = (0 : Int)))))],[],[999]⟩)
      ((fun (Z1:Bool)=>(True ∧ ((True ∧ (True ∧ True)) ∧ (True ∧ (((!Z1) = true → True) ∧ (((!Z1) = true → True) ∧ (((!Z1) = true → ((((!Z1) = true) ∧ True) ∧ (Fits .u64 x))) ∧ (((!Z1) = true → ((((!Z1) = true) ∧ True) ∧ ((((!Z1) = true) ∧ True) ∧ (0 ≤ x)))) ∧ (((!Z1) = true → ((((!Z1) = true) ∧ True) ∧ (True ∧ True))) ∧ (((!Z1) = true → ((((!Z1) = true) ∧ True) ∧ (True ∧ True))) ∧ ((True ∧ ((Z1 = true → True) ∧ (Z1 = false → ((!Z1) = true) ∧ True))) ∧ True))))))))))) (decide (x < (0 : Int))))
      ⟨tt,⟨tt,tt,tt⟩,tt,(fun _ => trivial),(fun _ => trivial),(fun hG => ⟨⟨hG,tt⟩,(by have hg0 : ¬ (x < (0 : Int)) := of_decide_eq_false (not_f hG); exact fits_u64 (by omega) (by omega))⟩),(fun hG => ⟨⟨hG,tt⟩,⟨hG,tt⟩,(by have hg0 : ¬ (x < (0 : Int)) := of_decide_eq_false (not_f hG); omega)⟩),(fun hG => ⟨⟨hG,tt⟩,tt,tt⟩),(fun hG => ⟨⟨hG,tt⟩,tt,tt⟩),⟨tt,(fun _ => trivial),(fun hp => ⟨(not_t hp),tt⟩)⟩,tt⟩ ?_
     refine W.if' ((decide (x < (0 : Int))) || (decide ((bitsI .and .i64 (shrI .i64 mk x) (1 : Int)) = (0 : Int)))) (.b ((decide (x < (0 : Int))) || (decide ((bitsI .and .i64 (shrI .i64 mk x) (1 : Int)) = (0 : Int))))) (by kernel_rfl) rfl trivial ?_ ?_
     ·intro h44
      refine Kk cok tab25 hnt [] [6] (⟨[(6,.b false)],[],[999]⟩)
       (True ∧ True)
       ⟨tt,tt⟩ ?_
      refine W.ret (blockQ_ret (thenQ_ret (thenQ_ret (blockQ_ret (thenQ_ret ?_)))))
      exact endQ_ret (.b false) (by kernel_rfl) (@cast ((.bool false : Value) = .bool (markedE h mk.toNat c.toNat)) _ (by kernel_rfl) (congrArg Value.bool (by rw [show k = h.length by omega] at hx; exact (allN_false (i := p) (by omega) (markI hm hn hx h44)).symm)))
     ·intro n44
      have n44_0 : ¬ (x < (0 : Int)) := of_decide_eq_false (or_l n44)
      have n44_1 : ¬ ((bitsI .and .i64 (shrI .i64 mk x) (1 : Int)) = (0 : Int)) := of_decide_eq_false (or_r n44)
      refine W.skip (blockQ_normal (thenQ_normal ?_))
      refine Lk cok tab25 hnt [] (⟨[(0,.sl (.events h)),(1,.i c),(2,.i mk),(11,.i (((p + 1) : Nat) : Int)),(44,.b ((decide (x < (0 : Int))) || (decide ((bitsI .and .i64 (shrI .i64 mk x) (1 : Int)) = (0 : Int))))),(45,.i (((p + 1) : Nat) : Int))],[],[999]⟩)
       ((True ∧ True ∧ (Fits .i64 (((p + 1) : Nat) : Int))) ∧ True ∧ True)
       ⟨⟨tt,tt,(by exact fits_i64 (by omega) (by omega))⟩,tt,tt⟩ ?_
      refine thenQ_normal ?_
      refine ⟨((p + 1)),(show ((p + 1) ≤ 3) ∧ (∀ j,j < (p + 1) → markedAt h mk.toNat c.toNat j = true) from ⟨(by first | assumption | omega | rfl | (intro _ hjj; omega) | (simp; done) | (simp; omega)),(by rw [show k = h.length by omega] at hx; exact upto_succ hA (markI hm hn hx n44))⟩),(show 3 - (p + 1) < 3 - p from (by first | omega | (simp_all; omega))),?_⟩
      exact Sub.of [] (@cast (((Sd (.events h)) ∧ (Si c) ∧ (Si mk) ∧ (Si (((p + 1) : Nat) : Int)) ∧ True) ∧ True ∧ (true = true) ∧ (true = true)) _ (by kernel_rfl) ⟨⟨rfl,rfl,rfl,rfl,tt⟩,tt,rfl,rfl⟩)
  ·intro n12
   refine W.exit (thenQ_exit (thenQ_exit (blockQ_hit ?_)))
   refine thenQ_normal ?_
   refine Kk cok tab25 hnt [] [6] (⟨[(6,.b true)],[],[999]⟩)
    (True ∧ True)
    ⟨tt,tt⟩ ?_
   refine W.ret ?_
   exact endQ_ret (.b true) (by kernel_rfl) (@cast ((.bool true : Value) = .bool (markedE h mk.toNat c.toNat)) _ (by kernel_rfl) (congrArg Value.bool (by exact (allN_true (fun j hj => hA j (by omega))).symm)))
theorem ent25 : Entr prog 25 := ⟨_,func25,rfl,by decide⟩
end Go.Proofs.Try

set_option linter.unusedSimpArgs false
set_option linter.unusedVariables false
namespace Go.Proofs.Try
open Go.Ab Go.RowKit
def fs33 : FnS := fnS [.o,.o,.o] [.int,(.ep .events),(.ep .int)] (fun _ (c,h,mk,_) => (.b (!markedE h mk.toNat c.toNat),[],(h.length ≤ 60) ∧ (0 ≤ c ∧ c < 4611686018427387904) ∧ (0 ≤ mk ∧ mk < 4611686018427387904)))
abbrev T33 : Tab := lk [(25,fs25)]
theorem tab33 : TabOK prog T33 := (TabOK.cons ok25 ent25 TabOK.nil)
set_option maxRecDepth 100000 in
set_option maxHeartbeats 1000000 in
theorem ok33 : FnOK prog 33 fs33 := by
 refine FnOK.mk cok func33 rfl rfl rfl ?_
 rintro fl ⟨(c : Int),(h : List EventD),(mk : Int),_⟩ hpre F hnt0 _
 have hnt : F.nt = 10 := hnt0.trans ntmps33
 replace hpre : (h.length ≤ 60) ∧ (0 ≤ c ∧ c < 4611686018427387904) ∧ (0 ≤ mk ∧ mk < 4611686018427387904) := hpre
 obtain ⟨hn,hc,hm⟩ := hpre
 refine W.to (⟨[(0,.i c),(1,.ep [.sl (.events h)]),(2,.ep [.i mk])],[],[999]⟩) rfl ?_
 refine Kk cok tab33 hnt [] [0,1,2] (⟨[(0,.i c),(1,.ep [.sl (.events h)]),(2,.ep [.i mk])],[],[999]⟩)
  (True ∧ True)
  ⟨tt,tt⟩ ?_
 refine Kk cok tab33 hnt [] [4] (⟨[(4,.b (!(markedE h mk.toNat c.toNat)))],[],[999]⟩)
  (True ∧ True ∧ True ∧ (True ∧ (True ∧ True ∧ True ∧ True) ∧ (h.length ≤ 60) ∧ (0 ≤ c ∧ c < 4611686018427387904) ∧ 0 ≤ mk ∧ mk < 4611686018427387904) ∧ True ∧ True ∧ True)
  ⟨tt,tt,tt,⟨tt,⟨tt,tt,tt,tt⟩,(by omega),(by omega),(by omega)⟩,tt,tt,tt⟩ ?_
 refine W.ret ?_
 exact endQ_ret (.b (!(markedE h mk.toNat c.toNat))) (by kernel_rfl) (@cast ((.bool (!(markedE h mk.toNat c.toNat)) : Value) = .bool (!markedE h mk.toNat c.toNat)) _ (by kernel_rfl) (congrArg Value.bool (by first | rfl | simp_all)))
theorem ent33 : Entr prog 33 := ⟨_,func33,rfl,by decide⟩
end Go.Proofs.Try

set_option linter.unusedSimpArgs false
set_option linter.unusedVariables false
namespace Go.Proofs.Try
open Go.Ab Go.RowKit
def fs32 : FnS := fnS [.s .events,.o] [.events,(.fn2 33 (.ep .events) (.ep .int))] (fun _ (h,(g,mk),_) => (.i ((ctV h mk.toNat (fullE h) : Nat) : Int),[],(h.length ≤ 7) ∧ (0 ≤ mk ∧ mk < 4611686018427387904) ∧ (g = h)))
abbrev T32 : Tab := lk [(30,fs30),(31,fs31),(33,fs33)]
theorem tab32 : TabOK prog T32 := (TabOK.cons ok30 ent30 (TabOK.cons ok31 ent31 (TabOK.cons ok33 ent33 TabOK.nil)))
set_option maxRecDepth 100000 in
set_option maxHeartbeats 1000000 in
theorem ok32 : FnOK prog 32 fs32 := by
 refine FnOK.mk cok func32 rfl rfl rfl ?_
 rintro fl ⟨(h : List EventD),⟨(g : List EventD),(mk : Int)⟩,_⟩ hpre F hnt0 _
 have hnt : F.nt = 69 := hnt0.trans ntmps32
 replace hpre : (h.length ≤ 7) ∧ (0 ≤ mk ∧ mk < 4611686018427387904) ∧ (g = h) := hpre
 obtain ⟨hn,hm,he⟩ := hpre
 refine W.to (⟨[(0,.sl (.events h)),(1,.fn 33 [.ep [.sl (.events g)],.ep [.i mk]])],[],[999]⟩) rfl ?_
 have hp7 := Nat.pow_le_pow_right (show 0 < 2 by omega) hn
 have hp0 := Nat.pow_pos (n := h.length) (show 0 < 2 by omega)
 have hpn := power_nat h.length
 have hsh := shl_one (k := h.length) (by omega)
 have hpl := pastL_len h h.length
 have hpo := pastL_ok h h.length (by omega)
 unfold okBits at hpo
 have hlr : (List.replicate (Int.toNat (shlI .i64 1 (h.length : Int))) (0 : Int)).length = 2 ^ h.length := by rw [List.length_replicate,hsh,Int.toNat_natCast]
 refine W.lenOf 0 (.events h) (by kernel_rfl) ?_
 intro hl_h; replace hl_h : List.length h ≤ 9223372036854775807 := hl_h
 refine Kk cok tab32 hnt [] [0,1] (⟨[(0,.sl (.events h)),(1,.fn 33 [.ep [.sl (.events g)],.ep [.i mk]])],[],[999]⟩)
  (True ∧ True)
  ⟨tt,tt⟩ ?_
 refine Kk cok tab32 hnt [] [0,1,5] (⟨[(0,.sl (.events h)),(1,.fn 33 [.ep [.sl (.events g)],.ep [.i mk]]),(5,.sl (.ints (pastL h h.length)))],[],[999]⟩)
  (True ∧ (True ∧ (True ∧ True) ∧ (h.length ≤ 60)) ∧ True ∧ True)
  ⟨tt,⟨tt,⟨tt,tt⟩,(by omega)⟩,tt,tt⟩ ?_
 refine Kk cok tab32 hnt [15] [0,1,5,6] (⟨[(0,.sl (.events h)),(1,.fn 33 [.ep [.sl (.events g)],.ep [.i mk]]),(5,.sl (.ints (pastL h h.length))),(6,.own 15 (List.length (List.replicate (Int.toNat (shlI .i64 (1 : Int) (h.length : Int))) (0 : Int))))],[(15,⟨3,.row (.ints (List.replicate (Int.toNat (shlI .i64 (1 : Int) (h.length : Int))) (0 : Int)))⟩)],[15,999]⟩)
  (True ∧ True ∧ (True ∧ (Fits .u64 (h.length : Int))) ∧ (True ∧ True ∧ (0 ≤ (h.length : Int)) ∧ (Fits .i64 (shlI .i64 (1 : Int) (h.length : Int)))) ∧ (True ∧ True ∧ ((shlI .i64 (1 : Int) (h.length : Int)) = (shlI .i64 (1 : Int) (h.length : Int))) ∧ (0 ≤ (shlI .i64 (1 : Int) (h.length : Int))) ∧ ((shlI .i64 (1 : Int) (h.length : Int)) * 8 ≤ 281474976710656)) ∧ True ∧ True)
  ⟨tt,tt,⟨tt,(by exact fits_u64 (by omega) (by omega))⟩,⟨tt,tt,(by omega),(by exact fits_shl (by omega))⟩,⟨tt,tt,rfl,(by omega),(by omega)⟩,tt,tt⟩ ?_
 refine W.seq ?_
 refine Kk cok tab32 hnt [] [0,1,5,6,17,18] (⟨[(0,.sl (.events h)),(1,.fn 33 [.ep [.sl (.events g)],.ep [.i mk]]),(5,.sl (.ints (pastL h h.length))),(6,.own 15 (List.length (List.replicate (Int.toNat (shlI .i64 (1 : Int) (h.length : Int))) (0 : Int)))),(17,.i (((List.length (List.replicate (Int.toNat (shlI .i64 (1 : Int) (h.length : Int))) (0 : Int))) : Nat) : Int)),(18,.i (0 : Int))],[(15,⟨3,.row (.ints (List.replicate (Int.toNat (shlI .i64 (1 : Int) (h.length : Int))) (0 : Int)))⟩)],[15,999]⟩)
  (True ∧ True ∧ True ∧ True)
  ⟨tt,tt,tt,tt⟩ ?_
 refine W.block ?_
 refine W.loop (ι := Nat × (List Int)) (fun (x : Nat × (List Int)) => match x with | (k,cs) => (⟨[(0,.sl (.events h)),(1,.fn 33 [.ep [.sl (.events g)],.ep [.i mk]]),(5,.sl (.ints (pastL h h.length))),(6,.own 15 (List.length (List.replicate (Int.toNat (shlI .i64 (1 : Int) (h.length : Int))) (0 : Int)))),(17,.i (((List.length (List.replicate (Int.toNat (shlI .i64 (1 : Int) (h.length : Int))) (0 : Int))) : Nat) : Int)),(18,.i ((k : Nat) : Int))],[(15,⟨3,.row (.ints cs)⟩)],[15,999]⟩ : St))
  (fun (x : Nat × (List Int)) => match x with | (k,cs) => (k ≤ 2 ^ h.length) ∧ (cs = ctUp h mk.toNat k))
  (fun (x : Nat × (List Int)) => match x with | (k,cs) => (2 ^ h.length - k : Nat)) (0,(List.replicate (Int.toNat (shlI .i64 (1 : Int) (h.length : Int))) (0 : Int))) ?_ ?_ ?_
 ·exact (show (0 ≤ 2 ^ h.length) ∧ ((List.replicate (Int.toNat (shlI .i64 (1 : Int) (h.length : Int))) (0 : Int)) = ctUp h mk.toNat 0) from ⟨(by exact Nat.zero_le _),(by exact ct_init (by omega))⟩)
 ·exact Sub.of [] (@cast (((Sd (.events h)) ∧ (((33 : Nat) = 33) ∧ (((.ep [.sl (.events g)] : AV) = .ep [.sl (.events g)]) ∧ (([] : List Nat) = [])) ∧ (((.ep [.i mk] : AV) = .ep [.i mk]) ∧ (([] : List Nat) = [])) ∧ True) ∧ (Sd (.ints (pastL h h.length))) ∧ (((15 : Nat) = 15) ∧ ((List.length (List.replicate (Int.toNat (shlI .i64 (1 : Int) (h.length : Int))) (0 : Int))) = (List.length (List.replicate (Int.toNat (shlI .i64 (1 : Int) (h.length : Int))) (0 : Int)))) ∧ ((15 : Nat) ∈ ([15,999] : List Nat))) ∧ (Si (((List.length (List.replicate (Int.toNat (shlI .i64 (1 : Int) (h.length : Int))) (0 : Int))) : Nat) : Int)) ∧ ((.int .i64 (0 : Int) : Value) = .int .i64 ((0 : Nat) : Int)) ∧ True) ∧ ((((3 : Nat) = 3) ∧ (Sd (.ints (List.replicate (Int.toNat (shlI .i64 (1 : Int) (h.length : Int))) (0 : Int)))) ∧ ((15 : Nat) ∈ ([15,999] : List Nat))) ∧ True) ∧ (true = true) ∧ (true = true)) _ (by kernel_rfl) ⟨⟨rfl,⟨rfl,⟨rfl,rfl⟩,⟨rfl,rfl⟩,tt⟩,rfl,⟨rfl,rfl,(by decide)⟩,rfl,(congrArg (Value.int .i64) (by first | rfl | omega | assumption | simp | simp_all)),tt⟩,⟨⟨rfl,rfl,(by decide)⟩,tt⟩,rfl,rfl⟩)
 ·rintro ⟨k,cs⟩ hC0
  have hC : (k ≤ 2 ^ h.length) ∧ (cs = ctUp h mk.toNat k) := hC0
  clear hC0
  obtain ⟨hk,hc⟩ := hC
  refine W.to (⟨[(0,.sl (.events h)),(1,.fn 33 [.ep [.sl (.events g)],.ep [.i mk]]),(5,.sl (.ints (pastL h h.length))),(6,.own 15 (List.length (List.replicate (Int.toNat (shlI .i64 (1 : Int) (h.length : Int))) (0 : Int)))),(17,.i (((List.length (List.replicate (Int.toNat (shlI .i64 (1 : Int) (h.length : Int))) (0 : Int))) : Nat) : Int)),(18,.i ((k : Nat) : Int))],[(15,⟨3,.row (.ints cs)⟩)],[15,999]⟩) rfl ?_
  have hcl : cs.length = 2 ^ h.length := by rw [hc]; exact ctUp_len h mk.toNat k
  refine Kk cok tab32 hnt [] [0,1,5,6,17,18,19] (⟨[(0,.sl (.events h)),(1,.fn 33 [.ep [.sl (.events g)],.ep [.i mk]]),(5,.sl (.ints (pastL h h.length))),(6,.own 15 (List.length (List.replicate (Int.toNat (shlI .i64 (1 : Int) (h.length : Int))) (0 : Int)))),(17,.i (((List.length (List.replicate (Int.toNat (shlI .i64 (1 : Int) (h.length : Int))) (0 : Int))) : Nat) : Int)),(18,.i ((k : Nat) : Int)),(19,.b (decide (((k : Nat) : Int) < (((List.length (List.replicate (Int.toNat (shlI .i64 (1 : Int) (h.length : Int))) (0 : Int))) : Nat) : Int))))],[(15,⟨3,.row (.ints cs)⟩)],[15,999]⟩)
   ((True ∧ True ∧ True) ∧ True)
   ⟨⟨tt,tt,tt⟩,tt⟩ ?_
  refine W.seq ?_
  refine W.ifP (((k : Nat) : Int) < (((List.length (List.replicate (Int.toNat (shlI .i64 (1 : Int) (h.length : Int))) (0 : Int))) : Nat) : Int)) (.b (decide (((k : Nat) : Int) < (((List.length (List.replicate (Int.toNat (shlI .i64 (1 : Int) (h.length : Int))) (0 : Int))) : Nat) : Int)))) (by kernel_rfl) rfl trivial ?_ ?_
  ·intro h19
   have h19' := h19
   simp only [List.length_append,List.length_cons,List.length_nil,List.length_take,List.length_drop,List.length_set,List.length_replicate,List.length_map] at h19'
   refine W.skip (thenQ_normal ?_)
   refine W.seq ?_
   refine W.block ?_
   refine Kk cok tab32 hnt [] [0,1,5,6,7,17,18] (⟨[(0,.sl (.events h)),(1,.fn 33 [.ep [.sl (.events g)],.ep [.i mk]]),(5,.sl (.ints (pastL h h.length))),(6,.own 15 (List.length (List.replicate (Int.toNat (shlI .i64 (1 : Int) (h.length : Int))) (0 : Int)))),(7,.i ((k : Nat) : Int)),(17,.i (((List.length (List.replicate (Int.toNat (shlI .i64 (1 : Int) (h.length : Int))) (0 : Int))) : Nat) : Int)),(18,.i ((k : Nat) : Int))],[(15,⟨3,.row (.ints cs)⟩)],[15,999]⟩)
    (True ∧ True ∧ True)
    ⟨tt,tt,tt⟩ ?_
   refine W.seq ?_
   refine Kk cok tab32 hnt [] [0,1,5,6,7,17,18,30] (⟨[(0,.sl (.events h)),(1,.fn 33 [.ep [.sl (.events g)],.ep [.i mk]]),(5,.sl (.ints (pastL h h.length))),(6,.own 15 (List.length (List.replicate (Int.toNat (shlI .i64 (1 : Int) (h.length : Int))) (0 : Int)))),(7,.i ((k : Nat) : Int)),(17,.i (((List.length (List.replicate (Int.toNat (shlI .i64 (1 : Int) (h.length : Int))) (0 : Int))) : Nat) : Int)),(18,.i ((k : Nat) : Int)),(30,.b ((!(cutF (pastL h h.length) ((k : Nat) : Int).toNat)) || (!(!markedE g mk.toNat ((k : Nat) : Int).toNat))))],[(15,⟨3,.row (.ints cs)⟩)],[15,999]⟩)
    ((fun (Z1:Bool)=>(True ∧ (True ∧ ((True ∧ ((True ∧ (True ∧ True)) ∧ ((0 ≤ ((k : Nat) : Int) ∧ ((k : Nat) : Int) < 4611686018427387904) ∧ (((pastL h h.length).length ≤ 60) ∧ (∀ j,j < (pastL h h.length).length → 0 ≤ (pastL h h.length).getD j 0 ∧ (pastL h h.length).getD j 0 < 4611686018427387904))))) ∧ (True ∧ (True ∧ (((!Z1) = true → True) ∧ (((!Z1) = true → True) ∧ (((!Z1) = true → ((((!Z1) = true) ∧ True) ∧ (((((!Z1) = true) ∧ True) ∧ (True ∧ (True ∧ True))) ∧ ((g.length ≤ 60) ∧ ((0 ≤ ((k : Nat) : Int) ∧ ((k : Nat) : Int) < 4611686018427387904) ∧ (0 ≤ mk ∧ mk < 4611686018427387904)))))) ∧ (((!Z1) = true → (((!Z1) = true) ∧ True)) ∧ ((True ∧ ((Z1 = true → True) ∧ (Z1 = false → ((!Z1) = true) ∧ True))) ∧ True))))))))))) (!(cutF (pastL h h.length) ((k : Nat) : Int).toNat)))
    ⟨tt,tt,⟨tt,⟨tt,tt,tt⟩,(by omega),(by omega),(by intro j hj; have h9 := hpo j (by omega); omega)⟩,tt,tt,(fun _ => trivial),(fun _ => trivial),(fun hG => ⟨⟨hG,tt⟩,⟨⟨hG,tt⟩,tt,tt,tt⟩,(by rw [he]; omega),(by omega),(by omega)⟩),(fun hG => ⟨hG,tt⟩),⟨tt,(fun _ => trivial),(fun hp => ⟨(not_t hp),tt⟩)⟩,tt⟩ ?_
   refine W.if' ((!(cutF (pastL h h.length) ((k : Nat) : Int).toNat)) || (!(!markedE g mk.toNat ((k : Nat) : Int).toNat))) (.b ((!(cutF (pastL h h.length) ((k : Nat) : Int).toNat)) || (!(!markedE g mk.toNat ((k : Nat) : Int).toNat)))) (by kernel_rfl) rfl trivial ?_ ?_
   ·intro h30
    rw [he] at h30
    refine W.exit (thenQ_exit (blockQ_hit ?_))
    refine thenQ_normal ?_
    refine Lk cok tab32 hnt [] (⟨[(0,.sl (.events h)),(1,.fn 33 [.ep [.sl (.events g)],.ep [.i mk]]),(5,.sl (.ints (pastL h h.length))),(6,.own 15 (List.length (List.replicate (Int.toNat (shlI .i64 (1 : Int) (h.length : Int))) (0 : Int)))),(7,.i ((k : Nat) : Int)),(17,.i (((List.length (List.replicate (Int.toNat (shlI .i64 (1 : Int) (h.length : Int))) (0 : Int))) : Nat) : Int)),(18,.i (((k + 1) : Nat) : Int)),(30,.b ((!(cutF (pastL h h.length) ((k : Nat) : Int).toNat)) || (!(!markedE g mk.toNat ((k : Nat) : Int).toNat)))),(62,.i (((k + 1) : Nat) : Int))],[(15,⟨3,.row (.ints cs)⟩)],[15,999]⟩)
     ((True ∧ True ∧ (Fits .i64 (((k + 1) : Nat) : Int))) ∧ True ∧ True)
     ⟨⟨tt,tt,(by exact fits_i64 (by omega) (by omega))⟩,tt,tt⟩ ?_
    refine thenQ_normal ?_
    refine ⟨((k + 1),cs),(show ((k + 1) ≤ 2 ^ h.length) ∧ (cs = ctUp h mk.toNat (k + 1)) from ⟨(by first | assumption | omega | rfl | (intro _ hjj; omega) | (simp; done) | (simp; omega)),(by first | (rw [hc]; exact ctUp_same (by omega) (fr_no (by omega) h30)) | exact cs_end hc2 (by omega) (fr_yes (by omega) n30) (by omega))⟩),(show 2 ^ h.length - (k + 1) < 2 ^ h.length - k from (by first | omega | (simp_all; omega))),?_⟩
    exact Sub.of [] (@cast (((Sd (.events h)) ∧ (((33 : Nat) = 33) ∧ (((.ep [.sl (.events g)] : AV) = .ep [.sl (.events g)]) ∧ (([] : List Nat) = [])) ∧ (((.ep [.i mk] : AV) = .ep [.i mk]) ∧ (([] : List Nat) = [])) ∧ True) ∧ (Sd (.ints (pastL h h.length))) ∧ (((15 : Nat) = 15) ∧ ((List.length (List.replicate (Int.toNat (shlI .i64 (1 : Int) (h.length : Int))) (0 : Int))) = (List.length (List.replicate (Int.toNat (shlI .i64 (1 : Int) (h.length : Int))) (0 : Int)))) ∧ ((15 : Nat) ∈ ([15,999] : List Nat))) ∧ (Si (((List.length (List.replicate (Int.toNat (shlI .i64 (1 : Int) (h.length : Int))) (0 : Int))) : Nat) : Int)) ∧ (Si (((k + 1) : Nat) : Int)) ∧ True) ∧ ((((3 : Nat) = 3) ∧ (Sd (.ints cs)) ∧ ((15 : Nat) ∈ ([15,999] : List Nat))) ∧ True) ∧ (true = true) ∧ (true = true)) _ (by kernel_rfl) ⟨⟨rfl,⟨rfl,⟨rfl,rfl⟩,⟨rfl,rfl⟩,tt⟩,rfl,⟨rfl,rfl,(by decide)⟩,rfl,rfl,tt⟩,⟨⟨rfl,rfl,(by decide)⟩,tt⟩,rfl,rfl⟩)
   ·intro n30
    rw [he] at n30
    refine W.skip (thenQ_normal ?_)
    refine W.seq ?_
    refine Kk cok tab32 hnt [] [0,1,5,6,7,17,18,32] (⟨[(0,.sl (.events h)),(1,.fn 33 [.ep [.sl (.events g)],.ep [.i mk]]),(5,.sl (.ints (pastL h h.length))),(6,.own 15 (List.length (List.replicate (Int.toNat (shlI .i64 (1 : Int) (h.length : Int))) (0 : Int)))),(7,.i ((k : Nat) : Int)),(17,.i (((List.length (List.replicate (Int.toNat (shlI .i64 (1 : Int) (h.length : Int))) (0 : Int))) : Nat) : Int)),(18,.i ((k : Nat) : Int)),(32,.b (decide (((k : Nat) : Int) = (0 : Int))))],[(15,⟨3,.row (.ints cs)⟩)],[15,999]⟩)
     (True ∧ (True ∧ True ∧ True) ∧ True)
     ⟨tt,⟨tt,tt,tt⟩,tt⟩ ?_
    refine W.meetT (ι := (List Int)) (fun (cs1 : (List Int)) => (⟨[(0,.sl (.events h)),(1,.fn 33 [.ep [.sl (.events g)],.ep [.i mk]]),(5,.sl (.ints (pastL h h.length))),(6,.own 15 (List.length (List.replicate (Int.toNat (shlI .i64 (1 : Int) (h.length : Int))) (0 : Int)))),(7,.i ((k : Nat) : Int)),(17,.i (((List.length (List.replicate (Int.toNat (shlI .i64 (1 : Int) (h.length : Int))) (0 : Int))) : Nat) : Int)),(18,.i ((k : Nat) : Int))],[(15,⟨3,.row (.ints cs1)⟩)],[15,999]⟩ : St)) (fun (cs1 : (List Int)) => (k < 2 ^ h.length) ∧ (cs1 = (ctUp h mk.toNat k).set k ((stepC (ctV h mk.toNat) k 0 : Nat) : Int))) ?_ ?_
    ·skip
     refine W.ifP (((k : Nat) : Int) = (0 : Int)) (.b (decide (((k : Nat) : Int) = (0 : Int)))) (by kernel_rfl) rfl trivial ?_ ?_
     ·intro h32
      refine Lk cok tab32 hnt [] (⟨[(0,.sl (.events h)),(1,.fn 33 [.ep [.sl (.events g)],.ep [.i mk]]),(5,.sl (.ints (pastL h h.length))),(6,.own 15 (List.length (List.replicate (Int.toNat (shlI .i64 (1 : Int) (h.length : Int))) (0 : Int)))),(7,.i ((k : Nat) : Int)),(17,.i (((List.length (List.replicate (Int.toNat (shlI .i64 (1 : Int) (h.length : Int))) (0 : Int))) : Nat) : Int)),(18,.i ((k : Nat) : Int)),(32,.b (decide (((k : Nat) : Int) = (0 : Int)))),(33,.own 15 (List.length (List.replicate (Int.toNat (shlI .i64 (1 : Int) (h.length : Int))) (0 : Int)))),(34,.i ((k : Nat) : Int)),(35,.pel 15 1 k 0)],[(15,⟨3,.row (.ints (List.set cs k (1 : Int)))⟩)],[15,999]⟩)
       (True ∧ True ∧ (True ∧ True ∧ (0 ≤ ((k : Nat) : Int)) ∧ (((k : Nat) : Int) < (((List.length (List.replicate (Int.toNat (shlI .i64 (1 : Int) (h.length : Int))) (0 : Int))) : Nat) : Int))) ∧ (True ∧ True ∧ (k < cs.length)) ∧ True)
       ⟨tt,tt,⟨tt,tt,(by omega),(by (first | omega | (simp only [List.length_set]; done) | (simp only [List.length_append,List.length_cons,List.length_nil,List.length_take,List.length_drop,List.length_set,List.length_replicate,List.length_map] at *; omega) | assumption))⟩,⟨tt,tt,(by omega)⟩,tt⟩ ?_
      refine thenQ_normal ?_
      refine ⟨((List.set cs k (1 : Int))),(show (k < 2 ^ h.length) ∧ ((List.set cs k (1 : Int)) = (ctUp h mk.toNat k).set k ((stepC (ctV h mk.toNat) k 0 : Nat) : Int)) from ⟨(by first | assumption | omega | rfl | (intro _ hjj; omega) | (simp; done) | (simp; omega)),(by first | exact ct_start1 hc (by omega) | exact ct_start0 hc (by omega) (by omega))⟩),?_⟩
      exact Sub.of [] (@cast (((Sd (.events h)) ∧ (((33 : Nat) = 33) ∧ (((.ep [.sl (.events g)] : AV) = .ep [.sl (.events g)]) ∧ (([] : List Nat) = [])) ∧ (((.ep [.i mk] : AV) = .ep [.i mk]) ∧ (([] : List Nat) = [])) ∧ True) ∧ (Sd (.ints (pastL h h.length))) ∧ (((15 : Nat) = 15) ∧ ((List.length (List.replicate (Int.toNat (shlI .i64 (1 : Int) (h.length : Int))) (0 : Int))) = (List.length (List.replicate (Int.toNat (shlI .i64 (1 : Int) (h.length : Int))) (0 : Int)))) ∧ ((15 : Nat) ∈ ([15,999] : List Nat))) ∧ (Si ((k : Nat) : Int)) ∧ (Si (((List.length (List.replicate (Int.toNat (shlI .i64 (1 : Int) (h.length : Int))) (0 : Int))) : Nat) : Int)) ∧ (Si ((k : Nat) : Int)) ∧ True) ∧ ((((3 : Nat) = 3) ∧ (Sd (.ints (List.set cs k (1 : Int)))) ∧ ((15 : Nat) ∈ ([15,999] : List Nat))) ∧ True) ∧ (true = true) ∧ (true = true)) _ (by kernel_rfl) ⟨⟨rfl,⟨rfl,⟨rfl,rfl⟩,⟨rfl,rfl⟩,tt⟩,rfl,⟨rfl,rfl,(by decide)⟩,rfl,rfl,rfl,tt⟩,⟨⟨rfl,rfl,(by decide)⟩,tt⟩,rfl,rfl⟩)
     ·intro n32
      refine W.skip (thenQ_normal ?_)
      refine ⟨(cs),(show (k < 2 ^ h.length) ∧ (cs = (ctUp h mk.toNat k).set k ((stepC (ctV h mk.toNat) k 0 : Nat) : Int)) from ⟨(by first | assumption | omega | rfl | (intro _ hjj; omega) | (simp; done) | (simp; omega)),(by first | exact ct_start1 hc (by omega) | exact ct_start0 hc (by omega) (by omega))⟩),?_⟩
      exact Sub.of [] (@cast (((Sd (.events h)) ∧ (((33 : Nat) = 33) ∧ (((.ep [.sl (.events g)] : AV) = .ep [.sl (.events g)]) ∧ (([] : List Nat) = [])) ∧ (((.ep [.i mk] : AV) = .ep [.i mk]) ∧ (([] : List Nat) = [])) ∧ True) ∧ (Sd (.ints (pastL h h.length))) ∧ (((15 : Nat) = 15) ∧ ((List.length (List.replicate (Int.toNat (shlI .i64 (1 : Int) (h.length : Int))) (0 : Int))) = (List.length (List.replicate (Int.toNat (shlI .i64 (1 : Int) (h.length : Int))) (0 : Int)))) ∧ ((15 : Nat) ∈ ([15,999] : List Nat))) ∧ (Si ((k : Nat) : Int)) ∧ (Si (((List.length (List.replicate (Int.toNat (shlI .i64 (1 : Int) (h.length : Int))) (0 : Int))) : Nat) : Int)) ∧ (Si ((k : Nat) : Int)) ∧ True) ∧ ((((3 : Nat) = 3) ∧ (Sd (.ints cs)) ∧ ((15 : Nat) ∈ ([15,999] : List Nat))) ∧ True) ∧ (true = true) ∧ (true = true)) _ (by kernel_rfl) ⟨⟨rfl,⟨rfl,⟨rfl,rfl⟩,⟨rfl,rfl⟩,tt⟩,rfl,⟨rfl,rfl,(by decide)⟩,rfl,rfl,rfl,tt⟩,⟨⟨rfl,rfl,(by decide)⟩,tt⟩,rfl,rfl⟩)
    ·rintro cs1 hC0
     have hC : (k < 2 ^ h.length) ∧ (cs1 = (ctUp h mk.toNat k).set k ((stepC (ctV h mk.toNat) k 0 : Nat) : Int)) := hC0
     clear hC0
     obtain ⟨hk1,hc1⟩ := hC
     refine W.to (⟨[(0,.sl (.events h)),(1,.fn 33 [.ep [.sl (.events g)],.ep [.i mk]]),(5,.sl (.ints (pastL h h.length))),(6,.own 15 (List.length (List.replicate (Int.toNat (shlI .i64 (1 : Int) (h.length : Int))) (0 : Int)))),(7,.i ((k : Nat) : Int)),(17,.i (((List.length (List.replicate (Int.toNat (shlI .i64 (1 : Int) (h.length : Int))) (0 : Int))) : Nat) : Int)),(18,.i ((k : Nat) : Int))],[(15,⟨3,.row (.ints cs1)⟩)],[15,999]⟩) rfl ?_
     refine Kk cok tab32 hnt [] [0,1,5,6,7,17,18,37,38] (⟨[(0,.sl (.events h)),(1,.fn 33 [.ep [.sl (.events g)],.ep [.i mk]]),(5,.sl (.ints (pastL h h.length))),(6,.own 15 (List.length (List.replicate (Int.toNat (shlI .i64 (1 : Int) (h.length : Int))) (0 : Int)))),(7,.i ((k : Nat) : Int)),(17,.i (((List.length (List.replicate (Int.toNat (shlI .i64 (1 : Int) (h.length : Int))) (0 : Int))) : Nat) : Int)),(18,.i ((k : Nat) : Int)),(37,.i (h.length : Int)),(38,.i (0 : Int))],[(15,⟨3,.row (.ints cs1)⟩)],[15,999]⟩)
      (True ∧ True ∧ True ∧ True)
      ⟨tt,tt,tt,tt⟩ ?_
     refine W.block ?_
     refine W.loop (ι := Nat × (List Int)) (fun (x : Nat × (List Int)) => match x with | (q,cs2) => (⟨[(0,.sl (.events h)),(1,.fn 33 [.ep [.sl (.events g)],.ep [.i mk]]),(5,.sl (.ints (pastL h h.length))),(6,.own 15 (List.length (List.replicate (Int.toNat (shlI .i64 (1 : Int) (h.length : Int))) (0 : Int)))),(7,.i ((k : Nat) : Int)),(17,.i (((List.length (List.replicate (Int.toNat (shlI .i64 (1 : Int) (h.length : Int))) (0 : Int))) : Nat) : Int)),(18,.i ((k : Nat) : Int)),(37,.i (h.length : Int)),(38,.i ((q : Nat) : Int))],[(15,⟨3,.row (.ints cs2)⟩)],[15,999]⟩ : St))
      (fun (x : Nat × (List Int)) => match x with | (q,cs2) => (q ≤ h.length) ∧ (cs2 = (ctUp h mk.toNat k).set k ((stepC (ctV h mk.toNat) k q : Nat) : Int)))
      (fun (x : Nat × (List Int)) => match x with | (q,cs2) => (h.length - q : Nat)) (0,cs1) ?_ ?_ ?_
     ·exact (show (0 ≤ h.length) ∧ (cs1 = (ctUp h mk.toNat k).set k ((stepC (ctV h mk.toNat) k 0 : Nat) : Int)) from ⟨(by first | assumption | omega | rfl | (intro _ hjj; omega) | (simp; done) | (simp; omega)),(by exact hc1)⟩)
     ·exact Sub.of [] (@cast (((Sd (.events h)) ∧ (((33 : Nat) = 33) ∧ (((.ep [.sl (.events g)] : AV) = .ep [.sl (.events g)]) ∧ (([] : List Nat) = [])) ∧ (((.ep [.i mk] : AV) = .ep [.i mk]) ∧ (([] : List Nat) = [])) ∧ True) ∧ (Sd (.ints (pastL h h.length))) ∧ (((15 : Nat) = 15) ∧ ((List.length (List.replicate (Int.toNat (shlI .i64 (1 : Int) (h.length : Int))) (0 : Int))) = (List.length (List.replicate (Int.toNat (shlI .i64 (1 : Int) (h.length : Int))) (0 : Int)))) ∧ ((15 : Nat) ∈ ([15,999] : List Nat))) ∧ (Si ((k : Nat) : Int)) ∧ (Si (((List.length (List.replicate (Int.toNat (shlI .i64 (1 : Int) (h.length : Int))) (0 : Int))) : Nat) : Int)) ∧ (Si ((k : Nat) : Int)) ∧ (Si (h.length : Int)) ∧ ((.int .i64 (0 : Int) : Value) = .int .i64 ((0 : Nat) : Int)) ∧ True) ∧ ((((3 : Nat) = 3) ∧ (Sd (.ints cs1)) ∧ ((15 : Nat) ∈ ([15,999] : List Nat))) ∧ True) ∧ (true = true) ∧ (true = true)) _ (by kernel_rfl) ⟨⟨rfl,⟨rfl,⟨rfl,rfl⟩,⟨rfl,rfl⟩,tt⟩,rfl,⟨rfl,rfl,(by decide)⟩,rfl,rfl,rfl,rfl,(congrArg (Value.int .i64) (by first | rfl | omega | assumption | simp | simp_all)),tt⟩,⟨⟨rfl,rfl,(by decide)⟩,tt⟩,rfl,rfl⟩)
     ·rintro ⟨q,cs2⟩ hC0
      have hC : (q ≤ h.length) ∧ (cs2 = (ctUp h mk.toNat k).set k ((stepC (ctV h mk.toNat) k q : Nat) : Int)) := hC0
      clear hC0
      obtain ⟨hq,hc2⟩ := hC
      refine W.to (⟨[(0,.sl (.events h)),(1,.fn 33 [.ep [.sl (.events g)],.ep [.i mk]]),(5,.sl (.ints (pastL h h.length))),(6,.own 15 (List.length (List.replicate (Int.toNat (shlI .i64 (1 : Int) (h.length : Int))) (0 : Int)))),(7,.i ((k : Nat) : Int)),(17,.i (((List.length (List.replicate (Int.toNat (shlI .i64 (1 : Int) (h.length : Int))) (0 : Int))) : Nat) : Int)),(18,.i ((k : Nat) : Int)),(37,.i (h.length : Int)),(38,.i ((q : Nat) : Int))],[(15,⟨3,.row (.ints cs2)⟩)],[15,999]⟩) rfl ?_
      have hcl2 : cs2.length = 2 ^ h.length := by rw [hc2,List.length_set]; exact ctUp_len h mk.toNat k
      have hg1 := cs_at hc2 (by omega)
      refine Kk cok tab32 hnt [] [0,1,5,6,7,17,18,37,38,39] (⟨[(0,.sl (.events h)),(1,.fn 33 [.ep [.sl (.events g)],.ep [.i mk]]),(5,.sl (.ints (pastL h h.length))),(6,.own 15 (List.length (List.replicate (Int.toNat (shlI .i64 (1 : Int) (h.length : Int))) (0 : Int)))),(7,.i ((k : Nat) : Int)),(17,.i (((List.length (List.replicate (Int.toNat (shlI .i64 (1 : Int) (h.length : Int))) (0 : Int))) : Nat) : Int)),(18,.i ((k : Nat) : Int)),(37,.i (h.length : Int)),(38,.i ((q : Nat) : Int)),(39,.b (decide (((q : Nat) : Int) < (h.length : Int))))],[(15,⟨3,.row (.ints cs2)⟩)],[15,999]⟩)
       ((True ∧ True ∧ True) ∧ True)
       ⟨⟨tt,tt,tt⟩,tt⟩ ?_
      refine W.seq ?_
      refine W.ifP (((q : Nat) : Int) < (h.length : Int)) (.b (decide (((q : Nat) : Int) < (h.length : Int)))) (by kernel_rfl) rfl trivial ?_ ?_
      ·intro h39
       refine W.skip (thenQ_normal ?_)
       refine W.seq ?_
       refine W.block ?_
       refine Kk cok tab32 hnt [] [0,1,5,6,7,8,17,18,37,38] (⟨[(0,.sl (.events h)),(1,.fn 33 [.ep [.sl (.events g)],.ep [.i mk]]),(5,.sl (.ints (pastL h h.length))),(6,.own 15 (List.length (List.replicate (Int.toNat (shlI .i64 (1 : Int) (h.length : Int))) (0 : Int)))),(7,.i ((k : Nat) : Int)),(8,.i ((q : Nat) : Int)),(17,.i (((List.length (List.replicate (Int.toNat (shlI .i64 (1 : Int) (h.length : Int))) (0 : Int))) : Nat) : Int)),(18,.i ((k : Nat) : Int)),(37,.i (h.length : Int)),(38,.i ((q : Nat) : Int))],[(15,⟨3,.row (.ints cs2)⟩)],[15,999]⟩)
        (True ∧ True ∧ True)
        ⟨tt,tt,tt⟩ ?_
       refine Kk cok tab32 hnt [] [0,1,5,6,7,8,17,18,37,38,46] (⟨[(0,.sl (.events h)),(1,.fn 33 [.ep [.sl (.events g)],.ep [.i mk]]),(5,.sl (.ints (pastL h h.length))),(6,.own 15 (List.length (List.replicate (Int.toNat (shlI .i64 (1 : Int) (h.length : Int))) (0 : Int)))),(7,.i ((k : Nat) : Int)),(8,.i ((q : Nat) : Int)),(17,.i (((List.length (List.replicate (Int.toNat (shlI .i64 (1 : Int) (h.length : Int))) (0 : Int))) : Nat) : Int)),(18,.i ((k : Nat) : Int)),(37,.i (h.length : Int)),(38,.i ((q : Nat) : Int)),(46,.b (decide ((bitsI .and .i64 (shrI .i64 ((k : Nat) : Int) ((q : Nat) : Int)) (1 : Int)) = (1 : Int))))],[(15,⟨3,.row (.ints cs2)⟩)],[15,999]⟩)
        (True ∧ True ∧ (True ∧ (Fits .u64 ((q : Nat) : Int))) ∧ (True ∧ True ∧ (0 ≤ ((q : Nat) : Int))) ∧ (True ∧ True ∧ True) ∧ (True ∧ True ∧ True) ∧ True)
        ⟨tt,tt,⟨tt,(by exact fits_u64 (by omega) (by omega))⟩,⟨tt,tt,(by omega)⟩,⟨tt,tt,tt⟩,⟨tt,tt,tt⟩,tt⟩ ?_
       refine W.ifP ((bitsI .and .i64 (shrI .i64 ((k : Nat) : Int) ((q : Nat) : Int)) (1 : Int)) = (1 : Int)) (.b (decide ((bitsI .and .i64 (shrI .i64 ((k : Nat) : Int) ((q : Nat) : Int)) (1 : Int)) = (1 : Int)))) (by kernel_rfl) rfl trivial ?_ ?_
       ·intro h46
        have hkb : k.testBit q = true := kbit (by omega) (by omega) (decide_eq_true h46)
        have haw := andNot_pow (k := k) (q := q) (by omega) (by omega) hkb
        have hsl := sub_lt hkb
        have hg2 := cs_low hc2 (by omega) hsl
        have hb1 := stepC_small hn (m := mk.toNat) (s := k) (k := q) (by omega) (by omega)
        have hb2 := ctV_small hn (m := mk.toNat) (s := k - 2 ^ q) (by omega)
        refine W.LA cok tab32 hnt [] (⟨[(0,.sl (.events h)),(1,.fn 33 [.ep [.sl (.events g)],.ep [.i mk]]),(5,.sl (.ints (pastL h h.length))),(6,.own 15 (List.length (List.replicate (Int.toNat (shlI .i64 (1 : Int) (h.length : Int))) (0 : Int)))),(7,.i ((k : Nat) : Int)),(8,.i ((q : Nat) : Int)),(17,.i (((List.length (List.replicate (Int.toNat (shlI .i64 (1 : Int) (h.length : Int))) (0 : Int))) : Nat) : Int)),(18,.i ((k : Nat) : Int)),(37,.i (h.length : Int)),(38,.i ((q : Nat) : Int)),(46,.b (decide ((bitsI .and .i64 (shrI .i64 ((k : Nat) : Int) ((q : Nat) : Int)) (1 : Int)) = (1 : Int)))),(47,.own 15 (List.length (List.replicate (Int.toNat (shlI .i64 (1 : Int) (h.length : Int))) (0 : Int)))),(48,.i ((k : Nat) : Int)),(49,.pel 15 1 k 0),(50,.i (cs2.getD k 0)),(51,.own 15 (List.length (List.replicate (Int.toNat (shlI .i64 (1 : Int) (h.length : Int))) (0 : Int)))),(52,.i ((k : Nat) : Int)),(53,.i ((q : Nat) : Int)),(54,.v (.int .u64 ((q : Nat) : Int))),(55,.i (shlI .i64 (1 : Int) ((q : Nat) : Int))),(56,.i (bitsI .andNot .i64 ((k : Nat) : Int) (shlI .i64 (1 : Int) ((q : Nat) : Int)))),(57,.pel 15 1 (Int.toNat (bitsI .andNot .i64 ((k : Nat) : Int) (shlI .i64 (1 : Int) ((q : Nat) : Int)))) 0),(58,.i (cs2.getD (Int.toNat (bitsI .andNot .i64 ((k : Nat) : Int) (shlI .i64 (1 : Int) ((q : Nat) : Int)))) 0)),(59,.i ((cs2.getD k 0) + (cs2.getD (Int.toNat (bitsI .andNot .i64 ((k : Nat) : Int) (shlI .i64 (1 : Int) ((q : Nat) : Int)))) 0))),(60,.pel 15 1 k 0)],[(15,⟨3,.row (.ints (List.set cs2 k ((cs2.getD k 0) + (cs2.getD (Int.toNat (bitsI .andNot .i64 ((k : Nat) : Int) (shlI .i64 (1 : Int) ((q : Nat) : Int)))) 0))))⟩)],[15,999]⟩)
         (True ∧ True ∧ (True ∧ True ∧ (0 ≤ ((k : Nat) : Int)) ∧ (((k : Nat) : Int) < (((List.length (List.replicate (Int.toNat (shlI .i64 (1 : Int) (h.length : Int))) (0 : Int))) : Nat) : Int))) ∧ (True ∧ (k < cs2.length)) ∧ True ∧ True ∧ True ∧ (True ∧ (Fits .u64 ((q : Nat) : Int))) ∧ (True ∧ True ∧ (0 ≤ ((q : Nat) : Int)) ∧ (Fits .i64 (shlI .i64 (1 : Int) ((q : Nat) : Int)))) ∧ (True ∧ True ∧ True) ∧ (True ∧ True ∧ (0 ≤ (bitsI .andNot .i64 ((k : Nat) : Int) (shlI .i64 (1 : Int) ((q : Nat) : Int)))) ∧ ((bitsI .andNot .i64 ((k : Nat) : Int) (shlI .i64 (1 : Int) ((q : Nat) : Int))) < (((List.length (List.replicate (Int.toNat (shlI .i64 (1 : Int) (h.length : Int))) (0 : Int))) : Nat) : Int))) ∧ (True ∧ ((Int.toNat (bitsI .andNot .i64 ((k : Nat) : Int) (shlI .i64 (1 : Int) ((q : Nat) : Int)))) < cs2.length)) ∧ (True ∧ True ∧ (Fits .i64 ((cs2.getD k 0) + (cs2.getD (Int.toNat (bitsI .andNot .i64 ((k : Nat) : Int) (shlI .i64 (1 : Int) ((q : Nat) : Int)))) 0)))) ∧ (True ∧ True ∧ (0 ≤ ((k : Nat) : Int)) ∧ (((k : Nat) : Int) < (((List.length (List.replicate (Int.toNat (shlI .i64 (1 : Int) (h.length : Int))) (0 : Int))) : Nat) : Int))) ∧ (True ∧ True ∧ (k < cs2.length)) ∧ True) (by kernel_rfl) (by kernel_rfl)
         ⟨tt,tt,⟨tt,tt,(by omega),(by (first | omega | (simp only [List.length_set]; done) | (simp only [List.length_append,List.length_cons,List.length_nil,List.length_take,List.length_drop,List.length_set,List.length_replicate,List.length_map] at *; omega) | assumption))⟩,⟨tt,(by omega)⟩,tt,tt,tt,⟨tt,(by exact fits_u64 (by omega) (by omega))⟩,⟨tt,tt,(by omega),(by exact fits_shl (by omega))⟩,⟨tt,tt,tt⟩,⟨tt,tt,(by rw [haw]; omega),(by rw [haw]; omega)⟩,⟨tt,(by rw [haw]; omega)⟩,⟨tt,tt,(by rw [haw,Int.toNat_natCast,hg1,hg2]; exact fits_i64 (by omega) (by omega))⟩,⟨tt,tt,(by omega),(by (first | omega | (simp only [List.length_set]; done) | (simp only [List.length_append,List.length_cons,List.length_nil,List.length_take,List.length_drop,List.length_set,List.length_replicate,List.length_map] at *; omega) | assumption))⟩,⟨tt,tt,(by omega)⟩,tt⟩ ?_
        refine blockQ_normal (thenQ_normal ?_)
        refine Lk cok tab32 hnt [] (⟨[(0,.sl (.events h)),(1,.fn 33 [.ep [.sl (.events g)],.ep [.i mk]]),(5,.sl (.ints (pastL h h.length))),(6,.own 15 (List.length (List.replicate (Int.toNat (shlI .i64 (1 : Int) (h.length : Int))) (0 : Int)))),(7,.i ((k : Nat) : Int)),(8,.i ((q : Nat) : Int)),(17,.i (((List.length (List.replicate (Int.toNat (shlI .i64 (1 : Int) (h.length : Int))) (0 : Int))) : Nat) : Int)),(18,.i ((k : Nat) : Int)),(37,.i (h.length : Int)),(38,.i (((q + 1) : Nat) : Int)),(46,.b (decide ((bitsI .and .i64 (shrI .i64 ((k : Nat) : Int) ((q : Nat) : Int)) (1 : Int)) = (1 : Int)))),(47,.own 15 (List.length (List.replicate (Int.toNat (shlI .i64 (1 : Int) (h.length : Int))) (0 : Int)))),(48,.i ((k : Nat) : Int)),(49,.pel 15 1 k 0),(50,.i (cs2.getD k 0)),(51,.own 15 (List.length (List.replicate (Int.toNat (shlI .i64 (1 : Int) (h.length : Int))) (0 : Int)))),(52,.i ((k : Nat) : Int)),(53,.i ((q : Nat) : Int)),(54,.v (.int .u64 ((q : Nat) : Int))),(55,.i (shlI .i64 (1 : Int) ((q : Nat) : Int))),(56,.i (bitsI .andNot .i64 ((k : Nat) : Int) (shlI .i64 (1 : Int) ((q : Nat) : Int)))),(57,.pel 15 1 (Int.toNat (bitsI .andNot .i64 ((k : Nat) : Int) (shlI .i64 (1 : Int) ((q : Nat) : Int)))) 0),(58,.i (cs2.getD (Int.toNat (bitsI .andNot .i64 ((k : Nat) : Int) (shlI .i64 (1 : Int) ((q : Nat) : Int)))) 0)),(59,.i ((cs2.getD k 0) + (cs2.getD (Int.toNat (bitsI .andNot .i64 ((k : Nat) : Int) (shlI .i64 (1 : Int) ((q : Nat) : Int)))) 0))),(60,.pel 15 1 k 0),(61,.i (((q + 1) : Nat) : Int))],[(15,⟨3,.row (.ints (List.set cs2 k ((cs2.getD k 0) + (cs2.getD (Int.toNat (bitsI .andNot .i64 ((k : Nat) : Int) (shlI .i64 (1 : Int) ((q : Nat) : Int)))) 0))))⟩)],[15,999]⟩)
         ((True ∧ True ∧ (Fits .i64 (((q + 1) : Nat) : Int))) ∧ True ∧ True)
         ⟨⟨tt,tt,(by exact fits_i64 (by omega) (by omega))⟩,tt,tt⟩ ?_
        refine thenQ_normal ?_
        refine ⟨((q + 1),(List.set cs2 k ((cs2.getD k 0) + (cs2.getD (Int.toNat (bitsI .andNot .i64 ((k : Nat) : Int) (shlI .i64 (1 : Int) ((q : Nat) : Int)))) 0)))),(show ((q + 1) ≤ h.length) ∧ ((List.set cs2 k ((cs2.getD k 0) + (cs2.getD (Int.toNat (bitsI .andNot .i64 ((k : Nat) : Int) (shlI .i64 (1 : Int) ((q : Nat) : Int)))) 0))) = (ctUp h mk.toNat k).set k ((stepC (ctV h mk.toNat) k (q + 1) : Nat) : Int)) from ⟨(by first | assumption | omega | rfl | (intro _ hjj; omega) | (simp; done) | (simp; omega)),(by first | exact cs_yes hc2 hkb (by rw [haw,Int.toNat_natCast,hg1,hg2]) | exact cs_no hc2 (kbit (by omega) (by omega) (decide_eq_false n46)))⟩),(show h.length - (q + 1) < h.length - q from (by first | omega | (simp_all; omega))),?_⟩
        exact Sub.of [] (@cast (((Sd (.events h)) ∧ (((33 : Nat) = 33) ∧ (((.ep [.sl (.events g)] : AV) = .ep [.sl (.events g)]) ∧ (([] : List Nat) = [])) ∧ (((.ep [.i mk] : AV) = .ep [.i mk]) ∧ (([] : List Nat) = [])) ∧ True) ∧ (Sd (.ints (pastL h h.length))) ∧ (((15 : Nat) = 15) ∧ ((List.length (List.replicate (Int.toNat (shlI .i64 (1 : Int) (h.length : Int))) (0 : Int))) = (List.length (List.replicate (Int.toNat (shlI .i64 (1 : Int) (h.length : Int))) (0 : Int)))) ∧ ((15 : Nat) ∈ ([15,999] : List Nat))) ∧ (Si ((k : Nat) : Int)) ∧ (Si (((List.length (List.replicate (Int.toNat (shlI .i64 (1 : Int) (h.length : Int))) (0 : Int))) : Nat) : Int)) ∧ (Si ((k : Nat) : Int)) ∧ (Si (h.length : Int)) ∧ (Si (((q + 1) : Nat) : Int)) ∧ True) ∧ ((((3 : Nat) = 3) ∧ (Sd (.ints (List.set cs2 k ((cs2.getD k 0) + (cs2.getD (Int.toNat (bitsI .andNot .i64 ((k : Nat) : Int) (shlI .i64 (1 : Int) ((q : Nat) : Int)))) 0))))) ∧ ((15 : Nat) ∈ ([15,999] : List Nat))) ∧ True) ∧ (true = true) ∧ (true = true)) _ (by kernel_rfl) ⟨⟨rfl,⟨rfl,⟨rfl,rfl⟩,⟨rfl,rfl⟩,tt⟩,rfl,⟨rfl,rfl,(by decide)⟩,rfl,rfl,rfl,rfl,rfl,tt⟩,⟨⟨rfl,rfl,(by decide)⟩,tt⟩,rfl,rfl⟩)
       ·intro n46
        refine W.skip (blockQ_normal (thenQ_normal ?_))
        refine Lk cok tab32 hnt [] (⟨[(0,.sl (.events h)),(1,.fn 33 [.ep [.sl (.events g)],.ep [.i mk]]),(5,.sl (.ints (pastL h h.length))),(6,.own 15 (List.length (List.replicate (Int.toNat (shlI .i64 (1 : Int) (h.length : Int))) (0 : Int)))),(7,.i ((k : Nat) : Int)),(8,.i ((q : Nat) : Int)),(17,.i (((List.length (List.replicate (Int.toNat (shlI .i64 (1 : Int) (h.length : Int))) (0 : Int))) : Nat) : Int)),(18,.i ((k : Nat) : Int)),(37,.i (h.length : Int)),(38,.i (((q + 1) : Nat) : Int)),(46,.b (decide ((bitsI .and .i64 (shrI .i64 ((k : Nat) : Int) ((q : Nat) : Int)) (1 : Int)) = (1 : Int)))),(61,.i (((q + 1) : Nat) : Int))],[(15,⟨3,.row (.ints cs2)⟩)],[15,999]⟩)
         ((True ∧ True ∧ (Fits .i64 (((q + 1) : Nat) : Int))) ∧ True ∧ True)
         ⟨⟨tt,tt,(by exact fits_i64 (by omega) (by omega))⟩,tt,tt⟩ ?_
        refine thenQ_normal ?_
        refine ⟨((q + 1),cs2),(show ((q + 1) ≤ h.length) ∧ (cs2 = (ctUp h mk.toNat k).set k ((stepC (ctV h mk.toNat) k (q + 1) : Nat) : Int)) from ⟨(by first | assumption | omega | rfl | (intro _ hjj; omega) | (simp; done) | (simp; omega)),(by first | exact cs_yes hc2 hkb (by rw [haw,Int.toNat_natCast,hg1,hg2]) | exact cs_no hc2 (kbit (by omega) (by omega) (decide_eq_false n46)))⟩),(show h.length - (q + 1) < h.length - q from (by first | omega | (simp_all; omega))),?_⟩
        exact Sub.of [] (@cast (((Sd (.events h)) ∧ (((33 : Nat) = 33) ∧ (((.ep [.sl (.events g)] : AV) = .ep [.sl (.events g)]) ∧ (([] : List Nat) = [])) ∧ (((.ep [.i mk] : AV) = .ep [.i mk]) ∧ (([] : List Nat) = [])) ∧ True) ∧ (Sd (.ints (pastL h h.length))) ∧ (((15 : Nat) = 15) ∧ ((List.length (List.replicate (Int.toNat (shlI .i64 (1 : Int) (h.length : Int))) (0 : Int))) = (List.length (List.replicate (Int.toNat (shlI .i64 (1 : Int) (h.length : Int))) (0 : Int)))) ∧ ((15 : Nat) ∈ ([15,999] : List Nat))) ∧ (Si ((k : Nat) : Int)) ∧ (Si (((List.length (List.replicate (Int.toNat (shlI .i64 (1 : Int) (h.length : Int))) (0 : Int))) : Nat) : Int)) ∧ (Si ((k : Nat) : Int)) ∧ (Si (h.length : Int)) ∧ (Si (((q + 1) : Nat) : Int)) ∧ True) ∧ ((((3 : Nat) = 3) ∧ (Sd (.ints cs2)) ∧ ((15 : Nat) ∈ ([15,999] : List Nat))) ∧ True) ∧ (true = true) ∧ (true = true)) _ (by kernel_rfl) ⟨⟨rfl,⟨rfl,⟨rfl,rfl⟩,⟨rfl,rfl⟩,tt⟩,rfl,⟨rfl,rfl,(by decide)⟩,rfl,rfl,rfl,rfl,rfl,tt⟩,⟨⟨rfl,rfl,(by decide)⟩,tt⟩,rfl,rfl⟩)
      ·intro n39
       refine W.exit (thenQ_exit (thenQ_exit (blockQ_hit ?_)))
       refine blockQ_normal (thenQ_normal ?_)
       refine Lk cok tab32 hnt [] (⟨[(0,.sl (.events h)),(1,.fn 33 [.ep [.sl (.events g)],.ep [.i mk]]),(5,.sl (.ints (pastL h h.length))),(6,.own 15 (List.length (List.replicate (Int.toNat (shlI .i64 (1 : Int) (h.length : Int))) (0 : Int)))),(7,.i ((k : Nat) : Int)),(17,.i (((List.length (List.replicate (Int.toNat (shlI .i64 (1 : Int) (h.length : Int))) (0 : Int))) : Nat) : Int)),(18,.i (((k + 1) : Nat) : Int)),(37,.i (h.length : Int)),(38,.i ((q : Nat) : Int)),(39,.b (decide (((q : Nat) : Int) < (h.length : Int)))),(62,.i (((k + 1) : Nat) : Int))],[(15,⟨3,.row (.ints cs2)⟩)],[15,999]⟩)
        ((True ∧ True ∧ (Fits .i64 (((k + 1) : Nat) : Int))) ∧ True ∧ True)
        ⟨⟨tt,tt,(by exact fits_i64 (by omega) (by omega))⟩,tt,tt⟩ ?_
       refine thenQ_normal ?_
       refine ⟨((k + 1),cs2),(show ((k + 1) ≤ 2 ^ h.length) ∧ (cs2 = ctUp h mk.toNat (k + 1)) from ⟨(by first | assumption | omega | rfl | (intro _ hjj; omega) | (simp; done) | (simp; omega)),(by first | (rw [hc]; exact ctUp_same (by omega) (fr_no (by omega) h30)) | exact cs_end hc2 (by omega) (fr_yes (by omega) n30) (by omega))⟩),(show 2 ^ h.length - (k + 1) < 2 ^ h.length - k from (by first | omega | (simp_all; omega))),?_⟩
       exact Sub.of [] (@cast (((Sd (.events h)) ∧ (((33 : Nat) = 33) ∧ (((.ep [.sl (.events g)] : AV) = .ep [.sl (.events g)]) ∧ (([] : List Nat) = [])) ∧ (((.ep [.i mk] : AV) = .ep [.i mk]) ∧ (([] : List Nat) = [])) ∧ True) ∧ (Sd (.ints (pastL h h.length))) ∧ (((15 : Nat) = 15) ∧ ((List.length (List.replicate (Int.toNat (shlI .i64 (1 : Int) (h.length : Int))) (0 : Int))) = (List.length (List.replicate (Int.toNat (shlI .i64 (1 : Int) (h.length : Int))) (0 : Int)))) ∧ ((15 : Nat) ∈ ([15,999] : List Nat))) ∧ (Si (((List.length (List.replicate (Int.toNat (shlI .i64 (1 : Int) (h.length : Int))) (0 : Int))) : Nat) : Int)) ∧ (Si (((k + 1) : Nat) : Int)) ∧ True) ∧ ((((3 : Nat) = 3) ∧ (Sd (.ints cs2)) ∧ ((15 : Nat) ∈ ([15,999] : List Nat))) ∧ True) ∧ (true = true) ∧ (true = true)) _ (by kernel_rfl) ⟨⟨rfl,⟨rfl,⟨rfl,rfl⟩,⟨rfl,rfl⟩,tt⟩,rfl,⟨rfl,rfl,(by decide)⟩,rfl,rfl,tt⟩,⟨⟨rfl,rfl,(by decide)⟩,tt⟩,rfl,rfl⟩)
  ·intro n19
   have n19' := n19
   simp only [List.length_append,List.length_cons,List.length_nil,List.length_take,List.length_drop,List.length_set,List.length_replicate,List.length_map] at n19'
   refine W.exit (thenQ_exit (thenQ_exit (blockQ_hit ?_)))
   refine thenQ_normal ?_
   refine Kk cok tab32 hnt [] [4] (⟨[(4,.i (cs.getD (Int.toNat ((((List.length (List.replicate (Int.toNat (shlI .i64 (1 : Int) (h.length : Int))) (0 : Int))) : Nat) : Int) - (1 : Int))) 0))],[(15,⟨3,.row (.ints cs)⟩)],[15,999]⟩)
    (True ∧ True ∧ True ∧ (True ∧ True ∧ (Fits .i64 ((((List.length (List.replicate (Int.toNat (shlI .i64 (1 : Int) (h.length : Int))) (0 : Int))) : Nat) : Int) - (1 : Int)))) ∧ (True ∧ True ∧ (0 ≤ ((((List.length (List.replicate (Int.toNat (shlI .i64 (1 : Int) (h.length : Int))) (0 : Int))) : Nat) : Int) - (1 : Int))) ∧ (((((List.length (List.replicate (Int.toNat (shlI .i64 (1 : Int) (h.length : Int))) (0 : Int))) : Nat) : Int) - (1 : Int)) < (((List.length (List.replicate (Int.toNat (shlI .i64 (1 : Int) (h.length : Int))) (0 : Int))) : Nat) : Int))) ∧ (True ∧ ((Int.toNat ((((List.length (List.replicate (Int.toNat (shlI .i64 (1 : Int) (h.length : Int))) (0 : Int))) : Nat) : Int) - (1 : Int))) < cs.length)) ∧ True ∧ True)
    ⟨tt,tt,tt,⟨tt,tt,(by exact fits_i64 (by omega) (by omega))⟩,⟨tt,tt,(by (first | omega | (simp only [List.length_set]; done) | (simp only [List.length_append,List.length_cons,List.length_nil,List.length_take,List.length_drop,List.length_set,List.length_replicate,List.length_map] at *; omega) | assumption)),(by (first | omega | (simp only [List.length_set]; done) | (simp only [List.length_append,List.length_cons,List.length_nil,List.length_take,List.length_drop,List.length_set,List.length_replicate,List.length_map] at *; omega) | assumption))⟩,⟨tt,(by (first | omega | (simp only [List.length_set]; done) | (simp only [List.length_append,List.length_cons,List.length_nil,List.length_take,List.length_drop,List.length_set,List.length_replicate,List.length_map] at *; omega) | assumption))⟩,tt,tt⟩ ?_
   refine W.ret ?_
   exact endQ_ret (.i (cs.getD (Int.toNat ((((List.length (List.replicate (Int.toNat (shlI .i64 (1 : Int) (h.length : Int))) (0 : Int))) : Nat) : Int) - (1 : Int))) 0)) (by kernel_rfl) (@cast ((.int .i64 (cs.getD (Int.toNat ((((List.length (List.replicate (Int.toNat (shlI .i64 (1 : Int) (h.length : Int))) (0 : Int))) : Nat) : Int) - (1 : Int))) 0) : Value) = .int .i64 ((ctV h mk.toNat (fullE h) : Nat) : Int)) _ (by kernel_rfl) (congrArg (Value.int .i64) (by exact cs_last hc (by omega) (by unfold fullE; omega))))
theorem ent32 : Entr prog 32 := ⟨_,func32,rfl,by decide⟩
end Go.Proofs.Try

set_option linter.unusedSimpArgs false
set_option linter.unusedVariables false
namespace Go.Proofs.Try
open Go.Ab Go.RowKit
def fs13 : FnS := fnS [.s .events,.o] [.events,.int] (fun _ (h,mk,_) => (.b (sureE h mk),[],True))
abbrev T13 : Tab := lk [(22,fs22),(32,fs32)]
theorem tab13 : TabOK prog T13 := (TabOK.cons ok22 ent22 (TabOK.cons ok32 ent32 TabOK.nil))
set_option maxRecDepth 100000 in
set_option maxHeartbeats 1000000 in
theorem ok13 : FnOK prog 13 fs13 := by
 refine FnOK.mk cok func13 rfl rfl rfl ?_
 rintro fl ⟨(h : List EventD),(mk : Int),_⟩ hpre F hnt0 _
 have hnt : F.nt = 14 := hnt0.trans ntmps13
 clear hpre
 refine W.to (⟨[(0,.sl (.events h)),(1,.i mk)],[],[999]⟩) rfl ?_
 refine W.lenOf 0 (.events h) (by kernel_rfl) ?_
 intro hl_h; replace hl_h : List.length h ≤ 9223372036854775807 := hl_h
 refine Kk cok tab13 hnt [] [2,3] (⟨[(2,.ptr 2 0),(3,.ptr 3 0)],[(2,⟨23,.fix [.sl (.events h)]⟩),(3,⟨3,.fix [.i mk]⟩)],[3,2,999]⟩)
  (True ∧ True ∧ True ∧ True)
  ⟨tt,tt,tt,tt⟩ ?_
 refine W.subS [] (⟨[(2,.ep [.sl (.events h)]),(3,.ep [.i mk])],[],[999]⟩) (@cast ((((([.sl (.events h)] : List AV) = [.sl (.events h)]) ∧ (([] : List Nat) = []) ∧ ((2 : Nat) ∉ ([] : List Nat))) ∧ ((([.i mk] : List AV) = [.i mk]) ∧ (([] : List Nat) = []) ∧ ((3 : Nat) ∉ ([] : List Nat))) ∧ True) ∧ True ∧ (true = true) ∧ (true = true)) _ (by kernel_rfl) ⟨⟨⟨rfl,rfl,(by decide)⟩,⟨rfl,rfl,(by decide)⟩,tt⟩,tt,rfl,rfl⟩) ?_
 refine Kk cok tab13 hnt [] [4] (⟨[(4,.b ((isSetE h mk) && (decide (((ctV h mk.toNat (fullE h) : Nat) : Int) = (0 : Int)))))],[],[999]⟩)
  ((fun (Z1:Bool)=>(True ∧ (True ∧ ((True ∧ ((True ∧ (True ∧ True)) ∧ True)) ∧ (True ∧ ((Z1 = true → True) ∧ ((Z1 = true → True) ∧ ((Z1 = true → (True ∧ ((((Z1 = true) ∧ True) ∧ (((Z1 = true) ∧ True) ∧ True)) ∧ ((h.length ≤ 7) ∧ ((0 ≤ mk ∧ mk < 4611686018427387904) ∧ (h = h)))))) ∧ ((Z1 = true → (((Z1 = true) ∧ True) ∧ (True ∧ True))) ∧ ((True ∧ ((Z1 = true → (Z1 = true) ∧ True) ∧ (Z1 = false → True))) ∧ (True ∧ True))))))))))) (isSetE h mk))
  ⟨tt,tt,⟨tt,⟨tt,tt,tt⟩,tt⟩,tt,(fun _ => trivial),(fun _ => trivial),(fun hG => ⟨tt,⟨⟨hG,tt⟩,⟨hG,tt⟩,tt⟩,(by first | rfl | omega | (have hss := set_small hG; have hmb := set_bnd hG; first | rfl | omega)),(by first | rfl | omega | (have hss := set_small hG; have hmb := set_bnd hG; first | rfl | omega)),(by first | rfl | omega | (have hss := set_small hG; have hmb := set_bnd hG; first | rfl | omega))⟩),(fun hG => ⟨⟨hG,tt⟩,tt,tt⟩),⟨tt,(fun hp => ⟨hp,tt⟩),(fun _ => trivial)⟩,tt,tt⟩ ?_
 refine W.ret ?_
 exact endQ_ret (.b ((isSetE h mk) && (decide (((ctV h mk.toNat (fullE h) : Nat) : Int) = (0 : Int))))) (by kernel_rfl) (@cast ((.bool ((isSetE h mk) && (decide (((ctV h mk.toNat (fullE h) : Nat) : Int) = (0 : Int)))) : Value) = .bool (sureE h mk)) _ (by kernel_rfl) (congrArg Value.bool (by exact sure_ways)))
theorem ent13 : Entr prog 13 := ⟨_,func13,rfl,by decide⟩
end Go.Proofs.Try

set_option linter.unusedSimpArgs false
set_option linter.unusedVariables false
namespace Go.Proofs.Try
open Go.Ab Go.RowKit
def fs27 : FnS := fnS [.o,.o,.o] [.int,.int,.int] (fun _ (n,low,high,_) => (.b (within n low high),[],True))
abbrev T27 : Tab := lk []
theorem tab27 : TabOK prog T27 := TabOK.nil
set_option maxRecDepth 100000 in
set_option maxHeartbeats 1000000 in
theorem ok27 : FnOK prog 27 fs27 := by
 refine FnOK.mk cok func27 rfl rfl rfl ?_
 rintro fl ⟨(n : Int),(low : Int),(high : Int),_⟩ hpre F hnt0 _
 have hnt : F.nt = 15 := hnt0.trans ntmps27
 clear hpre
 refine W.to (⟨[(0,.i n),(1,.i low),(2,.i high)],[],[999]⟩) rfl ?_
 refine Kk cok tab27 hnt [] [0,1,2] (⟨[(0,.i n),(1,.i low),(2,.i high)],[],[999]⟩)
  (True ∧ True)
  ⟨tt,tt⟩ ?_
 refine Kk cok tab27 hnt [] [6] (⟨[(6,.b ((decide (low ≤ n)) && (decide (n ≤ high))))],[],[999]⟩)
  ((fun (Z1:Bool)=>(True ∧ (True ∧ ((True ∧ (True ∧ True)) ∧ (True ∧ ((Z1 = true → True) ∧ ((Z1 = true → True) ∧ ((Z1 = true → (((Z1 = true) ∧ True) ∧ (((Z1 = true) ∧ True) ∧ True))) ∧ ((True ∧ ((Z1 = true → (Z1 = true) ∧ True) ∧ (Z1 = false → True))) ∧ (True ∧ True)))))))))) (decide (low ≤ n)))
  ⟨tt,tt,⟨tt,tt,tt⟩,tt,(fun _ => trivial),(fun _ => trivial),(fun hG => ⟨⟨hG,tt⟩,⟨hG,tt⟩,tt⟩),⟨tt,(fun hp => ⟨hp,tt⟩),(fun _ => trivial)⟩,tt,tt⟩ ?_
 refine W.ret ?_
 exact endQ_ret (.b ((decide (low ≤ n)) && (decide (n ≤ high)))) (by kernel_rfl) (@cast ((.bool ((decide (low ≤ n)) && (decide (n ≤ high))) : Value) = .bool (within n low high)) _ (by kernel_rfl) (congrArg Value.bool (by first | rfl | simp_all)))
theorem ent27 : Entr prog 27 := ⟨_,func27,rfl,by decide⟩
end Go.Proofs.Try
