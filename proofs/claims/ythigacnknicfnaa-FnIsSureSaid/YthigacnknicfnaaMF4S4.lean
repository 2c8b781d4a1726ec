import Derived.Test.YthigacnknicfnaaMF4S0
import Derived.Test.YthigacnknicfnaaMF4S1
import Derived.Test.YthigacnknicfnaaMF4S3
import Derived.Test.YthigacnknicfnaaMF4S2
set_option linter.unusedSimpArgs false
set_option linter.unusedVariables false
namespace Go.Proofs.Try
open Go.Ab Go.RowKit
def out34 : Bool → ATy [.events,.int,.int] → AV × List (TypeId × Dat) × Prop := fun _ (h,mk,s,_) => (.b (avB h mk.toNat s.toNat),[],(h.length ≤ 7) ∧ (0 ≤ mk ∧ mk < 4611686018427387904) ∧ (0 ≤ s ∧ s < ((2 ^ h.length : Nat) : Int)))
def mu34 : ATy [.events,.int,.int] → Nat := fun (h,mk,s,_) => 2 ^ h.length - s.toNat
def fs34 : FnS := fnS [.s .events,.o,.o] [.events,.int,.int] out34
abbrev fsN34 (n : Nat) : FnS := fnS [.s .events,.o,.o] [.events,.int,.int] (lim out34 mu34 n)
theorem ent34 : Entr prog 34 := ⟨_,func34,rfl,by decide⟩
abbrev T34 (nn : Nat) : Tab := lk [(34,fsN34 nn),(19,fs19),(29,fs29),(39,fs39),(40,fs40)]
theorem tab34 {nn : Nat} (ih : FnOK prog 34 (fsN34 nn)) : TabOK prog (T34 nn) := (TabOK.cons ih ent34 (TabOK.cons ok19 ent19 (TabOK.cons ok29 ent29 (TabOK.cons ok39 ent39 (TabOK.cons ok40 ent40 TabOK.nil)))))
set_option maxRecDepth 100000 in
set_option maxHeartbeats 1000000 in
theorem okS34 (nn : Nat) (ih : FnOK prog 34 (fsN34 nn)) : FnOK prog 34 (fsN34 (nn + 1)) := by
 refine FnOK.mk cok func34 rfl rfl rfl ?_
 rintro fl ⟨(h : List EventD),(mk : Int),(s : Int),_⟩ hpre F hnt0 _
 have hnt : F.nt = 45 := hnt0.trans ntmps34
 obtain ⟨hpre,hmu⟩ := hpre
 replace hmu : 2 ^ h.length - s.toNat < nn + 1 := hmu
 replace hpre : (h.length ≤ 7) ∧ (0 ≤ mk ∧ mk < 4611686018427387904) ∧ (0 ≤ s ∧ s < ((2 ^ h.length : Nat) : Int)) := hpre
 obtain ⟨hn,hm,hs⟩ := hpre
 refine W.to (⟨[(0,.sl (.events h)),(1,.i mk),(2,.i s)],[],[999]⟩) rfl ?_
 have hp7 := Nat.pow_le_pow_right (show 0 < 2 by omega) hn
 have hp0 := Nat.pow_pos (n := h.length) (show 0 < 2 by omega)
 have hpn := power_nat h.length
 refine W.lenOf 0 (.events h) (by kernel_rfl) ?_
 intro hl_h; replace hl_h : List.length h ≤ 9223372036854775807 := hl_h
 refine Kk cok (tab34 ih) hnt [] [0,1,2] (⟨[(0,.sl (.events h)),(1,.i mk),(2,.i s)],[],[999]⟩)
  (True ∧ True)
  ⟨tt,tt⟩ ?_
 refine W.seq ?_
 refine Kk cok (tab34 ih) hnt [] [0,1,2,11] (⟨[(0,.sl (.events h)),(1,.i mk),(2,.i s),(11,.b (markedE h mk.toNat s.toNat))],[],[999]⟩)
  (True ∧ True ∧ True ∧ (True ∧ (True ∧ True ∧ True ∧ True) ∧ (h.length ≤ 60) ∧ (0 ≤ s ∧ s < 4611686018427387904) ∧ 0 ≤ mk ∧ mk < 4611686018427387904) ∧ True)
  ⟨tt,tt,tt,⟨tt,⟨tt,tt,tt,tt⟩,(by omega),(by omega),(by omega)⟩,tt⟩ ?_
 refine W.if' (markedE h mk.toNat s.toNat) (.b (markedE h mk.toNat s.toNat)) (by kernel_rfl) rfl trivial ?_ ?_
 ·intro h11
  refine Kk cok (tab34 ih) hnt [] [6] (⟨[(6,.b false)],[],[999]⟩)
   (True ∧ True)
   ⟨tt,tt⟩ ?_
  refine W.ret (thenQ_ret ?_)
  exact endQ_ret (.b false) (by kernel_rfl) (@cast ((.bool false : Value) = .bool (avB h mk.toNat s.toNat)) _ (by kernel_rfl) (congrArg Value.bool (by exact (av_marked h11).symm)))
 ·intro n11
  refine W.skip (thenQ_normal ?_)
  refine W.seq ?_
  refine Kk cok (tab34 ih) hnt [] [0,1,2,17] (⟨[(0,.sl (.events h)),(1,.i mk),(2,.i s),(17,.b (decide (s = ((power (h.length : Int)) - (1 : Int)))))],[],[999]⟩)
   (True ∧ True ∧ True ∧ (True ∧ (True ∧ True) ∧ ((h.length : Int) ≤ 60)) ∧ (True ∧ True ∧ (Fits .i64 ((power (h.length : Int)) - (1 : Int)))) ∧ (True ∧ True ∧ True) ∧ True)
   ⟨tt,tt,tt,⟨tt,⟨tt,tt⟩,(by omega)⟩,⟨tt,tt,(by first | (rw [hpn]; exact fits_i64 (by omega) (by omega)) | (have hpi2 := hpi (by omega); rw [hpj]; exact fits_i64 (by omega) (by omega)))⟩,⟨tt,tt,tt⟩,tt⟩ ?_
  refine W.ifP (s = ((power (h.length : Int)) - (1 : Int))) (.b (decide (s = ((power (h.length : Int)) - (1 : Int))))) (by kernel_rfl) rfl trivial ?_ ?_
  ·intro h17
   refine Kk cok (tab34 ih) hnt [] [6] (⟨[(6,.b true)],[],[999]⟩)
    (True ∧ True)
    ⟨tt,tt⟩ ?_
   refine W.ret (thenQ_ret ?_)
   exact endQ_ret (.b true) (by kernel_rfl) (@cast ((.bool true : Value) = .bool (avB h mk.toNat s.toNat)) _ (by kernel_rfl) (congrArg Value.bool (by exact (av_full n11 (av_isfull h17)).symm)))
  ·intro n17
   refine W.skip (thenQ_normal ?_)
   refine W.seq ?_
   refine Kk cok (tab34 ih) hnt [] [0,1,2,7] (⟨[(0,.sl (.events h)),(1,.i mk),(2,.i s),(7,.i (0 : Int))],[],[999]⟩)
    (True ∧ True)
    ⟨tt,tt⟩ ?_
   refine W.block ?_
   refine W.loop (ι := Nat) (fun (i : Nat) => (⟨[(0,.sl (.events h)),(1,.i mk),(2,.i s),(7,.i ((i : Nat) : Int))],[],[999]⟩ : St))
    (fun (i : Nat) => (i ≤ h.length) ∧ (∀ j,j < i → avAt h mk.toNat s.toNat j = false))
    (fun (i : Nat) => (h.length - i : Nat)) (0) ?_ ?_ ?_
   ·exact (show (0 ≤ h.length) ∧ (∀ j,j < 0 → avAt h mk.toNat s.toNat j = false) from ⟨(by first | assumption | omega | rfl | (intro _ hjj; omega) | (simp; done) | (simp; omega)),(by exact upto_zero)⟩)
   ·exact Sub.of [] (@cast (((Sd (.events h)) ∧ (Si mk) ∧ (Si s) ∧ ((.int .i64 (0 : Int) : Value) = .int .i64 ((0 : Nat) : Int)) ∧ True) ∧ True ∧ (true = true) ∧ (true = true)) _ (by kernel_rfl) ⟨⟨rfl,rfl,rfl,(congrArg (Value.int .i64) (by first | rfl | omega | assumption | simp | simp_all)),tt⟩,tt,rfl,rfl⟩)
   ·rintro i hC0
    have hC : (i ≤ h.length) ∧ (∀ j,j < i → avAt h mk.toNat s.toNat j = false) := hC0
    clear hC0
    obtain ⟨hi,hA⟩ := hC
    refine W.to (⟨[(0,.sl (.events h)),(1,.i mk),(2,.i s),(7,.i ((i : Nat) : Int))],[],[999]⟩) rfl ?_
    have hpi := fun (hi : i < h.length) => Nat.pow_le_pow_right (show 0 < 2 by omega) (show i ≤ 7 by omega)
    have hpj := power_nat i
    have hp1 := Nat.pow_pos (n := i) (show 0 < 2 by omega)
    refine W.seq ?_
    refine Kk cok (tab34 ih) hnt [] [0,1,2,7,21] (⟨[(0,.sl (.events h)),(1,.i mk),(2,.i s),(7,.i ((i : Nat) : Int)),(21,.b (decide (((i : Nat) : Int) < (h.length : Int))))],[],[999]⟩)
     (True ∧ True ∧ True ∧ (True ∧ True ∧ True) ∧ True)
     ⟨tt,tt,tt,⟨tt,tt,tt⟩,tt⟩ ?_
    refine W.ifP (((i : Nat) : Int) < (h.length : Int)) (.b (decide (((i : Nat) : Int) < (h.length : Int)))) (by kernel_rfl) rfl trivial ?_ ?_
    ·intro h21
     refine W.skip (thenQ_normal ?_)
     refine W.seq ?_
     refine W.block ?_
     refine Kk cok (tab34 ih) hnt [] [0,1,2,7,44] (⟨[(0,.sl (.events h)),(1,.i mk),(2,.i s),(7,.i ((i : Nat) : Int)),(44,.b (((decide ((bitOf s ((i : Nat) : Int)) = (0 : Int))) && (isCutE h (s + (power ((i : Nat) : Int))))) && (avB h mk.toNat (s + (power ((i : Nat) : Int))).toNat)))],[],[999]⟩)
      ((fun (Z1:Bool)=>((fun (Z2:Bool)=>(True ∧ (True ∧ ((True ∧ ((True ∧ (True ∧ True)) ∧ ((((i : Nat) : Int) ≤ 60) ∧ (0 ≤ s ∧ s ≤ 4611686018427387904)))) ∧ ((True ∧ (True ∧ True)) ∧ (True ∧ ((Z1 = true → True) ∧ ((Z1 = true → True) ∧ ((Z1 = true → True) ∧ ((Z1 = true → (True ∧ ((((Z1 = true) ∧ True) ∧ True) ∧ (((i : Nat) : Int) ≤ 60)))) ∧ ((Z1 = true → (((Z1 = true) ∧ True) ∧ (((Z1 = true) ∧ True) ∧ (Fits .i64 (s + (power ((i : Nat) : Int))))))) ∧ ((Z1 = true → (True ∧ ((((Z1 = true) ∧ True) ∧ (((Z1 = true) ∧ True) ∧ True)) ∧ (h.length ≤ 60)))) ∧ ((True ∧ ((Z1 = true → (Z1 = true) ∧ True) ∧ (Z1 = false → True))) ∧ (True ∧ ((Z2 = true → True) ∧ ((Z2 = true → True) ∧ ((Z2 = true → True) ∧ ((Z2 = true → True) ∧ ((Z2 = true → (True ∧ ((((Z2 = true) ∧ True) ∧ True) ∧ (((i : Nat) : Int) ≤ 60)))) ∧ ((Z2 = true → (((Z2 = true) ∧ True) ∧ (((Z2 = true) ∧ True) ∧ (Fits .i64 (s + (power ((i : Nat) : Int))))))) ∧ ((Z2 = true → (True ∧ ((((Z2 = true) ∧ True) ∧ (((Z2 = true) ∧ True) ∧ (((Z2 = true) ∧ True) ∧ True))) ∧ (((h.length ≤ 7) ∧ ((0 ≤ mk ∧ mk < 4611686018427387904) ∧ (0 ≤ (s + (power ((i : Nat) : Int))) ∧ (s + (power ((i : Nat) : Int))) < ((2 ^ h.length : Nat) : Int)))) ∧ (2 ^ h.length - (s + (power ((i : Nat) : Int))).toNat < nn))))) ∧ ((True ∧ ((Z2 = true → (Z2 = true) ∧ True) ∧ (Z2 = false → True))) ∧ True)))))))))))))))))))))) (Z1 && (isCutE h (s + (power ((i : Nat) : Int))))))) (decide ((bitOf s ((i : Nat) : Int)) = (0 : Int))))
      ⟨tt,tt,⟨tt,⟨tt,tt,tt⟩,(by omega),(by omega)⟩,⟨tt,tt,tt⟩,tt,(fun _ => trivial),(fun _ => trivial),(fun _ => trivial),(fun hG => ⟨tt,⟨⟨hG,tt⟩,tt⟩,(by have hg0 : (bitOf s ((i : Nat) : Int)) = (0 : Int) := of_decide_eq_true hG; omega)⟩),(fun hG => ⟨⟨hG,tt⟩,⟨hG,tt⟩,(by have hg0 : (bitOf s ((i : Nat) : Int)) = (0 : Int) := of_decide_eq_true hG; first | (rw [hpn]; exact fits_i64 (by omega) (by omega)) | (have hpi2 := hpi (by omega); rw [hpj]; exact fits_i64 (by omega) (by omega)))⟩),(fun hG => ⟨tt,⟨⟨hG,tt⟩,⟨hG,tt⟩,tt⟩,(by have hg0 : (bitOf s ((i : Nat) : Int)) = (0 : Int) := of_decide_eq_true hG; omega)⟩),⟨tt,(fun hp => ⟨hp,tt⟩),(fun _ => trivial)⟩,tt,(fun _ => trivial),(fun _ => trivial),(fun _ => trivial),(fun _ => trivial),(fun hG => ⟨tt,⟨⟨hG,tt⟩,tt⟩,(by have hg0 : (bitOf s ((i : Nat) : Int)) = (0 : Int) := of_decide_eq_true (and_l hG); omega)⟩),(fun hG => ⟨⟨hG,tt⟩,⟨hG,tt⟩,(by have hg0 : (bitOf s ((i : Nat) : Int)) = (0 : Int) := of_decide_eq_true (and_l hG); first | (rw [hpn]; exact fits_i64 (by omega) (by omega)) | (have hpi2 := hpi (by omega); rw [hpj]; exact fits_i64 (by omega) (by omega)))⟩),(fun hG => ⟨tt,⟨⟨hG,tt⟩,⟨hG,tt⟩,⟨hG,tt⟩,tt⟩,⟨(by have hg0 : (bitOf s ((i : Nat) : Int)) = (0 : Int) := of_decide_eq_true (and_l hG); omega),(by have hg0 : (bitOf s ((i : Nat) : Int)) = (0 : Int) := of_decide_eq_true (and_l hG); omega),(by have hg0 : (bitOf s ((i : Nat) : Int)) = (0 : Int) := of_decide_eq_true (and_l hG); have h8 := cut_rng (and_r hG); rw [hpj] at h8 ⊢; omega)⟩,(by have hg0 : (bitOf s ((i : Nat) : Int)) = (0 : Int) := of_decide_eq_true (and_l hG); have h8 := cut_rng (and_r hG); rw [hpj] at h8 ⊢; omega)⟩),⟨tt,(fun hp => ⟨hp,tt⟩),(fun _ => trivial)⟩,tt⟩ ?_
     refine W.if' (((decide ((bitOf s ((i : Nat) : Int)) = (0 : Int))) && (isCutE h (s + (power ((i : Nat) : Int))))) && (avB h mk.toNat (s + (power ((i : Nat) : Int))).toNat)) (.b (((decide ((bitOf s ((i : Nat) : Int)) = (0 : Int))) && (isCutE h (s + (power ((i : Nat) : Int))))) && (avB h mk.toNat (s + (power ((i : Nat) : Int))).toNat))) (by kernel_rfl) rfl trivial ?_ ?_
     ·intro h44
      have h44_0 : (bitOf s ((i : Nat) : Int)) = (0 : Int) := of_decide_eq_true (and_l (and_l h44))
      refine Kk cok (tab34 ih) hnt [] [6] (⟨[(6,.b true)],[],[999]⟩)
       (True ∧ True)
       ⟨tt,tt⟩ ?_
      refine W.ret (blockQ_ret (thenQ_ret (thenQ_ret (blockQ_ret (thenQ_ret ?_)))))
      exact endQ_ret (.b true) (by kernel_rfl) (@cast ((.bool true : Value) = .bool (avB h mk.toNat s.toNat)) _ (by kernel_rfl) (congrArg Value.bool (by exact (av_yes n11 (av_notfull hs.1 n17) (show i < h.length by omega) (av_at hs.1 h44)).symm)))
     ·intro n44
      refine W.skip (blockQ_normal (thenQ_normal ?_))
      refine Lk cok (tab34 ih) hnt [] (⟨[(0,.sl (.events h)),(1,.i mk),(2,.i s),(7,.i (((i + 1) : Nat) : Int)),(22,.i ((i : Nat) : Int)),(23,.i (((i + 1) : Nat) : Int)),(44,.b (((decide ((bitOf s ((i : Nat) : Int)) = (0 : Int))) && (isCutE h (s + (power ((i : Nat) : Int))))) && (avB h mk.toNat (s + (power ((i : Nat) : Int))).toNat)))],[],[999]⟩)
       (True ∧ (True ∧ True ∧ (Fits .i64 (((i + 1) : Nat) : Int))) ∧ True ∧ True)
       ⟨tt,⟨tt,tt,(by exact fits_i64 (by omega) (by omega))⟩,tt,tt⟩ ?_
      refine thenQ_normal ?_
      refine ⟨((i + 1)),(show ((i + 1) ≤ h.length) ∧ (∀ j,j < (i + 1) → avAt h mk.toNat s.toNat j = false) from ⟨(by first | assumption | omega | rfl | (intro _ hjj; omega) | (simp; done) | (simp; omega)),(by exact upto_succ hA (av_at hs.1 n44))⟩),(show h.length - (i + 1) < h.length - i from (by first | omega | (simp_all; omega))),?_⟩
      exact Sub.of [] (@cast (((Sd (.events h)) ∧ (Si mk) ∧ (Si s) ∧ (Si (((i + 1) : Nat) : Int)) ∧ True) ∧ True ∧ (true = true) ∧ (true = true)) _ (by kernel_rfl) ⟨⟨rfl,rfl,rfl,rfl,tt⟩,tt,rfl,rfl⟩)
    ·intro n21
     refine W.exit (thenQ_exit (thenQ_exit (blockQ_hit ?_)))
     refine thenQ_normal ?_
     refine Kk cok (tab34 ih) hnt [] [6] (⟨[(6,.b false)],[],[999]⟩)
      (True ∧ True)
      ⟨tt,tt⟩ ?_
     refine W.ret ?_
     exact endQ_ret (.b false) (by kernel_rfl) (@cast ((.bool false : Value) = .bool (avB h mk.toNat s.toNat)) _ (by kernel_rfl) (congrArg Value.bool (by exact (av_no (av_notfull hs.1 n17) (fun j hj => hA j (by omega))).symm)))
theorem ok34 : FnOK prog 34 fs34 := FnOK.rec' okS34
end Go.Proofs.Try

set_option linter.unusedSimpArgs false
set_option linter.unusedVariables false
namespace Go.Proofs.Try
open Go.Ab Go.RowKit
def fs14 : FnS := fnS [.s .events,.o] [.events,.int] (fun _ (h,mk,_) => (.b (sureE h mk),[],True))
abbrev T14 : Tab := lk [(19,fs19),(26,fs26),(27,fs27),(34,fs34)]
theorem tab14 : TabOK prog T14 := (TabOK.cons ok19 ent19 (TabOK.cons ok26 ent26 (TabOK.cons ok27 ent27 (TabOK.cons ok34 ent34 TabOK.nil))))
set_option maxRecDepth 100000 in
set_option maxHeartbeats 1000000 in
theorem ok14 : FnOK prog 14 fs14 := by
 refine FnOK.mk cok func14 rfl rfl rfl ?_
 rintro fl ⟨(h : List EventD),(mk : Int),_⟩ hpre F hnt0 _
 have hnt : F.nt = 21 := hnt0.trans ntmps14
 clear hpre
 refine W.to (⟨[(0,.sl (.events h)),(1,.i mk)],[],[999]⟩) rfl ?_
 refine W.lenOf 0 (.events h) (by kernel_rfl) ?_
 intro hl_h; replace hl_h : List.length h ≤ 9223372036854775807 := hl_h
 refine Kk cok tab14 hnt [] [0,1] (⟨[(0,.sl (.events h)),(1,.i mk)],[],[999]⟩)
  (True ∧ True)
  ⟨tt,tt⟩ ?_
 refine Kk cok tab14 hnt [] [4] (⟨[(4,.b (((validE h) && (within mk (0 : Int) ((power (h.length : Int)) - (1 : Int)))) && (!(avB h mk.toNat (0 : Int).toNat))))],[],[999]⟩)
  ((fun (Z1:Bool)=>((fun (Z2:Bool)=>(True ∧ ((True ∧ ((True ∧ True) ∧ True)) ∧ (True ∧ ((Z1 = true → True) ∧ ((Z1 = true → True) ∧ ((Z1 = true → ((Z1 = true) ∧ True)) ∧ ((Z1 = true → (True ∧ ((((Z1 = true) ∧ True) ∧ True) ∧ ((h.length : Int) ≤ 60)))) ∧ ((Z1 = true → (((Z1 = true) ∧ True) ∧ (True ∧ (Fits .i64 ((power (h.length : Int)) - (1 : Int)))))) ∧ ((Z1 = true → (True ∧ ((((Z1 = true) ∧ True) ∧ (True ∧ (((Z1 = true) ∧ True) ∧ True))) ∧ True))) ∧ ((True ∧ ((Z1 = true → (Z1 = true) ∧ True) ∧ (Z1 = false → True))) ∧ (True ∧ ((Z2 = true → True) ∧ ((Z2 = true → True) ∧ ((Z2 = true → (True ∧ ((((Z2 = true) ∧ True) ∧ (((Z2 = true) ∧ True) ∧ (True ∧ True))) ∧ ((h.length ≤ 7) ∧ ((0 ≤ mk ∧ mk < 4611686018427387904) ∧ (0 ≤ (0 : Int) ∧ (0 : Int) < ((2 ^ h.length : Nat) : Int))))))) ∧ ((Z2 = true → ((Z2 = true) ∧ True)) ∧ ((True ∧ ((Z2 = true → (Z2 = true) ∧ True) ∧ (Z2 = false → True))) ∧ (True ∧ True)))))))))))))))))) (Z1 && (within mk (0 : Int) ((power (h.length : Int)) - (1 : Int)))))) (validE h))
  ⟨tt,⟨tt,⟨tt,tt⟩,tt⟩,tt,(fun _ => trivial),(fun _ => trivial),(fun hG => ⟨hG,tt⟩),(fun hG => ⟨tt,⟨⟨hG,tt⟩,tt⟩,(by have hn : h.length ≤ 7 := of_decide_eq_true (and_l hG); omega)⟩),(fun hG => ⟨⟨hG,tt⟩,tt,(by have hn : h.length ≤ 7 := of_decide_eq_true (and_l hG); have hp7 := Nat.pow_le_pow_right (show 0 < 2 by omega) hn; have hp0 := Nat.pow_pos (n := h.length) (show 0 < 2 by omega); rw [power_nat]; exact fits_i64 (by omega) (by omega))⟩),(fun hG => ⟨tt,⟨⟨hG,tt⟩,tt,⟨hG,tt⟩,tt⟩,tt⟩),⟨tt,(fun hp => ⟨hp,tt⟩),(fun _ => trivial)⟩,tt,(fun _ => trivial),(fun _ => trivial),(fun hG => ⟨tt,⟨⟨hG,tt⟩,⟨hG,tt⟩,tt,tt⟩,(by first | omega | (have hss := set_small (h := h) (m := mk) hG; have hmb := set_bnd (h := h) (m := mk) hG; have hp0 := Nat.pow_pos (n := h.length) (show 0 < 2 by omega); omega)),(by first | omega | (have hss := set_small (h := h) (m := mk) hG; have hmb := set_bnd (h := h) (m := mk) hG; have hp0 := Nat.pow_pos (n := h.length) (show 0 < 2 by omega); omega)),(by first | omega | (have hss := set_small (h := h) (m := mk) hG; have hmb := set_bnd (h := h) (m := mk) hG; have hp0 := Nat.pow_pos (n := h.length) (show 0 < 2 by omega); omega))⟩),(fun hG => ⟨hG,tt⟩),⟨tt,(fun hp => ⟨hp,tt⟩),(fun _ => trivial)⟩,tt,tt⟩ ?_
 refine W.ret ?_
 exact endQ_ret (.b (((validE h) && (within mk (0 : Int) ((power (h.length : Int)) - (1 : Int)))) && (!(avB h mk.toNat (0 : Int).toNat)))) (by kernel_rfl) (@cast ((.bool (((validE h) && (within mk (0 : Int) ((power (h.length : Int)) - (1 : Int)))) && (!(avB h mk.toNat (0 : Int).toNat))) : Value) = .bool (sureE h mk)) _ (by kernel_rfl) (congrArg Value.bool (by unfold sureE isSetE; rfl)))
theorem ent14 : Entr prog 14 := ⟨_,func14,rfl,by decide⟩
end Go.Proofs.Try

set_option linter.unusedSimpArgs false
set_option linter.unusedVariables false
namespace Go.Proofs.Try
open Go.Ab Go.RowKit
def fs9 : FnS := fnS [.s .events] [.events] (fun _ (h,_) => (.own 0 (List.length (cutsOf h)),[(3,.ints (cutsOf h))],True))
abbrev T9 : Tab := lk [(15,fs15),(30,fs30),(31,fs31)]
theorem tab9 : TabOK prog T9 := (TabOK.cons ok15 ent15 (TabOK.cons ok30 ent30 (TabOK.cons ok31 ent31 TabOK.nil)))
set_option maxRecDepth 100000 in
set_option maxHeartbeats 1000000 in
theorem ok9 : FnOK prog 9 fs9 := by
 refine FnOK.mk cok func9 rfl rfl rfl ?_
 rintro fl ⟨(h : List EventD),_⟩ hpre F hnt0 _
 have hnt : F.nt = 29 := hnt0.trans ntmps9
 clear hpre
 refine W.to (⟨[(0,.sl (.events h))],[],[999]⟩) rfl ?_
 refine W.lenOf 0 (.events h) (by kernel_rfl) ?_
 intro hl_h; replace hl_h : List.length h ≤ 9223372036854775807 := hl_h
 refine Kk cok tab9 hnt [] [0] (⟨[(0,.sl (.events h))],[],[999]⟩)
  (True ∧ True)
  ⟨tt,tt⟩ ?_
 refine Kk cok tab9 hnt [6] [0,3] (⟨[(0,.sl (.events h)),(3,.own 6 (List.length ([] : List Int)))],[(6,⟨3,.row (.ints ([] : List Int))⟩)],[6,999]⟩)
  (True ∧ True ∧ True)
  ⟨tt,tt,tt⟩ ?_
 refine W.seq ?_
 refine Kk cok tab9 hnt [] [0,3,9] (⟨[(0,.sl (.events h)),(3,.own 6 (List.length ([] : List Int))),(9,.b (!(validE h)))],[(6,⟨3,.row (.ints ([] : List Int))⟩)],[6,999]⟩)
  (True ∧ (True ∧ (True ∧ True) ∧ True) ∧ True ∧ True)
  ⟨tt,⟨tt,⟨tt,tt⟩,tt⟩,tt,tt⟩ ?_
 refine W.if' (!(validE h)) (.b (!(validE h))) (by kernel_rfl) rfl trivial ?_ ?_
 ·intro h9
  refine Kk cok tab9 hnt [] [2] (⟨[(2,.own 6 (List.length ([] : List Int)))],[(6,⟨3,.row (.ints ([] : List Int))⟩)],[6,999]⟩)
   (True ∧ True ∧ True)
   ⟨tt,tt,tt⟩ ?_
  refine W.ret (thenQ_ret ?_)
  exact endQ_rows [(0,6)] (.own 6 (List.length ([] : List Int))) (by kernel_rfl) (@cast (((6 : Nat) = 6) ∧ ((List.length ([] : List Int)) = (List.length (cutsOf h))) ∧ ((0 : Nat) ∈ ([0] : List Nat))) _ (by kernel_rfl) ⟨rfl,(by first | rfl | omega | assumption | (symm; assumption) | (exact congrArg List.length (by exact (cutsOf_no (not_f h9)).symm)) | (exact (cutsOf_no (not_f h9)).symm; done) | simp | simp_all),(by decide)⟩) (@cast ((((3 : Nat) = 3) ∧ ((.ints ([] : List Int) : Dat) = .ints (cutsOf h)) ∧ ((0 : Nat) ∈ ([0] : List Nat))) ∧ True) _ (by kernel_rfl) ⟨⟨rfl,(congrArg Dat.ints (by exact (cutsOf_no (not_f h9)).symm)),(by decide)⟩,tt⟩) (by kernel_rfl)
 ·intro n9
  have hv : validE h = true := not_g n9
  have hn : h.length ≤ 7 := of_decide_eq_true (and_l hv)
  have hp7 := Nat.pow_le_pow_right (show 0 < 2 by omega) hn
  have hsh := shl_one (k := h.length) (by omega)
  have hpl := pastL_len h h.length
  have hpo := pastL_ok h h.length (by omega)
  unfold okBits at hpo
  refine W.skip (thenQ_normal ?_)
  refine Kk cok tab9 hnt [] [0,3,4] (⟨[(0,.sl (.events h)),(3,.own 6 (List.length ([] : List Int))),(4,.sl (.ints (pastL h h.length)))],[(6,⟨3,.row (.ints ([] : List Int))⟩)],[6,999]⟩)
   (True ∧ (True ∧ (True ∧ True) ∧ (h.length ≤ 60)) ∧ True ∧ True)
   ⟨tt,⟨tt,⟨tt,tt⟩,(by omega)⟩,tt,tt⟩ ?_
  refine W.seq ?_
  refine Kk cok tab9 hnt [] [3,4,16,17] (⟨[(3,.own 6 (List.length ([] : List Int))),(4,.sl (.ints (pastL h h.length))),(16,.i (shlI .i64 (1 : Int) (h.length : Int))),(17,.i (0 : Int))],[(6,⟨3,.row (.ints ([] : List Int))⟩)],[6,999]⟩)
   (True ∧ True ∧ (True ∧ (Fits .u64 (h.length : Int))) ∧ (True ∧ True ∧ (0 ≤ (h.length : Int)) ∧ (Fits .i64 (shlI .i64 (1 : Int) (h.length : Int)))) ∧ True ∧ True)
   ⟨tt,tt,⟨tt,(by first | exact fits_u64 (by omega) (by omega) | exact fits_i64 (by omega) (by omega))⟩,⟨tt,tt,(by omega),(by exact fits_shl (by omega))⟩,tt,tt⟩ ?_
  refine W.block ?_
  refine W.loop (ι := (List Int) × Nat) (fun (x : (List Int) × Nat) => match x with | (o,k) => (⟨[(3,.own 6 o.length),(4,.sl (.ints (pastL h h.length))),(16,.i (shlI .i64 (1 : Int) (h.length : Int))),(17,.i ((k : Nat) : Int))],[(6,⟨3,.row (.ints o)⟩)],[6,999]⟩ : St))
   (fun (x : (List Int) × Nat) => match x with | (o,k) => (k ≤ 2 ^ h.length) ∧ (o = cutsN h k))
   (fun (x : (List Int) × Nat) => match x with | (o,k) => (2 ^ h.length - k : Nat)) (([] : List Int),0) ?_ ?_ ?_
  ·exact (show (0 ≤ 2 ^ h.length) ∧ (([] : List Int) = cutsN h 0) from ⟨(by exact Nat.zero_le _),(by rfl)⟩)
  ·exact Sub.of [] (@cast (((((6 : Nat) = 6) ∧ ((List.length ([] : List Int)) = (List.length ([] : List Int))) ∧ ((6 : Nat) ∈ ([6,999] : List Nat))) ∧ (Sd (.ints (pastL h h.length))) ∧ (Si (shlI .i64 (1 : Int) (h.length : Int))) ∧ ((.int .i64 (0 : Int) : Value) = .int .i64 ((0 : Nat) : Int)) ∧ True) ∧ ((((3 : Nat) = 3) ∧ (Sd (.ints ([] : List Int))) ∧ ((6 : Nat) ∈ ([6,999] : List Nat))) ∧ True) ∧ (true = true) ∧ (true = true)) _ (by kernel_rfl) ⟨⟨⟨rfl,rfl,(by decide)⟩,rfl,rfl,(congrArg (Value.int .i64) (by first | rfl | omega | assumption | simp | simp_all)),tt⟩,⟨⟨rfl,rfl,(by decide)⟩,tt⟩,rfl,rfl⟩)
  ·rintro ⟨o,k⟩ hC0
   have hC : (k ≤ 2 ^ h.length) ∧ (o = cutsN h k) := hC0
   clear hC0
   obtain ⟨hk,ho⟩ := hC
   refine W.to (⟨[(3,.own 6 o.length),(4,.sl (.ints (pastL h h.length))),(16,.i (shlI .i64 (1 : Int) (h.length : Int))),(17,.i ((k : Nat) : Int))],[(6,⟨3,.row (.ints o)⟩)],[6,999]⟩) rfl ?_
   have hol : o.length ≤ k := by rw [ho]; exact cutsN_len h k
   refine Kk cok tab9 hnt [] [3,4,16,17,18] (⟨[(3,.own 6 o.length),(4,.sl (.ints (pastL h h.length))),(16,.i (shlI .i64 (1 : Int) (h.length : Int))),(17,.i ((k : Nat) : Int)),(18,.b (decide (((k : Nat) : Int) < (shlI .i64 (1 : Int) (h.length : Int)))))],[(6,⟨3,.row (.ints o)⟩)],[6,999]⟩)
    ((True ∧ True ∧ True) ∧ True)
    ⟨⟨tt,tt,tt⟩,tt⟩ ?_
   refine W.seq ?_
   refine W.ifP (((k : Nat) : Int) < (shlI .i64 (1 : Int) (h.length : Int))) (.b (decide (((k : Nat) : Int) < (shlI .i64 (1 : Int) (h.length : Int))))) (by kernel_rfl) rfl trivial ?_ ?_
   ·intro h18
    refine W.skip (thenQ_normal ?_)
    refine W.seq ?_
    refine W.block ?_
    refine Kk cok tab9 hnt [] [3,4,5,16,17] (⟨[(3,.own 6 o.length),(4,.sl (.ints (pastL h h.length))),(5,.i ((k : Nat) : Int)),(16,.i (shlI .i64 (1 : Int) (h.length : Int))),(17,.i ((k : Nat) : Int))],[(6,⟨3,.row (.ints o)⟩)],[6,999]⟩)
     (True ∧ True ∧ True)
     ⟨tt,tt,tt⟩ ?_
    refine Kk cok tab9 hnt [] [3,4,5,16,17,22] (⟨[(3,.own 6 o.length),(4,.sl (.ints (pastL h h.length))),(5,.i ((k : Nat) : Int)),(16,.i (shlI .i64 (1 : Int) (h.length : Int))),(17,.i ((k : Nat) : Int)),(22,.b (cutF (pastL h h.length) ((k : Nat) : Int).toNat))],[(6,⟨3,.row (.ints o)⟩)],[6,999]⟩)
     (True ∧ True ∧ (True ∧ (True ∧ True ∧ True) ∧ (0 ≤ ((k : Nat) : Int) ∧ ((k : Nat) : Int) < 4611686018427387904) ∧ ((pastL h h.length).length ≤ 60) ∧ (∀ j,j < (pastL h h.length).length → 0 ≤ (pastL h h.length).getD j 0 ∧ (pastL h h.length).getD j 0 < 4611686018427387904)) ∧ True)
     ⟨tt,tt,⟨tt,⟨tt,tt,tt⟩,(by omega),(by omega),(by intro j hj; have h9 := hpo j (by omega); omega)⟩,tt⟩ ?_
    refine W.if' (cutF (pastL h h.length) ((k : Nat) : Int).toNat) (.b (cutF (pastL h h.length) ((k : Nat) : Int).toNat)) (by kernel_rfl) rfl trivial ?_ ?_
    ·intro h22
     refine Lk cok tab9 hnt [26] (⟨[(3,.own 26 (List.length (o ++ ([((k : Nat) : Int)])))),(4,.sl (.ints (pastL h h.length))),(5,.i ((k : Nat) : Int)),(16,.i (shlI .i64 (1 : Int) (h.length : Int))),(17,.i ((k : Nat) : Int)),(22,.b (cutF (pastL h h.length) ((k : Nat) : Int).toNat)),(23,.own 6 o.length),(24,.i ((k : Nat) : Int)),(25,.sl (.ints ([((k : Nat) : Int)]))),(26,.own 26 (List.length (o ++ ([((k : Nat) : Int)]))))],[(26,⟨3,.row (.ints (o ++ ([((k : Nat) : Int)])))⟩)],[26,25,6,999]⟩)
      (True ∧ True ∧ (True ∧ True) ∧ ((True ∧ (o.length = o.length)) ∧ True ∧ ((o.length + (List.length ([((k : Nat) : Int)]))) * 8 ≤ 140737488355328)) ∧ True ∧ True)
      ⟨tt,tt,⟨tt,tt⟩,⟨⟨tt,rfl⟩,tt,(by (first | omega | (simp only [List.length_set]; done) | (simp only [List.length_append,List.length_cons,List.length_nil,List.length_take,List.length_drop,List.length_set,List.length_replicate,List.length_map] at *; omega) | assumption))⟩,tt,tt⟩ ?_
     refine blockQ_normal (thenQ_normal ?_)
     refine Lk cok tab9 hnt [] (⟨[(3,.own 26 (List.length (o ++ ([((k : Nat) : Int)])))),(4,.sl (.ints (pastL h h.length))),(5,.i ((k : Nat) : Int)),(16,.i (shlI .i64 (1 : Int) (h.length : Int))),(17,.i (((k + 1) : Nat) : Int)),(22,.b (cutF (pastL h h.length) ((k : Nat) : Int).toNat)),(23,.own 6 o.length),(24,.i ((k : Nat) : Int)),(25,.sl (.ints ([((k : Nat) : Int)]))),(26,.own 26 (List.length (o ++ ([((k : Nat) : Int)])))),(27,.i (((k + 1) : Nat) : Int))],[(26,⟨3,.row (.ints (o ++ ([((k : Nat) : Int)])))⟩)],[26,25,6,999]⟩)
      ((True ∧ True ∧ (Fits .i64 (((k + 1) : Nat) : Int))) ∧ True ∧ True)
      ⟨⟨tt,tt,(by first | exact fits_u64 (by omega) (by omega) | exact fits_i64 (by omega) (by omega))⟩,tt,tt⟩ ?_
     refine thenQ_normal ?_
     refine ⟨((o ++ ([((k : Nat) : Int)])),(k + 1)),(show ((k + 1) ≤ 2 ^ h.length) ∧ ((o ++ ([((k : Nat) : Int)])) = cutsN h (k + 1)) from ⟨(by first | assumption | omega | rfl | (intro _ hjj; omega) | (simp; done) | (simp; omega)),(by first | (rw [ho]; exact (cutsN_yes (cut_impl2 (by omega) h22)).symm) | (rw [ho]; exact (cutsN_no (cut_impl2 (by omega) n22)).symm))⟩),(show 2 ^ h.length - (k + 1) < 2 ^ h.length - k from (by first | omega | (simp_all; omega))),?_⟩
     exact Sub.of [(6,26)] (@cast (((((26 : Nat) = 26) ∧ ((List.length (o ++ ([((k : Nat) : Int)]))) = (List.length (o ++ ([((k : Nat) : Int)])))) ∧ ((6 : Nat) ∈ ([6,999] : List Nat))) ∧ (Sd (.ints (pastL h h.length))) ∧ (Si (shlI .i64 (1 : Int) (h.length : Int))) ∧ (Si (((k + 1) : Nat) : Int)) ∧ True) ∧ ((((3 : Nat) = 3) ∧ (Sd (.ints (o ++ ([((k : Nat) : Int)])))) ∧ ((6 : Nat) ∈ ([6,999] : List Nat))) ∧ True) ∧ (true = true) ∧ (true = true)) _ (by kernel_rfl) ⟨⟨⟨rfl,rfl,(by decide)⟩,rfl,rfl,rfl,tt⟩,⟨⟨rfl,rfl,(by decide)⟩,tt⟩,rfl,rfl⟩)
    ·intro n22
     refine W.skip (blockQ_normal (thenQ_normal ?_))
     refine Lk cok tab9 hnt [] (⟨[(3,.own 6 o.length),(4,.sl (.ints (pastL h h.length))),(5,.i ((k : Nat) : Int)),(16,.i (shlI .i64 (1 : Int) (h.length : Int))),(17,.i (((k + 1) : Nat) : Int)),(22,.b (cutF (pastL h h.length) ((k : Nat) : Int).toNat)),(27,.i (((k + 1) : Nat) : Int))],[(6,⟨3,.row (.ints o)⟩)],[6,999]⟩)
      ((True ∧ True ∧ (Fits .i64 (((k + 1) : Nat) : Int))) ∧ True ∧ True)
      ⟨⟨tt,tt,(by first | exact fits_u64 (by omega) (by omega) | exact fits_i64 (by omega) (by omega))⟩,tt,tt⟩ ?_
     refine thenQ_normal ?_
     refine ⟨(o,(k + 1)),(show ((k + 1) ≤ 2 ^ h.length) ∧ (o = cutsN h (k + 1)) from ⟨(by first | assumption | omega | rfl | (intro _ hjj; omega) | (simp; done) | (simp; omega)),(by first | (rw [ho]; exact (cutsN_yes (cut_impl2 (by omega) h22)).symm) | (rw [ho]; exact (cutsN_no (cut_impl2 (by omega) n22)).symm))⟩),(show 2 ^ h.length - (k + 1) < 2 ^ h.length - k from (by first | omega | (simp_all; omega))),?_⟩
     exact Sub.of [] (@cast (((((6 : Nat) = 6) ∧ (o.length = o.length) ∧ ((6 : Nat) ∈ ([6,999] : List Nat))) ∧ (Sd (.ints (pastL h h.length))) ∧ (Si (shlI .i64 (1 : Int) (h.length : Int))) ∧ (Si (((k + 1) : Nat) : Int)) ∧ True) ∧ ((((3 : Nat) = 3) ∧ (Sd (.ints o)) ∧ ((6 : Nat) ∈ ([6,999] : List Nat))) ∧ True) ∧ (true = true) ∧ (true = true)) _ (by kernel_rfl) ⟨⟨⟨rfl,rfl,(by decide)⟩,rfl,rfl,rfl,tt⟩,⟨⟨rfl,rfl,(by decide)⟩,tt⟩,rfl,rfl⟩)
   ·intro n18
    refine W.exit (thenQ_exit (thenQ_exit (blockQ_hit ?_)))
    refine thenQ_normal ?_
    refine Kk cok tab9 hnt [] [2] (⟨[(2,.own 6 o.length)],[(6,⟨3,.row (.ints o)⟩)],[6,999]⟩)
     (True ∧ True ∧ True)
     ⟨tt,tt,tt⟩ ?_
    refine W.ret ?_
    exact endQ_rows [(0,6)] (.own 6 o.length) (by kernel_rfl) (@cast (((6 : Nat) = 6) ∧ (o.length = (List.length (cutsOf h))) ∧ ((0 : Nat) ∈ ([0] : List Nat))) _ (by kernel_rfl) ⟨rfl,(by first | rfl | omega | assumption | (symm; assumption) | (exact congrArg List.length (by rw [cutsOf_yes hv,ho,show k = 2 ^ h.length by omega])) | (rw [cutsOf_yes hv,ho,show k = 2 ^ h.length by omega]; done) | simp | simp_all),(by decide)⟩) (@cast ((((3 : Nat) = 3) ∧ ((.ints o : Dat) = .ints (cutsOf h)) ∧ ((0 : Nat) ∈ ([0] : List Nat))) ∧ True) _ (by kernel_rfl) ⟨⟨rfl,(congrArg Dat.ints (by rw [cutsOf_yes hv,ho,show k = 2 ^ h.length by omega])),(by decide)⟩,tt⟩) (by kernel_rfl)
theorem ent9 : Entr prog 9 := ⟨_,func9,rfl,by decide⟩
end Go.Proofs.Try

set_option linter.unusedSimpArgs false
set_option linter.unusedVariables false
namespace Go.Proofs.Try
open Go.Ab Go.RowKit
def fs24 : FnS := fnS [.o,.o,.o] [.int,(.ep .events),(.ep .int)] (fun _ (c,h,mk,_) => (.b (!markedE h mk.toNat c.toNat),[],(h.length ≤ 60) ∧ (0 ≤ c ∧ c < 4611686018427387904) ∧ (0 ≤ mk ∧ mk < 4611686018427387904)))
abbrev T24 : Tab := lk [(25,fs25)]
theorem tab24 : TabOK prog T24 := (TabOK.cons ok25 ent25 TabOK.nil)
set_option maxRecDepth 100000 in
set_option maxHeartbeats 1000000 in
theorem ok24 : FnOK prog 24 fs24 := by
 refine FnOK.mk cok func24 rfl rfl rfl ?_
 rintro fl ⟨(c : Int),(h : List EventD),(mk : Int),_⟩ hpre F hnt0 _
 have hnt : F.nt = 10 := hnt0.trans ntmps24
 replace hpre : (h.length ≤ 60) ∧ (0 ≤ c ∧ c < 4611686018427387904) ∧ (0 ≤ mk ∧ mk < 4611686018427387904) := hpre
 obtain ⟨hn,hc,hm⟩ := hpre
 refine W.to (⟨[(0,.i c),(1,.ep [.sl (.events h)]),(2,.ep [.i mk])],[],[999]⟩) rfl ?_
 refine Kk cok tab24 hnt [] [0,1,2] (⟨[(0,.i c),(1,.ep [.sl (.events h)]),(2,.ep [.i mk])],[],[999]⟩)
  (True ∧ True)
  ⟨tt,tt⟩ ?_
 refine Kk cok tab24 hnt [] [4] (⟨[(4,.b (!(markedE h mk.toNat c.toNat)))],[],[999]⟩)
  (True ∧ True ∧ True ∧ (True ∧ (True ∧ True ∧ True ∧ True) ∧ (h.length ≤ 60) ∧ (0 ≤ c ∧ c < 4611686018427387904) ∧ 0 ≤ mk ∧ mk < 4611686018427387904) ∧ True ∧ True ∧ True)
  ⟨tt,tt,tt,⟨tt,⟨tt,tt,tt,tt⟩,(by omega),(by omega),(by omega)⟩,tt,tt,tt⟩ ?_
 refine W.ret ?_
 exact endQ_ret (.b (!(markedE h mk.toNat c.toNat))) (by kernel_rfl) (@cast ((.bool (!(markedE h mk.toNat c.toNat)) : Value) = .bool (!markedE h mk.toNat c.toNat)) _ (by kernel_rfl) (congrArg Value.bool (by first | rfl | simp_all)))
theorem ent24 : Entr prog 24 := ⟨_,func24,rfl,by decide⟩
end Go.Proofs.Try

set_option linter.unusedSimpArgs false
set_option linter.unusedVariables false
namespace Go.Proofs.Try
open Go.Ab Go.RowKit
def fs38mk : FnS := fnS [.s .ints,.o] [.ints,(.fn2 24 (.ep .events) (.ep .int))] (fun _ (l,(h,mk),_) => (.i (firstI l.length (fun jj => !markedE h mk.toNat (l.getD jj 0).toNat)),[],(l.length ≤ 1000) ∧ (h.length ≤ 60) ∧ (0 ≤ mk ∧ mk < 4611686018427387904) ∧ (∀ j,j < l.length → 0 ≤ l.getD j 0 ∧ l.getD j 0 < 4611686018427387904)))
abbrev T38mk : Tab := lk [(24,fs24)]
theorem tab38mk : TabOK prog T38mk := (TabOK.cons ok24 ent24 TabOK.nil)
set_option maxRecDepth 100000 in
set_option maxHeartbeats 1000000 in
theorem ok38mk : FnOK prog 38 fs38mk := by
 refine FnOK.mk cok func38 rfl rfl rfl ?_
 rintro fl ⟨(l : List Int),⟨(h : List EventD),(mk : Int)⟩,_⟩ hpre F hnt0 _
 have hnt : F.nt = 19 := hnt0.trans ntmps38
 replace hpre : (l.length ≤ 1000) ∧ (h.length ≤ 60) ∧ (0 ≤ mk ∧ mk < 4611686018427387904) ∧ (∀ j,j < l.length → 0 ≤ l.getD j 0 ∧ l.getD j 0 < 4611686018427387904) := hpre
 obtain ⟨hll,hn,hm,hL⟩ := hpre
 refine W.to (⟨[(0,.sl (.ints l)),(1,.fn 24 [.ep [.sl (.events h)],.ep [.i mk]])],[],[999]⟩) rfl ?_
 refine W.lenOf 0 (.ints l) (by kernel_rfl) ?_
 intro hl_l; replace hl_l : List.length l ≤ 9223372036854775807 := hl_l
 refine Kk cok tab38mk hnt [] [0,1] (⟨[(0,.sl (.ints l)),(1,.fn 24 [.ep [.sl (.events h)],.ep [.i mk]])],[],[999]⟩)
  (True ∧ True)
  ⟨tt,tt⟩ ?_
 refine W.seq ?_
 refine Kk cok tab38mk hnt [] [0,1,7,8] (⟨[(0,.sl (.ints l)),(1,.fn 24 [.ep [.sl (.events h)],.ep [.i mk]]),(7,.i (l.length : Int)),(8,.i (0 : Int))],[],[999]⟩)
  (True ∧ True ∧ True ∧ True)
  ⟨tt,tt,tt,tt⟩ ?_
 refine W.block ?_
 refine W.loop (ι := Nat) (fun (i : Nat) => (⟨[(0,.sl (.ints l)),(1,.fn 24 [.ep [.sl (.events h)],.ep [.i mk]]),(7,.i (l.length : Int)),(8,.i ((i : Nat) : Int))],[],[999]⟩ : St))
  (fun (i : Nat) => (i ≤ l.length) ∧ (∀ jj,jj < i → (!markedE h mk.toNat (l.getD jj 0).toNat) = false))
  (fun (i : Nat) => (l.length - i : Nat)) (0) ?_ ?_ ?_
 ·exact (show (0 ≤ l.length) ∧ (∀ jj,jj < 0 → (!markedE h mk.toNat (l.getD jj 0).toNat) = false) from ⟨(by first | assumption | omega | rfl | (intro _ hjj; omega) | (simp; done) | (simp; omega)),(by exact upto_zero)⟩)
 ·exact Sub.of [] (@cast (((Sd (.ints l)) ∧ (((24 : Nat) = 24) ∧ (((.ep [.sl (.events h)] : AV) = .ep [.sl (.events h)]) ∧ (([] : List Nat) = [])) ∧ (((.ep [.i mk] : AV) = .ep [.i mk]) ∧ (([] : List Nat) = [])) ∧ True) ∧ (Si (l.length : Int)) ∧ ((.int .i64 (0 : Int) : Value) = .int .i64 ((0 : Nat) : Int)) ∧ True) ∧ True ∧ (true = true) ∧ (true = true)) _ (by kernel_rfl) ⟨⟨rfl,⟨rfl,⟨rfl,rfl⟩,⟨rfl,rfl⟩,tt⟩,rfl,(congrArg (Value.int .i64) (by first | rfl | omega | assumption | simp | simp_all)),tt⟩,tt,rfl,rfl⟩)
 ·rintro i hC0
  have hC : (i ≤ l.length) ∧ (∀ jj,jj < i → (!markedE h mk.toNat (l.getD jj 0).toNat) = false) := hC0
  clear hC0
  obtain ⟨hi,hA⟩ := hC
  refine W.to (⟨[(0,.sl (.ints l)),(1,.fn 24 [.ep [.sl (.events h)],.ep [.i mk]]),(7,.i (l.length : Int)),(8,.i ((i : Nat) : Int))],[],[999]⟩) rfl ?_
  have hLi := fun hh => hL i hh
  refine Kk cok tab38mk hnt [] [0,1,7,8,9] (⟨[(0,.sl (.ints l)),(1,.fn 24 [.ep [.sl (.events h)],.ep [.i mk]]),(7,.i (l.length : Int)),(8,.i ((i : Nat) : Int)),(9,.b (decide (((i : Nat) : Int) < (l.length : Int))))],[],[999]⟩)
   ((True ∧ True ∧ True) ∧ True)
   ⟨⟨tt,tt,tt⟩,tt⟩ ?_
  refine W.seq ?_
  refine W.ifP (((i : Nat) : Int) < (l.length : Int)) (.b (decide (((i : Nat) : Int) < (l.length : Int)))) (by kernel_rfl) rfl trivial ?_ ?_
  ·intro h9
   refine W.skip (thenQ_normal ?_)
   refine W.seq ?_
   refine W.block ?_
   refine Kk cok tab38mk hnt [] [0,1,5,7,8] (⟨[(0,.sl (.ints l)),(1,.fn 24 [.ep [.sl (.events h)],.ep [.i mk]]),(5,.i ((i : Nat) : Int)),(7,.i (l.length : Int)),(8,.i ((i : Nat) : Int))],[],[999]⟩)
    (True ∧ True ∧ True)
    ⟨tt,tt,tt⟩ ?_
   refine Kk cok tab38mk hnt [] [0,1,5,7,8,16] (⟨[(0,.sl (.ints l)),(1,.fn 24 [.ep [.sl (.events h)],.ep [.i mk]]),(5,.i ((i : Nat) : Int)),(7,.i (l.length : Int)),(8,.i ((i : Nat) : Int)),(16,.b (!markedE h mk.toNat (l.getD i 0).toNat))],[],[999]⟩)
    (True ∧ True ∧ True ∧ (True ∧ True ∧ (0 ≤ ((i : Nat) : Int)) ∧ (((i : Nat) : Int) < (l.length : Int))) ∧ True ∧ (True ∧ (True ∧ True ∧ True ∧ True) ∧ (h.length ≤ 60) ∧ (0 ≤ (l.getD i 0) ∧ (l.getD i 0) < 4611686018427387904) ∧ 0 ≤ mk ∧ mk < 4611686018427387904) ∧ True)
    ⟨tt,tt,tt,⟨tt,tt,(by omega),(by omega)⟩,tt,⟨tt,⟨tt,tt,tt,tt⟩,(by omega),(by have h9 := hLi (by omega); omega),(by omega)⟩,tt⟩ ?_
   refine W.if' (!markedE h mk.toNat (l.getD i 0).toNat) (.b (!markedE h mk.toNat (l.getD i 0).toNat)) (by kernel_rfl) rfl trivial ?_ ?_
   ·intro h16
    refine Kk cok tab38mk hnt [] [4] (⟨[(4,.i ((i : Nat) : Int))],[],[999]⟩)
     (True ∧ True ∧ True)
     ⟨tt,tt,tt⟩ ?_
    refine W.ret (blockQ_ret (thenQ_ret (thenQ_ret (blockQ_ret (thenQ_ret ?_)))))
    exact endQ_ret (.i ((i : Nat) : Int)) (by kernel_rfl) (@cast ((.int .i64 ((i : Nat) : Int) : Value) = .int .i64 (firstI l.length (fun jj => !markedE h mk.toNat (l.getD jj 0).toNat))) _ (by kernel_rfl) (congrArg (Value.int .i64) (by exact (firstI_yes (by omega) h16 hA).symm)))
   ·intro n16
    refine W.skip (blockQ_normal (thenQ_normal ?_))
    refine Lk cok tab38mk hnt [] (⟨[(0,.sl (.ints l)),(1,.fn 24 [.ep [.sl (.events h)],.ep [.i mk]]),(5,.i ((i : Nat) : Int)),(7,.i (l.length : Int)),(8,.i (((i + 1) : Nat) : Int)),(16,.b (!markedE h mk.toNat (l.getD i 0).toNat)),(18,.i (((i + 1) : Nat) : Int))],[],[999]⟩)
     ((True ∧ True ∧ (Fits .i64 (((i + 1) : Nat) : Int))) ∧ True ∧ True)
     ⟨⟨tt,tt,(by exact fits_i64 (by omega) (by omega))⟩,tt,tt⟩ ?_
    refine thenQ_normal ?_
    refine ⟨((i + 1)),(show ((i + 1) ≤ l.length) ∧ (∀ jj,jj < (i + 1) → (!markedE h mk.toNat (l.getD jj 0).toNat) = false) from ⟨(by first | assumption | omega | rfl | (intro _ hjj; omega) | (simp; done) | (simp; omega)),(by exact upto_succ hA n16)⟩),(show l.length - (i + 1) < l.length - i from (by first | omega | (simp_all; omega))),?_⟩
    exact Sub.of [] (@cast (((Sd (.ints l)) ∧ (((24 : Nat) = 24) ∧ (((.ep [.sl (.events h)] : AV) = .ep [.sl (.events h)]) ∧ (([] : List Nat) = [])) ∧ (((.ep [.i mk] : AV) = .ep [.i mk]) ∧ (([] : List Nat) = [])) ∧ True) ∧ (Si (l.length : Int)) ∧ (Si (((i + 1) : Nat) : Int)) ∧ True) ∧ True ∧ (true = true) ∧ (true = true)) _ (by kernel_rfl) ⟨⟨rfl,⟨rfl,⟨rfl,rfl⟩,⟨rfl,rfl⟩,tt⟩,rfl,rfl,tt⟩,tt,rfl,rfl⟩)
  ·intro n9
   refine W.exit (thenQ_exit (thenQ_exit (blockQ_hit ?_)))
   refine thenQ_normal ?_
   refine Kk cok tab38mk hnt [] [4] (⟨[(4,.i (-1 : Int))],[],[999]⟩)
    (True ∧ True)
    ⟨tt,tt⟩ ?_
   refine W.ret ?_
   exact endQ_ret (.i (-1 : Int)) (by kernel_rfl) (@cast ((.int .i64 (-1 : Int) : Value) = .int .i64 (firstI l.length (fun jj => !markedE h mk.toNat (l.getD jj 0).toNat))) _ (by kernel_rfl) (congrArg (Value.int .i64) (by exact (firstI_no (fun j hj => hA j (by omega))).symm)))
theorem ent38mk : Entr prog 38 := ⟨_,func38,rfl,by decide⟩
end Go.Proofs.Try

set_option linter.unusedSimpArgs false
set_option linter.unusedVariables false
namespace Go.Proofs.Try
open Go.Ab Go.RowKit
def fs23 : FnS := fnS [.c .ints 3,.o] [.ints,(.fn2 24 (.ep .events) (.ep .int))] (fun _ (l,(h,mk),_) => (.own 0 (List.length (l.filter (fun c => markedE h mk.toNat c.toNat))),[(3,.ints (l.filter (fun c => markedE h mk.toNat c.toNat)))],(l.length ≤ 1000) ∧ (h.length ≤ 60) ∧ (0 ≤ mk ∧ mk < 4611686018427387904) ∧ (∀ j,j < l.length → 0 ≤ l.getD j 0 ∧ l.getD j 0 < 4611686018427387904)))
abbrev T23 : Tab := lk [(24,fs24),(38,fs38mk)]
theorem tab23 : TabOK prog T23 := (TabOK.cons ok24 ent24 (TabOK.cons ok38mk ent38mk TabOK.nil))
set_option maxRecDepth 100000 in
set_option maxHeartbeats 1000000 in
theorem ok23 : FnOK prog 23 fs23 := by
 refine FnOK.mk cok func23 rfl rfl rfl ?_
 rintro fl ⟨(l : List Int),⟨(h : List EventD),(mk : Int)⟩,_⟩ hpre F hnt0 _
 have hnt : F.nt = 42 := hnt0.trans ntmps23
 replace hpre : (l.length ≤ 1000) ∧ (h.length ≤ 60) ∧ (0 ≤ mk ∧ mk < 4611686018427387904) ∧ (∀ j,j < l.length → 0 ≤ l.getD j 0 ∧ l.getD j 0 < 4611686018427387904) := hpre
 obtain ⟨hll,hn,hm,hL⟩ := hpre
 refine W.to (⟨[(0,.own 999 l.length),(1,.fn 24 [.ep [.sl (.events h)],.ep [.i mk]])],[(999,⟨3,.row (.ints l)⟩)],[999]⟩) rfl ?_
 have hfs := firstI_spec (n := l.length) (p := fun jj => !markedE h mk.toNat (l.getD jj 0).toNat)
 have hfb : -1 ≤ firstI l.length (fun jj => !markedE h mk.toNat (l.getD jj 0).toNat) ∧ firstI l.length (fun jj => !markedE h mk.toNat (l.getD jj 0).toNat) < l.length := by rcases hfs with ⟨e,_⟩ | ⟨q,hq,e,_⟩ <;> rw [e] <;> omega
 refine Kk cok tab23 hnt [] [0,1] (⟨[(0,.own 999 l.length),(1,.fn 24 [.ep [.sl (.events h)],.ep [.i mk]])],[(999,⟨3,.row (.ints l)⟩)],[999]⟩)
  (True ∧ True)
  ⟨tt,tt⟩ ?_
 refine Kk cok tab23 hnt [] [0,1,5] (⟨[(0,.own 999 l.length),(1,.fn 24 [.ep [.sl (.events h)],.ep [.i mk]]),(5,.i (firstI l.length (fun jj => !markedE h mk.toNat (l.getD jj 0).toNat)))],[(999,⟨3,.row (.ints l)⟩)],[999]⟩)
  (True ∧ True ∧ (True ∧ ((True ∧ (l.length = l.length)) ∧ True ∧ True) ∧ (l.length ≤ 1000) ∧ (h.length ≤ 60) ∧ (0 ≤ mk ∧ mk < 4611686018427387904) ∧ (∀ j,j < l.length → 0 ≤ l.getD j 0 ∧ l.getD j 0 < 4611686018427387904)) ∧ True ∧ True)
  ⟨tt,tt,⟨tt,⟨⟨tt,rfl⟩,tt,tt⟩,(by omega),(by omega),(by omega),(by exact hL)⟩,tt,tt⟩ ?_
 refine W.seq ?_
 refine Kk cok tab23 hnt [] [0,1,5,12] (⟨[(0,.own 999 l.length),(1,.fn 24 [.ep [.sl (.events h)],.ep [.i mk]]),(5,.i (firstI l.length (fun jj => !markedE h mk.toNat (l.getD jj 0).toNat))),(12,.b (decide ((firstI l.length (fun jj => !markedE h mk.toNat (l.getD jj 0).toNat)) = (-1 : Int))))],[(999,⟨3,.row (.ints l)⟩)],[999]⟩)
  (True ∧ (True ∧ True ∧ True) ∧ True)
  ⟨tt,⟨tt,tt,tt⟩,tt⟩ ?_
 refine W.ifP ((firstI l.length (fun jj => !markedE h mk.toNat (l.getD jj 0).toNat)) = (-1 : Int)) (.b (decide ((firstI l.length (fun jj => !markedE h mk.toNat (l.getD jj 0).toNat)) = (-1 : Int)))) (by kernel_rfl) rfl trivial ?_ ?_
 ·intro h12
  refine Kk cok tab23 hnt [] [4] (⟨[(4,.own 999 l.length)],[(999,⟨3,.row (.ints l)⟩)],[999]⟩)
   (True ∧ True ∧ True)
   ⟨tt,tt,tt⟩ ?_
  refine W.ret (thenQ_ret ?_)
  exact endQ_rows [(0,999)] (.own 999 l.length) (by kernel_rfl) (@cast (((999 : Nat) = 999) ∧ (l.length = (List.length (l.filter (fun c => markedE h mk.toNat c.toNat)))) ∧ ((0 : Nat) ∈ ([0] : List Nat))) _ (by kernel_rfl) ⟨rfl,(by first | rfl | omega | assumption | (symm; assumption) | (exact congrArg List.length (by exact DelI.none (fun j hj => del_none hfs h12 j hj))) | (exact DelI.none (fun j hj => del_none hfs h12 j hj); done) | simp | simp_all),(by decide)⟩) (@cast ((((3 : Nat) = 3) ∧ ((.ints l : Dat) = .ints (l.filter (fun c => markedE h mk.toNat c.toNat))) ∧ ((0 : Nat) ∈ ([0] : List Nat))) ∧ True) _ (by kernel_rfl) ⟨⟨rfl,(congrArg Dat.ints (by exact DelI.none (fun j hj => del_none hfs h12 j hj))),(by decide)⟩,tt⟩) (by kernel_rfl)
 ·intro n12
  refine W.skip (thenQ_normal ?_)
  refine W.seq ?_
  refine Kk cok tab23 hnt [] [0,1,5,6] (⟨[(0,.own 999 l.length),(1,.fn 24 [.ep [.sl (.events h)],.ep [.i mk]]),(5,.i (firstI l.length (fun jj => !markedE h mk.toNat (l.getD jj 0).toNat))),(6,.i ((firstI l.length (fun jj => !markedE h mk.toNat (l.getD jj 0).toNat)) + (1 : Int)))],[(999,⟨3,.row (.ints l)⟩)],[999]⟩)
   (True ∧ (True ∧ True ∧ (Fits .i64 ((firstI l.length (fun jj => !markedE h mk.toNat (l.getD jj 0).toNat)) + (1 : Int)))) ∧ True ∧ True)
   ⟨tt,⟨tt,tt,(by exact fits_i64 (by omega) (by omega))⟩,tt,tt⟩ ?_
  refine W.block ?_
  refine W.loop (ι := Int × Int × (List Int)) (fun (x : Int × Int × (List Int)) => match x with | (i,j,xs) => (⟨[(0,.own 999 l.length),(1,.fn 24 [.ep [.sl (.events h)],.ep [.i mk]]),(5,.i i),(6,.i j)],[(999,⟨3,.row (.ints xs)⟩)],[999]⟩ : St))
   (fun (x : Int × Int × (List Int)) => match x with | (i,j,xs) => (0 ≤ i ∧ 0 ≤ j ∧ j ≤ (l.length : Int)) ∧ (DelI (fun c => markedE h mk.toNat c.toNat) l xs i.toNat j.toNat))
   (fun (x : Int × Int × (List Int)) => match x with | (i,j,xs) => (l.length - j.toNat : Nat)) ((firstI l.length (fun jj => !markedE h mk.toNat (l.getD jj 0).toNat)),((firstI l.length (fun jj => !markedE h mk.toNat (l.getD jj 0).toNat)) + (1 : Int)),l) ?_ ?_ ?_
  ·exact (show (0 ≤ (firstI l.length (fun jj => !markedE h mk.toNat (l.getD jj 0).toNat)) ∧ 0 ≤ ((firstI l.length (fun jj => !markedE h mk.toNat (l.getD jj 0).toNat)) + (1 : Int)) ∧ ((firstI l.length (fun jj => !markedE h mk.toNat (l.getD jj 0).toNat)) + (1 : Int)) ≤ (l.length : Int)) ∧ (DelI (fun c => markedE h mk.toNat c.toNat) l l (firstI l.length (fun jj => !markedE h mk.toNat (l.getD jj 0).toNat)).toNat ((firstI l.length (fun jj => !markedE h mk.toNat (l.getD jj 0).toNat)) + (1 : Int)).toNat) from ⟨(by first | assumption | omega | rfl | (intro _ hjj; omega) | (simp; done) | (simp; omega)),(by exact del_start hfs n12)⟩)
  ·exact Sub.of [] (@cast (((((999 : Nat) = 999) ∧ (l.length = l.length) ∧ ((999 : Nat) ∈ ([999] : List Nat))) ∧ (((24 : Nat) = 24) ∧ (((.ep [.sl (.events h)] : AV) = .ep [.sl (.events h)]) ∧ (([] : List Nat) = [])) ∧ (((.ep [.i mk] : AV) = .ep [.i mk]) ∧ (([] : List Nat) = [])) ∧ True) ∧ (Si (firstI l.length (fun jj => !markedE h mk.toNat (l.getD jj 0).toNat))) ∧ (Si ((firstI l.length (fun jj => !markedE h mk.toNat (l.getD jj 0).toNat)) + (1 : Int))) ∧ True) ∧ ((((3 : Nat) = 3) ∧ (Sd (.ints l)) ∧ ((999 : Nat) ∈ ([999] : List Nat))) ∧ True) ∧ (true = true) ∧ (true = true)) _ (by kernel_rfl) ⟨⟨⟨rfl,rfl,(by decide)⟩,⟨rfl,⟨rfl,rfl⟩,⟨rfl,rfl⟩,tt⟩,rfl,rfl,tt⟩,⟨⟨rfl,rfl,(by decide)⟩,tt⟩,rfl,rfl⟩)
  ·rintro ⟨i,j,xs⟩ hC0
   have hC : (0 ≤ i ∧ 0 ≤ j ∧ j ≤ (l.length : Int)) ∧ (DelI (fun c => markedE h mk.toNat c.toNat) l xs i.toNat j.toNat) := hC0
   clear hC0
   obtain ⟨hj0,hD⟩ := hC
   refine W.to (⟨[(0,.own 999 l.length),(1,.fn 24 [.ep [.sl (.events h)],.ep [.i mk]]),(5,.i i),(6,.i j)],[(999,⟨3,.row (.ints xs)⟩)],[999]⟩) rfl ?_
   have hlt := hD.lt
   have hxl := hD.len
   have hLj := fun hh => hL j.toNat hh
   have hhj := hD.high j.toNat (Nat.le_refl _)
   refine W.seq ?_
   refine Kk cok tab23 hnt [] [0,1,5,6,19] (⟨[(0,.own 999 l.length),(1,.fn 24 [.ep [.sl (.events h)],.ep [.i mk]]),(5,.i i),(6,.i j),(19,.b (decide (j < (l.length : Int))))],[(999,⟨3,.row (.ints xs)⟩)],[999]⟩)
    (True ∧ True ∧ True ∧ (True ∧ True ∧ True) ∧ True)
    ⟨tt,tt,tt,⟨tt,tt,tt⟩,tt⟩ ?_
   refine W.ifP (j < (l.length : Int)) (.b (decide (j < (l.length : Int)))) (by kernel_rfl) rfl trivial ?_ ?_
   ·intro h19
    refine W.skip (thenQ_normal ?_)
    refine W.seq ?_
    refine W.block ?_
    refine Kk cok tab23 hnt [] [0,1,5,6,7] (⟨[(0,.own 999 l.length),(1,.fn 24 [.ep [.sl (.events h)],.ep [.i mk]]),(5,.i i),(6,.i j),(7,.i (xs.getD (Int.toNat j) 0))],[(999,⟨3,.row (.ints xs)⟩)],[999]⟩)
     (True ∧ True ∧ (True ∧ True ∧ (0 ≤ j) ∧ (j < (l.length : Int))) ∧ (True ∧ ((Int.toNat j) < xs.length)) ∧ True ∧ True)
     ⟨tt,tt,⟨tt,tt,(by omega),(by omega)⟩,⟨tt,(by omega)⟩,tt,tt⟩ ?_
    refine Kk cok tab23 hnt [] [0,1,5,6,7,29] (⟨[(0,.own 999 l.length),(1,.fn 24 [.ep [.sl (.events h)],.ep [.i mk]]),(5,.i i),(6,.i j),(7,.i (xs.getD (Int.toNat j) 0)),(29,.b (!(!markedE h mk.toNat (xs.getD (Int.toNat j) 0).toNat)))],[(999,⟨3,.row (.ints xs)⟩)],[999]⟩)
     (True ∧ True ∧ (True ∧ (True ∧ True ∧ True ∧ True) ∧ (h.length ≤ 60) ∧ (0 ≤ (xs.getD (Int.toNat j) 0) ∧ (xs.getD (Int.toNat j) 0) < 4611686018427387904) ∧ 0 ≤ mk ∧ mk < 4611686018427387904) ∧ True ∧ True)
     ⟨tt,tt,⟨tt,⟨tt,tt,tt,tt⟩,(by omega),(by have h9 := hLj (by omega); have h8 := hhj (by omega); omega),(by omega)⟩,tt,tt⟩ ?_
    refine W.if' (!(!markedE h mk.toNat (xs.getD (Int.toNat j) 0).toNat)) (.b (!(!markedE h mk.toNat (xs.getD (Int.toNat j) 0).toNat))) (by kernel_rfl) rfl trivial ?_ ?_
    ·intro h29
     refine Kk cok tab23 hnt [] [0,1,5,6] (⟨[(0,.own 999 l.length),(1,.fn 24 [.ep [.sl (.events h)],.ep [.i mk]]),(5,.i i),(6,.i j)],[(999,⟨3,.row (.ints (List.set xs (Int.toNat i) (xs.getD (Int.toNat j) 0)))⟩)],[999]⟩)
      (True ∧ True ∧ True ∧ (True ∧ True ∧ (0 ≤ i) ∧ (i < (l.length : Int))) ∧ (True ∧ True ∧ ((Int.toNat i) < xs.length)) ∧ True)
      ⟨tt,tt,tt,⟨tt,tt,(by omega),(by omega)⟩,⟨tt,tt,(by omega)⟩,tt⟩ ?_
     refine Lk cok tab23 hnt [] (⟨[(0,.own 999 l.length),(1,.fn 24 [.ep [.sl (.events h)],.ep [.i mk]]),(5,.i (i + (1 : Int))),(6,.i j),(34,.i i),(35,.i (i + (1 : Int)))],[(999,⟨3,.row (.ints (List.set xs (Int.toNat i) (xs.getD (Int.toNat j) 0)))⟩)],[999]⟩)
      (True ∧ (True ∧ True ∧ (Fits .i64 (i + (1 : Int)))) ∧ True ∧ True)
      ⟨tt,⟨tt,tt,(by exact fits_i64 (by omega) (by omega))⟩,tt,tt⟩ ?_
     refine blockQ_normal (thenQ_normal ?_)
     refine Lk cok tab23 hnt [] (⟨[(0,.own 999 l.length),(1,.fn 24 [.ep [.sl (.events h)],.ep [.i mk]]),(5,.i (i + (1 : Int))),(6,.i (j + (1 : Int))),(20,.i j),(21,.i (j + (1 : Int))),(34,.i i),(35,.i (i + (1 : Int)))],[(999,⟨3,.row (.ints (List.set xs (Int.toNat i) (xs.getD (Int.toNat j) 0)))⟩)],[999]⟩)
      (True ∧ (True ∧ True ∧ (Fits .i64 (j + (1 : Int)))) ∧ True ∧ True)
      ⟨tt,⟨tt,tt,(by exact fits_i64 (by omega) (by omega))⟩,tt,tt⟩ ?_
     refine thenQ_normal ?_
     refine ⟨((i + (1 : Int)),(j + (1 : Int)),(List.set xs (Int.toNat i) (xs.getD (Int.toNat j) 0))),(show (0 ≤ (i + (1 : Int)) ∧ 0 ≤ (j + (1 : Int)) ∧ (j + (1 : Int)) ≤ (l.length : Int)) ∧ (DelI (fun c => markedE h mk.toNat c.toNat) l (List.set xs (Int.toNat i) (xs.getD (Int.toNat j) 0)) (i + (1 : Int)).toNat (j + (1 : Int)).toNat) from ⟨(by first | assumption | omega | rfl | (intro _ hjj; omega) | (simp; done) | (simp; omega)),(by first | exact del_keep hD (by omega) (by omega) (by omega) (by simpa using h29) | exact del_skip hD (by omega) (by omega) (by simpa using n29))⟩),(show l.length - (j + (1 : Int)).toNat < l.length - j.toNat from (by first | omega | (simp_all; omega))),?_⟩
     exact Sub.of [] (@cast (((((999 : Nat) = 999) ∧ (l.length = l.length) ∧ ((999 : Nat) ∈ ([999] : List Nat))) ∧ (((24 : Nat) = 24) ∧ (((.ep [.sl (.events h)] : AV) = .ep [.sl (.events h)]) ∧ (([] : List Nat) = [])) ∧ (((.ep [.i mk] : AV) = .ep [.i mk]) ∧ (([] : List Nat) = [])) ∧ True) ∧ (Si (i + (1 : Int))) ∧ (Si (j + (1 : Int))) ∧ True) ∧ ((((3 : Nat) = 3) ∧ (Sd (.ints (List.set xs (Int.toNat i) (xs.getD (Int.toNat j) 0)))) ∧ ((999 : Nat) ∈ ([999] : List Nat))) ∧ True) ∧ (true = true) ∧ (true = true)) _ (by kernel_rfl) ⟨⟨⟨rfl,rfl,(by decide)⟩,⟨rfl,⟨rfl,rfl⟩,⟨rfl,rfl⟩,tt⟩,rfl,rfl,tt⟩,⟨⟨rfl,rfl,(by decide)⟩,tt⟩,rfl,rfl⟩)
    ·intro n29
     refine W.skip (blockQ_normal (thenQ_normal ?_))
     refine Lk cok tab23 hnt [] (⟨[(0,.own 999 l.length),(1,.fn 24 [.ep [.sl (.events h)],.ep [.i mk]]),(5,.i i),(6,.i (j + (1 : Int))),(7,.i (xs.getD (Int.toNat j) 0)),(20,.i j),(21,.i (j + (1 : Int))),(29,.b (!(!markedE h mk.toNat (xs.getD (Int.toNat j) 0).toNat)))],[(999,⟨3,.row (.ints xs)⟩)],[999]⟩)
      (True ∧ (True ∧ True ∧ (Fits .i64 (j + (1 : Int)))) ∧ True ∧ True)
      ⟨tt,⟨tt,tt,(by exact fits_i64 (by omega) (by omega))⟩,tt,tt⟩ ?_
     refine thenQ_normal ?_
     refine ⟨(i,(j + (1 : Int)),xs),(show (0 ≤ i ∧ 0 ≤ (j + (1 : Int)) ∧ (j + (1 : Int)) ≤ (l.length : Int)) ∧ (DelI (fun c => markedE h mk.toNat c.toNat) l xs i.toNat (j + (1 : Int)).toNat) from ⟨(by first | assumption | omega | rfl | (intro _ hjj; omega) | (simp; done) | (simp; omega)),(by first | exact del_keep hD (by omega) (by omega) (by omega) (by simpa using h29) | exact del_skip hD (by omega) (by omega) (by simpa using n29))⟩),(show l.length - (j + (1 : Int)).toNat < l.length - j.toNat from (by first | omega | (simp_all; omega))),?_⟩
     exact Sub.of [] (@cast (((((999 : Nat) = 999) ∧ (l.length = l.length) ∧ ((999 : Nat) ∈ ([999] : List Nat))) ∧ (((24 : Nat) = 24) ∧ (((.ep [.sl (.events h)] : AV) = .ep [.sl (.events h)]) ∧ (([] : List Nat) = [])) ∧ (((.ep [.i mk] : AV) = .ep [.i mk]) ∧ (([] : List Nat) = [])) ∧ True) ∧ (Si i) ∧ (Si (j + (1 : Int))) ∧ True) ∧ ((((3 : Nat) = 3) ∧ (Sd (.ints xs)) ∧ ((999 : Nat) ∈ ([999] : List Nat))) ∧ True) ∧ (true = true) ∧ (true = true)) _ (by kernel_rfl) ⟨⟨⟨rfl,rfl,(by decide)⟩,⟨rfl,⟨rfl,rfl⟩,⟨rfl,rfl⟩,tt⟩,rfl,rfl,tt⟩,⟨⟨rfl,rfl,(by decide)⟩,tt⟩,rfl,rfl⟩)
   ·intro n19
    refine W.exit (thenQ_exit (thenQ_exit (blockQ_hit ?_)))
    refine thenQ_normal ?_
    refine W.seq (W.wi ?_)
    refine WI.runT cok tab23 hnt [] 2 2 (⟨[(0,.own 999 l.length),(1,.fn 24 [.ep [.sl (.events h)],.ep [.i mk]]),(5,.i i),(6,.i j),(19,.b (decide (j < (l.length : Int)))),(36,.own 999 l.length),(37,.i i)],[(999,⟨3,.row (.ints xs)⟩)],[999]⟩)
     (True ∧ True ∧ True) (by kernel_rfl) rfl
     ⟨tt,tt,tt⟩ ?_
    refine WI.clearOwn 999 l.length xs i 26 3 3 .i64 38 cok rfl rfl hnt (wanted_none rfl) (wanted_none rfl) rfl rfl rfl rfl rfl rfl (show l.length = xs.length from (by omega)) rfl rfl (And.intro (show 0 ≤ i from (by omega)) (show i < (xs.length : Int) from (by omega))) rfl ?_
    refine WI.to (⟨[(0,.own 999 l.length),(1,.fn 24 [.ep [.sl (.events h)],.ep [.i mk]]),(5,.i i),(6,.i j),(19,.b (decide (j < (l.length : Int)))),(36,.own 999 l.length),(37,.i i),(38,.any)],[(999,⟨3,.row (.ints (List.take (Int.toNat i) xs))⟩)],[999]⟩) 4 (by kernel_rfl) rfl ?_
    refine WI.nil rfl (thenQ_normal ?_)
    refine W.keepE [0,5] [(0,.own 999 l.length),(5,.i i)] (by kernel_rfl) ?_
    refine W.to (⟨[(0,.own 999 l.length),(5,.i i)],[(999,⟨3,.row (.ints (List.take (Int.toNat i) xs))⟩)],[999]⟩) rfl ?_
    have hdn := hD.done (by omega)
    have hdl : i.toNat = (l.filter (fun c => markedE h mk.toNat c.toNat)).length := by rw [← hdn,List.length_take]; omega
    refine Kk cok tab23 hnt [] [4] (⟨[(4,.own 999 (Int.toNat i))],[(999,⟨3,.row (.ints (List.take (Int.toNat i) xs))⟩)],[999]⟩)
     (True ∧ True ∧ (True ∧ True ∧ (0 ≤ i) ∧ (i ≤ (l.length : Int))) ∧ True ∧ True)
     ⟨tt,tt,⟨tt,tt,(by omega),(by omega)⟩,tt,tt⟩ ?_
    refine W.ret ?_
    exact endQ_rows [(0,999)] (.own 999 (Int.toNat i)) (by kernel_rfl) (@cast (((999 : Nat) = 999) ∧ ((Int.toNat i) = (List.length (l.filter (fun c => markedE h mk.toNat c.toNat)))) ∧ ((0 : Nat) ∈ ([0] : List Nat))) _ (by kernel_rfl) ⟨rfl,(by first | rfl | omega | assumption | (symm; assumption) | (exact congrArg List.length (by exact hdn)) | (exact hdn; done) | simp | simp_all),(by decide)⟩) (@cast ((((3 : Nat) = 3) ∧ ((.ints (List.take (Int.toNat i) xs) : Dat) = .ints (l.filter (fun c => markedE h mk.toNat c.toNat))) ∧ ((0 : Nat) ∈ ([0] : List Nat))) ∧ True) _ (by kernel_rfl) ⟨⟨rfl,(congrArg Dat.ints (by exact hdn)),(by decide)⟩,tt⟩) (by kernel_rfl)
theorem ent23 : Entr prog 23 := ⟨_,func23,rfl,by decide⟩
end Go.Proofs.Try

set_option linter.unusedSimpArgs false
set_option linter.unusedVariables false
namespace Go.Proofs.Try
open Go.Ab Go.RowKit
def fs6 : FnS := fnS [.s .events,.o] [.events,.int] (fun _ (h,mk,_) => (.sl (.ints (mkCuts h mk)),[],True))
abbrev T6 : Tab := lk [(9,fs9),(22,fs22),(23,fs23)]
theorem tab6 : TabOK prog T6 := (TabOK.cons ok9 ent9 (TabOK.cons ok22 ent22 (TabOK.cons ok23 ent23 TabOK.nil)))
set_option maxRecDepth 100000 in
set_option maxHeartbeats 1000000 in
theorem ok6 : FnOK prog 6 fs6 := by
 refine FnOK.mk cok func6 rfl rfl rfl ?_
 rintro fl ⟨(h : List EventD),(mk : Int),_⟩ hpre F hnt0 _
 have hnt : F.nt = 13 := hnt0.trans ntmps6
 clear hpre
 refine W.to (⟨[(0,.sl (.events h)),(1,.i mk)],[],[999]⟩) rfl ?_
 refine W.lenOf 0 (.events h) (by kernel_rfl) ?_
 intro hl_h; replace hl_h : List.length h ≤ 9223372036854775807 := hl_h
 refine Kk cok tab6 hnt [] [2,3] (⟨[(2,.ptr 2 0),(3,.ptr 3 0)],[(2,⟨23,.fix [.sl (.events h)]⟩),(3,⟨3,.fix [.i mk]⟩)],[3,2,999]⟩)
  (True ∧ True ∧ True ∧ True)
  ⟨tt,tt,tt,tt⟩ ?_
 refine W.subS [] (⟨[(2,.ep [.sl (.events h)]),(3,.ep [.i mk])],[],[999]⟩) (@cast ((((([.sl (.events h)] : List AV) = [.sl (.events h)]) ∧ (([] : List Nat) = []) ∧ ((2 : Nat) ∉ ([] : List Nat))) ∧ ((([.i mk] : List AV) = [.i mk]) ∧ (([] : List Nat) = []) ∧ ((3 : Nat) ∉ ([] : List Nat))) ∧ True) ∧ True ∧ (true = true) ∧ (true = true)) _ (by kernel_rfl) ⟨⟨⟨rfl,rfl,(by decide)⟩,⟨rfl,rfl,(by decide)⟩,tt⟩,tt,rfl,rfl⟩) ?_
 refine W.seq ?_
 refine Kk cok tab6 hnt [] [2,3,8] (⟨[(2,.ep [.sl (.events h)]),(3,.ep [.i mk]),(8,.b (!(isSetE h mk)))],[],[999]⟩)
  (True ∧ True ∧ (True ∧ (True ∧ True ∧ True) ∧ True) ∧ True ∧ True)
  ⟨tt,tt,⟨tt,⟨tt,tt,tt⟩,tt⟩,tt,tt⟩ ?_
 refine W.if' (!(isSetE h mk)) (.b (!(isSetE h mk))) (by kernel_rfl) rfl trivial ?_ ?_
 ·intro h8
  refine Kk cok tab6 hnt [] [4] (⟨[(4,.v (.slice none 0 0))],[],[999]⟩)
   (True ∧ True)
   ⟨tt,tt⟩ ?_
  refine W.ret (thenQ_ret ?_)
  exact endQ_ret (.v (.slice none 0 0)) (by kernel_rfl) (@cast (((Value.slice none 0 0 : Value) = .slice none 0 0) ∧ ((Dat.ints (mkCuts h mk)).len = 0)) _ (by kernel_rfl) ⟨rfl,(by show List.length (mkCuts h mk) = 0; first | exact mk_no (not_f h8) | exact mk_no0 (not_f h8))⟩)
 ·intro n8
  have hs : isSetE h mk = true := not_g n8
  have hss := set_small hs
  have hmb := set_bnd hs
  have hcl := cutsOf_len h
  refine W.skip (thenQ_normal ?_)
  refine Kk cok tab6 hnt [10] [4] (⟨[(4,.sl (.ints ((cutsOf h).filter (fun c => markedE h mk.toNat c.toNat))))],[],[12,10,999]⟩)
   (True ∧ (True ∧ (True ∧ True) ∧ True) ∧ True ∧ ((True ∧ ((True ∧ ((List.length (cutsOf h)) = (List.length (cutsOf h)))) ∧ True ∧ True) ∧ ((cutsOf h).length ≤ 1000) ∧ (h.length ≤ 60) ∧ (0 ≤ mk ∧ mk < 4611686018427387904) ∧ (∀ j,j < (cutsOf h).length → 0 ≤ (cutsOf h).getD j 0 ∧ (cutsOf h).getD j 0 < 4611686018427387904)) ∧ ((List.length ((cutsOf h).filter (fun c => markedE h mk.toNat c.toNat))) = (List.length ((cutsOf h).filter (fun c => markedE h mk.toNat c.toNat))))) ∧ True ∧ True)
   ⟨tt,⟨tt,⟨tt,tt⟩,tt⟩,tt,⟨⟨tt,⟨⟨tt,rfl⟩,tt,tt⟩,(by omega),(by omega),(by omega),(by intro j hj; have h9 := cutsOf_small hj; omega)⟩,rfl⟩,tt,tt⟩ ?_
  refine W.ret ?_
  exact endQ_ret (.sl (.ints ((cutsOf h).filter (fun c => markedE h mk.toNat c.toNat)))) (by kernel_rfl) (@cast ((.ints ((cutsOf h).filter (fun c => markedE h mk.toNat c.toNat)) : Dat) = .ints (mkCuts h mk)) _ (by kernel_rfl) (congrArg Dat.ints (by exact mk_yes hs hss.2)))
theorem ent6 : Entr prog 6 := ⟨_,func6,rfl,by decide⟩
end Go.Proofs.Try

set_option linter.unusedSimpArgs false
set_option linter.unusedVariables false
namespace Go.Proofs.Try
open Go.Ab Go.RowKit
def fs16 : FnS := fnS [.o] [.int] (fun _ (n,_) => (.i (power n),[],(n ≤ 60)))
abbrev T16 : Tab := lk []
theorem tab16 : TabOK prog T16 := TabOK.nil
set_option maxRecDepth 100000 in
set_option maxHeartbeats 1000000 in
theorem ok16 : FnOK prog 16 fs16 := by
 refine FnOK.mk cok func16 rfl rfl rfl ?_
 rintro fl ⟨(n : Int),_⟩ hpre F hnt0 _
 have hnt : F.nt = 11 := hnt0.trans ntmps16
 replace hpre : (n ≤ 60) := hpre
 have hn := hpre
 refine W.to (⟨[(0,.i n)],[],[999]⟩) rfl ?_
 refine Kk cok tab16 hnt [] [0] (⟨[(0,.i n)],[],[999]⟩)
  (True ∧ True)
  ⟨tt,tt⟩ ?_
 refine Kk cok tab16 hnt [] [0,3] (⟨[(0,.i n),(3,.i (1 : Int))],[],[999]⟩)
  (True ∧ True)
  ⟨tt,tt⟩ ?_
 refine W.seq ?_
 refine W.block ?_
 refine W.loop (ι := Int × Int) (fun (x : Int × Int) => match x with | (k,x) => (⟨[(0,.i k),(3,.i x)],[],[999]⟩ : St))
  (fun (x : Int × Int) => match x with | (k,x) => (k ≤ n) ∧ (x * power k = power n) ∧ (1 ≤ x))
  (fun (x : Int × Int) => match x with | (k,x) => (k.toNat : Nat)) (n,(1 : Int)) ?_ ?_ ?_
 ·exact (show (n ≤ n) ∧ ((1 : Int) * power n = power n) ∧ (1 ≤ (1 : Int)) from ⟨(by first | assumption | omega | rfl | (intro _ hjj; omega) | (simp; done) | (simp; omega)),(by exact Int.one_mul _),(by first | assumption | omega | rfl | (intro _ hjj; omega) | (simp; done) | (simp; omega))⟩)
 ·exact Sub.of [] (@cast (((Si n) ∧ (Si (1 : Int)) ∧ True) ∧ True ∧ (true = true) ∧ (true = true)) _ (by kernel_rfl) ⟨⟨rfl,rfl,tt⟩,tt,rfl,rfl⟩)
 ·rintro ⟨k,x⟩ hC0
  have hC : (k ≤ n) ∧ (x * power k = power n) ∧ (1 ≤ x) := hC0
  clear hC0
  obtain ⟨hk,hx,hx0⟩ := hC
  refine W.to (⟨[(0,.i k),(3,.i x)],[],[999]⟩) rfl ?_
  have hp := power_le (n := n) hn
  have hxp : x ≤ power n := power_factor hx hx0
  refine W.seq ?_
  refine Kk cok tab16 hnt [] [0,3,5] (⟨[(0,.i k),(3,.i x),(5,.b (decide ((0 : Int) < k)))],[],[999]⟩)
   (True ∧ (True ∧ True ∧ True) ∧ True)
   ⟨tt,⟨tt,tt,tt⟩,tt⟩ ?_
  refine W.ifP ((0 : Int) < k) (.b (decide ((0 : Int) < k))) (by kernel_rfl) rfl trivial ?_ ?_
  ·intro h5
   refine W.skip (thenQ_normal ?_)
   refine W.seq ?_
   refine W.block ?_
   refine Lk cok tab16 hnt [] (⟨[(0,.i k),(3,.i ((2 : Int) * x)),(5,.b (decide ((0 : Int) < k))),(8,.i x),(9,.i ((2 : Int) * x))],[],[999]⟩)
    (True ∧ (True ∧ True ∧ (Fits .i64 ((2 : Int) * x))) ∧ True ∧ True)
    ⟨tt,⟨tt,tt,(by exact fits_i64 (by omega) (by omega))⟩,tt,tt⟩ ?_
   refine blockQ_normal (thenQ_normal ?_)
   refine Lk cok tab16 hnt [] (⟨[(0,.i (k - (1 : Int))),(3,.i ((2 : Int) * x)),(5,.b (decide ((0 : Int) < k))),(6,.i k),(7,.i (k - (1 : Int))),(8,.i x),(9,.i ((2 : Int) * x))],[],[999]⟩)
    (True ∧ (True ∧ True ∧ (Fits .i64 (k - (1 : Int)))) ∧ True ∧ True)
    ⟨tt,⟨tt,tt,(by exact fits_i64 (by omega) (by omega))⟩,tt,tt⟩ ?_
   refine thenQ_normal ?_
   refine ⟨((k - (1 : Int)),((2 : Int) * x)),(show ((k - (1 : Int)) ≤ n) ∧ (((2 : Int) * x) * power (k - (1 : Int)) = power n) ∧ (1 ≤ ((2 : Int) * x)) from ⟨(by first | assumption | omega | rfl | (intro _ hjj; omega) | (simp; done) | (simp; omega)),(by rw [← hx]; exact power_step h5),(by first | assumption | omega | rfl | (intro _ hjj; omega) | (simp; done) | (simp; omega))⟩),(show (k - (1 : Int)).toNat < k.toNat from (by first | omega | (simp_all; omega))),?_⟩
   exact Sub.of [] (@cast (((Si (k - (1 : Int))) ∧ (Si ((2 : Int) * x)) ∧ True) ∧ True ∧ (true = true) ∧ (true = true)) _ (by kernel_rfl) ⟨⟨rfl,rfl,tt⟩,tt,rfl,rfl⟩)
  ·intro n5
   refine W.exit (thenQ_exit (thenQ_exit (blockQ_hit ?_)))
   refine thenQ_normal ?_
   refine Kk cok tab16 hnt [] [2] (⟨[(2,.i x)],[],[999]⟩)
    (True ∧ True ∧ True)
    ⟨tt,tt,tt⟩ ?_
   refine W.ret ?_
   exact endQ_ret (.i x) (by kernel_rfl) (@cast ((.int .i64 x : Value) = .int .i64 (power n)) _ (by kernel_rfl) (congrArg (Value.int .i64) (by first | rfl | exact power_done hx n5)))
theorem ent16 : Entr prog 16 := ⟨_,func16,rfl,by decide⟩
end Go.Proofs.Try

set_option linter.unusedSimpArgs false
set_option linter.unusedVariables false
namespace Go.Proofs.Try
open Go.Ab Go.RowKit
def fs10 : FnS := fnS [.s .ints,.o] [.ints,.int] (fun _ (l,n,_) => (.b (hasInt l n),[],True))
abbrev T10 : Tab := lk []
theorem tab10 : TabOK prog T10 := TabOK.nil
set_option maxRecDepth 100000 in
set_option maxHeartbeats 1000000 in
theorem ok10 : FnOK prog 10 fs10 := by
 refine FnOK.mk cok func10 rfl rfl rfl ?_
 rintro fl ⟨(l : List Int),(n : Int),_⟩ hpre F hnt0 _
 have hnt : F.nt = 18 := hnt0.trans ntmps10
 clear hpre
 refine W.to (⟨[(0,.sl (.ints l)),(1,.i n)],[],[999]⟩) rfl ?_
 refine W.lenOf 0 (.ints l) (by kernel_rfl) ?_
 intro hl_l; replace hl_l : List.length l ≤ 9223372036854775807 := hl_l
 refine Kk cok tab10 hnt [] [0,1] (⟨[(0,.sl (.ints l)),(1,.i n)],[],[999]⟩)
  (True ∧ True)
  ⟨tt,tt⟩ ?_
 refine W.seq ?_
 refine Kk cok tab10 hnt [] [0,1,5] (⟨[(0,.sl (.ints l)),(1,.i n),(5,.i (0 : Int))],[],[999]⟩)
  (True ∧ True)
  ⟨tt,tt⟩ ?_
 refine W.block ?_
 refine W.loop (ι := Nat) (fun (i : Nat) => (⟨[(0,.sl (.ints l)),(1,.i n),(5,.i ((i : Nat) : Int))],[],[999]⟩ : St))
  (fun (i : Nat) => (i ≤ l.length) ∧ (∀ j,j < i → decide (l.getD j 0 = n) = false))
  (fun (i : Nat) => (l.length - i : Nat)) (0) ?_ ?_ ?_
 ·exact (show (0 ≤ l.length) ∧ (∀ j,j < 0 → decide (l.getD j 0 = n) = false) from ⟨(by first | assumption | omega | rfl | (intro _ hjj; omega) | (simp; done) | (simp; omega)),(by exact upto_zero)⟩)
 ·exact Sub.of [] (@cast (((Sd (.ints l)) ∧ (Si n) ∧ ((.int .i64 (0 : Int) : Value) = .int .i64 ((0 : Nat) : Int)) ∧ True) ∧ True ∧ (true = true) ∧ (true = true)) _ (by kernel_rfl) ⟨⟨rfl,rfl,(congrArg (Value.int .i64) (by first | rfl | omega | assumption | simp | simp_all)),tt⟩,tt,rfl,rfl⟩)
 ·rintro i hC0
  have hC : (i ≤ l.length) ∧ (∀ j,j < i → decide (l.getD j 0 = n) = false) := hC0
  clear hC0
  obtain ⟨hi,hA⟩ := hC
  refine W.to (⟨[(0,.sl (.ints l)),(1,.i n),(5,.i ((i : Nat) : Int))],[],[999]⟩) rfl ?_
  refine W.seq ?_
  refine Kk cok tab10 hnt [] [0,1,5,9] (⟨[(0,.sl (.ints l)),(1,.i n),(5,.i ((i : Nat) : Int)),(9,.b (decide (((i : Nat) : Int) < (l.length : Int))))],[],[999]⟩)
   (True ∧ True ∧ True ∧ (True ∧ True ∧ True) ∧ True)
   ⟨tt,tt,tt,⟨tt,tt,tt⟩,tt⟩ ?_
  refine W.ifP (((i : Nat) : Int) < (l.length : Int)) (.b (decide (((i : Nat) : Int) < (l.length : Int)))) (by kernel_rfl) rfl trivial ?_ ?_
  ·intro h9
   refine W.skip (thenQ_normal ?_)
   refine W.seq ?_
   refine W.block ?_
   refine Kk cok tab10 hnt [] [0,1,5,17] (⟨[(0,.sl (.ints l)),(1,.i n),(5,.i ((i : Nat) : Int)),(17,.b (decide ((l.getD i 0) = n)))],[],[999]⟩)
    (True ∧ True ∧ (True ∧ True ∧ (0 ≤ ((i : Nat) : Int)) ∧ (((i : Nat) : Int) < (l.length : Int))) ∧ True ∧ True ∧ (True ∧ True ∧ True) ∧ True)
    ⟨tt,tt,⟨tt,tt,(by omega),(by omega)⟩,tt,tt,⟨tt,tt,tt⟩,tt⟩ ?_
   refine W.ifP ((l.getD i 0) = n) (.b (decide ((l.getD i 0) = n))) (by kernel_rfl) rfl trivial ?_ ?_
   ·intro h17
    refine Kk cok tab10 hnt [] [4] (⟨[(4,.b true)],[],[999]⟩)
     (True ∧ True)
     ⟨tt,tt⟩ ?_
    refine W.ret (blockQ_ret (thenQ_ret (thenQ_ret (blockQ_ret (thenQ_ret ?_)))))
    exact endQ_ret (.b true) (by kernel_rfl) (@cast ((.bool true : Value) = .bool (hasInt l n)) _ (by kernel_rfl) (congrArg Value.bool (by exact (anyN_true (i := i) (by omega) (decide_eq_true h17)).symm)))
   ·intro n17
    refine W.skip (blockQ_normal (thenQ_normal ?_))
    refine Lk cok tab10 hnt [] (⟨[(0,.sl (.ints l)),(1,.i n),(5,.i (((i + 1) : Nat) : Int)),(10,.i ((i : Nat) : Int)),(11,.i (((i + 1) : Nat) : Int)),(17,.b (decide ((l.getD i 0) = n)))],[],[999]⟩)
     (True ∧ (True ∧ True ∧ (Fits .i64 (((i + 1) : Nat) : Int))) ∧ True ∧ True)
     ⟨tt,⟨tt,tt,(by exact fits_i64 (by omega) (by omega))⟩,tt,tt⟩ ?_
    refine thenQ_normal ?_
    refine ⟨((i + 1)),(show ((i + 1) ≤ l.length) ∧ (∀ j,j < (i + 1) → decide (l.getD j 0 = n) = false) from ⟨(by first | assumption | omega | rfl | (intro _ hjj; omega) | (simp; done) | (simp; omega)),(by exact upto_succ hA (decide_eq_false n17))⟩),(show l.length - (i + 1) < l.length - i from (by first | omega | (simp_all; omega))),?_⟩
    exact Sub.of [] (@cast (((Sd (.ints l)) ∧ (Si n) ∧ (Si (((i + 1) : Nat) : Int)) ∧ True) ∧ True ∧ (true = true) ∧ (true = true)) _ (by kernel_rfl) ⟨⟨rfl,rfl,rfl,tt⟩,tt,rfl,rfl⟩)
  ·intro n9
   refine W.exit (thenQ_exit (thenQ_exit (blockQ_hit ?_)))
   refine thenQ_normal ?_
   refine Kk cok tab10 hnt [] [4] (⟨[(4,.b false)],[],[999]⟩)
    (True ∧ True)
    ⟨tt,tt⟩ ?_
   refine W.ret ?_
   exact endQ_ret (.b false) (by kernel_rfl) (@cast ((.bool false : Value) = .bool (hasInt l n)) _ (by kernel_rfl) (congrArg Value.bool (by exact (anyN_false (fun j hj => hA j (by omega))).symm)))
theorem ent10 : Entr prog 10 := ⟨_,func10,rfl,by decide⟩
end Go.Proofs.Try

set_option linter.unusedSimpArgs false
set_option linter.unusedVariables false
namespace Go.Proofs.Try
open Go.Ab Go.RowKit
def pre17 : List AV → List AV → Prop := preP [.bytes] [] (fun (code,_) _ => True)
def rel17 : RelS := relP [.bytes] [] (ι := (List UInt8)) (fun (code,_) _ l => True) (fun (code,_) _ l => (.ptr 0 0,[⟨50,.fix [.sl (.bytes l),.i (0 : Int)]⟩],[]))
abbrev T17 : Tab := lk []
theorem tab17 : TabOK prog T17 := TabOK.nil
set_option maxRecDepth 100000 in
set_option maxHeartbeats 1000000 in
theorem rok17 : RelOK prog 17 none [.s .bytes] pre17 rel17 := by
 refine RelOK.mk cok func17 rfl rfl rfl ?_
 rintro ⟨(code : List UInt8),_⟩ _ hpre F hnt0
 have hnt : F.nt = 11 := hnt0.trans ntmps17
 clear hpre
 refine W.to (⟨[(0,.sl (.bytes code))],[],[998,999]⟩) rfl ?_
 refine Kk cok tab17 hnt [] [0] (⟨[(0,.sl (.bytes code))],[],[998,999]⟩)
  (True ∧ True)
  ⟨tt,tt⟩ ?_
 refine W.seq ?_
 refine Kk cok tab17 hnt [] [0,5] (⟨[(0,.sl (.bytes code)),(5,.b (decide ((2000 : Int) < (code.length : Int))))],[],[998,999]⟩)
  (True ∧ True ∧ (True ∧ True ∧ True) ∧ True)
  ⟨tt,tt,⟨tt,tt,tt⟩,tt⟩ ?_
 refine W.ifP ((2000 : Int) < (code.length : Int)) (.b (decide ((2000 : Int) < (code.length : Int)))) (by kernel_rfl) rfl trivial ?_ ?_
 ·intro h5
  refine Lk cok tab17 hnt [] (⟨[(0,.sl (.bytes (List.take 2000 code))),(5,.b (decide ((2000 : Int) < (code.length : Int)))),(6,.sl (.bytes code)),(7,.sl (.bytes (List.take 2000 code)))],[],[998,999]⟩)
   (True ∧ (True ∧ True ∧ True ∧ (0 ≤ (0 : Int)) ∧ ((0 : Int) ≤ (2000 : Int)) ∧ ((2000 : Int) ≤ (code.length : Int))) ∧ True ∧ True)
   ⟨tt,⟨tt,tt,tt,(by omega),(by omega),(by omega)⟩,tt,tt⟩ ?_
  refine thenQ_normal ?_
  refine Kk cok tab17 hnt [] [2] (⟨[(2,.ptr 10 0)],[(10,⟨50,.fix [.sl (.bytes (List.take 2000 code)),.i (0 : Int)]⟩)],[10,998,999]⟩)
   (True ∧ (True ∧ True) ∧ True ∧ True ∧ True)
   ⟨tt,⟨tt,tt⟩,tt,tt,tt⟩ ?_
  refine W.ret ?_
  exact endP_ret ((List.take 2000 code)) (show True from trivial) [(0,10)] (.ptr 10 0) (by kernel_rfl) (@cast ((((10 : Nat) = 10) ∧ ((0 : Nat) = 0) ∧ ((0 : Nat) ∈ ([0] : List Nat))) ∧ ((((50 : Nat) = 50) ∧ ((Sd (.bytes (List.take 2000 code))) ∧ (Si (0 : Int)) ∧ True) ∧ ((0 : Nat) ∈ ([0] : List Nat))) ∧ True) ∧ (true = true) ∧ ((([] : List Nat) = []) ∧ True) ∧ (false = true → (10 : Nat) = 998)) _ (by kernel_rfl) ⟨⟨rfl,rfl,(by decide)⟩,⟨⟨rfl,⟨rfl,rfl,tt⟩,(by decide)⟩,tt⟩,rfl,⟨rfl,tt⟩,(fun h => by cases h)⟩)
 ·intro n5
  refine W.skip (thenQ_normal ?_)
  refine Kk cok tab17 hnt [] [2] (⟨[(2,.ptr 10 0)],[(10,⟨50,.fix [.sl (.bytes code),.i (0 : Int)]⟩)],[10,998,999]⟩)
   (True ∧ (True ∧ True) ∧ True ∧ True ∧ True)
   ⟨tt,⟨tt,tt⟩,tt,tt,tt⟩ ?_
  refine W.ret ?_
  exact endP_ret (code) (show True from trivial) [(0,10)] (.ptr 10 0) (by kernel_rfl) (@cast ((((10 : Nat) = 10) ∧ ((0 : Nat) = 0) ∧ ((0 : Nat) ∈ ([0] : List Nat))) ∧ ((((50 : Nat) = 50) ∧ ((Sd (.bytes code)) ∧ (Si (0 : Int)) ∧ True) ∧ ((0 : Nat) ∈ ([0] : List Nat))) ∧ True) ∧ (true = true) ∧ ((([] : List Nat) = []) ∧ True) ∧ (false = true → (10 : Nat) = 998)) _ (by kernel_rfl) ⟨⟨rfl,rfl,(by decide)⟩,⟨⟨rfl,⟨rfl,rfl,tt⟩,(by decide)⟩,tt⟩,rfl,⟨rfl,tt⟩,(fun h => by cases h)⟩)
theorem ent17 : Entr prog 17 := ⟨_,func17,rfl,by decide⟩
end Go.Proofs.Try

set_option linter.unusedSimpArgs false
set_option linter.unusedVariables false
namespace Go.Proofs.Try
open Go.Ab Go.RowKit
def fs37 : FnS := fnS [.s .ints,.o] [.ints,.int] (fun _ (l,n,_) => (.b (hasInt l n),[],True))
abbrev T37 : Tab := lk []
theorem tab37 : TabOK prog T37 := TabOK.nil
set_option maxRecDepth 100000 in
set_option maxHeartbeats 1000000 in
theorem ok37 : FnOK prog 37 fs37 := by
 refine FnOK.mk cok func37 rfl rfl rfl ?_
 rintro fl ⟨(l : List Int),(n : Int),_⟩ hpre F hnt0 _
 have hnt : F.nt = 18 := hnt0.trans ntmps37
 clear hpre
 refine W.to (⟨[(0,.sl (.ints l)),(1,.i n)],[],[999]⟩) rfl ?_
 refine W.lenOf 0 (.ints l) (by kernel_rfl) ?_
 intro hl_l; replace hl_l : List.length l ≤ 9223372036854775807 := hl_l
 refine Kk cok tab37 hnt [] [0,1] (⟨[(0,.sl (.ints l)),(1,.i n)],[],[999]⟩)
  (True ∧ True)
  ⟨tt,tt⟩ ?_
 refine W.seq ?_
 refine Kk cok tab37 hnt [] [0,1,5] (⟨[(0,.sl (.ints l)),(1,.i n),(5,.i (0 : Int))],[],[999]⟩)
  (True ∧ True)
  ⟨tt,tt⟩ ?_
 refine W.block ?_
 refine W.loop (ι := Nat) (fun (i : Nat) => (⟨[(0,.sl (.ints l)),(1,.i n),(5,.i ((i : Nat) : Int))],[],[999]⟩ : St))
  (fun (i : Nat) => (i ≤ l.length) ∧ (∀ j,j < i → decide (l.getD j 0 = n) = false))
  (fun (i : Nat) => (l.length - i : Nat)) (0) ?_ ?_ ?_
 ·exact (show (0 ≤ l.length) ∧ (∀ j,j < 0 → decide (l.getD j 0 = n) = false) from ⟨(by first | assumption | omega | rfl | (intro _ hjj; omega) | (simp; done) | (simp; omega)),(by exact upto_zero)⟩)
 ·exact Sub.of [] (@cast (((Sd (.ints l)) ∧ (Si n) ∧ ((.int .i64 (0 : Int) : Value) = .int .i64 ((0 : Nat) : Int)) ∧ True) ∧ True ∧ (true = true) ∧ (true = true)) _ (by kernel_rfl) ⟨⟨rfl,rfl,(congrArg (Value.int .i64) (by first | rfl | omega | assumption | simp | simp_all)),tt⟩,tt,rfl,rfl⟩)
 ·rintro i hC0
  have hC : (i ≤ l.length) ∧ (∀ j,j < i → decide (l.getD j 0 = n) = false) := hC0
  clear hC0
  obtain ⟨hi,hA⟩ := hC
  refine W.to (⟨[(0,.sl (.ints l)),(1,.i n),(5,.i ((i : Nat) : Int))],[],[999]⟩) rfl ?_
  refine W.seq ?_
  refine Kk cok tab37 hnt [] [0,1,5,9] (⟨[(0,.sl (.ints l)),(1,.i n),(5,.i ((i : Nat) : Int)),(9,.b (decide (((i : Nat) : Int) < (l.length : Int))))],[],[999]⟩)
   (True ∧ True ∧ True ∧ (True ∧ True ∧ True) ∧ True)
   ⟨tt,tt,tt,⟨tt,tt,tt⟩,tt⟩ ?_
  refine W.ifP (((i : Nat) : Int) < (l.length : Int)) (.b (decide (((i : Nat) : Int) < (l.length : Int)))) (by kernel_rfl) rfl trivial ?_ ?_
  ·intro h9
   refine W.skip (thenQ_normal ?_)
   refine W.seq ?_
   refine W.block ?_
   refine Kk cok tab37 hnt [] [0,1,5,17] (⟨[(0,.sl (.ints l)),(1,.i n),(5,.i ((i : Nat) : Int)),(17,.b (decide ((l.getD i 0) = n)))],[],[999]⟩)
    (True ∧ True ∧ (True ∧ True ∧ (0 ≤ ((i : Nat) : Int)) ∧ (((i : Nat) : Int) < (l.length : Int))) ∧ True ∧ True ∧ (True ∧ True ∧ True) ∧ True)
    ⟨tt,tt,⟨tt,tt,(by omega),(by omega)⟩,tt,tt,⟨tt,tt,tt⟩,tt⟩ ?_
   refine W.ifP ((l.getD i 0) = n) (.b (decide ((l.getD i 0) = n))) (by kernel_rfl) rfl trivial ?_ ?_
   ·intro h17
    refine Kk cok tab37 hnt [] [4] (⟨[(4,.b true)],[],[999]⟩)
     (True ∧ True)
     ⟨tt,tt⟩ ?_
    refine W.ret (blockQ_ret (thenQ_ret (thenQ_ret (blockQ_ret (thenQ_ret ?_)))))
    exact endQ_ret (.b true) (by kernel_rfl) (@cast ((.bool true : Value) = .bool (hasInt l n)) _ (by kernel_rfl) (congrArg Value.bool (by unfold hasInt; symm; exact anyN_true (i := i) (by omega) (decide_eq_true h17))))
   ·intro n17
    refine W.skip (blockQ_normal (thenQ_normal ?_))
    refine Lk cok tab37 hnt [] (⟨[(0,.sl (.ints l)),(1,.i n),(5,.i (((i + 1) : Nat) : Int)),(10,.i ((i : Nat) : Int)),(11,.i (((i + 1) : Nat) : Int)),(17,.b (decide ((l.getD i 0) = n)))],[],[999]⟩)
     (True ∧ (True ∧ True ∧ (Fits .i64 (((i + 1) : Nat) : Int))) ∧ True ∧ True)
     ⟨tt,⟨tt,tt,(by exact fits_i64 (by omega) (by omega))⟩,tt,tt⟩ ?_
    refine thenQ_normal ?_
    refine ⟨((i + 1)),(show ((i + 1) ≤ l.length) ∧ (∀ j,j < (i + 1) → decide (l.getD j 0 = n) = false) from ⟨(by first | assumption | omega | rfl | (intro _ hjj; omega) | (simp; done) | (simp; omega)),(by exact upto_succ hA (decide_eq_false n17))⟩),(show l.length - (i + 1) < l.length - i from (by first | omega | (simp_all; omega))),?_⟩
    exact Sub.of [] (@cast (((Sd (.ints l)) ∧ (Si n) ∧ (Si (((i + 1) : Nat) : Int)) ∧ True) ∧ True ∧ (true = true) ∧ (true = true)) _ (by kernel_rfl) ⟨⟨rfl,rfl,rfl,tt⟩,tt,rfl,rfl⟩)
  ·intro n9
   refine W.exit (thenQ_exit (thenQ_exit (blockQ_hit ?_)))
   refine thenQ_normal ?_
   refine Kk cok tab37 hnt [] [4] (⟨[(4,.b false)],[],[999]⟩)
    (True ∧ True)
    ⟨tt,tt⟩ ?_
   refine W.ret ?_
   exact endQ_ret (.b false) (by kernel_rfl) (@cast ((.bool false : Value) = .bool (hasInt l n)) _ (by kernel_rfl) (congrArg Value.bool (by unfold hasInt; symm; exact anyN_false (fun j hj => hA j (by omega)))))
theorem ent37 : Entr prog 37 := ⟨_,func37,rfl,by decide⟩
end Go.Proofs.Try
