import Derived.Test.YtbeabmgjecndnaaPF3S0
import Derived.Test.YtbeabmgjecndnaaPF3S1
import Derived.Test.YtbeabmgjecndnaaPF3S4
import Derived.Test.YtbeabmgjecndnaaPF3S2
import Derived.Test.YtbeabmgjecndnaaFrameB
import Derived.Shelf.Slices.Delete
import Derived.Shelf.Slices.Clone
set_option linter.unusedSimpArgs false
set_option linter.unusedVariables false
namespace Go.Proofs.Try
open Go.Ab Go.RowKit
def fs18 : FnS := fnS [.o,.s .calls] [.str,.calls] (fun _ (pr,h,_) => (.b (keptB pr h),[],(oneWriter h = true)))
abbrev T18 : Tab := lk [(28,fs28),(29,fs29),(30,fs30),(31,fs31)]
theorem tab18 : TabOK prog T18 := (TabOK.cons ok28 ent28 (TabOK.cons ok29 ent29 (TabOK.cons ok30 ent30 (TabOK.cons ok31 ent31 TabOK.nil))))
set_option maxRecDepth 100000 in
set_option maxHeartbeats 1000000 in
theorem ok18 : FnOK prog 18 fs18 := by
 refine FnOK.mk cok func18 rfl rfl rfl ?_
 rintro fl ⟨(pr : ByteArray),(h : List CallD),_⟩ hpre F hnt0 _
 have hnt : F.nt = 154 := hnt0.trans ntmps18
 replace hpre : (oneWriter h = true) := hpre
 have ho := hpre
 refine W.to (⟨[(0,.v (.string pr)),(1,.sl (.calls h))],[],[999]⟩) rfl ?_
 refine W.lenOf 1 (.calls h) (by kernel_rfl) ?_
 intro hl_h; replace hl_h : List.length h ≤ 9223372036854775807 := hl_h
 refine Kk cok tab18 hnt [] [0,1] (⟨[(0,.v (.string pr)),(1,.sl (.calls h))],[],[999]⟩)
  (True ∧ True)
  ⟨tt,tt⟩ ?_
 refine W.seq ?_
 refine Kk cok tab18 hnt [] [0,1,5] (⟨[(0,.v (.string pr)),(1,.sl (.calls h)),(5,.i (0 : Int))],[],[999]⟩)
  (True ∧ True)
  ⟨tt,tt⟩ ?_
 refine W.block ?_
 refine W.loop (ι := Nat) (fun (i : Nat) => (⟨[(0,.v (.string pr)),(1,.sl (.calls h)),(5,.i ((i : Nat) : Int))],[],[999]⟩ : St))
  (fun (i : Nat) => (i ≤ h.length) ∧ (∀ j,j < i → (decide ((callAt h j).kind ≠ 2) || keepOne h pr (callAt h j)) = true) ∧ (eqS pr nAtomic = true → ∀ j,j < i → ∀ k,k < h.length → turnP h j k = false))
  (fun (i : Nat) => (h.length - i : Nat)) (0) ?_ ?_ ?_
 ·exact (show (0 ≤ h.length) ∧ (∀ j,j < 0 → (decide ((callAt h j).kind ≠ 2) || keepOne h pr (callAt h j)) = true) ∧ (eqS pr nAtomic = true → ∀ j,j < 0 → ∀ k,k < h.length → turnP h j k = false) from ⟨(by first | assumption | omega | rfl | (intro _ hjj; omega) | (simp; done) | (simp; omega)),(by exact upto_zero),(by intro _ j hj; omega)⟩)
 ·exact Sub.of [] (@cast (((((.string pr) : Value) = (.string pr)) ∧ (Sd (.calls h)) ∧ ((.int .i64 (0 : Int) : Value) = .int .i64 ((0 : Nat) : Int)) ∧ True) ∧ True ∧ (true = true) ∧ (true = true)) _ (by kernel_rfl) ⟨⟨rfl,rfl,(congrArg (Value.int .i64) (by first | rfl | omega | assumption | simp | simp_all)),tt⟩,tt,rfl,rfl⟩)
 ·rintro i hC0
  have hC : (i ≤ h.length) ∧ (∀ j,j < i → (decide ((callAt h j).kind ≠ 2) || keepOne h pr (callAt h j)) = true) ∧ (eqS pr nAtomic = true → ∀ j,j < i → ∀ k,k < h.length → turnP h j k = false) := hC0
  clear hC0
  obtain ⟨hi,hA,hT⟩ := hC
  refine W.to (⟨[(0,.v (.string pr)),(1,.sl (.calls h)),(5,.i ((i : Nat) : Int))],[],[999]⟩) rfl ?_
  refine W.seq ?_
  refine Kk cok tab18 hnt [] [0,1,5,15] (⟨[(0,.v (.string pr)),(1,.sl (.calls h)),(5,.i ((i : Nat) : Int)),(15,.b (decide (((i : Nat) : Int) < (h.length : Int))))],[],[999]⟩)
   (True ∧ True ∧ True ∧ (True ∧ True ∧ True) ∧ True)
   ⟨tt,tt,tt,⟨tt,tt,tt⟩,tt⟩ ?_
  refine W.ifP (((i : Nat) : Int) < (h.length : Int)) (.b (decide (((i : Nat) : Int) < (h.length : Int)))) (by kernel_rfl) rfl trivial ?_ ?_
  ·intro h15
   refine W.skip (thenQ_normal ?_)
   refine W.seq ?_
   refine W.block ?_
   refine W.seq ?_
   refine Kk cok tab18 hnt [] [0,1,5,23] (⟨[(0,.v (.string pr)),(1,.sl (.calls h)),(5,.i ((i : Nat) : Int)),(23,.b (decide (((h.getD i default).kind) ≠ (2 : Int))))],[],[999]⟩)
    (True ∧ True ∧ (True ∧ True ∧ (0 ≤ ((i : Nat) : Int)) ∧ (((i : Nat) : Int) < (h.length : Int))) ∧ True ∧ True ∧ (True ∧ True ∧ True) ∧ True)
    ⟨tt,tt,⟨tt,tt,(by omega),(by omega)⟩,tt,tt,⟨tt,tt,tt⟩,tt⟩ ?_
   refine W.ifP (((h.getD i default).kind) ≠ (2 : Int)) (.b (decide (((h.getD i default).kind) ≠ (2 : Int)))) (by kernel_rfl) rfl trivial ?_ ?_
   ·intro h23
    refine W.exit (thenQ_exit (blockQ_hit ?_))
    refine thenQ_normal ?_
    refine Lk cok tab18 hnt [] (⟨[(0,.v (.string pr)),(1,.sl (.calls h)),(5,.i (((i + 1) : Nat) : Int)),(16,.i ((i : Nat) : Int)),(17,.i (((i + 1) : Nat) : Int)),(23,.b (decide (((h.getD i default).kind) ≠ (2 : Int))))],[],[999]⟩)
     (True ∧ (True ∧ True ∧ (Fits .i64 (((i + 1) : Nat) : Int))) ∧ True ∧ True)
     ⟨tt,⟨tt,tt,(by exact fits_i64 (by omega) (by omega))⟩,tt,tt⟩ ?_
    refine thenQ_normal ?_
    refine ⟨((i + 1)),(show ((i + 1) ≤ h.length) ∧ (∀ j,j < (i + 1) → (decide ((callAt h j).kind ≠ 2) || keepOne h pr (callAt h j)) = true) ∧ (eqS pr nAtomic = true → ∀ j,j < (i + 1) → ∀ k,k < h.length → turnP h j k = false) from ⟨(by first | assumption | omega | rfl | (intro _ hjj; omega) | (simp; done) | (simp; omega)),(by first | exact upto_succ hA (or_tl (decide_eq_true h23)) | exact upto_succ hA (or_tr (by have h9 := keep_val2 (ov_all hm (by omega)) n118; exact h9))),(by first | exact fun ha => upto_succ (hT ha) (fun k _ => turn_not h23) | exact fun ha => upto_succ (hT ha) (fun k hk => hB k (by first | omega | (simp [ha] at n126; omega))))⟩),(show h.length - (i + 1) < h.length - i from (by first | omega | (simp_all; omega))),?_⟩
    exact Sub.of [] (@cast (((((.string pr) : Value) = (.string pr)) ∧ (Sd (.calls h)) ∧ (Si (((i + 1) : Nat) : Int)) ∧ True) ∧ True ∧ (true = true) ∧ (true = true)) _ (by kernel_rfl) ⟨⟨rfl,rfl,rfl,tt⟩,tt,rfl,rfl⟩)
   ·intro n23
    refine W.skip (thenQ_normal ?_)
    refine Kk cok tab18 hnt [] [0,1,5,6] (⟨[(0,.v (.string pr)),(1,.sl (.calls h)),(5,.i ((i : Nat) : Int)),(6,.i (sourceR h (h.getD ((i : Nat) : Int).toNat default).ret))],[],[999]⟩)
     (True ∧ True ∧ (True ∧ (True ∧ True ∧ True) ∧ 0 ≤ ((i : Nat) : Int) ∧ ((i : Nat) : Int) < h.length) ∧ True ∧ True)
     ⟨tt,tt,⟨tt,⟨tt,tt,tt⟩,(by omega)⟩,tt,tt⟩ ?_
    refine Kk cok tab18 hnt [] [0,1,5,6,7] (⟨[(0,.v (.string pr)),(1,.sl (.calls h)),(5,.i ((i : Nat) : Int)),(6,.i (sourceR h (h.getD ((i : Nat) : Int).toNat default).ret)),(7,.b false)],[],[999]⟩)
     (True ∧ True)
     ⟨tt,tt⟩ ?_
    refine W.seq ?_
    refine Kk cok tab18 hnt [] [0,1,5,6,7,8] (⟨[(0,.v (.string pr)),(1,.sl (.calls h)),(5,.i ((i : Nat) : Int)),(6,.i (sourceR h (h.getD ((i : Nat) : Int).toNat default).ret)),(7,.b false),(8,.i (0 : Int))],[],[999]⟩)
     (True ∧ True)
     ⟨tt,tt⟩ ?_
    refine W.block ?_
    refine W.loop (ι := Bool × Nat) (fun (x : Bool × Nat) => match x with | (m,k) => (⟨[(0,.v (.string pr)),(1,.sl (.calls h)),(5,.i ((i : Nat) : Int)),(6,.i (sourceR h (h.getD ((i : Nat) : Int).toNat default).ret)),(7,.b m),(8,.i ((k : Nat) : Int))],[],[999]⟩ : St))
     (fun (x : Bool × Nat) => match x with | (m,k) => (k ≤ h.length) ∧ (m = ovUp h (h.getD i default) k))
     (fun (x : Bool × Nat) => match x with | (m,k) => (h.length - k : Nat)) (false,0) ?_ ?_ ?_
    ·exact (show (0 ≤ h.length) ∧ (false = ovUp h (h.getD i default) 0) from ⟨(by first | assumption | omega | rfl | (intro _ hjj; omega) | (simp; done) | (simp; omega)),(by rfl)⟩)
    ·exact Sub.of [] (@cast (((((.string pr) : Value) = (.string pr)) ∧ (Sd (.calls h)) ∧ (Si ((i : Nat) : Int)) ∧ (Si (sourceR h (h.getD ((i : Nat) : Int).toNat default).ret)) ∧ (Sv (.bool false)) ∧ ((.int .i64 (0 : Int) : Value) = .int .i64 ((0 : Nat) : Int)) ∧ True) ∧ True ∧ (true = true) ∧ (true = true)) _ (by kernel_rfl) ⟨⟨rfl,rfl,rfl,rfl,rfl,(congrArg (Value.int .i64) (by first | rfl | omega | assumption | simp | simp_all)),tt⟩,tt,rfl,rfl⟩)
    ·rintro ⟨m,k⟩ hC0
     have hC : (k ≤ h.length) ∧ (m = ovUp h (h.getD i default) k) := hC0
     clear hC0
     obtain ⟨hk,hm⟩ := hC
     refine W.to (⟨[(0,.v (.string pr)),(1,.sl (.calls h)),(5,.i ((i : Nat) : Int)),(6,.i (sourceR h (h.getD ((i : Nat) : Int).toNat default).ret)),(7,.b m),(8,.i ((k : Nat) : Int))],[],[999]⟩) rfl ?_
     refine W.seq ?_
     refine Kk cok tab18 hnt [] [0,1,5,6,7,8,30] (⟨[(0,.v (.string pr)),(1,.sl (.calls h)),(5,.i ((i : Nat) : Int)),(6,.i (sourceR h (h.getD ((i : Nat) : Int).toNat default).ret)),(7,.b m),(8,.i ((k : Nat) : Int)),(30,.b (decide (((k : Nat) : Int) < (h.length : Int))))],[],[999]⟩)
      (True ∧ True ∧ True ∧ (True ∧ True ∧ True) ∧ True)
      ⟨tt,tt,tt,⟨tt,tt,tt⟩,tt⟩ ?_
     refine W.ifP (((k : Nat) : Int) < (h.length : Int)) (.b (decide (((k : Nat) : Int) < (h.length : Int)))) (by kernel_rfl) rfl trivial ?_ ?_
     ·intro h30
      refine W.skip (thenQ_normal ?_)
      refine W.seq ?_
      refine W.block ?_
      refine W.LA cok tab18 hnt [] ((fun (Z1:Bool)=>((fun (Z2:Bool)=>((fun (Z3:Bool)=>((fun (Z4:Bool)=>((fun (Z5:Bool)=>((fun (Z6:Bool)=>(⟨[(0,.v (.string pr)),(1,.sl (.calls h)),(5,.i ((i : Nat) : Int)),(6,.i (sourceR h (h.getD ((i : Nat) : Int).toNat default).ret)),(7,.b (m || (Z4 && (!Z6)))),(8,.i ((k : Nat) : Int)),(30,.b (decide (((k : Nat) : Int) < (h.length : Int)))),(33,.b m),(34,.b m),(35,.g (!m) (.sl (.calls h))),(36,.g (!m) (.i ((k : Nat) : Int))),(37,.g (!m) (.ep [.i ((h.getD k default).proc),.i ((h.getD k default).obj),.i ((h.getD k default).kind),.i ((h.getD k default).arg),.i ((h.getD k default).ret),.i ((h.getD k default).frm),.i ((h.getD k default).to)])),(38,.g (!m) (.ep [.i ((h.getD k default).kind),.i ((h.getD k default).arg),.i ((h.getD k default).ret),.i ((h.getD k default).frm),.i ((h.getD k default).to)])),(39,.g (!m) (.i ((h.getD k default).kind))),(40,.g (!m) (.b Z1)),(41,.g (!m) (.g (!m) (.b Z1))),(42,.g Z2 (.sl (.calls h))),(43,.g Z2 (.i ((k : Nat) : Int))),(44,.g Z2 (.ep [.i ((h.getD k default).proc),.i ((h.getD k default).obj),.i ((h.getD k default).kind),.i ((h.getD k default).arg),.i ((h.getD k default).ret),.i ((h.getD k default).frm),.i ((h.getD k default).to)])),(45,.g Z2 (.agg [.i ((h.getD k default).proc),.i ((h.getD k default).obj),.i ((h.getD k default).kind),.i ((h.getD k default).arg),.i ((h.getD k default).ret),.i ((h.getD k default).frm),.i ((h.getD k default).to)])),(46,.g Z2 (.sl (.calls h))),(47,.g Z2 (.i ((i : Nat) : Int))),(48,.g Z2 (.ep [.i ((h.getD i default).proc),.i ((h.getD i default).obj),.i ((h.getD i default).kind),.i ((h.getD i default).arg),.i ((h.getD i default).ret),.i ((h.getD i default).frm),.i ((h.getD i default).to)])),(49,.g Z2 (.agg [.i ((h.getD i default).proc),.i ((h.getD i default).obj),.i ((h.getD i default).kind),.i ((h.getD i default).arg),.i ((h.getD i default).ret),.i ((h.getD i default).frm),.i ((h.getD i default).to)])),(50,.g Z2 (.b Z3)),(51,.g Z2 (.b (!Z3))),(52,.g (!m) (.b Z4)),(53,.g (!m) (.g (!m) (.b Z4))),(54,.g Z5 (.sl (.calls h))),(55,.g Z5 (.i ((i : Nat) : Int))),(56,.g Z5 (.ep [.i ((h.getD i default).proc),.i ((h.getD i default).obj),.i ((h.getD i default).kind),.i ((h.getD i default).arg),.i ((h.getD i default).ret),.i ((h.getD i default).frm),.i ((h.getD i default).to)])),(57,.g Z5 (.agg [.i ((h.getD i default).proc),.i ((h.getD i default).obj),.i ((h.getD i default).kind),.i ((h.getD i default).arg),.i ((h.getD i default).ret),.i ((h.getD i default).frm),.i ((h.getD i default).to)])),(58,.g Z5 (.sl (.calls h))),(59,.g Z5 (.i ((k : Nat) : Int))),(60,.g Z5 (.ep [.i ((h.getD k default).proc),.i ((h.getD k default).obj),.i ((h.getD k default).kind),.i ((h.getD k default).arg),.i ((h.getD k default).ret),.i ((h.getD k default).frm),.i ((h.getD k default).to)])),(61,.g Z5 (.agg [.i ((h.getD k default).proc),.i ((h.getD k default).obj),.i ((h.getD k default).kind),.i ((h.getD k default).arg),.i ((h.getD k default).ret),.i ((h.getD k default).frm),.i ((h.getD k default).to)])),(62,.g Z5 (.b Z6)),(63,.g Z5 (.b (!Z6))),(64,.g (!m) (.b (Z4 && (!Z6)))),(65,.b (m || (Z4 && (!Z6))))],[],[999]⟩:St)) (isBefore (h.getD i default) (h.getD k default)))) ((!m) && ((!m) && Z4)))) (Z1 && (!Z3)))) (isBefore (h.getD k default) (h.getD i default)))) ((!m) && ((!m) && Z1)))) (decide (((h.getD k default).kind) = (0 : Int))))
       ((fun (Z1:Bool)=>((fun (Z2:Bool)=>((fun (Z3:Bool)=>((fun (Z4:Bool)=>(True ∧ (True ∧ (((!m) = true → True) ∧ (((!m) = true → True) ∧ (((!m) = true → ((((!m) = true) ∧ True) ∧ ((((!m) = true) ∧ True) ∧ ((0 ≤ ((k : Nat) : Int)) ∧ (((k : Nat) : Int) < (h.length : Int)))))) ∧ (((!m) = true → (((!m) = true) ∧ True)) ∧ (((!m) = true → (((!m) = true) ∧ True)) ∧ (((!m) = true → ((((!m) = true) ∧ True) ∧ (True ∧ True))) ∧ (((!m) = true → True) ∧ ((Z2 = true → True) ∧ ((Z2 = true → True) ∧ ((Z2 = true → (((Z2 = true) ∧ True) ∧ (((Z2 = true) ∧ True) ∧ ((0 ≤ ((k : Nat) : Int)) ∧ (((k : Nat) : Int) < (h.length : Int)))))) ∧ ((Z2 = true → ((Z2 = true) ∧ True)) ∧ ((Z2 = true → True) ∧ ((Z2 = true → True) ∧ ((Z2 = true → (((Z2 = true) ∧ True) ∧ (((Z2 = true) ∧ True) ∧ ((0 ≤ ((i : Nat) : Int)) ∧ (((i : Nat) : Int) < (h.length : Int)))))) ∧ ((Z2 = true → ((Z2 = true) ∧ True)) ∧ ((Z2 = true → (True ∧ ((((Z2 = true) ∧ True) ∧ (((Z2 = true) ∧ True) ∧ True)) ∧ True))) ∧ ((Z2 = true → ((Z2 = true) ∧ True)) ∧ (((!m) = true → ((((!m) = true) ∧ (((!m) = true) ∧ True)) ∧ ((Z1 = true → (Z2 = true) ∧ True) ∧ (Z1 = false → True)))) ∧ (((!m) = true → True) ∧ ((Z4 = true → True) ∧ ((Z4 = true → True) ∧ ((Z4 = true → (((Z4 = true) ∧ True) ∧ (((Z4 = true) ∧ True) ∧ ((0 ≤ ((i : Nat) : Int)) ∧ (((i : Nat) : Int) < (h.length : Int)))))) ∧ ((Z4 = true → ((Z4 = true) ∧ True)) ∧ ((Z4 = true → True) ∧ ((Z4 = true → True) ∧ ((Z4 = true → (((Z4 = true) ∧ True) ∧ (((Z4 = true) ∧ True) ∧ ((0 ≤ ((k : Nat) : Int)) ∧ (((k : Nat) : Int) < (h.length : Int)))))) ∧ ((Z4 = true → ((Z4 = true) ∧ True)) ∧ ((Z4 = true → (True ∧ ((((Z4 = true) ∧ True) ∧ (((Z4 = true) ∧ True) ∧ True)) ∧ True))) ∧ ((Z4 = true → ((Z4 = true) ∧ True)) ∧ (((!m) = true → ((((!m) = true) ∧ (((!m) = true) ∧ True)) ∧ ((Z3 = true → (Z4 = true) ∧ True) ∧ (Z3 = false → True)))) ∧ ((True ∧ ((m = true → True) ∧ (m = false → ((!m) = true) ∧ True))) ∧ (True ∧ True))))))))))))))))))))))))))))))))))) ((!m) && ((!m) && Z3)))) (Z1 && (!(isBefore (h.getD k default) (h.getD i default)))))) ((!m) && ((!m) && Z1)))) (decide (((h.getD k default).kind) = (0 : Int)))) (by kernel_rfl) (by kernel_rfl)
       ⟨tt,tt,(fun _ => trivial),(fun _ => trivial),(fun hG => ⟨⟨hG,tt⟩,⟨hG,tt⟩,(by omega),(by omega)⟩),(fun hG => ⟨hG,tt⟩),(fun hG => ⟨hG,tt⟩),(fun hG => ⟨⟨hG,tt⟩,tt,tt⟩),(fun _ => trivial),(fun _ => trivial),(fun _ => trivial),(fun hG => ⟨⟨hG,tt⟩,⟨hG,tt⟩,(by have hg0 : ((h.getD k default).kind) = (0 : Int) := of_decide_eq_true (and_r (and_r hG)); omega),(by have hg0 : ((h.getD k default).kind) = (0 : Int) := of_decide_eq_true (and_r (and_r hG)); omega)⟩),(fun hG => ⟨hG,tt⟩),(fun _ => trivial),(fun _ => trivial),(fun hG => ⟨⟨hG,tt⟩,⟨hG,tt⟩,(by have hg0 : ((h.getD k default).kind) = (0 : Int) := of_decide_eq_true (and_r (and_r hG)); omega),(by have hg0 : ((h.getD k default).kind) = (0 : Int) := of_decide_eq_true (and_r (and_r hG)); omega)⟩),(fun hG => ⟨hG,tt⟩),(fun hG => ⟨tt,⟨⟨hG,tt⟩,⟨hG,tt⟩,tt⟩,tt⟩),(fun hG => ⟨hG,tt⟩),(fun hG => ⟨⟨hG,hG,tt⟩,(fun hp => ⟨(and_t hG (and_t hG hp)),tt⟩),(fun _ => trivial)⟩),(fun _ => trivial),(fun _ => trivial),(fun _ => trivial),(fun hG => ⟨⟨hG,tt⟩,⟨hG,tt⟩,(by have hg0 : ((h.getD k default).kind) = (0 : Int) := of_decide_eq_true (and_l (and_r (and_r hG))); omega),(by have hg0 : ((h.getD k default).kind) = (0 : Int) := of_decide_eq_true (and_l (and_r (and_r hG))); omega)⟩),(fun hG => ⟨hG,tt⟩),(fun _ => trivial),(fun _ => trivial),(fun hG => ⟨⟨hG,tt⟩,⟨hG,tt⟩,(by have hg0 : ((h.getD k default).kind) = (0 : Int) := of_decide_eq_true (and_l (and_r (and_r hG))); omega),(by have hg0 : ((h.getD k default).kind) = (0 : Int) := of_decide_eq_true (and_l (and_r (and_r hG))); omega)⟩),(fun hG => ⟨hG,tt⟩),(fun hG => ⟨tt,⟨⟨hG,tt⟩,⟨hG,tt⟩,tt⟩,tt⟩),(fun hG => ⟨hG,tt⟩),(fun hG => ⟨⟨hG,hG,tt⟩,(fun hp => ⟨(and_t hG (and_t hG hp)),tt⟩),(fun _ => trivial)⟩),⟨tt,(fun _ => trivial),(fun hp => ⟨(not_t hp),tt⟩)⟩,tt,tt⟩ ?_
      refine blockQ_normal (thenQ_normal ?_)
      refine Lk cok tab18 hnt [] ((fun (Z1:Bool)=>((fun (Z2:Bool)=>((fun (Z3:Bool)=>((fun (Z4:Bool)=>((fun (Z5:Bool)=>((fun (Z6:Bool)=>(⟨[(0,.v (.string pr)),(1,.sl (.calls h)),(5,.i ((i : Nat) : Int)),(6,.i (sourceR h (h.getD ((i : Nat) : Int).toNat default).ret)),(7,.b (m || (Z4 && (!Z6)))),(8,.i (((k + 1) : Nat) : Int)),(30,.b (decide (((k : Nat) : Int) < (h.length : Int)))),(31,.i ((k : Nat) : Int)),(32,.i (((k + 1) : Nat) : Int)),(33,.b m),(34,.b m),(35,.g (!m) (.sl (.calls h))),(36,.g (!m) (.i ((k : Nat) : Int))),(37,.g (!m) (.ep [.i ((h.getD k default).proc),.i ((h.getD k default).obj),.i ((h.getD k default).kind),.i ((h.getD k default).arg),.i ((h.getD k default).ret),.i ((h.getD k default).frm),.i ((h.getD k default).to)])),(38,.g (!m) (.ep [.i ((h.getD k default).kind),.i ((h.getD k default).arg),.i ((h.getD k default).ret),.i ((h.getD k default).frm),.i ((h.getD k default).to)])),(39,.g (!m) (.i ((h.getD k default).kind))),(40,.g (!m) (.b Z1)),(41,.g (!m) (.g (!m) (.b Z1))),(42,.g Z2 (.sl (.calls h))),(43,.g Z2 (.i ((k : Nat) : Int))),(44,.g Z2 (.ep [.i ((h.getD k default).proc),.i ((h.getD k default).obj),.i ((h.getD k default).kind),.i ((h.getD k default).arg),.i ((h.getD k default).ret),.i ((h.getD k default).frm),.i ((h.getD k default).to)])),(45,.g Z2 (.agg [.i ((h.getD k default).proc),.i ((h.getD k default).obj),.i ((h.getD k default).kind),.i ((h.getD k default).arg),.i ((h.getD k default).ret),.i ((h.getD k default).frm),.i ((h.getD k default).to)])),(46,.g Z2 (.sl (.calls h))),(47,.g Z2 (.i ((i : Nat) : Int))),(48,.g Z2 (.ep [.i ((h.getD i default).proc),.i ((h.getD i default).obj),.i ((h.getD i default).kind),.i ((h.getD i default).arg),.i ((h.getD i default).ret),.i ((h.getD i default).frm),.i ((h.getD i default).to)])),(49,.g Z2 (.agg [.i ((h.getD i default).proc),.i ((h.getD i default).obj),.i ((h.getD i default).kind),.i ((h.getD i default).arg),.i ((h.getD i default).ret),.i ((h.getD i default).frm),.i ((h.getD i default).to)])),(50,.g Z2 (.b Z3)),(51,.g Z2 (.b (!Z3))),(52,.g (!m) (.b Z4)),(53,.g (!m) (.g (!m) (.b Z4))),(54,.g Z5 (.sl (.calls h))),(55,.g Z5 (.i ((i : Nat) : Int))),(56,.g Z5 (.ep [.i ((h.getD i default).proc),.i ((h.getD i default).obj),.i ((h.getD i default).kind),.i ((h.getD i default).arg),.i ((h.getD i default).ret),.i ((h.getD i default).frm),.i ((h.getD i default).to)])),(57,.g Z5 (.agg [.i ((h.getD i default).proc),.i ((h.getD i default).obj),.i ((h.getD i default).kind),.i ((h.getD i default).arg),.i ((h.getD i default).ret),.i ((h.getD i default).frm),.i ((h.getD i default).to)])),(58,.g Z5 (.sl (.calls h))),(59,.g Z5 (.i ((k : Nat) : Int))),(60,.g Z5 (.ep [.i ((h.getD k default).proc),.i ((h.getD k default).obj),.i ((h.getD k default).kind),.i ((h.getD k default).arg),.i ((h.getD k default).ret),.i ((h.getD k default).frm),.i ((h.getD k default).to)])),(61,.g Z5 (.agg [.i ((h.getD k default).proc),.i ((h.getD k default).obj),.i ((h.getD k default).kind),.i ((h.getD k default).arg),.i ((h.getD k default).ret),.i ((h.getD k default).frm),.i ((h.getD k default).to)])),(62,.g Z5 (.b Z6)),(63,.g Z5 (.b (!Z6))),(64,.g (!m) (.b (Z4 && (!Z6)))),(65,.b (m || (Z4 && (!Z6))))],[],[999]⟩:St)) (isBefore (h.getD i default) (h.getD k default)))) ((!m) && ((!m) && Z4)))) (Z1 && (!Z3)))) (isBefore (h.getD k default) (h.getD i default)))) ((!m) && ((!m) && Z1)))) (decide (((h.getD k default).kind) = (0 : Int))))
       (True ∧ (True ∧ True ∧ (Fits .i64 (((k + 1) : Nat) : Int))) ∧ True ∧ True)
       ⟨tt,⟨tt,tt,(by exact fits_i64 (by omega) (by omega))⟩,tt,tt⟩ ?_
      refine thenQ_normal ?_
      refine ⟨((m || (((decide (((h.getD k default).kind) = (0 : Int))) && (!(isBefore (h.getD k default) (h.getD i default)))) && (!(isBefore (h.getD i default) (h.getD k default))))),(k + 1)),(show ((k + 1) ≤ h.length) ∧ ((m || (((decide (((h.getD k default).kind) = (0 : Int))) && (!(isBefore (h.getD k default) (h.getD i default)))) && (!(isBefore (h.getD i default) (h.getD k default))))) = ovUp h (h.getD i default) (k + 1)) from ⟨(by first | assumption | omega | rfl | (intro _ hjj; omega) | (simp; done) | (simp; omega)),(by exact ov_next hm)⟩),(show h.length - (k + 1) < h.length - k from (by first | omega | (simp_all; omega))),?_⟩
      exact Sub.of [] (@cast (((((.string pr) : Value) = (.string pr)) ∧ (Sd (.calls h)) ∧ (Si ((i : Nat) : Int)) ∧ (Si (sourceR h (h.getD ((i : Nat) : Int).toNat default).ret)) ∧ (Sv (.bool (m || (((decide (((h.getD k default).kind) = (0 : Int))) && (!(isBefore (h.getD k default) (h.getD i default)))) && (!(isBefore (h.getD i default) (h.getD k default))))))) ∧ (Si (((k + 1) : Nat) : Int)) ∧ True) ∧ True ∧ (true = true) ∧ (true = true)) _ (by kernel_rfl) ⟨⟨rfl,rfl,rfl,rfl,rfl,rfl,tt⟩,tt,rfl,rfl⟩)
     ·intro n30
      refine W.exit (thenQ_exit (thenQ_exit (blockQ_hit ?_)))
      refine thenQ_normal ?_
      refine Kk cok tab18 hnt [] [0,1,5,6,7,9] (⟨[(0,.v (.string pr)),(1,.sl (.calls h)),(5,.i ((i : Nat) : Int)),(6,.i (sourceR h (h.getD ((i : Nat) : Int).toNat default).ret)),(7,.b m),(9,.b (decide ((sourceR h (h.getD ((i : Nat) : Int).toNat default).ret) = (lastBefore h (h.getD ((i : Nat) : Int).toNat default)))))],[],[999]⟩)
       (True ∧ True ∧ True ∧ (True ∧ (True ∧ True ∧ True) ∧ (oneWriter h = true) ∧ 0 ≤ ((i : Nat) : Int) ∧ ((i : Nat) : Int) < h.length) ∧ (True ∧ True ∧ True) ∧ True ∧ True)
       ⟨tt,tt,tt,⟨tt,⟨tt,tt,tt⟩,(by exact ho),(by omega)⟩,⟨tt,tt,tt⟩,tt,tt⟩ ?_
      refine W.KA cok tab18 hnt [] [0,1,5,6,7,9,10] (⟨[(0,.v (.string pr)),(1,.sl (.calls h)),(5,.i ((i : Nat) : Int)),(6,.i (sourceR h (h.getD ((i : Nat) : Int).toNat default).ret)),(7,.b m),(9,.b (decide ((sourceR h (h.getD ((i : Nat) : Int).toNat default).ret) = (lastBefore h (h.getD ((i : Nat) : Int).toNat default))))),(10,.b (((decide ((0 : Int) ≤ (sourceR h (h.getD ((i : Nat) : Int).toNat default).ret))) && (!(isBefore (h.getD (Int.toNat (sourceR h (h.getD ((i : Nat) : Int).toNat default).ret)) default) (h.getD i default)))) && (!(isBefore (h.getD i default) (h.getD (Int.toNat (sourceR h (h.getD ((i : Nat) : Int).toNat default).ret)) default)))))],[],[999]⟩)
       ((fun (Z1:Bool)=>((fun (Z2:Bool)=>(True ∧ ((True ∧ (True ∧ True)) ∧ (True ∧ ((Z1 = true → True) ∧ ((Z1 = true → True) ∧ ((Z1 = true → (((Z1 = true) ∧ True) ∧ (((Z1 = true) ∧ True) ∧ ((0 ≤ (sourceR h (h.getD ((i : Nat) : Int).toNat default).ret)) ∧ ((sourceR h (h.getD ((i : Nat) : Int).toNat default).ret) < (h.length : Int)))))) ∧ ((Z1 = true → ((Z1 = true) ∧ True)) ∧ ((Z1 = true → True) ∧ ((Z1 = true → True) ∧ ((Z1 = true → (((Z1 = true) ∧ True) ∧ (((Z1 = true) ∧ True) ∧ ((0 ≤ ((i : Nat) : Int)) ∧ (((i : Nat) : Int) < (h.length : Int)))))) ∧ ((Z1 = true → ((Z1 = true) ∧ True)) ∧ ((Z1 = true → (True ∧ ((((Z1 = true) ∧ True) ∧ (((Z1 = true) ∧ True) ∧ True)) ∧ True))) ∧ ((Z1 = true → ((Z1 = true) ∧ True)) ∧ ((True ∧ ((Z1 = true → (Z1 = true) ∧ True) ∧ (Z1 = false → True))) ∧ (True ∧ ((Z2 = true → True) ∧ ((Z2 = true → True) ∧ ((Z2 = true → (((Z2 = true) ∧ True) ∧ (((Z2 = true) ∧ True) ∧ ((0 ≤ ((i : Nat) : Int)) ∧ (((i : Nat) : Int) < (h.length : Int)))))) ∧ ((Z2 = true → ((Z2 = true) ∧ True)) ∧ ((Z2 = true → True) ∧ ((Z2 = true → True) ∧ ((Z2 = true → (((Z2 = true) ∧ True) ∧ (((Z2 = true) ∧ True) ∧ ((0 ≤ (sourceR h (h.getD ((i : Nat) : Int).toNat default).ret)) ∧ ((sourceR h (h.getD ((i : Nat) : Int).toNat default).ret) < (h.length : Int)))))) ∧ ((Z2 = true → ((Z2 = true) ∧ True)) ∧ ((Z2 = true → (True ∧ ((((Z2 = true) ∧ True) ∧ (((Z2 = true) ∧ True) ∧ True)) ∧ True))) ∧ ((Z2 = true → ((Z2 = true) ∧ True)) ∧ ((True ∧ ((Z2 = true → (Z2 = true) ∧ True) ∧ (Z2 = false → True))) ∧ (True ∧ True)))))))))))))))))))))))))))) (Z1 && (!(isBefore (h.getD (Int.toNat (sourceR h (h.getD ((i : Nat) : Int).toNat default).ret)) default) (h.getD i default)))))) (decide ((0 : Int) ≤ (sourceR h (h.getD ((i : Nat) : Int).toNat default).ret)))) (by kernel_rfl) (by kernel_rfl)
       ⟨tt,⟨tt,tt,tt⟩,tt,(fun _ => trivial),(fun _ => trivial),(fun hG => ⟨⟨hG,tt⟩,⟨hG,tt⟩,(by have hg0 : (0 : Int) ≤ (sourceR h (h.getD ((i : Nat) : Int).toNat default).ret) := of_decide_eq_true hG; have h1 := source_lt h (h.getD i default).ret; have h2 := source_lt h (h.getD k default).ret; (try have h3 := source_lt h (h.getD q default).ret); (try simp only [Int.toNat_natCast] at *); omega),(by have hg0 : (0 : Int) ≤ (sourceR h (h.getD ((i : Nat) : Int).toNat default).ret) := of_decide_eq_true hG; have h1 := source_lt h (h.getD i default).ret; have h2 := source_lt h (h.getD k default).ret; (try have h3 := source_lt h (h.getD q default).ret); (try simp only [Int.toNat_natCast] at *); omega)⟩),(fun hG => ⟨hG,tt⟩),(fun _ => trivial),(fun _ => trivial),(fun hG => ⟨⟨hG,tt⟩,⟨hG,tt⟩,(by have hg0 : (0 : Int) ≤ (sourceR h (h.getD ((i : Nat) : Int).toNat default).ret) := of_decide_eq_true hG; omega),(by have hg0 : (0 : Int) ≤ (sourceR h (h.getD ((i : Nat) : Int).toNat default).ret) := of_decide_eq_true hG; omega)⟩),(fun hG => ⟨hG,tt⟩),(fun hG => ⟨tt,⟨⟨hG,tt⟩,⟨hG,tt⟩,tt⟩,tt⟩),(fun hG => ⟨hG,tt⟩),⟨tt,(fun hp => ⟨hp,tt⟩),(fun _ => trivial)⟩,tt,(fun _ => trivial),(fun _ => trivial),(fun hG => ⟨⟨hG,tt⟩,⟨hG,tt⟩,(by have hg0 : (0 : Int) ≤ (sourceR h (h.getD ((i : Nat) : Int).toNat default).ret) := of_decide_eq_true (and_l hG); omega),(by have hg0 : (0 : Int) ≤ (sourceR h (h.getD ((i : Nat) : Int).toNat default).ret) := of_decide_eq_true (and_l hG); omega)⟩),(fun hG => ⟨hG,tt⟩),(fun _ => trivial),(fun _ => trivial),(fun hG => ⟨⟨hG,tt⟩,⟨hG,tt⟩,(by have hg0 : (0 : Int) ≤ (sourceR h (h.getD ((i : Nat) : Int).toNat default).ret) := of_decide_eq_true (and_l hG); have h1 := source_lt h (h.getD i default).ret; have h2 := source_lt h (h.getD k default).ret; (try have h3 := source_lt h (h.getD q default).ret); (try simp only [Int.toNat_natCast] at *); omega),(by have hg0 : (0 : Int) ≤ (sourceR h (h.getD ((i : Nat) : Int).toNat default).ret) := of_decide_eq_true (and_l hG); have h1 := source_lt h (h.getD i default).ret; have h2 := source_lt h (h.getD k default).ret; (try have h3 := source_lt h (h.getD q default).ret); (try simp only [Int.toNat_natCast] at *); omega)⟩),(fun hG => ⟨hG,tt⟩),(fun hG => ⟨tt,⟨⟨hG,tt⟩,⟨hG,tt⟩,tt⟩,tt⟩),(fun hG => ⟨hG,tt⟩),⟨tt,(fun hp => ⟨hp,tt⟩),(fun _ => trivial)⟩,tt,tt⟩ ?_
      refine W.seq ?_
      refine Kk cok tab18 hnt [] [0,1,5,6,118] (⟨[(0,.v (.string pr)),(1,.sl (.calls h)),(5,.i ((i : Nat) : Int)),(6,.i (sourceR h (h.getD ((i : Nat) : Int).toNat default).ret)),(118,.b ((((eqS pr nSafe) && (!m)) && (!(decide ((sourceR h (h.getD ((i : Nat) : Int).toNat default).ret) = (lastBefore h (h.getD ((i : Nat) : Int).toNat default)))))) || (((!(eqS pr nSafe)) && (!(decide ((sourceR h (h.getD ((i : Nat) : Int).toNat default).ret) = (lastBefore h (h.getD ((i : Nat) : Int).toNat default)))))) && (!(((decide ((0 : Int) ≤ (sourceR h (h.getD ((i : Nat) : Int).toNat default).ret))) && (!(isBefore (h.getD (Int.toNat (sourceR h (h.getD ((i : Nat) : Int).toNat default).ret)) default) (h.getD i default)))) && (!(isBefore (h.getD i default) (h.getD (Int.toNat (sourceR h (h.getD ((i : Nat) : Int).toNat default).ret)) default))))))))],[],[999]⟩)
       ((fun (Z1:Bool)=>((fun (Z2:Bool)=>((fun (Z3:Bool)=>((fun (Z4:Bool)=>((fun (Z5:Bool)=>((fun (Z6:Bool)=>(True ∧ ((True ∧ (True ∧ True)) ∧ (True ∧ ((Z1 = true → True) ∧ ((Z1 = true → ((Z1 = true) ∧ True)) ∧ ((True ∧ ((Z1 = true → (Z1 = true) ∧ True) ∧ (Z1 = false → True))) ∧ (True ∧ ((Z2 = true → True) ∧ ((Z2 = true → ((Z2 = true) ∧ True)) ∧ ((True ∧ ((Z2 = true → (Z2 = true) ∧ True) ∧ (Z2 = false → True))) ∧ (True ∧ (((!Z3) = true → True) ∧ (((!Z3) = true → ((((!Z3) = true) ∧ True) ∧ (True ∧ True))) ∧ (((!Z3) = true → True) ∧ ((Z4 = true → True) ∧ ((Z4 = true → ((Z4 = true) ∧ True)) ∧ (((!Z3) = true → ((((!Z3) = true) ∧ (((!Z3) = true) ∧ True)) ∧ (((!Z1) = true → (Z4 = true) ∧ True) ∧ ((!Z1) = false → True)))) ∧ (((!Z3) = true → True) ∧ ((Z6 = true → True) ∧ ((Z6 = true → ((Z6 = true) ∧ True)) ∧ (((!Z3) = true → ((((!Z3) = true) ∧ (((!Z3) = true) ∧ True)) ∧ ((Z5 = true → (Z6 = true) ∧ True) ∧ (Z5 = false → True)))) ∧ ((True ∧ ((Z3 = true → True) ∧ (Z3 = false → ((!Z3) = true) ∧ True))) ∧ True))))))))))))))))))))))) ((!Z3) && ((!Z3) && Z5)))) ((!Z1) && (!(decide ((sourceR h (h.getD ((i : Nat) : Int).toNat default).ret) = (lastBefore h (h.getD ((i : Nat) : Int).toNat default)))))))) ((!Z3) && ((!Z3) && (!Z1))))) (Z2 && (!(decide ((sourceR h (h.getD ((i : Nat) : Int).toNat default).ret) = (lastBefore h (h.getD ((i : Nat) : Int).toNat default)))))))) (Z1 && (!m)))) (eqS pr nSafe))
       ⟨tt,⟨tt,tt,tt⟩,tt,(fun _ => trivial),(fun hG => ⟨hG,tt⟩),⟨tt,(fun hp => ⟨hp,tt⟩),(fun _ => trivial)⟩,tt,(fun _ => trivial),(fun hG => ⟨hG,tt⟩),⟨tt,(fun hp => ⟨hp,tt⟩),(fun _ => trivial)⟩,tt,(fun _ => trivial),(fun hG => ⟨⟨hG,tt⟩,tt,tt⟩),(fun _ => trivial),(fun _ => trivial),(fun hG => ⟨hG,tt⟩),(fun hG => ⟨⟨hG,hG,tt⟩,(fun hp => ⟨(and_t hG (and_t hG hp)),tt⟩),(fun _ => trivial)⟩),(fun _ => trivial),(fun _ => trivial),(fun hG => ⟨hG,tt⟩),(fun hG => ⟨⟨hG,hG,tt⟩,(fun hp => ⟨(and_t hG (and_t hG hp)),tt⟩),(fun _ => trivial)⟩),⟨tt,(fun _ => trivial),(fun hp => ⟨(not_t hp),tt⟩)⟩,tt⟩ ?_
      refine W.if' ((((eqS pr nSafe) && (!m)) && (!(decide ((sourceR h (h.getD ((i : Nat) : Int).toNat default).ret) = (lastBefore h (h.getD ((i : Nat) : Int).toNat default)))))) || (((!(eqS pr nSafe)) && (!(decide ((sourceR h (h.getD ((i : Nat) : Int).toNat default).ret) = (lastBefore h (h.getD ((i : Nat) : Int).toNat default)))))) && (!(((decide ((0 : Int) ≤ (sourceR h (h.getD ((i : Nat) : Int).toNat default).ret))) && (!(isBefore (h.getD (Int.toNat (sourceR h (h.getD ((i : Nat) : Int).toNat default).ret)) default) (h.getD i default)))) && (!(isBefore (h.getD i default) (h.getD (Int.toNat (sourceR h (h.getD ((i : Nat) : Int).toNat default).ret)) default))))))) (.b ((((eqS pr nSafe) && (!m)) && (!(decide ((sourceR h (h.getD ((i : Nat) : Int).toNat default).ret) = (lastBefore h (h.getD ((i : Nat) : Int).toNat default)))))) || (((!(eqS pr nSafe)) && (!(decide ((sourceR h (h.getD ((i : Nat) : Int).toNat default).ret) = (lastBefore h (h.getD ((i : Nat) : Int).toNat default)))))) && (!(((decide ((0 : Int) ≤ (sourceR h (h.getD ((i : Nat) : Int).toNat default).ret))) && (!(isBefore (h.getD (Int.toNat (sourceR h (h.getD ((i : Nat) : Int).toNat default).ret)) default) (h.getD i default)))) && (!(isBefore (h.getD i default) (h.getD (Int.toNat (sourceR h (h.getD ((i : Nat) : Int).toNat default).ret)) default)))))))) (by kernel_rfl) rfl trivial ?_ ?_
      ·intro h118
       refine Kk cok tab18 hnt [] [4] (⟨[(4,.b false)],[],[999]⟩)
        (True ∧ True)
        ⟨tt,tt⟩ ?_
       refine W.ret (thenQ_ret (blockQ_ret (thenQ_ret (thenQ_ret (blockQ_ret (thenQ_ret ?_))))))
       exact endQ_ret (.b false) (by kernel_rfl) (@cast ((.bool false : Value) = .bool (keptB pr h)) _ (by kernel_rfl) (congrArg Value.bool (by exact (kept_no (i := i) (by omega) n23 (by have h9 := keep_val2 (ov_all hm (by omega)) h118; rw [h9]; rfl)).symm)))
      ·intro n118
       refine W.skip (thenQ_normal ?_)
       refine Kk cok tab18 hnt [] [0,1,5,6,11] (⟨[(0,.v (.string pr)),(1,.sl (.calls h)),(5,.i ((i : Nat) : Int)),(6,.i (sourceR h (h.getD ((i : Nat) : Int).toNat default).ret)),(11,.i (0 : Int))],[],[999]⟩)
        (True ∧ True)
        ⟨tt,tt⟩ ?_
       refine W.block ?_
       refine W.loop (ι := Nat) (fun (q : Nat) => (⟨[(0,.v (.string pr)),(1,.sl (.calls h)),(5,.i ((i : Nat) : Int)),(6,.i (sourceR h (h.getD ((i : Nat) : Int).toNat default).ret)),(11,.i ((q : Nat) : Int))],[],[999]⟩ : St))
        (fun (q : Nat) => (q ≤ h.length) ∧ (∀ j,j < q → turnP h i j = false))
        (fun (q : Nat) => (h.length - q : Nat)) (0) ?_ ?_ ?_
       ·exact (show (0 ≤ h.length) ∧ (∀ j,j < 0 → turnP h i j = false) from ⟨(by first | assumption | omega | rfl | (intro _ hjj; omega) | (simp; done) | (simp; omega)),(by exact upto_zero)⟩)
       ·exact Sub.of [] (@cast (((((.string pr) : Value) = (.string pr)) ∧ (Sd (.calls h)) ∧ (Si ((i : Nat) : Int)) ∧ (Si (sourceR h (h.getD ((i : Nat) : Int).toNat default).ret)) ∧ ((.int .i64 (0 : Int) : Value) = .int .i64 ((0 : Nat) : Int)) ∧ True) ∧ True ∧ (true = true) ∧ (true = true)) _ (by kernel_rfl) ⟨⟨rfl,rfl,rfl,rfl,(congrArg (Value.int .i64) (by first | rfl | omega | assumption | simp | simp_all)),tt⟩,tt,rfl,rfl⟩)
       ·rintro q hC0
        have hC : (q ≤ h.length) ∧ (∀ j,j < q → turnP h i j = false) := hC0
        clear hC0
        obtain ⟨hq,hB⟩ := hC
        refine W.to (⟨[(0,.v (.string pr)),(1,.sl (.calls h)),(5,.i ((i : Nat) : Int)),(6,.i (sourceR h (h.getD ((i : Nat) : Int).toNat default).ret)),(11,.i ((q : Nat) : Int))],[],[999]⟩) rfl ?_
        refine W.seq ?_
        refine Kk cok tab18 hnt [] [0,1,5,6,11,126] (⟨[(0,.v (.string pr)),(1,.sl (.calls h)),(5,.i ((i : Nat) : Int)),(6,.i (sourceR h (h.getD ((i : Nat) : Int).toNat default).ret)),(11,.i ((q : Nat) : Int)),(126,.b ((decide (((q : Nat) : Int) < (h.length : Int))) && (eqS pr nAtomic)))],[],[999]⟩)
         ((fun (Z1:Bool)=>(True ∧ (True ∧ (True ∧ ((True ∧ (True ∧ True)) ∧ (True ∧ ((Z1 = true → True) ∧ ((Z1 = true → (((Z1 = true) ∧ True) ∧ (True ∧ True))) ∧ ((True ∧ ((Z1 = true → (Z1 = true) ∧ True) ∧ (Z1 = false → True))) ∧ True))))))))) (decide (((q : Nat) : Int) < (h.length : Int))))
         ⟨tt,tt,tt,⟨tt,tt,tt⟩,tt,(fun _ => trivial),(fun hG => ⟨⟨hG,tt⟩,tt,tt⟩),⟨tt,(fun hp => ⟨hp,tt⟩),(fun _ => trivial)⟩,tt⟩ ?_
        refine W.if' ((decide (((q : Nat) : Int) < (h.length : Int))) && (eqS pr nAtomic)) (.b ((decide (((q : Nat) : Int) < (h.length : Int))) && (eqS pr nAtomic))) (by kernel_rfl) rfl trivial ?_ ?_
        ·intro h126
         have h126_0 : ((q : Nat) : Int) < (h.length : Int) := of_decide_eq_true (and_l h126)
         refine W.skip (thenQ_normal ?_)
         refine W.seq ?_
         refine W.block ?_
         refine W.KA cok tab18 hnt [] [0,1,5,6,11,153] (⟨[(0,.v (.string pr)),(1,.sl (.calls h)),(5,.i ((i : Nat) : Int)),(6,.i (sourceR h (h.getD ((i : Nat) : Int).toNat default).ret)),(11,.i ((q : Nat) : Int)),(153,.b (((decide (((h.getD q default).kind) = (2 : Int))) && (isBefore (h.getD i default) (h.getD q default))) && (olderR h (sourceR h (h.getD ((q : Nat) : Int).toNat default).ret) (sourceR h (h.getD ((i : Nat) : Int).toNat default).ret))))],[],[999]⟩)
          ((fun (Z1:Bool)=>((fun (Z2:Bool)=>(True ∧ (True ∧ ((True ∧ (True ∧ ((0 ≤ ((q : Nat) : Int)) ∧ (((q : Nat) : Int) < (h.length : Int))))) ∧ (True ∧ (True ∧ ((True ∧ (True ∧ True)) ∧ (True ∧ ((Z1 = true → True) ∧ ((Z1 = true → True) ∧ ((Z1 = true → (((Z1 = true) ∧ True) ∧ (((Z1 = true) ∧ True) ∧ ((0 ≤ ((i : Nat) : Int)) ∧ (((i : Nat) : Int) < (h.length : Int)))))) ∧ ((Z1 = true → ((Z1 = true) ∧ True)) ∧ ((Z1 = true → True) ∧ ((Z1 = true → True) ∧ ((Z1 = true → (((Z1 = true) ∧ True) ∧ (((Z1 = true) ∧ True) ∧ ((0 ≤ ((q : Nat) : Int)) ∧ (((q : Nat) : Int) < (h.length : Int)))))) ∧ ((Z1 = true → ((Z1 = true) ∧ True)) ∧ ((Z1 = true → (True ∧ ((((Z1 = true) ∧ True) ∧ (((Z1 = true) ∧ True) ∧ True)) ∧ True))) ∧ ((True ∧ ((Z1 = true → (Z1 = true) ∧ True) ∧ (Z1 = false → True))) ∧ (True ∧ ((Z2 = true → True) ∧ ((Z2 = true → True) ∧ ((Z2 = true → True) ∧ ((Z2 = true → (True ∧ ((((Z2 = true) ∧ True) ∧ (((Z2 = true) ∧ True) ∧ True)) ∧ (0 ≤ ((q : Nat) : Int) ∧ ((q : Nat) : Int) < h.length)))) ∧ ((Z2 = true → True) ∧ ((Z2 = true → (True ∧ ((((Z2 = true) ∧ True) ∧ (((Z2 = true) ∧ True) ∧ (((Z2 = true) ∧ True) ∧ True))) ∧ (((sourceR h (h.getD ((q : Nat) : Int).toNat default).ret) < h.length) ∧ ((sourceR h (h.getD ((i : Nat) : Int).toNat default).ret) < h.length))))) ∧ ((True ∧ ((Z2 = true → (Z2 = true) ∧ True) ∧ (Z2 = false → True))) ∧ True)))))))))))))))))))))))))) (Z1 && (isBefore (h.getD i default) (h.getD q default))))) (decide (((h.getD q default).kind) = (2 : Int)))) (by kernel_rfl) (by kernel_rfl)
          ⟨tt,tt,⟨tt,tt,(by omega),(by omega)⟩,tt,tt,⟨tt,tt,tt⟩,tt,(fun _ => trivial),(fun _ => trivial),(fun hG => ⟨⟨hG,tt⟩,⟨hG,tt⟩,(by have hg0 : ((h.getD q default).kind) = (2 : Int) := of_decide_eq_true hG; omega),(by have hg0 : ((h.getD q default).kind) = (2 : Int) := of_decide_eq_true hG; omega)⟩),(fun hG => ⟨hG,tt⟩),(fun _ => trivial),(fun _ => trivial),(fun hG => ⟨⟨hG,tt⟩,⟨hG,tt⟩,(by have hg0 : ((h.getD q default).kind) = (2 : Int) := of_decide_eq_true hG; omega),(by have hg0 : ((h.getD q default).kind) = (2 : Int) := of_decide_eq_true hG; omega)⟩),(fun hG => ⟨hG,tt⟩),(fun hG => ⟨tt,⟨⟨hG,tt⟩,⟨hG,tt⟩,tt⟩,tt⟩),⟨tt,(fun hp => ⟨hp,tt⟩),(fun _ => trivial)⟩,tt,(fun _ => trivial),(fun _ => trivial),(fun _ => trivial),(fun hG => ⟨tt,⟨⟨hG,tt⟩,⟨hG,tt⟩,tt⟩,(by have hg0 : ((h.getD q default).kind) = (2 : Int) := of_decide_eq_true (and_l hG); omega)⟩),(fun _ => trivial),(fun hG => ⟨tt,⟨⟨hG,tt⟩,⟨hG,tt⟩,⟨hG,tt⟩,tt⟩,(by have hg0 : ((h.getD q default).kind) = (2 : Int) := of_decide_eq_true (and_l hG); have h1 := source_lt h (h.getD i default).ret; have h2 := source_lt h (h.getD k default).ret; (try have h3 := source_lt h (h.getD q default).ret); (try simp only [Int.toNat_natCast] at *); omega),(by have hg0 : ((h.getD q default).kind) = (2 : Int) := of_decide_eq_true (and_l hG); have h1 := source_lt h (h.getD i default).ret; have h2 := source_lt h (h.getD k default).ret; (try have h3 := source_lt h (h.getD q default).ret); (try simp only [Int.toNat_natCast] at *); omega)⟩),⟨tt,(fun hp => ⟨hp,tt⟩),(fun _ => trivial)⟩,tt⟩ ?_
         refine W.if' (((decide (((h.getD q default).kind) = (2 : Int))) && (isBefore (h.getD i default) (h.getD q default))) && (olderR h (sourceR h (h.getD ((q : Nat) : Int).toNat default).ret) (sourceR h (h.getD ((i : Nat) : Int).toNat default).ret))) (.b (((decide (((h.getD q default).kind) = (2 : Int))) && (isBefore (h.getD i default) (h.getD q default))) && (olderR h (sourceR h (h.getD ((q : Nat) : Int).toNat default).ret) (sourceR h (h.getD ((i : Nat) : Int).toNat default).ret)))) (by kernel_rfl) rfl trivial ?_ ?_
         ·intro h153
          have h153_0 : ((h.getD q default).kind) = (2 : Int) := of_decide_eq_true (and_l (and_l h153))
          refine Kk cok tab18 hnt [] [4] (⟨[(4,.b false)],[],[999]⟩)
           (True ∧ True)
           ⟨tt,tt⟩ ?_
          refine W.ret (blockQ_ret (thenQ_ret (thenQ_ret (blockQ_ret (blockQ_ret (thenQ_ret (thenQ_ret (blockQ_ret (thenQ_ret ?_)))))))))
          exact endQ_ret (.b false) (by kernel_rfl) (@cast ((.bool false : Value) = .bool (keptB pr h)) _ (by kernel_rfl) (congrArg Value.bool (by exact (kept_turn (i := i) (k := q) (by omega) (by omega) (and_r h126) (turn_fold2 n23 h153)).symm)))
         ·intro n153
          refine W.skip (blockQ_normal (thenQ_normal ?_))
          refine Lk cok tab18 hnt [] (⟨[(0,.v (.string pr)),(1,.sl (.calls h)),(5,.i ((i : Nat) : Int)),(6,.i (sourceR h (h.getD ((i : Nat) : Int).toNat default).ret)),(11,.i (((q + 1) : Nat) : Int)),(127,.i ((q : Nat) : Int)),(128,.i (((q + 1) : Nat) : Int)),(153,.b (((decide (((h.getD q default).kind) = (2 : Int))) && (isBefore (h.getD i default) (h.getD q default))) && (olderR h (sourceR h (h.getD ((q : Nat) : Int).toNat default).ret) (sourceR h (h.getD ((i : Nat) : Int).toNat default).ret))))],[],[999]⟩)
           (True ∧ (True ∧ True ∧ (Fits .i64 (((q + 1) : Nat) : Int))) ∧ True ∧ True)
           ⟨tt,⟨tt,tt,(by exact fits_i64 (by omega) (by omega))⟩,tt,tt⟩ ?_
          refine thenQ_normal ?_
          refine ⟨((q + 1)),(show ((q + 1) ≤ h.length) ∧ (∀ j,j < (q + 1) → turnP h i j = false) from ⟨(by first | assumption | omega | rfl | (intro _ hjj; omega) | (simp; done) | (simp; omega)),(by exact upto_succ hB (turn_fold2 n23 n153))⟩),(show h.length - (q + 1) < h.length - q from (by first | omega | (simp_all; omega))),?_⟩
          exact Sub.of [] (@cast (((((.string pr) : Value) = (.string pr)) ∧ (Sd (.calls h)) ∧ (Si ((i : Nat) : Int)) ∧ (Si (sourceR h (h.getD ((i : Nat) : Int).toNat default).ret)) ∧ (Si (((q + 1) : Nat) : Int)) ∧ True) ∧ True ∧ (true = true) ∧ (true = true)) _ (by kernel_rfl) ⟨⟨rfl,rfl,rfl,rfl,rfl,tt⟩,tt,rfl,rfl⟩)
        ·intro n126
         refine W.exit (thenQ_exit (thenQ_exit (blockQ_hit ?_)))
         refine blockQ_normal (thenQ_normal ?_)
         refine Lk cok tab18 hnt [] (⟨[(0,.v (.string pr)),(1,.sl (.calls h)),(5,.i (((i + 1) : Nat) : Int)),(6,.i (sourceR h (h.getD ((i : Nat) : Int).toNat default).ret)),(11,.i ((q : Nat) : Int)),(16,.i ((i : Nat) : Int)),(17,.i (((i + 1) : Nat) : Int)),(126,.b ((decide (((q : Nat) : Int) < (h.length : Int))) && (eqS pr nAtomic)))],[],[999]⟩)
          (True ∧ (True ∧ True ∧ (Fits .i64 (((i + 1) : Nat) : Int))) ∧ True ∧ True)
          ⟨tt,⟨tt,tt,(by exact fits_i64 (by omega) (by omega))⟩,tt,tt⟩ ?_
         refine thenQ_normal ?_
         refine ⟨((i + 1)),(show ((i + 1) ≤ h.length) ∧ (∀ j,j < (i + 1) → (decide ((callAt h j).kind ≠ 2) || keepOne h pr (callAt h j)) = true) ∧ (eqS pr nAtomic = true → ∀ j,j < (i + 1) → ∀ k,k < h.length → turnP h j k = false) from ⟨(by first | assumption | omega | rfl | (intro _ hjj; omega) | (simp; done) | (simp; omega)),(by first | exact upto_succ hA (or_tl (decide_eq_true h23)) | exact upto_succ hA (or_tr (by have h9 := keep_val2 (ov_all hm (by omega)) n118; exact h9))),(by first | exact fun ha => upto_succ (hT ha) (fun k _ => turn_not h23) | exact fun ha => upto_succ (hT ha) (fun k hk => hB k (by first | omega | (simp [ha] at n126; omega))))⟩),(show h.length - (i + 1) < h.length - i from (by first | omega | (simp_all; omega))),?_⟩
         exact Sub.of [] (@cast (((((.string pr) : Value) = (.string pr)) ∧ (Sd (.calls h)) ∧ (Si (((i + 1) : Nat) : Int)) ∧ True) ∧ True ∧ (true = true) ∧ (true = true)) _ (by kernel_rfl) ⟨⟨rfl,rfl,rfl,tt⟩,tt,rfl,rfl⟩)
  ·intro n15
   refine W.exit (thenQ_exit (thenQ_exit (blockQ_hit ?_)))
   refine thenQ_normal ?_
   refine Kk cok tab18 hnt [] [4] (⟨[(4,.b true)],[],[999]⟩)
    (True ∧ True)
    ⟨tt,tt⟩ ?_
   refine W.ret ?_
   exact endQ_ret (.b true) (by kernel_rfl) (@cast ((.bool true : Value) = .bool (keptB pr h)) _ (by kernel_rfl) (congrArg Value.bool (by exact (kept_yes (fun j hj => hA j (by omega)) (fun ha j hj => hT ha j (by omega))).symm)))
theorem ent18 : Entr prog 18 := ⟨_,func18,rfl,by decide⟩
end Go.Proofs.Try

set_option linter.unusedSimpArgs false
set_option linter.unusedVariables false
namespace Go.Proofs.Try
open Go.Ab Go.RowKit
def fs6 : FnS := fnS [.o,.s .calls] [.str,.calls] (fun _ (pr,h,_) => (.b (keepsRegister pr h),[],True))
abbrev T6 : Tab := lk [(17,fs17),(18,fs18)]
theorem tab6 : TabOK prog T6 := (TabOK.cons ok17 ent17 (TabOK.cons ok18 ent18 TabOK.nil))
set_option maxRecDepth 100000 in
set_option maxHeartbeats 1000000 in
theorem ok6 : FnOK prog 6 fs6 := by
 refine FnOK.mk cok func6 rfl rfl rfl ?_
 rintro fl ⟨(pr : ByteArray),(h : List CallD),_⟩ hpre F hnt0 _
 have hnt : F.nt = 23 := hnt0.trans ntmps6
 clear hpre
 refine W.to (⟨[(0,.v (.string pr)),(1,.sl (.calls h))],[],[999]⟩) rfl ?_
 refine W.lenOf 1 (.calls h) (by kernel_rfl) ?_
 intro hl_h; replace hl_h : List.length h ≤ 9223372036854775807 := hl_h
 refine Kk cok tab6 hnt [] [0,1] (⟨[(0,.v (.string pr)),(1,.sl (.calls h))],[],[999]⟩)
  (True ∧ True)
  ⟨tt,tt⟩ ?_
 refine W.seq ?_
 refine Kk cok tab6 hnt [] [0,1,19] (⟨[(0,.v (.string pr)),(1,.sl (.calls h)),(19,.b ((((!(eqS pr nSafe)) && (!(eqS pr nRegular))) && (!(eqS pr nAtomic))) || (!(oneWriter h))))],[],[999]⟩)
  ((fun (Z1:Bool)=>((fun (Z2:Bool)=>((fun (Z3:Bool)=>(True ∧ ((True ∧ (True ∧ True)) ∧ (True ∧ ((Z1 = true → True) ∧ ((Z1 = true → (((Z1 = true) ∧ True) ∧ (True ∧ True))) ∧ ((True ∧ ((Z1 = true → (Z1 = true) ∧ True) ∧ (Z1 = false → True))) ∧ (True ∧ ((Z2 = true → True) ∧ ((Z2 = true → (((Z2 = true) ∧ True) ∧ (True ∧ True))) ∧ ((True ∧ ((Z2 = true → (Z2 = true) ∧ True) ∧ (Z2 = false → True))) ∧ (True ∧ (((!Z3) = true → True) ∧ (((!Z3) = true → (True ∧ (((((!Z3) = true) ∧ True) ∧ True) ∧ True))) ∧ (((!Z3) = true → (((!Z3) = true) ∧ True)) ∧ ((True ∧ ((Z3 = true → True) ∧ (Z3 = false → ((!Z3) = true) ∧ True))) ∧ True)))))))))))))))) (Z2 && (!(eqS pr nAtomic))))) (Z1 && (!(eqS pr nRegular))))) (!(eqS pr nSafe)))
  ⟨tt,⟨tt,tt,tt⟩,tt,(fun _ => trivial),(fun hG => ⟨⟨hG,tt⟩,tt,tt⟩),⟨tt,(fun hp => ⟨hp,tt⟩),(fun _ => trivial)⟩,tt,(fun _ => trivial),(fun hG => ⟨⟨hG,tt⟩,tt,tt⟩),⟨tt,(fun hp => ⟨hp,tt⟩),(fun _ => trivial)⟩,tt,(fun _ => trivial),(fun hG => ⟨tt,⟨⟨hG,tt⟩,tt⟩,tt⟩),(fun hG => ⟨hG,tt⟩),⟨tt,(fun _ => trivial),(fun hp => ⟨(not_t hp),tt⟩)⟩,tt⟩ ?_
 refine W.if' ((((!(eqS pr nSafe)) && (!(eqS pr nRegular))) && (!(eqS pr nAtomic))) || (!(oneWriter h))) (.b ((((!(eqS pr nSafe)) && (!(eqS pr nRegular))) && (!(eqS pr nAtomic))) || (!(oneWriter h)))) (by kernel_rfl) rfl trivial ?_ ?_
 ·intro h19
  refine Kk cok tab6 hnt [] [4] (⟨[(4,.b false)],[],[999]⟩)
   (True ∧ True)
   ⟨tt,tt⟩ ?_
  refine W.ret (thenQ_ret ?_)
  exact endQ_ret (.b false) (by kernel_rfl) (@cast ((.bool false : Value) = .bool (keepsRegister pr h)) _ (by kernel_rfl) (congrArg Value.bool (by exact (keeps_0' h19).symm)))
 ·intro n19
  refine W.skip (thenQ_normal ?_)
  refine Kk cok tab6 hnt [] [4] (⟨[(4,.b (keptB pr h))],[],[999]⟩)
   (True ∧ True ∧ (True ∧ (True ∧ True ∧ True) ∧ (oneWriter h = true)) ∧ True ∧ True)
   ⟨tt,tt,⟨tt,⟨tt,tt,tt⟩,(by exact and_l (keeps_pr' n19))⟩,tt,tt⟩ ?_
  refine W.ret ?_
  exact endQ_ret (.b (keptB pr h)) (by kernel_rfl) (@cast ((.bool (keptB pr h) : Value) = .bool (keepsRegister pr h)) _ (by kernel_rfl) (congrArg Value.bool (by exact kept_fold (keeps_pr' n19))))
theorem ent6 : Entr prog 6 := ⟨_,func6,rfl,by decide⟩
end Go.Proofs.Try

set_option linter.unusedSimpArgs false
set_option linter.unusedVariables false
namespace Go.Proofs.Try
open Go.Ab Go.RowKit
def fs39 : FnS := fnS [.o] [.str] (fun _ (s,_) => (.b (isSingle s),[],True))
abbrev T39 : Tab := lk []
theorem tab39 : TabOK prog T39 := TabOK.nil
set_option maxRecDepth 100000 in
set_option maxHeartbeats 1000000 in
theorem ok39 : FnOK prog 39 fs39 := by
 refine FnOK.mk cok func39 rfl rfl rfl ?_
 rintro fl ⟨(s : ByteArray),_⟩ hpre F hnt0 _
 have hnt : F.nt = 13 := hnt0.trans ntmps39
 clear hpre
 refine W.to (⟨[(0,.v (.string s))],[],[999]⟩) rfl ?_
 refine Kk cok tab39 hnt [] [0] (⟨[(0,.v (.string s))],[],[999]⟩)
  (True ∧ True)
  ⟨tt,tt⟩ ?_
 refine Kk cok tab39 hnt [] [2] (⟨[(2,.b (((eqS s nRegister) || (eqS s nCounter)) || (eqS s nMost)))],[],[999]⟩)
  ((fun (Z1:Bool)=>((fun (Z2:Bool)=>(True ∧ ((True ∧ (True ∧ True)) ∧ (True ∧ (((!Z1) = true → True) ∧ (((!Z1) = true → ((((!Z1) = true) ∧ True) ∧ (True ∧ True))) ∧ ((True ∧ ((Z1 = true → True) ∧ (Z1 = false → ((!Z1) = true) ∧ True))) ∧ (True ∧ (((!Z2) = true → True) ∧ (((!Z2) = true → ((((!Z2) = true) ∧ True) ∧ (True ∧ True))) ∧ ((True ∧ ((Z2 = true → True) ∧ (Z2 = false → ((!Z2) = true) ∧ True))) ∧ (True ∧ True)))))))))))) (Z1 || (eqS s nCounter)))) (eqS s nRegister))
  ⟨tt,⟨tt,tt,tt⟩,tt,(fun _ => trivial),(fun hG => ⟨⟨hG,tt⟩,tt,tt⟩),⟨tt,(fun _ => trivial),(fun hp => ⟨(not_t hp),tt⟩)⟩,tt,(fun _ => trivial),(fun hG => ⟨⟨hG,tt⟩,tt,tt⟩),⟨tt,(fun _ => trivial),(fun hp => ⟨(not_t hp),tt⟩)⟩,tt,tt⟩ ?_
 refine W.ret ?_
 exact endQ_ret (.b (((eqS s nRegister) || (eqS s nCounter)) || (eqS s nMost))) (by kernel_rfl) (@cast ((.bool (((eqS s nRegister) || (eqS s nCounter)) || (eqS s nMost)) : Value) = .bool (isSingle s)) _ (by kernel_rfl) (congrArg Value.bool (by first | rfl | simp_all)))
theorem ent39 : Entr prog 39 := ⟨_,func39,rfl,by decide⟩
end Go.Proofs.Try

set_option linter.unusedSimpArgs false
set_option linter.unusedVariables false
namespace Go.Proofs.Try
open Go.Ab Go.RowKit
def fs33 : FnS := fnS [.o] [.str] (fun _ (s,_) => (.b (isObject s),[],True))
abbrev T33 : Tab := lk [(39,fs39)]
theorem tab33 : TabOK prog T33 := (TabOK.cons ok39 ent39 TabOK.nil)
set_option maxRecDepth 100000 in
set_option maxHeartbeats 1000000 in
theorem ok33 : FnOK prog 33 fs33 := by
 refine FnOK.mk cok func33 rfl rfl rfl ?_
 rintro fl ⟨(s : ByteArray),_⟩ hpre F hnt0 _
 have hnt : F.nt = 17 := hnt0.trans ntmps33
 clear hpre
 refine W.to (⟨[(0,.v (.string s))],[],[999]⟩) rfl ?_
 refine Kk cok tab33 hnt [] [0] (⟨[(0,.v (.string s))],[],[999]⟩)
  (True ∧ True)
  ⟨tt,tt⟩ ?_
 refine Kk cok tab33 hnt [] [2] (⟨[(2,.b ((((isSingle s) || (eqS s nQueue)) || (eqS s nStack)) || (eqS s nSet)))],[],[999]⟩)
  ((fun (Z1:Bool)=>((fun (Z2:Bool)=>((fun (Z3:Bool)=>(True ∧ ((True ∧ ((True ∧ True) ∧ True)) ∧ (True ∧ (((!Z1) = true → True) ∧ (((!Z1) = true → ((((!Z1) = true) ∧ True) ∧ (True ∧ True))) ∧ ((True ∧ ((Z1 = true → True) ∧ (Z1 = false → ((!Z1) = true) ∧ True))) ∧ (True ∧ (((!Z2) = true → True) ∧ (((!Z2) = true → ((((!Z2) = true) ∧ True) ∧ (True ∧ True))) ∧ ((True ∧ ((Z2 = true → True) ∧ (Z2 = false → ((!Z2) = true) ∧ True))) ∧ (True ∧ (((!Z3) = true → True) ∧ (((!Z3) = true → ((((!Z3) = true) ∧ True) ∧ (True ∧ True))) ∧ ((True ∧ ((Z3 = true → True) ∧ (Z3 = false → ((!Z3) = true) ∧ True))) ∧ (True ∧ True)))))))))))))))) (Z2 || (eqS s nStack)))) (Z1 || (eqS s nQueue)))) (isSingle s))
  ⟨tt,⟨tt,⟨tt,tt⟩,tt⟩,tt,(fun _ => trivial),(fun hG => ⟨⟨hG,tt⟩,tt,tt⟩),⟨tt,(fun _ => trivial),(fun hp => ⟨(not_t hp),tt⟩)⟩,tt,(fun _ => trivial),(fun hG => ⟨⟨hG,tt⟩,tt,tt⟩),⟨tt,(fun _ => trivial),(fun hp => ⟨(not_t hp),tt⟩)⟩,tt,(fun _ => trivial),(fun hG => ⟨⟨hG,tt⟩,tt,tt⟩),⟨tt,(fun _ => trivial),(fun hp => ⟨(not_t hp),tt⟩)⟩,tt,tt⟩ ?_
 refine W.ret ?_
 exact endQ_ret (.b ((((isSingle s) || (eqS s nQueue)) || (eqS s nStack)) || (eqS s nSet))) (by kernel_rfl) (@cast ((.bool ((((isSingle s) || (eqS s nQueue)) || (eqS s nStack)) || (eqS s nSet)) : Value) = .bool (isObject s)) _ (by kernel_rfl) (congrArg Value.bool (by exact single_obj s)))
theorem ent33 : Entr prog 33 := ⟨_,func33,rfl,by decide⟩
end Go.Proofs.Try

set_option linter.unusedSimpArgs false
set_option linter.unusedVariables false
namespace Go.Proofs.Try
open Go.Ab Go.RowKit
def fs44 : FnS := fnS [.o,.o,.o] [.int,.int,(.ep .calls)] (fun _ (i,k,h,_) => (.b (aheadF h i.toNat k.toNat),[],(0 ≤ i ∧ i < h.length) ∧ (0 ≤ k ∧ k < h.length)))
abbrev T44 : Tab := lk [(26,fs26)]
theorem tab44 : TabOK prog T44 := (TabOK.cons ok26 ent26 TabOK.nil)
set_option maxRecDepth 100000 in
set_option maxHeartbeats 1000000 in
theorem ok44 : FnOK prog 44 fs44 := by
 refine FnOK.mk cok func44 rfl rfl rfl ?_
 rintro fl ⟨(i : Int),(k : Int),(h : List CallD),_⟩ hpre F hnt0 _
 have hnt : F.nt = 15 := hnt0.trans ntmps44
 replace hpre : (0 ≤ i ∧ i < h.length) ∧ (0 ≤ k ∧ k < h.length) := hpre
 obtain ⟨hi,hk⟩ := hpre
 refine W.to (⟨[(0,.i i),(1,.i k),(2,.ep [.sl (.calls h)])],[],[999]⟩) rfl ?_
 refine Kk cok tab44 hnt [] [0,1,2] (⟨[(0,.i i),(1,.i k),(2,.ep [.sl (.calls h)])],[],[999]⟩)
  (True ∧ True)
  ⟨tt,tt⟩ ?_
 refine W.KA cok tab44 hnt [] [5] (⟨[(5,.b (isBefore (h.getD (Int.toNat k) default) (h.getD (Int.toNat i) default)))],[],[999]⟩)
  (True ∧ True ∧ (True ∧ True ∧ (0 ≤ k) ∧ (k < (h.length : Int))) ∧ True ∧ True ∧ True ∧ (True ∧ True ∧ (0 ≤ i) ∧ (i < (h.length : Int))) ∧ True ∧ (True ∧ (True ∧ True ∧ True) ∧ True) ∧ True ∧ True) (by kernel_rfl) (by kernel_rfl)
  ⟨tt,tt,⟨tt,tt,(by omega),(by omega)⟩,tt,tt,tt,⟨tt,tt,(by omega),(by omega)⟩,tt,⟨tt,⟨tt,tt,tt⟩,tt⟩,tt,tt⟩ ?_
 refine W.ret ?_
 exact endQ_ret (.b (isBefore (h.getD (Int.toNat k) default) (h.getD (Int.toNat i) default))) (by kernel_rfl) (@cast ((.bool (isBefore (h.getD (Int.toNat k) default) (h.getD (Int.toNat i) default)) : Value) = .bool (aheadF h i.toNat k.toNat)) _ (by kernel_rfl) (congrArg Value.bool (by first | rfl | simp_all)))
theorem ent44 : Entr prog 44 := ⟨_,func44,rfl,by decide⟩
end Go.Proofs.Try

set_option linter.unusedSimpArgs false
set_option linter.unusedVariables false
namespace Go.Proofs.Try
open Go.Ab Go.RowKit
def fs43AheadOf : FnS := fnS [.o,.o] [.int,(.fn1 44 (.ep .calls))] (fun _ (n,h,_) => (.sl (.ints (rowsOf n.toNat (aheadF h))),[],(0 ≤ n ∧ n ≤ 60 ∧ n = h.length)))
abbrev T43AheadOf : Tab := lk [(44,fs44)]
theorem tab43AheadOf : TabOK prog T43AheadOf := (TabOK.cons ok44 ent44 TabOK.nil)
set_option maxRecDepth 100000 in
set_option maxHeartbeats 1000000 in
theorem ok43AheadOf : FnOK prog 43 fs43AheadOf := by
 refine FnOK.mk cok func43 rfl rfl rfl ?_
 rintro fl ⟨(n : Int),(h : List CallD),_⟩ hpre F hnt0 _
 have hnt : F.nt = 35 := hnt0.trans ntmps43
 replace hpre : (0 ≤ n ∧ n ≤ 60 ∧ n = h.length) := hpre
 have hn := hpre
 refine W.to (⟨[(0,.i n),(1,.fn 44 [.ep [.sl (.calls h)]])],[],[999]⟩) rfl ?_
 refine Kk cok tab43AheadOf hnt [] [0,1] (⟨[(0,.i n),(1,.fn 44 [.ep [.sl (.calls h)]])],[],[999]⟩)
  (True ∧ True)
  ⟨tt,tt⟩ ?_
 refine Kk cok tab43AheadOf hnt [9] [0,1,5] (⟨[(0,.i n),(1,.fn 44 [.ep [.sl (.calls h)]]),(5,.own 9 (List.length (List.replicate (Int.toNat n) (0 : Int))))],[(9,⟨3,.row (.ints (List.replicate (Int.toNat n) (0 : Int)))⟩)],[9,999]⟩)
  (True ∧ (True ∧ True ∧ (n = n) ∧ (0 ≤ n) ∧ (n * 8 ≤ 281474976710656)) ∧ True ∧ True)
  ⟨tt,⟨tt,tt,rfl,(by omega),(by omega)⟩,tt,tt⟩ ?_
 refine W.seq ?_
 refine Kk cok tab43AheadOf hnt [] [0,1,5,11,12] (⟨[(0,.i n),(1,.fn 44 [.ep [.sl (.calls h)]]),(5,.own 9 (List.length (List.replicate (Int.toNat n) (0 : Int)))),(11,.i (((List.length (List.replicate (Int.toNat n) (0 : Int))) : Nat) : Int)),(12,.i (0 : Int))],[(9,⟨3,.row (.ints (List.replicate (Int.toNat n) (0 : Int)))⟩)],[9,999]⟩)
  (True ∧ True ∧ True ∧ True)
  ⟨tt,tt,tt,tt⟩ ?_
 refine W.block ?_
 refine W.loop (ι := Nat × (List Int)) (fun (x : Nat × (List Int)) => match x with | (i,o) => (⟨[(0,.i n),(1,.fn 44 [.ep [.sl (.calls h)]]),(5,.own 9 o.length),(11,.i (((List.length (List.replicate (Int.toNat n) (0 : Int))) : Nat) : Int)),(12,.i ((i : Nat) : Int))],[(9,⟨3,.row (.ints o)⟩)],[9,999]⟩ : St))
  (fun (x : Nat × (List Int)) => match x with | (i,o) => (i ≤ n.toNat) ∧ (o = partRows n.toNat (aheadF h) i 0))
  (fun (x : Nat × (List Int)) => match x with | (i,o) => (n.toNat - i : Nat)) (0,(List.replicate (Int.toNat n) (0 : Int))) ?_ ?_ ?_
 ·exact (show (0 ≤ n.toNat) ∧ ((List.replicate (Int.toNat n) (0 : Int)) = partRows n.toNat (aheadF h) 0 0) from ⟨(by first | assumption | omega | rfl | (intro _ hjj; omega) | (simp; done) | (simp; omega)),(by exact partRows_zero _ _)⟩)
 ·exact Sub.of [] (@cast (((Si n) ∧ (((44 : Nat) = 44) ∧ (((.ep [.sl (.calls h)] : AV) = .ep [.sl (.calls h)]) ∧ (([] : List Nat) = [])) ∧ True) ∧ (((9 : Nat) = 9) ∧ ((List.length (List.replicate (Int.toNat n) (0 : Int))) = (List.length (List.replicate (Int.toNat n) (0 : Int)))) ∧ ((9 : Nat) ∈ ([9,999] : List Nat))) ∧ (Si (((List.length (List.replicate (Int.toNat n) (0 : Int))) : Nat) : Int)) ∧ ((.int .i64 (0 : Int) : Value) = .int .i64 ((0 : Nat) : Int)) ∧ True) ∧ ((((3 : Nat) = 3) ∧ (Sd (.ints (List.replicate (Int.toNat n) (0 : Int)))) ∧ ((9 : Nat) ∈ ([9,999] : List Nat))) ∧ True) ∧ (true = true) ∧ (true = true)) _ (by kernel_rfl) ⟨⟨rfl,⟨rfl,⟨rfl,rfl⟩,tt⟩,⟨rfl,rfl,(by decide)⟩,rfl,(congrArg (Value.int .i64) (by first | rfl | omega | assumption | simp | simp_all)),tt⟩,⟨⟨rfl,rfl,(by decide)⟩,tt⟩,rfl,rfl⟩)
 ·rintro ⟨i,o⟩ hC0
  have hC : (i ≤ n.toNat) ∧ (o = partRows n.toNat (aheadF h) i 0) := hC0
  clear hC0
  obtain ⟨hi,ho⟩ := hC
  refine W.to (⟨[(0,.i n),(1,.fn 44 [.ep [.sl (.calls h)]]),(5,.own 9 o.length),(11,.i (((List.length (List.replicate (Int.toNat n) (0 : Int))) : Nat) : Int)),(12,.i ((i : Nat) : Int))],[(9,⟨3,.row (.ints o)⟩)],[9,999]⟩) rfl ?_
  have hol : o.length = n.toNat := by rw [ho]; exact partRows_len _ _ _ _
  refine Kk cok tab43AheadOf hnt [] [0,1,5,11,12,13] (⟨[(0,.i n),(1,.fn 44 [.ep [.sl (.calls h)]]),(5,.own 9 o.length),(11,.i (((List.length (List.replicate (Int.toNat n) (0 : Int))) : Nat) : Int)),(12,.i ((i : Nat) : Int)),(13,.b (decide (((i : Nat) : Int) < (((List.length (List.replicate (Int.toNat n) (0 : Int))) : Nat) : Int))))],[(9,⟨3,.row (.ints o)⟩)],[9,999]⟩)
   ((True ∧ True ∧ True) ∧ True)
   ⟨⟨tt,tt,tt⟩,tt⟩ ?_
  refine W.seq ?_
  refine W.ifP (((i : Nat) : Int) < (((List.length (List.replicate (Int.toNat n) (0 : Int))) : Nat) : Int)) (.b (decide (((i : Nat) : Int) < (((List.length (List.replicate (Int.toNat n) (0 : Int))) : Nat) : Int)))) (by kernel_rfl) rfl trivial ?_ ?_
  ·intro h13
   have h13' := h13
   simp only [List.length_append,List.length_cons,List.length_nil,List.length_take,List.length_drop,List.length_set,List.length_replicate,List.length_map] at h13'
   refine W.skip (thenQ_normal ?_)
   refine W.seq ?_
   refine W.block ?_
   refine Kk cok tab43AheadOf hnt [] [0,1,5,6,11,12] (⟨[(0,.i n),(1,.fn 44 [.ep [.sl (.calls h)]]),(5,.own 9 o.length),(6,.i ((i : Nat) : Int)),(11,.i (((List.length (List.replicate (Int.toNat n) (0 : Int))) : Nat) : Int)),(12,.i ((i : Nat) : Int))],[(9,⟨3,.row (.ints o)⟩)],[9,999]⟩)
    (True ∧ True ∧ True)
    ⟨tt,tt,tt⟩ ?_
   refine Kk cok tab43AheadOf hnt [] [0,1,5,6,11,12,15,16] (⟨[(0,.i n),(1,.fn 44 [.ep [.sl (.calls h)]]),(5,.own 9 o.length),(6,.i ((i : Nat) : Int)),(11,.i (((List.length (List.replicate (Int.toNat n) (0 : Int))) : Nat) : Int)),(12,.i ((i : Nat) : Int)),(15,.i n),(16,.i (0 : Int))],[(9,⟨3,.row (.ints o)⟩)],[9,999]⟩)
    (True ∧ True ∧ True)
    ⟨tt,tt,tt⟩ ?_
   refine W.block ?_
   refine W.loop (ι := Nat × (List Int)) (fun (x : Nat × (List Int)) => match x with | (k,x) => (⟨[(0,.i n),(1,.fn 44 [.ep [.sl (.calls h)]]),(5,.own 9 o.length),(6,.i ((i : Nat) : Int)),(11,.i (((List.length (List.replicate (Int.toNat n) (0 : Int))) : Nat) : Int)),(12,.i ((i : Nat) : Int)),(15,.i n),(16,.i ((k : Nat) : Int))],[(9,⟨3,.row (.ints x)⟩)],[9,999]⟩ : St))
    (fun (x : Nat × (List Int)) => match x with | (k,x) => (k ≤ n.toNat) ∧ (x = partRows n.toNat (aheadF h) i k))
    (fun (x : Nat × (List Int)) => match x with | (k,x) => (n.toNat - k : Nat)) (0,o) ?_ ?_ ?_
   ·exact (show (0 ≤ n.toNat) ∧ (o = partRows n.toNat (aheadF h) i 0) from ⟨(by first | assumption | omega | rfl | (intro _ hjj; omega) | (simp; done) | (simp; omega)),(by exact ho)⟩)
   ·exact Sub.of [] (@cast (((Si n) ∧ (((44 : Nat) = 44) ∧ (((.ep [.sl (.calls h)] : AV) = .ep [.sl (.calls h)]) ∧ (([] : List Nat) = [])) ∧ True) ∧ (((9 : Nat) = 9) ∧ (o.length = o.length) ∧ ((9 : Nat) ∈ ([9,999] : List Nat))) ∧ (Si ((i : Nat) : Int)) ∧ (Si (((List.length (List.replicate (Int.toNat n) (0 : Int))) : Nat) : Int)) ∧ (Si ((i : Nat) : Int)) ∧ (Si n) ∧ ((.int .i64 (0 : Int) : Value) = .int .i64 ((0 : Nat) : Int)) ∧ True) ∧ ((((3 : Nat) = 3) ∧ (Sd (.ints o)) ∧ ((9 : Nat) ∈ ([9,999] : List Nat))) ∧ True) ∧ (true = true) ∧ (true = true)) _ (by kernel_rfl) ⟨⟨rfl,⟨rfl,⟨rfl,rfl⟩,tt⟩,⟨rfl,rfl,(by decide)⟩,rfl,rfl,rfl,rfl,(congrArg (Value.int .i64) (by first | rfl | omega | assumption | simp | simp_all)),tt⟩,⟨⟨rfl,rfl,(by decide)⟩,tt⟩,rfl,rfl⟩)
   ·rintro ⟨k,x⟩ hC0
    have hC : (k ≤ n.toNat) ∧ (x = partRows n.toNat (aheadF h) i k) := hC0
    clear hC0
    obtain ⟨hk,hx⟩ := hC
    refine W.to (⟨[(0,.i n),(1,.fn 44 [.ep [.sl (.calls h)]]),(5,.own 9 o.length),(6,.i ((i : Nat) : Int)),(11,.i (((List.length (List.replicate (Int.toNat n) (0 : Int))) : Nat) : Int)),(12,.i ((i : Nat) : Int)),(15,.i n),(16,.i ((k : Nat) : Int))],[(9,⟨3,.row (.ints x)⟩)],[9,999]⟩) rfl ?_
    have hxl : x.length = n.toNat := by rw [hx]; exact partRows_len _ _ _ _
    refine Kk cok tab43AheadOf hnt [] [0,1,5,6,11,12,15,16,17] (⟨[(0,.i n),(1,.fn 44 [.ep [.sl (.calls h)]]),(5,.own 9 o.length),(6,.i ((i : Nat) : Int)),(11,.i (((List.length (List.replicate (Int.toNat n) (0 : Int))) : Nat) : Int)),(12,.i ((i : Nat) : Int)),(15,.i n),(16,.i ((k : Nat) : Int)),(17,.b (decide (((k : Nat) : Int) < n)))],[(9,⟨3,.row (.ints x)⟩)],[9,999]⟩)
     ((True ∧ True ∧ True) ∧ True)
     ⟨⟨tt,tt,tt⟩,tt⟩ ?_
    refine W.seq ?_
    refine W.ifP (((k : Nat) : Int) < n) (.b (decide (((k : Nat) : Int) < n))) (by kernel_rfl) rfl trivial ?_ ?_
    ·intro h17
     refine W.skip (thenQ_normal ?_)
     refine W.seq ?_
     refine W.block ?_
     refine Kk cok tab43AheadOf hnt [] [0,1,5,6,7,11,12,15,16] (⟨[(0,.i n),(1,.fn 44 [.ep [.sl (.calls h)]]),(5,.own 9 o.length),(6,.i ((i : Nat) : Int)),(7,.i ((k : Nat) : Int)),(11,.i (((List.length (List.replicate (Int.toNat n) (0 : Int))) : Nat) : Int)),(12,.i ((i : Nat) : Int)),(15,.i n),(16,.i ((k : Nat) : Int))],[(9,⟨3,.row (.ints x)⟩)],[9,999]⟩)
      (True ∧ True ∧ True)
      ⟨tt,tt,tt⟩ ?_
     refine Kk cok tab43AheadOf hnt [] [0,1,5,6,7,11,12,15,16,22] (⟨[(0,.i n),(1,.fn 44 [.ep [.sl (.calls h)]]),(5,.own 9 o.length),(6,.i ((i : Nat) : Int)),(7,.i ((k : Nat) : Int)),(11,.i (((List.length (List.replicate (Int.toNat n) (0 : Int))) : Nat) : Int)),(12,.i ((i : Nat) : Int)),(15,.i n),(16,.i ((k : Nat) : Int)),(22,.b (aheadF h ((i : Nat) : Int).toNat ((k : Nat) : Int).toNat))],[(9,⟨3,.row (.ints x)⟩)],[9,999]⟩)
      (True ∧ True ∧ True ∧ (True ∧ (True ∧ True ∧ True ∧ True) ∧ (0 ≤ ((i : Nat) : Int) ∧ ((i : Nat) : Int) < h.length) ∧ 0 ≤ ((k : Nat) : Int) ∧ ((k : Nat) : Int) < h.length) ∧ True)
      ⟨tt,tt,tt,⟨tt,⟨tt,tt,tt,tt⟩,(by omega),(by omega)⟩,tt⟩ ?_
     refine W.if' (aheadF h ((i : Nat) : Int).toNat ((k : Nat) : Int).toNat) (.b (aheadF h ((i : Nat) : Int).toNat ((k : Nat) : Int).toNat)) (by kernel_rfl) rfl trivial ?_ ?_
     ·intro h22
      refine Lk cok tab43AheadOf hnt [] (⟨[(0,.i n),(1,.fn 44 [.ep [.sl (.calls h)]]),(5,.own 9 o.length),(6,.i ((i : Nat) : Int)),(7,.i ((k : Nat) : Int)),(11,.i (((List.length (List.replicate (Int.toNat n) (0 : Int))) : Nat) : Int)),(12,.i ((i : Nat) : Int)),(15,.i n),(16,.i ((k : Nat) : Int)),(22,.b (aheadF h ((i : Nat) : Int).toNat ((k : Nat) : Int).toNat)),(23,.own 9 o.length),(24,.i ((i : Nat) : Int)),(25,.pel 9 1 i 0),(26,.i (x.getD i 0)),(27,.i ((k : Nat) : Int)),(28,.v (.int .u64 ((k : Nat) : Int))),(29,.i (shlI .i64 (1 : Int) ((k : Nat) : Int))),(30,.i (bitsI .or .i64 (x.getD i 0) (shlI .i64 (1 : Int) ((k : Nat) : Int)))),(31,.pel 9 1 i 0)],[(9,⟨3,.row (.ints (List.set x i (bitsI .or .i64 (x.getD i 0) (shlI .i64 (1 : Int) ((k : Nat) : Int)))))⟩)],[9,999]⟩)
       (True ∧ True ∧ (True ∧ True ∧ (0 ≤ ((i : Nat) : Int)) ∧ (((i : Nat) : Int) < (o.length : Int))) ∧ (True ∧ (i < x.length)) ∧ True ∧ (True ∧ (Fits .u64 ((k : Nat) : Int))) ∧ (True ∧ True ∧ (0 ≤ ((k : Nat) : Int)) ∧ (Fits .i64 (shlI .i64 (1 : Int) ((k : Nat) : Int)))) ∧ (True ∧ True ∧ True) ∧ (True ∧ True ∧ (0 ≤ ((i : Nat) : Int)) ∧ (((i : Nat) : Int) < (o.length : Int))) ∧ (True ∧ True ∧ (i < x.length)) ∧ True)
       ⟨tt,tt,⟨tt,tt,(by omega),(by omega)⟩,⟨tt,(by omega)⟩,tt,⟨tt,(by exact fits_u64 (by omega) (by omega))⟩,⟨tt,tt,(by omega),(by exact fits_shl (by omega))⟩,⟨tt,tt,tt⟩,⟨tt,tt,(by omega),(by omega)⟩,⟨tt,tt,(by omega)⟩,tt⟩ ?_
      refine blockQ_normal (thenQ_normal ?_)
      refine Lk cok tab43AheadOf hnt [] (⟨[(0,.i n),(1,.fn 44 [.ep [.sl (.calls h)]]),(5,.own 9 o.length),(6,.i ((i : Nat) : Int)),(7,.i ((k : Nat) : Int)),(11,.i (((List.length (List.replicate (Int.toNat n) (0 : Int))) : Nat) : Int)),(12,.i ((i : Nat) : Int)),(15,.i n),(16,.i (((k + 1) : Nat) : Int)),(22,.b (aheadF h ((i : Nat) : Int).toNat ((k : Nat) : Int).toNat)),(23,.own 9 o.length),(24,.i ((i : Nat) : Int)),(25,.pel 9 1 i 0),(26,.i (x.getD i 0)),(27,.i ((k : Nat) : Int)),(28,.v (.int .u64 ((k : Nat) : Int))),(29,.i (shlI .i64 (1 : Int) ((k : Nat) : Int))),(30,.i (bitsI .or .i64 (x.getD i 0) (shlI .i64 (1 : Int) ((k : Nat) : Int)))),(31,.pel 9 1 i 0),(32,.i (((k + 1) : Nat) : Int))],[(9,⟨3,.row (.ints (List.set x i (bitsI .or .i64 (x.getD i 0) (shlI .i64 (1 : Int) ((k : Nat) : Int)))))⟩)],[9,999]⟩)
       ((True ∧ True ∧ (Fits .i64 (((k + 1) : Nat) : Int))) ∧ True ∧ True)
       ⟨⟨tt,tt,(by exact fits_i64 (by omega) (by omega))⟩,tt,tt⟩ ?_
      refine thenQ_normal ?_
      refine ⟨((k + 1),(List.set x i (bitsI .or .i64 (x.getD i 0) (shlI .i64 (1 : Int) ((k : Nat) : Int))))),(show ((k + 1) ≤ n.toNat) ∧ ((List.set x i (bitsI .or .i64 (x.getD i 0) (shlI .i64 (1 : Int) ((k : Nat) : Int)))) = partRows n.toNat (aheadF h) i (k + 1)) from ⟨(by first | assumption | omega | rfl | (intro _ hjj; omega) | (simp; done) | (simp; omega)),(by first | (rw [hx]; exact partRows_skip n22) | (rw [hx]; exact partRows_set (by omega) (by rw [partRows_get _ (by omega)]; exact mask_or _ (by omega) h22)))⟩),(show n.toNat - (k + 1) < n.toNat - k from (by first | omega | (simp_all; omega))),?_⟩
      exact Sub.of [] (@cast (((Si n) ∧ (((44 : Nat) = 44) ∧ (((.ep [.sl (.calls h)] : AV) = .ep [.sl (.calls h)]) ∧ (([] : List Nat) = [])) ∧ True) ∧ (((9 : Nat) = 9) ∧ (o.length = o.length) ∧ ((9 : Nat) ∈ ([9,999] : List Nat))) ∧ (Si ((i : Nat) : Int)) ∧ (Si (((List.length (List.replicate (Int.toNat n) (0 : Int))) : Nat) : Int)) ∧ (Si ((i : Nat) : Int)) ∧ (Si n) ∧ (Si (((k + 1) : Nat) : Int)) ∧ True) ∧ ((((3 : Nat) = 3) ∧ (Sd (.ints (List.set x i (bitsI .or .i64 (x.getD i 0) (shlI .i64 (1 : Int) ((k : Nat) : Int)))))) ∧ ((9 : Nat) ∈ ([9,999] : List Nat))) ∧ True) ∧ (true = true) ∧ (true = true)) _ (by kernel_rfl) ⟨⟨rfl,⟨rfl,⟨rfl,rfl⟩,tt⟩,⟨rfl,rfl,(by decide)⟩,rfl,rfl,rfl,rfl,rfl,tt⟩,⟨⟨rfl,rfl,(by decide)⟩,tt⟩,rfl,rfl⟩)
     ·intro n22
      refine W.skip (blockQ_normal (thenQ_normal ?_))
      refine Lk cok tab43AheadOf hnt [] (⟨[(0,.i n),(1,.fn 44 [.ep [.sl (.calls h)]]),(5,.own 9 o.length),(6,.i ((i : Nat) : Int)),(7,.i ((k : Nat) : Int)),(11,.i (((List.length (List.replicate (Int.toNat n) (0 : Int))) : Nat) : Int)),(12,.i ((i : Nat) : Int)),(15,.i n),(16,.i (((k + 1) : Nat) : Int)),(22,.b (aheadF h ((i : Nat) : Int).toNat ((k : Nat) : Int).toNat)),(32,.i (((k + 1) : Nat) : Int))],[(9,⟨3,.row (.ints x)⟩)],[9,999]⟩)
       ((True ∧ True ∧ (Fits .i64 (((k + 1) : Nat) : Int))) ∧ True ∧ True)
       ⟨⟨tt,tt,(by exact fits_i64 (by omega) (by omega))⟩,tt,tt⟩ ?_
      refine thenQ_normal ?_
      refine ⟨((k + 1),x),(show ((k + 1) ≤ n.toNat) ∧ (x = partRows n.toNat (aheadF h) i (k + 1)) from ⟨(by first | assumption | omega | rfl | (intro _ hjj; omega) | (simp; done) | (simp; omega)),(by first | (rw [hx]; exact partRows_skip n22) | (rw [hx]; exact partRows_set (by omega) (by rw [partRows_get _ (by omega)]; exact mask_or _ (by omega) h22)))⟩),(show n.toNat - (k + 1) < n.toNat - k from (by first | omega | (simp_all; omega))),?_⟩
      exact Sub.of [] (@cast (((Si n) ∧ (((44 : Nat) = 44) ∧ (((.ep [.sl (.calls h)] : AV) = .ep [.sl (.calls h)]) ∧ (([] : List Nat) = [])) ∧ True) ∧ (((9 : Nat) = 9) ∧ (o.length = o.length) ∧ ((9 : Nat) ∈ ([9,999] : List Nat))) ∧ (Si ((i : Nat) : Int)) ∧ (Si (((List.length (List.replicate (Int.toNat n) (0 : Int))) : Nat) : Int)) ∧ (Si ((i : Nat) : Int)) ∧ (Si n) ∧ (Si (((k + 1) : Nat) : Int)) ∧ True) ∧ ((((3 : Nat) = 3) ∧ (Sd (.ints x)) ∧ ((9 : Nat) ∈ ([9,999] : List Nat))) ∧ True) ∧ (true = true) ∧ (true = true)) _ (by kernel_rfl) ⟨⟨rfl,⟨rfl,⟨rfl,rfl⟩,tt⟩,⟨rfl,rfl,(by decide)⟩,rfl,rfl,rfl,rfl,rfl,tt⟩,⟨⟨rfl,rfl,(by decide)⟩,tt⟩,rfl,rfl⟩)
    ·intro n17
     refine W.exit (thenQ_exit (thenQ_exit (blockQ_hit ?_)))
     refine blockQ_normal (thenQ_normal ?_)
     refine Lk cok tab43AheadOf hnt [] (⟨[(0,.i n),(1,.fn 44 [.ep [.sl (.calls h)]]),(5,.own 9 o.length),(6,.i ((i : Nat) : Int)),(11,.i (((List.length (List.replicate (Int.toNat n) (0 : Int))) : Nat) : Int)),(12,.i (((i + 1) : Nat) : Int)),(15,.i n),(16,.i ((k : Nat) : Int)),(17,.b (decide (((k : Nat) : Int) < n))),(33,.i (((i + 1) : Nat) : Int))],[(9,⟨3,.row (.ints x)⟩)],[9,999]⟩)
      ((True ∧ True ∧ (Fits .i64 (((i + 1) : Nat) : Int))) ∧ True ∧ True)
      ⟨⟨tt,tt,(by exact fits_i64 (by omega) (by omega))⟩,tt,tt⟩ ?_
     refine thenQ_normal ?_
     refine ⟨((i + 1),x),(show ((i + 1) ≤ n.toNat) ∧ (x = partRows n.toNat (aheadF h) (i + 1) 0) from ⟨(by first | assumption | omega | rfl | (intro _ hjj; omega) | (simp; done) | (simp; omega)),(by rw [hx,← partRows_next]; congr 1; omega)⟩),(show n.toNat - (i + 1) < n.toNat - i from (by first | omega | (simp_all; omega))),?_⟩
     exact Sub.of [] (@cast (((Si n) ∧ (((44 : Nat) = 44) ∧ (((.ep [.sl (.calls h)] : AV) = .ep [.sl (.calls h)]) ∧ (([] : List Nat) = [])) ∧ True) ∧ (((9 : Nat) = 9) ∧ (o.length = x.length) ∧ ((9 : Nat) ∈ ([9,999] : List Nat))) ∧ (Si (((List.length (List.replicate (Int.toNat n) (0 : Int))) : Nat) : Int)) ∧ (Si (((i + 1) : Nat) : Int)) ∧ True) ∧ ((((3 : Nat) = 3) ∧ (Sd (.ints x)) ∧ ((9 : Nat) ∈ ([9,999] : List Nat))) ∧ True) ∧ (true = true) ∧ (true = true)) _ (by kernel_rfl) ⟨⟨rfl,⟨rfl,⟨rfl,rfl⟩,tt⟩,⟨rfl,(by first | rfl | omega | assumption | (symm; assumption) | simp | simp_all),(by decide)⟩,rfl,rfl,tt⟩,⟨⟨rfl,rfl,(by decide)⟩,tt⟩,rfl,rfl⟩)
  ·intro n13
   have n13' := n13
   simp only [List.length_append,List.length_cons,List.length_nil,List.length_take,List.length_drop,List.length_set,List.length_replicate,List.length_map] at n13'
   refine W.exit (thenQ_exit (thenQ_exit (blockQ_hit ?_)))
   refine thenQ_normal ?_
   refine Kk cok tab43AheadOf hnt [] [4] (⟨[(4,.own 9 o.length)],[(9,⟨3,.row (.ints o)⟩)],[9,999]⟩)
    (True ∧ True ∧ True)
    ⟨tt,tt,tt⟩ ?_
   refine W.subS [] (⟨[(4,.sl (.ints o))],[],[999]⟩) (@cast ((((o.length = o.length) ∧ (Sd (.ints o)) ∧ ((9 : Nat) ∉ ([] : List Nat))) ∧ True) ∧ True ∧ (true = true) ∧ (true = true)) _ (by kernel_rfl) ⟨⟨⟨rfl,rfl,(by decide)⟩,tt⟩,tt,rfl,rfl⟩) ?_
   refine W.ret ?_
   exact endQ_ret (.sl (.ints o)) (by kernel_rfl) (@cast ((.ints o : Dat) = .ints (rowsOf n.toNat (aheadF h))) _ (by kernel_rfl) (congrArg Dat.ints (by rw [ho,← partRows_end]; congr 1; omega)))
theorem ent43AheadOf : Entr prog 43 := ⟨_,func43,rfl,by decide⟩
end Go.Proofs.Try

set_option linter.unusedSimpArgs false
set_option linter.unusedVariables false
namespace Go.Proofs.Try
open Go.Ab Go.RowKit
def fs35 : FnS := fnS [.s .calls] [.calls] (fun _ (h,_) => (.sl (.ints (aheadOf h)),[],True))
abbrev T35 : Tab := lk [(19,fs19),(43,fs43AheadOf)]
theorem tab35 : TabOK prog T35 := (TabOK.cons ok19 ent19 (TabOK.cons ok43AheadOf ent43AheadOf TabOK.nil))
set_option maxRecDepth 100000 in
set_option maxHeartbeats 1000000 in
theorem ok35 : FnOK prog 35 fs35 := by
 refine FnOK.mk cok func35 rfl rfl rfl ?_
 rintro fl ⟨(h : List CallD),_⟩ hpre F hnt0 _
 have hnt : F.nt = 10 := hnt0.trans ntmps35
 clear hpre
 refine W.to (⟨[(0,.sl (.calls h))],[],[999]⟩) rfl ?_
 refine W.lenOf 0 (.calls h) (by kernel_rfl) ?_
 intro hl_h; replace hl_h : List.length h ≤ 9223372036854775807 := hl_h
 refine Kk cok tab35 hnt [] [1] (⟨[(1,.ptr 1 0)],[(1,⟨23,.fix [.sl (.calls h)]⟩)],[1,999]⟩)
  (True ∧ True ∧ True)
  ⟨tt,tt,tt⟩ ?_
 refine W.subS [] (⟨[(1,.ep [.sl (.calls h)])],[],[999]⟩) (@cast ((((([.sl (.calls h)] : List AV) = [.sl (.calls h)]) ∧ (([] : List Nat) = []) ∧ ((1 : Nat) ∉ ([] : List Nat))) ∧ True) ∧ True ∧ (true = true) ∧ (true = true)) _ (by kernel_rfl) ⟨⟨⟨rfl,rfl,(by decide)⟩,tt⟩,tt,rfl,rfl⟩) ?_
 refine W.seq ?_
 refine Kk cok tab35 hnt [] [1,5] (⟨[(1,.ep [.sl (.calls h)]),(5,.b (!(validHistory h)))],[],[999]⟩)
  (True ∧ (True ∧ (True ∧ True) ∧ True) ∧ True ∧ True)
  ⟨tt,⟨tt,⟨tt,tt⟩,tt⟩,tt,tt⟩ ?_
 refine W.if' (!(validHistory h)) (.b (!(validHistory h))) (by kernel_rfl) rfl trivial ?_ ?_
 ·intro h5
  refine Kk cok tab35 hnt [] [2] (⟨[(2,.v (.slice none 0 0))],[],[999]⟩)
   (True ∧ True)
   ⟨tt,tt⟩ ?_
  refine W.ret (thenQ_ret ?_)
  exact endQ_ret (.v (.slice none 0 0)) (by kernel_rfl) (@cast (((Value.slice none 0 0 : Value) = .slice none 0 0) ∧ ((Dat.ints (aheadOf h)).len = 0)) _ (by kernel_rfl) ⟨rfl,(by show List.length (aheadOf h) = 0; unfold aheadOf; rw [not_f h5]; rfl)⟩)
 ·intro n5
  refine W.skip (thenQ_normal ?_)
  refine Kk cok tab35 hnt [] [2] (⟨[(2,.sl (.ints (rowsOf (h.length : Int).toNat (aheadF h))))],[],[999]⟩)
   (True ∧ True ∧ True ∧ (True ∧ (True ∧ True ∧ True) ∧ 0 ≤ (h.length : Int) ∧ (h.length : Int) ≤ 60 ∧ (h.length : Int) = h.length) ∧ True ∧ True)
   ⟨tt,tt,tt,⟨tt,⟨tt,tt,tt⟩,(by have hv := (valid_iff.1 (not_g n5)).1; omega)⟩,tt,tt⟩ ?_
  refine W.ret ?_
  exact endQ_ret (.sl (.ints (rowsOf (h.length : Int).toNat (aheadF h)))) (by kernel_rfl) (@cast ((.ints (rowsOf (h.length : Int).toNat (aheadF h)) : Dat) = .ints (aheadOf h)) _ (by kernel_rfl) (congrArg Dat.ints (by unfold aheadOf; rw [not_g n5]; rfl)))
theorem ent35 : Entr prog 35 := ⟨_,func35,rfl,by decide⟩
end Go.Proofs.Try

namespace Go.Ab
open Go.RowKit Go.Shelf Go.Proofs
theorem elem_ints (l : List Int) (k : Nat) : (Dat.ints l).elem k = [.v (.int .i64 (l.getD k 0))] := rfl
theorem delete_core {P : Program} {ρ : Ren} (L : Lays2.n23 P ρ) {t : TypeId} (l : List Int) (i j : Int) (hi0 : 0 ≤ i) (hij : i < j) (hjl : j ≤ ((l.length : Nat) : Int)) (w : World) (T : Nat → Prop) (vals : List Value) (bC : Option Nat)
  (hargs' : ArgsRep w T [.c .ints t, .o, .o] [.sl (.ints l), .v (.int .i64 i), .v (.int .i64 j)] vals bC) :
  Calls P (ρ.f 23) vals.toArray w fun en w' => ∃ y β', en = .returned y ∧ PostF w T bC w' β' (.own 0 (List.length (l.take i.toNat ++ l.drop j.toNat))) [(t, .ints (l.take i.toNat ++ l.drop j.toNat))] y := by
  match vals, hargs' with
  | [y0, y1, y2], h =>
   simp only [ArgsRep] at h
   obtain ⟨⟨d, hd, _, hc⟩, h1, h2, _⟩ := h
   cases hd
   simp only [Rep] at h1 h2
   subst h1
   subst h2
   rcases hc with ⟨_, hz, _⟩ | ⟨g, cap, cur, rfl, rfl, hgw, hTg, hcell, hlen, hcap, hsz, hrow⟩
   ·simp only [Dat.len] at hz; omega
   ·have hm : maxLen = 9223372036854775807 := by decide
    have hsz' : cur.size = cap := by simpa [Dat.esz] using hsz
    have hlen' : l.length ≤ cap := hlen
    have hH : Sort.Holds (Value.int .i64) w g 0 l.toArray := by
     intro k hk
     have hk' : k < l.length := by simpa using hk
     obtain ⟨y, hy1, hy2⟩ := hrow k 0 _ hk' (by rw [elem_ints]; rfl)
     simp only [Rep] at hy2
     subst hy2
     have e1 : cur[k]? = some (.int .i64 (l.getD k 0)) := by simpa [Dat.esz] using hy1
     constructor
     ·unfold World.cell?
      simp only [hcell, Nat.zero_add]
      rw [if_neg (by simp), e1]
      simp [List.getD_eq_getElem?_getD, hk']
     ·unfold World.frozen?
      simp only [hcell]
      simp
    have hcall := Any.slices_Delete_int L g 0 cap i.toNat j.toNat l w hH hlen' (by omega) (by omega) (by omega)
    rw [show ((i.toNat : Nat) : Int) = i by omega, show ((j.toNat : Nat) : Int) = j by omega] at hcall
    refine hcall.mono ?_
    rintro e w' ⟨rfl, q, rfl⟩
    let res := l.take i.toNat ++ l.drop j.toNat
    have hrl : res.length = l.length - (j.toNat - i.toNat) := by
     simp only [res, List.length_append, List.length_take, List.length_drop]; omega
    let all := (l.take i.toNat ++ l.drop j.toNat ++ List.replicate (j.toNat - i.toNat) 0)
    have hal : all.length = l.length := by
     simp only [all, List.length_append, List.length_take, List.length_drop, List.length_replicate]; omega
    have hcell' : (Sort.putRow (Value.int .i64) (Sort.ahead w q) g 0 all.toArray).heap[g]? = some (.cells (Sort.putCells (Value.int .i64) 0 all.toArray cur) t (0, 0)) := by
     show (w.heap.modify g _)[g]? = _
     rw [Array.getElem?_modify, if_pos rfl, hcell]
     rfl
    refine ⟨_, fun k => if k = 0 then some (.blk g cap) else none, rfl, ?_⟩
    refine ⟨rfl, rfl, rfl, ?_, ?_, ?_, ?_, ?_, ?_, ?_⟩
    ·simp [Sort.ahead]
    ·intro b hb hne
     show (w.heap.modify g _)[b]? = _
     rw [Array.getElem?_modify, if_neg (fun hh => hne (by rw [hh]))]
    ·simp only [Rep, OwnRep]
     exact .inr ⟨g, cap, rfl, (show res.length ≤ cap by omega), by rw [← hrl]⟩
    ·intro k c hk
     cases k with
     | succ k => simp [rowsHeap] at hk
     | zero =>
      simp only [rowsHeap, List.getElem?_cons_zero, Option.map_some, Option.some.injEq] at hk
      subst hk
      simp only [LocOK, CellsOK]
      refine .inr ⟨g, cap, _, rfl, hcell', ?_, hcap, ?_, ?_⟩
      ·show res.length ≤ cap
       omega
      ·simp [Sort.putCells, hsz', Dat.esz]
      ·intro k jj x hk hx
       have hk' : k < res.length := hk
       rw [elem_ints] at hx
       cases jj with
       | succ jj => simp at hx
       | zero =>
        simp only [List.getElem?_cons_zero, Option.some.injEq] at hx
        subst hx
        refine ⟨.int .i64 (res.getD k 0), ?_, by simp only [Rep]; rfl⟩
        have hkc : k < cur.size := by omega
        have hka : k < all.length := by omega
        simp only [Dat.esz, Nat.mul_one, Nat.add_zero, Sort.putCells, Array.getElem?_mapIdx]
        rw [Array.getElem?_eq_getElem hkc, Option.map_some, if_pos (by constructor <;> simp <;> omega)]
        have e2 : all.getD k 0 = res.getD k 0 := by
         simp only [List.getD_eq_getElem?_getD]
         show (res ++ _)[k]?.getD 0 = _
         rw [List.getElem?_append_left hk']
        rw [← e2]
        simp [List.getD_eq_getElem?_getD, hka]
    ·intro k k' c c' g1 cap1 cap2 e1 e2 _ _
     cases k with
     | succ k => simp [rowsHeap] at e1
     | zero =>
      cases k' with
      | succ k' => simp [rowsHeap] at e2
      | zero => rfl
    ·intro k c g1 cap1 _ hb
     by_cases hk : k = 0
     ·subst hk
      simp only [if_true, Option.some.injEq, Bl.blk.injEq] at hb
      left; rw [hb.1]
     ·rw [if_neg hk] at hb; cases hb
    ·intro k p hp
     by_cases hk : k = 0
     ·subst hk; simp
     ·rw [if_neg hk] at hp; cases hp
theorem delete_ok {P : Program} {ρ : Ren} (L : Lays2.n23 P ρ) {t : TypeId} :
  FnOK P (ρ.f 23) (fnS [.c .ints t, .o, .o] [.ints, .int, .int] (fun _ (l, i, j, _) => (.own 0 (List.length (l.take i.toNat ++ l.drop j.toNat)), [(t, .ints (l.take i.toNat ++ l.drop j.toNat))], 0 ≤ i ∧ i < j ∧ j ≤ ((List.length l : Nat) : Int)))) := by
 intro fl args r rows φ hg hφ w T vals bC hT hargs
 simp only [fnS] at hg
 split at hg
 ·rename_i a ha
  simp only [Option.some.injEq] at hg
  have hx := decL_encL ha
  subst hx
  obtain ⟨l, i, j, u⟩ := a
  simp only [Prod.mk.injEq] at hg
  obtain ⟨rfl, rfl, rfl⟩ := hg
  exact delete_core L l i j hφ.1 hφ.2.1 hφ.2.2 w T vals bC hargs
 ·cases hg
end Go.Ab

namespace Go.Ab
open Go.RowKit Go.Shelf Go.Proofs
theorem clone_post {w w' : World} {T : Nat → Prop} {t : TypeId} {l : List Int} {v' : Value} (hown : w'.ownsRow w.heap.size t 1 v' l.length (l.map (Value.int .i64))) (hb : Below w.heap.size w w') :
  ∃ β', PostF w T none w' β' (.own 0 l.length) [(t, .ints l)] v' := by
 obtain ⟨_, h⟩ := hown
 rcases h with ⟨rfl, hn⟩ | ⟨g, cap, cur, rfl, hg, hcell, hlen, hcap, hsz, htake⟩
 ·refine ⟨fun k => if k = 0 then some .nil else none, hb.os, hb.tape, hb.output, hb.size, fun b hb' _ => hb.block b hb', ?_, ?_, ?_, ?_, ?_⟩
  ·simp only [Rep]; exact Or.inl ⟨rfl, hn, rfl⟩
  ·intro k c hk
   cases k with
   | succ k => simp [rowsHeap] at hk
   | zero =>
    simp only [rowsHeap, List.getElem?_cons_zero, Option.map_some, Option.some.injEq] at hk
    subst hk
    simp only [LocOK, CellsOK]
    exact .inl ⟨rfl, hn⟩
  ·intro k k' c c' g1 cap1 cap2 e1 e2 hb1 _
   by_cases hk : k = 0
   ·rw [hk] at hb1; simp at hb1
   ·rw [if_neg hk] at hb1; cases hb1
  ·intro k c g1 cap1 _ hb1
   by_cases hk : k = 0
   ·rw [hk] at hb1; simp at hb1
   ·rw [if_neg hk] at hb1; cases hb1
  ·intro k p hp
   by_cases hk : k = 0
   ·subst hk; simp
   ·rw [if_neg hk] at hp; cases hp
 ·refine ⟨fun k => if k = 0 then some (.blk g cap) else none, hb.os, hb.tape, hb.output, hb.size, fun b hb' _ => hb.block b hb', ?_, ?_, ?_, ?_, ?_⟩
  ·simp only [Rep, OwnRep]; exact .inr ⟨g, cap, rfl, hlen, rfl⟩
  ·intro k c hk
   cases k with
   | succ k => simp [rowsHeap] at hk
   | zero =>
    simp only [rowsHeap, List.getElem?_cons_zero, Option.map_some, Option.some.injEq] at hk
    subst hk
    simp only [LocOK, CellsOK]
    refine .inr ⟨g, cap, cur, rfl, hcell, hlen, hcap, hsz, ?_⟩
    intro k jj x hk hx
    have hk' : k < l.length := hk
    rw [elem_ints] at hx
    cases jj with
    | succ jj => simp at hx
    | zero =>
     simp only [List.getElem?_cons_zero, Option.some.injEq] at hx
     subst hx
     refine ⟨.int .i64 (l.getD k 0), ?_, by simp only [Rep]⟩
     have e1 : (cur.toList.take (l.length * 1))[k]? = some (.int .i64 (l.getD k 0)) := by
      rw [htake, List.getElem?_map, List.getElem?_eq_getElem hk']
      simp [List.getD_eq_getElem?_getD, hk']
     rw [List.getElem?_take, if_pos (by omega)] at e1
     simpa [Dat.esz] using e1
  ·intro k k' c c' g1 cap1 cap2 e1 e2 _ _
   cases k with
   | succ k => simp [rowsHeap] at e1
   | zero =>
    cases k' with
    | succ k' => simp [rowsHeap] at e2
    | zero => rfl
  ·intro k c g1 cap1 _ hb1
   by_cases hk : k = 0
   ·subst hk
    simp only [if_true, Option.some.injEq, Bl.blk.injEq] at hb1
    right; omega
   ·rw [if_neg hk] at hb1; cases hb1
  ·intro k p hp
   by_cases hk : k = 0
   ·subst hk; simp
   ·rw [if_neg hk] at hp; cases hp
theorem clone_core {P : Program} {ρ : Ren} (L : Lays2.n15 P ρ) (l : List Int) (hbig : l.length * 8 ≤ 140737488355328) (w : World) (T : Nat → Prop) (vals : List Value) (bC : Option Nat)
  (hargs : ArgsRep w T [.s .ints] [.sl (.ints l)] vals bC) :
  Calls P (ρ.f 15) vals.toArray w fun en w' => ∃ y β', en = .returned y ∧ PostF w T bC w' β' (.own 0 (List.length l)) [(ρ.t 3, .ints l)] y := by
 match vals, hargs with
 | [y0], h =>
  simp only [ArgsRep] at h
  obtain ⟨h1, rfl⟩ := h
  simp only [Rep, SlRep, FlatRep] at h1
  obtain ⟨a, c, rfl, hlc, hcm, hd⟩ := h1
  cases l with
  | nil =>
   cases a with
   | none =>
    refine (Any.slices_Clone_int_nil L 0 c w).mono ?_
    rintro e w' ⟨rfl, rfl⟩
    obtain ⟨β', h⟩ := clone_post (T := T) (t := ρ.t 3) (l := []) (World.ownsRow_nil w' w'.heap.size (ρ.t 3) 1) (Below.refl w'.heap.size w')
    exact ⟨_, β', rfl, h⟩
   | some ad =>
    refine (Any.slices_Clone_int_zero L ad c w).mono ?_
    rintro e w' ⟨v', rfl, hown, _, hb⟩
    obtain ⟨β', h⟩ := clone_post (T := T) (t := ρ.t 3) (l := []) hown hb
    exact ⟨_, β', rfl, h⟩
  | cons x0 l0 =>
   rcases hd with hd | ⟨ad, rfl, hT, hc⟩
   ·simp at hd
   ·have hcc : ∀ k, k < (x0 :: l0).length → w.cell? (ad.add k) = some (.int .i64 ((x0 :: l0).getD k 0)) := fun k hk => by
     have := hc k 0 _ hk (show ((Dat.ints (x0 :: l0)).flat k)[0]? = some (.int .i64 ((x0 :: l0).getD k 0)) from rfl)
     simpa using this
    obtain ⟨b, off, sp⟩ := ad
    cases sp with
    | some s0 =>
     have := hcc 0 (by simp)
     rw [Addr.add_zero'] at this
     unfold World.cell? at this
     simp at this
     split at this <;> cases this
    | none =>
     refine (Any.slices_Clone_int L b off (x0 :: l0).length c (x0 :: l0) w (Nat.le_refl _) hbig (fun j hj => by
      have := hcc j hj
      rwa [Addr.add_lit] at this)).mono ?_
     rintro e w' ⟨v', rfl, hown, _, hb⟩
     rw [List.take_length] at hown
     obtain ⟨β', h⟩ := clone_post (T := T) (t := ρ.t 3) (l := x0 :: l0) hown hb
     exact ⟨_, β', rfl, h⟩
theorem clone_ok {P : Program} {ρ : Ren} (L : Lays2.n15 P ρ) :
  FnOK P (ρ.f 15) (fnS [.s .ints] [.ints] (fun _ (l, _) => (.own 0 (List.length l), [(ρ.t 3, .ints l)], List.length l * 8 ≤ 140737488355328))) := by
 intro fl args r rows φ hg hφ w T vals bC hT hargs
 simp only [fnS] at hg
 split at hg
 ·rename_i a ha
  simp only [Option.some.injEq] at hg
  have hx := decL_encL ha
  subst hx
  obtain ⟨l, u⟩ := a
  simp only [Prod.mk.injEq] at hg
  obtain ⟨rfl, rfl, rfl⟩ := hg
  exact clone_core L l hφ w T vals bC hargs
 ·cases hg
end Go.Ab

set_option linter.unusedSimpArgs false
set_option linter.unusedVariables false
namespace Go.Proofs.Try
open Go.Ab Go.RowKit Go.Shelf Go.Proofs
def fs42 : FnS := fnS [.s .ints] [.ints] (fun _ (l,_) => (.own 0 l.length,[(3,.ints l)],(l.length * 8 ≤ 140737488355328)))
def ren15 : Go.Shelf.Ren := ⟨fun _ => 42,fun k => bif Nat.beq k 22 then 47 else bif Nat.beq k 3 then 3 else bif Nat.beq k 4 then 4 else k,fun k => k⟩
set_option maxRecDepth 100000 in
theorem lays15 : Lays2.n15 prog ren15 where
 mixed := by kernel_rfl
 f15 := by kernel_rfl
 t3 := underlying3
 a3 := isAgg3
 z3 := sizeOf3
 v3 := zeroValue3
 t4 := underlying4
 a4 := isAgg4
 z4 := sizeOf4
 v4 := zeroValue4
 t22 := underlying47
 a22 := isAgg47
 z22 := sizeOf47
 v22 := zeroValue47
 i3 := by kernel_rfl
theorem ok42 : FnOK prog 42 fs42 := clone_ok lays15
theorem ent42 : Entr prog 42 := ⟨_,func42,rfl,by decide⟩
end Go.Proofs.Try
