import Derived.Test.YtbeabmgjecndnaaPF3S0
import Derived.Test.YtbeabmgjecndnaaPF3S1
import Derived.Test.YtbeabmgjecndnaaPF3S2
set_option linter.unusedSimpArgs false
set_option linter.unusedVariables false
namespace Go.Proofs.Try
open Go.Ab Go.RowKit
def fs16 : FnS := fnS [.s .calls] [.calls] (fun _ (h,_) => (.tup [.i ((turn h).1),.i ((turn h).2.1),.b ((turn h).2.2)],[],True))
abbrev T16 : Tab := lk [(12,fs12),(26,fs26)]
theorem tab16 : TabOK prog T16 := (TabOK.cons ok12 ent12 (TabOK.cons ok26 ent26 TabOK.nil))
set_option maxRecDepth 100000 in
set_option maxHeartbeats 1000000 in
theorem ok16 : FnOK prog 16 fs16 := by
 refine FnOK.mk cok func16 rfl rfl rfl ?_
 rintro fl ⟨(h : List CallD),_⟩ hpre F hnt0 _
 have hnt : F.nt = 70 := hnt0.trans ntmps16
 clear hpre
 refine W.to (⟨[(0,.sl (.calls h))],[],[999]⟩) rfl ?_
 refine W.lenOf 0 (.calls h) (by kernel_rfl) ?_
 intro hl_h; replace hl_h : List.length h ≤ 9223372036854775807 := hl_h
 refine Kk cok tab16 hnt [] [0] (⟨[(0,.sl (.calls h))],[],[999]⟩)
  (True ∧ True ∧ True ∧ True)
  ⟨tt,tt,tt,tt⟩ ?_
 refine W.seq ?_
 refine Kk cok tab16 hnt [] [0,11,12,13] (⟨[(0,.sl (.calls h)),(11,.sl (.calls h)),(12,.i (h.length : Int)),(13,.i (0 : Int))],[],[999]⟩)
  (True ∧ True ∧ True ∧ True)
  ⟨tt,tt,tt,tt⟩ ?_
 refine W.block ?_
 refine W.loop (ι := Nat) (fun (i : Nat) => (⟨[(0,.sl (.calls h)),(11,.sl (.calls h)),(12,.i (h.length : Int)),(13,.i ((i : Nat) : Int))],[],[999]⟩ : St))
  (fun (i : Nat) => (i ≤ h.length) ∧ (∀ j,j < i → anyN h.length (turnP h j) = false))
  (fun (i : Nat) => (h.length - i : Nat)) (0) ?_ ?_ ?_
 ·exact (show (0 ≤ h.length) ∧ (∀ j,j < 0 → anyN h.length (turnP h j) = false) from ⟨(by first | assumption | omega | rfl | (intro _ hjj; omega) | (simp; done) | (simp; omega)),(by exact upto_zero)⟩)
 ·exact Sub.of [] (@cast (((Sd (.calls h)) ∧ (Sd (.calls h)) ∧ (Si (h.length : Int)) ∧ ((.int .i64 (0 : Int) : Value) = .int .i64 ((0 : Nat) : Int)) ∧ True) ∧ True ∧ (true = true) ∧ (true = true)) _ (by kernel_rfl) ⟨⟨rfl,rfl,rfl,(congrArg (Value.int .i64) (by first | rfl | omega | assumption | simp | simp_all)),tt⟩,tt,rfl,rfl⟩)
 ·rintro i hC0
  have hC : (i ≤ h.length) ∧ (∀ j,j < i → anyN h.length (turnP h j) = false) := hC0
  clear hC0
  obtain ⟨hi,hA⟩ := hC
  refine W.to (⟨[(0,.sl (.calls h)),(11,.sl (.calls h)),(12,.i (h.length : Int)),(13,.i ((i : Nat) : Int))],[],[999]⟩) rfl ?_
  refine Kk cok tab16 hnt [] [0,11,12,13,14] (⟨[(0,.sl (.calls h)),(11,.sl (.calls h)),(12,.i (h.length : Int)),(13,.i ((i : Nat) : Int)),(14,.b (decide (((i : Nat) : Int) < (h.length : Int))))],[],[999]⟩)
   ((True ∧ True ∧ True) ∧ True)
   ⟨⟨tt,tt,tt⟩,tt⟩ ?_
  refine W.seq ?_
  refine W.ifP (((i : Nat) : Int) < (h.length : Int)) (.b (decide (((i : Nat) : Int) < (h.length : Int)))) (by kernel_rfl) rfl trivial ?_ ?_
  ·intro h14
   refine W.skip (thenQ_normal ?_)
   refine W.seq ?_
   refine W.block ?_
   refine Kk cok tab16 hnt [] [0,5,6,11,12,13] (⟨[(0,.sl (.calls h)),(5,.i ((i : Nat) : Int)),(6,.ptr 6 0),(11,.sl (.calls h)),(12,.i (h.length : Int)),(13,.i ((i : Nat) : Int))],[(6,⟨35,.fix [.i ((h.getD i default).proc),.i ((h.getD i default).obj),.i ((h.getD i default).kind),.i ((h.getD i default).arg),.i ((h.getD i default).ret),.i ((h.getD i default).frm),.i ((h.getD i default).to)]⟩)],[6,999]⟩)
    (True ∧ (True ∧ True ∧ (0 ≤ ((i : Nat) : Int)) ∧ (((i : Nat) : Int) < (h.length : Int))) ∧ True ∧ True ∧ True ∧ (True ∧ True) ∧ True)
    ⟨tt,⟨tt,tt,(by omega),(by omega)⟩,tt,tt,tt,⟨tt,tt⟩,tt⟩ ?_
   refine Kk cok tab16 hnt [] [0,5,6,11,12,13,18,19,20] (⟨[(0,.sl (.calls h)),(5,.i ((i : Nat) : Int)),(6,.ptr 6 0),(11,.sl (.calls h)),(12,.i (h.length : Int)),(13,.i ((i : Nat) : Int)),(18,.sl (.calls h)),(19,.i (h.length : Int)),(20,.i (0 : Int))],[(6,⟨35,.fix [.i ((h.getD i default).proc),.i ((h.getD i default).obj),.i ((h.getD i default).kind),.i ((h.getD i default).arg),.i ((h.getD i default).ret),.i ((h.getD i default).frm),.i ((h.getD i default).to)]⟩)],[6,999]⟩)
    (True ∧ True ∧ True ∧ True)
    ⟨tt,tt,tt,tt⟩ ?_
   refine W.block ?_
   refine W.loop (ι := Nat) (fun (k : Nat) => (⟨[(0,.sl (.calls h)),(5,.i ((i : Nat) : Int)),(6,.ptr 6 0),(11,.sl (.calls h)),(12,.i (h.length : Int)),(13,.i ((i : Nat) : Int)),(18,.sl (.calls h)),(19,.i (h.length : Int)),(20,.i ((k : Nat) : Int))],[(6,⟨35,.fix [.i ((h.getD i default).proc),.i ((h.getD i default).obj),.i ((h.getD i default).kind),.i ((h.getD i default).arg),.i ((h.getD i default).ret),.i ((h.getD i default).frm),.i ((h.getD i default).to)]⟩)],[6,999]⟩ : St))
    (fun (k : Nat) => (k ≤ h.length) ∧ (∀ j,j < k → turnP h i j = false))
    (fun (k : Nat) => (h.length - k : Nat)) (0) ?_ ?_ ?_
   ·exact (show (0 ≤ h.length) ∧ (∀ j,j < 0 → turnP h i j = false) from ⟨(by first | assumption | omega | rfl | (intro _ hjj; omega) | (simp; done) | (simp; omega)),(by exact upto_zero)⟩)
   ·exact Sub.of [] (@cast (((Sd (.calls h)) ∧ (Si ((i : Nat) : Int)) ∧ (((6 : Nat) = 6) ∧ ((0 : Nat) = 0) ∧ ((6 : Nat) ∈ ([6,999] : List Nat))) ∧ (Sd (.calls h)) ∧ (Si (h.length : Int)) ∧ (Si ((i : Nat) : Int)) ∧ (Sd (.calls h)) ∧ (Si (h.length : Int)) ∧ ((.int .i64 (0 : Int) : Value) = .int .i64 ((0 : Nat) : Int)) ∧ True) ∧ ((((35 : Nat) = 35) ∧ ((Si ((h.getD i default).proc)) ∧ (Si ((h.getD i default).obj)) ∧ (Si ((h.getD i default).kind)) ∧ (Si ((h.getD i default).arg)) ∧ (Si ((h.getD i default).ret)) ∧ (Si ((h.getD i default).frm)) ∧ (Si ((h.getD i default).to)) ∧ True) ∧ ((6 : Nat) ∈ ([6,999] : List Nat))) ∧ True) ∧ (true = true) ∧ (true = true)) _ (by kernel_rfl) ⟨⟨rfl,rfl,⟨rfl,rfl,(by decide)⟩,rfl,rfl,rfl,rfl,rfl,(congrArg (Value.int .i64) (by first | rfl | omega | assumption | simp | simp_all)),tt⟩,⟨⟨rfl,⟨rfl,rfl,rfl,rfl,rfl,rfl,rfl,tt⟩,(by decide)⟩,tt⟩,rfl,rfl⟩)
   ·rintro k hC0
    have hC : (k ≤ h.length) ∧ (∀ j,j < k → turnP h i j = false) := hC0
    clear hC0
    obtain ⟨hk,hB⟩ := hC
    refine W.to (⟨[(0,.sl (.calls h)),(5,.i ((i : Nat) : Int)),(6,.ptr 6 0),(11,.sl (.calls h)),(12,.i (h.length : Int)),(13,.i ((i : Nat) : Int)),(18,.sl (.calls h)),(19,.i (h.length : Int)),(20,.i ((k : Nat) : Int))],[(6,⟨35,.fix [.i ((h.getD i default).proc),.i ((h.getD i default).obj),.i ((h.getD i default).kind),.i ((h.getD i default).arg),.i ((h.getD i default).ret),.i ((h.getD i default).frm),.i ((h.getD i default).to)]⟩)],[6,999]⟩) rfl ?_
    refine Kk cok tab16 hnt [] [0,5,6,11,12,13,18,19,20,21] (⟨[(0,.sl (.calls h)),(5,.i ((i : Nat) : Int)),(6,.ptr 6 0),(11,.sl (.calls h)),(12,.i (h.length : Int)),(13,.i ((i : Nat) : Int)),(18,.sl (.calls h)),(19,.i (h.length : Int)),(20,.i ((k : Nat) : Int)),(21,.b (decide (((k : Nat) : Int) < (h.length : Int))))],[(6,⟨35,.fix [.i ((h.getD i default).proc),.i ((h.getD i default).obj),.i ((h.getD i default).kind),.i ((h.getD i default).arg),.i ((h.getD i default).ret),.i ((h.getD i default).frm),.i ((h.getD i default).to)]⟩)],[6,999]⟩)
     ((True ∧ True ∧ True) ∧ True)
     ⟨⟨tt,tt,tt⟩,tt⟩ ?_
    refine W.seq ?_
    refine W.ifP (((k : Nat) : Int) < (h.length : Int)) (.b (decide (((k : Nat) : Int) < (h.length : Int)))) (by kernel_rfl) rfl trivial ?_ ?_
    ·intro h21
     refine W.skip (thenQ_normal ?_)
     refine W.seq ?_
     refine W.block ?_
     refine Kk cok tab16 hnt [] [0,5,6,7,8,11,12,13,18,19,20] (⟨[(0,.sl (.calls h)),(5,.i ((i : Nat) : Int)),(6,.ptr 6 0),(7,.i ((k : Nat) : Int)),(8,.ptr 8 0),(11,.sl (.calls h)),(12,.i (h.length : Int)),(13,.i ((i : Nat) : Int)),(18,.sl (.calls h)),(19,.i (h.length : Int)),(20,.i ((k : Nat) : Int))],[(6,⟨35,.fix [.i ((h.getD i default).proc),.i ((h.getD i default).obj),.i ((h.getD i default).kind),.i ((h.getD i default).arg),.i ((h.getD i default).ret),.i ((h.getD i default).frm),.i ((h.getD i default).to)]⟩),(8,⟨35,.fix [.i ((h.getD k default).proc),.i ((h.getD k default).obj),.i ((h.getD k default).kind),.i ((h.getD k default).arg),.i ((h.getD k default).ret),.i ((h.getD k default).frm),.i ((h.getD k default).to)]⟩)],[8,6,999]⟩)
      (True ∧ (True ∧ True ∧ (0 ≤ ((k : Nat) : Int)) ∧ (((k : Nat) : Int) < (h.length : Int))) ∧ True ∧ True ∧ True ∧ (True ∧ True) ∧ True)
      ⟨tt,⟨tt,tt,(by omega),(by omega)⟩,tt,tt,tt,⟨tt,tt⟩,tt⟩ ?_
     refine W.seq ?_
     refine Kk cok tab16 hnt [] [0,5,6,7,8,11,12,13,18,19,20,38] (⟨[(0,.sl (.calls h)),(5,.i ((i : Nat) : Int)),(6,.ptr 6 0),(7,.i ((k : Nat) : Int)),(8,.ptr 8 0),(11,.sl (.calls h)),(12,.i (h.length : Int)),(13,.i ((i : Nat) : Int)),(18,.sl (.calls h)),(19,.i (h.length : Int)),(20,.i ((k : Nat) : Int)),(38,.b (((decide (((h.getD i default).kind) ≠ (2 : Int))) || (decide (((h.getD k default).kind) ≠ (2 : Int)))) || (!(isBefore (h.getD i default) (h.getD k default)))))],[(6,⟨35,.fix [.i ((h.getD i default).proc),.i ((h.getD i default).obj),.i ((h.getD i default).kind),.i ((h.getD i default).arg),.i ((h.getD i default).ret),.i ((h.getD i default).frm),.i ((h.getD i default).to)]⟩),(8,⟨35,.fix [.i ((h.getD k default).proc),.i ((h.getD k default).obj),.i ((h.getD k default).kind),.i ((h.getD k default).arg),.i ((h.getD k default).ret),.i ((h.getD k default).frm),.i ((h.getD k default).to)]⟩)],[8,6,999]⟩)
      ((fun (Z1:Bool)=>((fun (Z2:Bool)=>(True ∧ (True ∧ ((True ∧ (True ∧ True)) ∧ (True ∧ (((!Z1) = true → True) ∧ (((!Z1) = true → (((!Z1) = true) ∧ True)) ∧ (((!Z1) = true → ((((!Z1) = true) ∧ True) ∧ (True ∧ True))) ∧ ((True ∧ ((Z1 = true → True) ∧ (Z1 = false → ((!Z1) = true) ∧ True))) ∧ (True ∧ (((!Z2) = true → True) ∧ (((!Z2) = true → True) ∧ (((!Z2) = true → (True ∧ (((((!Z2) = true) ∧ True) ∧ ((((!Z2) = true) ∧ True) ∧ True)) ∧ True))) ∧ (((!Z2) = true → (((!Z2) = true) ∧ True)) ∧ ((True ∧ ((Z2 = true → True) ∧ (Z2 = false → ((!Z2) = true) ∧ True))) ∧ True))))))))))))))) (Z1 || (decide (((h.getD k default).kind) ≠ (2 : Int)))))) (decide (((h.getD i default).kind) ≠ (2 : Int))))
      ⟨tt,tt,⟨tt,tt,tt⟩,tt,(fun _ => trivial),(fun hG => ⟨hG,tt⟩),(fun hG => ⟨⟨hG,tt⟩,tt,tt⟩),⟨tt,(fun _ => trivial),(fun hp => ⟨(not_t hp),tt⟩)⟩,tt,(fun _ => trivial),(fun _ => trivial),(fun hG => ⟨tt,⟨⟨hG,tt⟩,⟨hG,tt⟩,tt⟩,tt⟩),(fun hG => ⟨hG,tt⟩),⟨tt,(fun _ => trivial),(fun hp => ⟨(not_t hp),tt⟩)⟩,tt⟩ ?_
     refine W.if' (((decide (((h.getD i default).kind) ≠ (2 : Int))) || (decide (((h.getD k default).kind) ≠ (2 : Int)))) || (!(isBefore (h.getD i default) (h.getD k default)))) (.b (((decide (((h.getD i default).kind) ≠ (2 : Int))) || (decide (((h.getD k default).kind) ≠ (2 : Int)))) || (!(isBefore (h.getD i default) (h.getD k default))))) (by kernel_rfl) rfl trivial ?_ ?_
     ·intro h38
      refine W.exit (thenQ_exit (blockQ_hit ?_))
      refine thenQ_normal ?_
      refine Lk cok tab16 hnt [] (⟨[(0,.sl (.calls h)),(5,.i ((i : Nat) : Int)),(6,.ptr 6 0),(7,.i ((k : Nat) : Int)),(8,.ptr 8 0),(11,.sl (.calls h)),(12,.i (h.length : Int)),(13,.i ((i : Nat) : Int)),(18,.sl (.calls h)),(19,.i (h.length : Int)),(20,.i (((k + 1) : Nat) : Int)),(38,.b (((decide (((h.getD i default).kind) ≠ (2 : Int))) || (decide (((h.getD k default).kind) ≠ (2 : Int)))) || (!(isBefore (h.getD i default) (h.getD k default))))),(68,.i (((k + 1) : Nat) : Int))],[(6,⟨35,.fix [.i ((h.getD i default).proc),.i ((h.getD i default).obj),.i ((h.getD i default).kind),.i ((h.getD i default).arg),.i ((h.getD i default).ret),.i ((h.getD i default).frm),.i ((h.getD i default).to)]⟩),(8,⟨35,.fix [.i ((h.getD k default).proc),.i ((h.getD k default).obj),.i ((h.getD k default).kind),.i ((h.getD k default).arg),.i ((h.getD k default).ret),.i ((h.getD k default).frm),.i ((h.getD k default).to)]⟩)],[8,6,999]⟩)
       ((True ∧ True ∧ (Fits .i64 (((k + 1) : Nat) : Int))) ∧ True ∧ True)
       ⟨⟨tt,tt,(by exact fits_i64 (by omega) (by omega))⟩,tt,tt⟩ ?_
      refine thenQ_normal ?_
      refine ⟨((k + 1)),(show ((k + 1) ≤ h.length) ∧ (∀ j,j < (k + 1) → turnP h i j = false) from ⟨(by first | assumption | omega | rfl | (intro _ hjj; omega) | (simp; done) | (simp; omega)),(by first | exact upto_succ hB (turnP_impl h38) | exact upto_succ hB (turnP_impl2 n38 n65))⟩),(show h.length - (k + 1) < h.length - k from (by first | omega | (simp_all; omega))),?_⟩
      exact Sub.of [] (@cast (((Sd (.calls h)) ∧ (Si ((i : Nat) : Int)) ∧ (((6 : Nat) = 6) ∧ ((0 : Nat) = 0) ∧ ((6 : Nat) ∈ ([6,999] : List Nat))) ∧ (Sd (.calls h)) ∧ (Si (h.length : Int)) ∧ (Si ((i : Nat) : Int)) ∧ (Sd (.calls h)) ∧ (Si (h.length : Int)) ∧ (Si (((k + 1) : Nat) : Int)) ∧ True) ∧ ((((35 : Nat) = 35) ∧ ((Si ((h.getD i default).proc)) ∧ (Si ((h.getD i default).obj)) ∧ (Si ((h.getD i default).kind)) ∧ (Si ((h.getD i default).arg)) ∧ (Si ((h.getD i default).ret)) ∧ (Si ((h.getD i default).frm)) ∧ (Si ((h.getD i default).to)) ∧ True) ∧ ((6 : Nat) ∈ ([6,999] : List Nat))) ∧ True) ∧ (true = true) ∧ (true = true)) _ (by kernel_rfl) ⟨⟨rfl,rfl,⟨rfl,rfl,(by decide)⟩,rfl,rfl,rfl,rfl,rfl,rfl,tt⟩,⟨⟨rfl,⟨rfl,rfl,rfl,rfl,rfl,rfl,rfl,tt⟩,(by decide)⟩,tt⟩,rfl,rfl⟩)
     ·intro n38
      have n38_0 : ¬ (((h.getD i default).kind) ≠ (2 : Int)) := of_decide_eq_false (or_l (or_l n38))
      have n38_1 : ¬ (((h.getD k default).kind) ≠ (2 : Int)) := of_decide_eq_false (or_r (or_l n38))
      refine W.skip (thenQ_normal ?_)
      refine W.KA cok tab16 hnt [] [0,5,6,7,9,10,11,12,13,18,19,20] (⟨[(0,.sl (.calls h)),(5,.i ((i : Nat) : Int)),(6,.ptr 6 0),(7,.i ((k : Nat) : Int)),(9,.i (sourceR h (h.getD i default).ret)),(10,.i (sourceR h (h.getD k default).ret)),(11,.sl (.calls h)),(12,.i (h.length : Int)),(13,.i ((i : Nat) : Int)),(18,.sl (.calls h)),(19,.i (h.length : Int)),(20,.i ((k : Nat) : Int))],[(6,⟨35,.fix [.i ((h.getD i default).proc),.i ((h.getD i default).obj),.i ((h.getD i default).kind),.i ((h.getD i default).arg),.i ((h.getD i default).ret),.i ((h.getD i default).frm),.i ((h.getD i default).to)]⟩),(8,⟨35,.fix [.i ((h.getD k default).proc),.i ((h.getD k default).obj),.i ((h.getD k default).kind),.i ((h.getD k default).arg),.i ((h.getD k default).ret),.i ((h.getD k default).frm),.i ((h.getD k default).to)]⟩)],[8,6,999]⟩)
       (True ∧ True ∧ (True ∧ (True ∧ True ∧ True) ∧ True) ∧ True ∧ True ∧ (True ∧ (True ∧ True ∧ True) ∧ True) ∧ True ∧ True ∧ True) (by kernel_rfl) (by kernel_rfl)
       ⟨tt,tt,⟨tt,⟨tt,tt,tt⟩,tt⟩,tt,tt,⟨tt,⟨tt,tt,tt⟩,tt⟩,tt,tt,tt⟩ ?_
      refine W.KA cok tab16 hnt [] [0,5,6,7,11,12,13,18,19,20,65] (⟨[(0,.sl (.calls h)),(5,.i ((i : Nat) : Int)),(6,.ptr 6 0),(7,.i ((k : Nat) : Int)),(11,.sl (.calls h)),(12,.i (h.length : Int)),(13,.i ((i : Nat) : Int)),(18,.sl (.calls h)),(19,.i (h.length : Int)),(20,.i ((k : Nat) : Int)),(65,.b ((decide ((0 : Int) ≤ (sourceR h (h.getD i default).ret))) && ((decide ((sourceR h (h.getD k default).ret) = (-1 : Int))) || ((decide ((0 : Int) ≤ (sourceR h (h.getD k default).ret))) && (isBefore (h.getD (Int.toNat (sourceR h (h.getD k default).ret)) default) (h.getD (Int.toNat (sourceR h (h.getD i default).ret)) default))))))],[(6,⟨35,.fix [.i ((h.getD i default).proc),.i ((h.getD i default).obj),.i ((h.getD i default).kind),.i ((h.getD i default).arg),.i ((h.getD i default).ret),.i ((h.getD i default).frm),.i ((h.getD i default).to)]⟩),(8,⟨35,.fix [.i ((h.getD k default).proc),.i ((h.getD k default).obj),.i ((h.getD k default).kind),.i ((h.getD k default).arg),.i ((h.getD k default).ret),.i ((h.getD k default).frm),.i ((h.getD k default).to)]⟩)],[8,6,999]⟩)
       ((fun (Z1:Bool)=>((fun (Z2:Bool)=>((fun (Z3:Bool)=>((fun (Z4:Bool)=>((fun (Z5:Bool)=>(True ∧ ((True ∧ (True ∧ True)) ∧ (True ∧ ((Z2 = true → True) ∧ ((Z2 = true → (((Z2 = true) ∧ True) ∧ (True ∧ True))) ∧ ((Z2 = true → True) ∧ ((Z3 = true → True) ∧ ((Z3 = true → (((Z3 = true) ∧ True) ∧ (True ∧ True))) ∧ ((Z3 = true → True) ∧ ((Z5 = true → True) ∧ ((Z5 = true → True) ∧ ((Z5 = true → (((Z5 = true) ∧ True) ∧ (((Z5 = true) ∧ True) ∧ ((0 ≤ (sourceR h (h.getD k default).ret)) ∧ ((sourceR h (h.getD k default).ret) < (h.length : Int)))))) ∧ ((Z5 = true → ((Z5 = true) ∧ True)) ∧ ((Z5 = true → True) ∧ ((Z5 = true → True) ∧ ((Z5 = true → (((Z5 = true) ∧ True) ∧ (((Z5 = true) ∧ True) ∧ ((0 ≤ (sourceR h (h.getD i default).ret)) ∧ ((sourceR h (h.getD i default).ret) < (h.length : Int)))))) ∧ ((Z5 = true → ((Z5 = true) ∧ True)) ∧ ((Z5 = true → (True ∧ ((((Z5 = true) ∧ True) ∧ (((Z5 = true) ∧ True) ∧ True)) ∧ True))) ∧ ((Z3 = true → (((Z3 = true) ∧ ((Z3 = true) ∧ True)) ∧ ((Z4 = true → (Z5 = true) ∧ True) ∧ (Z4 = false → True)))) ∧ ((Z2 = true → (((Z2 = true) ∧ ((Z2 = true) ∧ True)) ∧ ((Z1 = true → True) ∧ (Z1 = false → (Z3 = true) ∧ True)))) ∧ ((True ∧ ((Z2 = true → (Z2 = true) ∧ True) ∧ (Z2 = false → True))) ∧ True)))))))))))))))))))))) (Z3 && (Z3 && Z4)))) (decide ((0 : Int) ≤ (sourceR h (h.getD k default).ret))))) (Z2 && (Z2 && (!Z1))))) (decide ((0 : Int) ≤ (sourceR h (h.getD i default).ret))))) (decide ((sourceR h (h.getD k default).ret) = (-1 : Int)))) (by kernel_rfl) (by kernel_rfl)
       ⟨tt,⟨tt,tt,tt⟩,tt,(fun _ => trivial),(fun hG => ⟨⟨hG,tt⟩,tt,tt⟩),(fun _ => trivial),(fun _ => trivial),(fun hG => ⟨⟨hG,tt⟩,tt,tt⟩),(fun _ => trivial),(fun _ => trivial),(fun _ => trivial),(fun hG => ⟨⟨hG,tt⟩,⟨hG,tt⟩,(by have hg0 : (0 : Int) ≤ (sourceR h (h.getD i default).ret) := of_decide_eq_true (and_l (and_l hG)); have hg1 : (0 : Int) ≤ (sourceR h (h.getD i default).ret) := of_decide_eq_true (and_l (and_r (and_l hG))); have hg2 : ¬ ((sourceR h (h.getD k default).ret) = (-1 : Int)) := of_decide_eq_false (not_f (and_r (and_r (and_l hG)))); have hg3 : (0 : Int) ≤ (sourceR h (h.getD i default).ret) := of_decide_eq_true (and_l (and_l (and_r hG))); have hg4 : (0 : Int) ≤ (sourceR h (h.getD i default).ret) := of_decide_eq_true (and_l (and_r (and_l (and_r hG)))); have hg5 : ¬ ((sourceR h (h.getD k default).ret) = (-1 : Int)) := of_decide_eq_false (not_f (and_r (and_r (and_l (and_r hG))))); have hg6 : (0 : Int) ≤ (sourceR h (h.getD k default).ret) := of_decide_eq_true (and_r (and_r hG)); have h1 := source_lt h (h.getD i default).ret; have h2 := source_lt h (h.getD k default).ret; omega),(by have hg0 : (0 : Int) ≤ (sourceR h (h.getD i default).ret) := of_decide_eq_true (and_l (and_l hG)); have hg1 : (0 : Int) ≤ (sourceR h (h.getD i default).ret) := of_decide_eq_true (and_l (and_r (and_l hG))); have hg2 : ¬ ((sourceR h (h.getD k default).ret) = (-1 : Int)) := of_decide_eq_false (not_f (and_r (and_r (and_l hG)))); have hg3 : (0 : Int) ≤ (sourceR h (h.getD i default).ret) := of_decide_eq_true (and_l (and_l (and_r hG))); have hg4 : (0 : Int) ≤ (sourceR h (h.getD i default).ret) := of_decide_eq_true (and_l (and_r (and_l (and_r hG)))); have hg5 : ¬ ((sourceR h (h.getD k default).ret) = (-1 : Int)) := of_decide_eq_false (not_f (and_r (and_r (and_l (and_r hG))))); have hg6 : (0 : Int) ≤ (sourceR h (h.getD k default).ret) := of_decide_eq_true (and_r (and_r hG)); have h1 := source_lt h (h.getD i default).ret; have h2 := source_lt h (h.getD k default).ret; omega)⟩),(fun hG => ⟨hG,tt⟩),(fun _ => trivial),(fun _ => trivial),(fun hG => ⟨⟨hG,tt⟩,⟨hG,tt⟩,(by have hg0 : (0 : Int) ≤ (sourceR h (h.getD i default).ret) := of_decide_eq_true (and_l (and_l hG)); have hg1 : (0 : Int) ≤ (sourceR h (h.getD i default).ret) := of_decide_eq_true (and_l (and_r (and_l hG))); have hg2 : ¬ ((sourceR h (h.getD k default).ret) = (-1 : Int)) := of_decide_eq_false (not_f (and_r (and_r (and_l hG)))); have hg3 : (0 : Int) ≤ (sourceR h (h.getD i default).ret) := of_decide_eq_true (and_l (and_l (and_r hG))); have hg4 : (0 : Int) ≤ (sourceR h (h.getD i default).ret) := of_decide_eq_true (and_l (and_r (and_l (and_r hG)))); have hg5 : ¬ ((sourceR h (h.getD k default).ret) = (-1 : Int)) := of_decide_eq_false (not_f (and_r (and_r (and_l (and_r hG))))); have hg6 : (0 : Int) ≤ (sourceR h (h.getD k default).ret) := of_decide_eq_true (and_r (and_r hG)); have h1 := source_lt h (h.getD i default).ret; have h2 := source_lt h (h.getD k default).ret; omega),(by have hg0 : (0 : Int) ≤ (sourceR h (h.getD i default).ret) := of_decide_eq_true (and_l (and_l hG)); have hg1 : (0 : Int) ≤ (sourceR h (h.getD i default).ret) := of_decide_eq_true (and_l (and_r (and_l hG))); have hg2 : ¬ ((sourceR h (h.getD k default).ret) = (-1 : Int)) := of_decide_eq_false (not_f (and_r (and_r (and_l hG)))); have hg3 : (0 : Int) ≤ (sourceR h (h.getD i default).ret) := of_decide_eq_true (and_l (and_l (and_r hG))); have hg4 : (0 : Int) ≤ (sourceR h (h.getD i default).ret) := of_decide_eq_true (and_l (and_r (and_l (and_r hG)))); have hg5 : ¬ ((sourceR h (h.getD k default).ret) = (-1 : Int)) := of_decide_eq_false (not_f (and_r (and_r (and_l (and_r hG))))); have hg6 : (0 : Int) ≤ (sourceR h (h.getD k default).ret) := of_decide_eq_true (and_r (and_r hG)); have h1 := source_lt h (h.getD i default).ret; have h2 := source_lt h (h.getD k default).ret; omega)⟩),(fun hG => ⟨hG,tt⟩),(fun hG => ⟨tt,⟨⟨hG,tt⟩,⟨hG,tt⟩,tt⟩,tt⟩),(fun hG => ⟨⟨hG,hG,tt⟩,(fun hp => ⟨(and_t hG (and_t hG hp)),tt⟩),(fun _ => trivial)⟩),(fun hG => ⟨⟨hG,hG,tt⟩,(fun _ => trivial),(fun hp => ⟨(and_t hG (and_t hG (not_t hp))),tt⟩)⟩),⟨tt,(fun hp => ⟨hp,tt⟩),(fun _ => trivial)⟩,tt⟩ ?_
      refine W.if' ((decide ((0 : Int) ≤ (sourceR h (h.getD i default).ret))) && ((decide ((sourceR h (h.getD k default).ret) = (-1 : Int))) || ((decide ((0 : Int) ≤ (sourceR h (h.getD k default).ret))) && (isBefore (h.getD (Int.toNat (sourceR h (h.getD k default).ret)) default) (h.getD (Int.toNat (sourceR h (h.getD i default).ret)) default))))) (.b ((decide ((0 : Int) ≤ (sourceR h (h.getD i default).ret))) && ((decide ((sourceR h (h.getD k default).ret) = (-1 : Int))) || ((decide ((0 : Int) ≤ (sourceR h (h.getD k default).ret))) && (isBefore (h.getD (Int.toNat (sourceR h (h.getD k default).ret)) default) (h.getD (Int.toNat (sourceR h (h.getD i default).ret)) default)))))) (by kernel_rfl) rfl trivial ?_ ?_
      ·intro h65
       have h65_0 : (0 : Int) ≤ (sourceR h (h.getD i default).ret) := of_decide_eq_true (and_l h65)
       refine Kk cok tab16 hnt [] [2,3,4] (⟨[(2,.i ((i : Nat) : Int)),(3,.i ((k : Nat) : Int)),(4,.b true)],[(6,⟨35,.fix [.i ((h.getD i default).proc),.i ((h.getD i default).obj),.i ((h.getD i default).kind),.i ((h.getD i default).arg),.i ((h.getD i default).ret),.i ((h.getD i default).frm),.i ((h.getD i default).to)]⟩),(8,⟨35,.fix [.i ((h.getD k default).proc),.i ((h.getD k default).obj),.i ((h.getD k default).kind),.i ((h.getD k default).arg),.i ((h.getD k default).ret),.i ((h.getD k default).frm),.i ((h.getD k default).to)]⟩)],[8,6,999]⟩)
        (True ∧ True ∧ True ∧ True ∧ True ∧ True)
        ⟨tt,tt,tt,tt,tt,tt⟩ ?_
       refine W.ret (blockQ_ret (thenQ_ret (thenQ_ret (blockQ_ret (blockQ_ret (thenQ_ret (thenQ_ret (blockQ_ret (thenQ_ret ?_)))))))))
       exact endQ_ret (.tup [.i ((i : Nat) : Int),.i ((k : Nat) : Int),.b true]) (by kernel_rfl) (@cast (((.int .i64 ((i : Nat) : Int) : Value) = .int .i64 ((turn h).1)) ∧ ((.int .i64 ((k : Nat) : Int) : Value) = .int .i64 ((turn h).2.1)) ∧ ((.bool true : Value) = .bool ((turn h).2.2)) ∧ True) _ (by kernel_rfl) ⟨(congrArg (Value.int .i64) (by rw [turn_some (i := i) (k := k) (by omega) (by omega) (turnP_impl2 n38 h65) hA hB])),(congrArg (Value.int .i64) (by rw [turn_some (i := i) (k := k) (by omega) (by omega) (turnP_impl2 n38 h65) hA hB])),(congrArg Value.bool (by rw [turn_some (i := i) (k := k) (by omega) (by omega) (turnP_impl2 n38 h65) hA hB])),tt⟩)
      ·intro n65
       refine W.skip (blockQ_normal (thenQ_normal ?_))
       refine Lk cok tab16 hnt [] (⟨[(0,.sl (.calls h)),(5,.i ((i : Nat) : Int)),(6,.ptr 6 0),(7,.i ((k : Nat) : Int)),(11,.sl (.calls h)),(12,.i (h.length : Int)),(13,.i ((i : Nat) : Int)),(18,.sl (.calls h)),(19,.i (h.length : Int)),(20,.i (((k + 1) : Nat) : Int)),(65,.b ((decide ((0 : Int) ≤ (sourceR h (h.getD i default).ret))) && ((decide ((sourceR h (h.getD k default).ret) = (-1 : Int))) || ((decide ((0 : Int) ≤ (sourceR h (h.getD k default).ret))) && (isBefore (h.getD (Int.toNat (sourceR h (h.getD k default).ret)) default) (h.getD (Int.toNat (sourceR h (h.getD i default).ret)) default)))))),(68,.i (((k + 1) : Nat) : Int))],[(6,⟨35,.fix [.i ((h.getD i default).proc),.i ((h.getD i default).obj),.i ((h.getD i default).kind),.i ((h.getD i default).arg),.i ((h.getD i default).ret),.i ((h.getD i default).frm),.i ((h.getD i default).to)]⟩),(8,⟨35,.fix [.i ((h.getD k default).proc),.i ((h.getD k default).obj),.i ((h.getD k default).kind),.i ((h.getD k default).arg),.i ((h.getD k default).ret),.i ((h.getD k default).frm),.i ((h.getD k default).to)]⟩)],[8,6,999]⟩)
        ((True ∧ True ∧ (Fits .i64 (((k + 1) : Nat) : Int))) ∧ True ∧ True)
        ⟨⟨tt,tt,(by exact fits_i64 (by omega) (by omega))⟩,tt,tt⟩ ?_
       refine thenQ_normal ?_
       refine ⟨((k + 1)),(show ((k + 1) ≤ h.length) ∧ (∀ j,j < (k + 1) → turnP h i j = false) from ⟨(by first | assumption | omega | rfl | (intro _ hjj; omega) | (simp; done) | (simp; omega)),(by first | exact upto_succ hB (turnP_impl h38) | exact upto_succ hB (turnP_impl2 n38 n65))⟩),(show h.length - (k + 1) < h.length - k from (by first | omega | (simp_all; omega))),?_⟩
       exact Sub.of [] (@cast (((Sd (.calls h)) ∧ (Si ((i : Nat) : Int)) ∧ (((6 : Nat) = 6) ∧ ((0 : Nat) = 0) ∧ ((6 : Nat) ∈ ([6,999] : List Nat))) ∧ (Sd (.calls h)) ∧ (Si (h.length : Int)) ∧ (Si ((i : Nat) : Int)) ∧ (Sd (.calls h)) ∧ (Si (h.length : Int)) ∧ (Si (((k + 1) : Nat) : Int)) ∧ True) ∧ ((((35 : Nat) = 35) ∧ ((Si ((h.getD i default).proc)) ∧ (Si ((h.getD i default).obj)) ∧ (Si ((h.getD i default).kind)) ∧ (Si ((h.getD i default).arg)) ∧ (Si ((h.getD i default).ret)) ∧ (Si ((h.getD i default).frm)) ∧ (Si ((h.getD i default).to)) ∧ True) ∧ ((6 : Nat) ∈ ([6,999] : List Nat))) ∧ True) ∧ (true = true) ∧ (true = true)) _ (by kernel_rfl) ⟨⟨rfl,rfl,⟨rfl,rfl,(by decide)⟩,rfl,rfl,rfl,rfl,rfl,rfl,tt⟩,⟨⟨rfl,⟨rfl,rfl,rfl,rfl,rfl,rfl,rfl,tt⟩,(by decide)⟩,tt⟩,rfl,rfl⟩)
    ·intro n21
     refine W.exit (thenQ_exit (thenQ_exit (blockQ_hit ?_)))
     refine blockQ_normal (thenQ_normal ?_)
     refine Lk cok tab16 hnt [] (⟨[(0,.sl (.calls h)),(5,.i ((i : Nat) : Int)),(6,.ptr 6 0),(11,.sl (.calls h)),(12,.i (h.length : Int)),(13,.i (((i + 1) : Nat) : Int)),(18,.sl (.calls h)),(19,.i (h.length : Int)),(20,.i ((k : Nat) : Int)),(21,.b (decide (((k : Nat) : Int) < (h.length : Int)))),(69,.i (((i + 1) : Nat) : Int))],[(6,⟨35,.fix [.i ((h.getD i default).proc),.i ((h.getD i default).obj),.i ((h.getD i default).kind),.i ((h.getD i default).arg),.i ((h.getD i default).ret),.i ((h.getD i default).frm),.i ((h.getD i default).to)]⟩)],[6,999]⟩)
      ((True ∧ True ∧ (Fits .i64 (((i + 1) : Nat) : Int))) ∧ True ∧ True)
      ⟨⟨tt,tt,(by exact fits_i64 (by omega) (by omega))⟩,tt,tt⟩ ?_
     refine thenQ_normal ?_
     refine ⟨((i + 1)),(show ((i + 1) ≤ h.length) ∧ (∀ j,j < (i + 1) → anyN h.length (turnP h j) = false) from ⟨(by first | assumption | omega | rfl | (intro _ hjj; omega) | (simp; done) | (simp; omega)),(by exact upto_succ hA (anyN_false (fun j hj => hB j (by omega))))⟩),(show h.length - (i + 1) < h.length - i from (by first | omega | (simp_all; omega))),?_⟩
     exact Sub.of [] (@cast (((Sd (.calls h)) ∧ (Sd (.calls h)) ∧ (Si (h.length : Int)) ∧ (Si (((i + 1) : Nat) : Int)) ∧ True) ∧ True ∧ (true = true) ∧ (true = true)) _ (by kernel_rfl) ⟨⟨rfl,rfl,rfl,rfl,tt⟩,tt,rfl,rfl⟩)
  ·intro n14
   refine W.exit (thenQ_exit (thenQ_exit (blockQ_hit ?_)))
   refine thenQ_normal ?_
   refine Kk cok tab16 hnt [] [2,3,4] (⟨[(2,.i (-1 : Int)),(3,.i (-1 : Int)),(4,.b false)],[],[999]⟩)
    (True ∧ True ∧ True ∧ True)
    ⟨tt,tt,tt,tt⟩ ?_
   refine W.ret ?_
   exact endQ_ret (.tup [.i (-1 : Int),.i (-1 : Int),.b false]) (by kernel_rfl) (@cast (((.int .i64 (-1 : Int) : Value) = .int .i64 ((turn h).1)) ∧ ((.int .i64 (-1 : Int) : Value) = .int .i64 ((turn h).2.1)) ∧ ((.bool false : Value) = .bool ((turn h).2.2)) ∧ True) _ (by kernel_rfl) ⟨(congrArg (Value.int .i64) (by rw [turn_none (fun j hj => hA j (by omega))])),(congrArg (Value.int .i64) (by rw [turn_none (fun j hj => hA j (by omega))])),(congrArg Value.bool (by rw [turn_none (fun j hj => hA j (by omega))])),tt⟩)
theorem ent16 : Entr prog 16 := ⟨_,func16,rfl,by decide⟩
end Go.Proofs.Try

set_option linter.unusedSimpArgs false
set_option linter.unusedVariables false
namespace Go.Proofs.Try
open Go.Ab Go.RowKit
def fs5 : FnS := fnS [.o,.s .calls] [.str,.calls] (fun _ (pr,h,_) => (.b (keepsRegister pr h),[],True))
abbrev T5 : Tab := lk [(7,fs7),(12,fs12),(13,fs13),(14,fs14),(15,fs15),(16,fs16)]
theorem tab5 : TabOK prog T5 := (TabOK.cons ok7 ent7 (TabOK.cons ok12 ent12 (TabOK.cons ok13 ent13 (TabOK.cons ok14 ent14 (TabOK.cons ok15 ent15 (TabOK.cons ok16 ent16 TabOK.nil))))))
set_option maxRecDepth 100000 in
set_option maxHeartbeats 1000000 in
theorem ok5 : FnOK prog 5 fs5 := by
 refine FnOK.mk cok func5 rfl rfl rfl ?_
 rintro fl ⟨(pr : ByteArray),(h : List CallD),_⟩ hpre F hnt0 _
 have hnt : F.nt = 78 := hnt0.trans ntmps5
 clear hpre
 refine W.to (⟨[(0,.v (.string pr)),(1,.sl (.calls h))],[],[999]⟩) rfl ?_
 refine W.lenOf 1 (.calls h) (by kernel_rfl) ?_
 intro hl_h; replace hl_h : List.length h ≤ 9223372036854775807 := hl_h
 refine Kk cok tab5 hnt [] [0,1] (⟨[(0,.v (.string pr)),(1,.sl (.calls h))],[],[999]⟩)
  (True ∧ True)
  ⟨tt,tt⟩ ?_
 refine W.seq ?_
 refine Kk cok tab5 hnt [] [0,1,26] (⟨[(0,.v (.string pr)),(1,.sl (.calls h)),(26,.b ((!(oneWriter h)) || (((!(eqS pr nSafe)) && (!(eqS pr nRegular))) && (!(eqS pr nAtomic)))))],[],[999]⟩)
  ((fun (Z1:Bool)=>((fun (Z2:Bool)=>((fun (Z3:Bool)=>((fun (Z4:Bool)=>((fun (Z5:Bool)=>(True ∧ ((True ∧ ((True ∧ True) ∧ True)) ∧ (True ∧ (True ∧ (((!Z1) = true → True) ∧ (((!Z1) = true → ((((!Z1) = true) ∧ True) ∧ (True ∧ True))) ∧ (((!Z1) = true → True) ∧ ((Z3 = true → True) ∧ ((Z3 = true → (((Z3 = true) ∧ True) ∧ (True ∧ True))) ∧ (((!Z1) = true → ((((!Z1) = true) ∧ (((!Z1) = true) ∧ True)) ∧ ((Z2 = true → (Z3 = true) ∧ True) ∧ (Z2 = false → True)))) ∧ (((!Z1) = true → True) ∧ ((Z5 = true → True) ∧ ((Z5 = true → (((Z5 = true) ∧ True) ∧ (True ∧ True))) ∧ (((!Z1) = true → ((((!Z1) = true) ∧ (((!Z1) = true) ∧ True)) ∧ ((Z4 = true → (Z5 = true) ∧ True) ∧ (Z4 = false → True)))) ∧ ((True ∧ ((Z1 = true → True) ∧ (Z1 = false → ((!Z1) = true) ∧ True))) ∧ True)))))))))))))))) ((!Z1) && ((!Z1) && Z4)))) (Z2 && (!(eqS pr nRegular))))) ((!Z1) && ((!Z1) && Z2)))) (!(eqS pr nSafe)))) (!(oneWriter h)))
  ⟨tt,⟨tt,⟨tt,tt⟩,tt⟩,tt,tt,(fun _ => trivial),(fun hG => ⟨⟨hG,tt⟩,tt,tt⟩),(fun _ => trivial),(fun _ => trivial),(fun hG => ⟨⟨hG,tt⟩,tt,tt⟩),(fun hG => ⟨⟨hG,hG,tt⟩,(fun hp => ⟨(and_t hG (and_t hG hp)),tt⟩),(fun _ => trivial)⟩),(fun _ => trivial),(fun _ => trivial),(fun hG => ⟨⟨hG,tt⟩,tt,tt⟩),(fun hG => ⟨⟨hG,hG,tt⟩,(fun hp => ⟨(and_t hG (and_t hG hp)),tt⟩),(fun _ => trivial)⟩),⟨tt,(fun _ => trivial),(fun hp => ⟨(not_t hp),tt⟩)⟩,tt⟩ ?_
 refine W.if' ((!(oneWriter h)) || (((!(eqS pr nSafe)) && (!(eqS pr nRegular))) && (!(eqS pr nAtomic)))) (.b ((!(oneWriter h)) || (((!(eqS pr nSafe)) && (!(eqS pr nRegular))) && (!(eqS pr nAtomic))))) (by kernel_rfl) rfl trivial ?_ ?_
 ·intro h26
  refine Kk cok tab5 hnt [] [4] (⟨[(4,.b false)],[],[999]⟩)
   (True ∧ True)
   ⟨tt,tt⟩ ?_
  refine W.ret (thenQ_ret ?_)
  exact endQ_ret (.b false) (by kernel_rfl) (@cast ((.bool false : Value) = .bool (keepsRegister pr h)) _ (by kernel_rfl) (congrArg Value.bool (by exact (keeps_0 h26).symm)))
 ·intro n26
  refine W.skip (thenQ_normal ?_)
  refine W.seq ?_
  refine Kk cok tab5 hnt [] [0,1,27,28,29] (⟨[(0,.v (.string pr)),(1,.sl (.calls h)),(27,.sl (.calls h)),(28,.i (h.length : Int)),(29,.i (0 : Int))],[],[999]⟩)
   (True ∧ True ∧ True ∧ True)
   ⟨tt,tt,tt,tt⟩ ?_
  refine W.block ?_
  refine W.loop (ι := Nat) (fun (i : Nat) => (⟨[(0,.v (.string pr)),(1,.sl (.calls h)),(27,.sl (.calls h)),(28,.i (h.length : Int)),(29,.i ((i : Nat) : Int))],[],[999]⟩ : St))
   (fun (i : Nat) => (i ≤ h.length) ∧ (∀ j,j < i → (decide ((callAt h j).kind ≠ 2) || keepOne h pr (callAt h j)) = true))
   (fun (i : Nat) => (h.length - i : Nat)) (0) ?_ ?_ ?_
  ·exact (show (0 ≤ h.length) ∧ (∀ j,j < 0 → (decide ((callAt h j).kind ≠ 2) || keepOne h pr (callAt h j)) = true) from ⟨(by first | assumption | omega | rfl | (intro _ hjj; omega) | (simp; done) | (simp; omega)),(by exact upto_zero)⟩)
  ·exact Sub.of [] (@cast (((((.string pr) : Value) = (.string pr)) ∧ (Sd (.calls h)) ∧ (Sd (.calls h)) ∧ (Si (h.length : Int)) ∧ ((.int .i64 (0 : Int) : Value) = .int .i64 ((0 : Nat) : Int)) ∧ True) ∧ True ∧ (true = true) ∧ (true = true)) _ (by kernel_rfl) ⟨⟨rfl,rfl,rfl,rfl,(congrArg (Value.int .i64) (by first | rfl | omega | assumption | simp | simp_all)),tt⟩,tt,rfl,rfl⟩)
  ·rintro i hC0
   have hC : (i ≤ h.length) ∧ (∀ j,j < i → (decide ((callAt h j).kind ≠ 2) || keepOne h pr (callAt h j)) = true) := hC0
   clear hC0
   obtain ⟨hi,hA⟩ := hC
   refine W.to (⟨[(0,.v (.string pr)),(1,.sl (.calls h)),(27,.sl (.calls h)),(28,.i (h.length : Int)),(29,.i ((i : Nat) : Int))],[],[999]⟩) rfl ?_
   refine Kk cok tab5 hnt [] [0,1,27,28,29,30] (⟨[(0,.v (.string pr)),(1,.sl (.calls h)),(27,.sl (.calls h)),(28,.i (h.length : Int)),(29,.i ((i : Nat) : Int)),(30,.b (decide (((i : Nat) : Int) < (h.length : Int))))],[],[999]⟩)
    ((True ∧ True ∧ True) ∧ True)
    ⟨⟨tt,tt,tt⟩,tt⟩ ?_
   refine W.seq ?_
   refine W.ifP (((i : Nat) : Int) < (h.length : Int)) (.b (decide (((i : Nat) : Int) < (h.length : Int)))) (by kernel_rfl) rfl trivial ?_ ?_
   ·intro h30
    refine W.skip (thenQ_normal ?_)
    refine W.seq ?_
    refine W.block ?_
    refine Kk cok tab5 hnt [] [0,1,6,27,28,29] (⟨[(0,.v (.string pr)),(1,.sl (.calls h)),(6,.ptr 6 0),(27,.sl (.calls h)),(28,.i (h.length : Int)),(29,.i ((i : Nat) : Int))],[(6,⟨35,.fix [.i ((h.getD i default).proc),.i ((h.getD i default).obj),.i ((h.getD i default).kind),.i ((h.getD i default).arg),.i ((h.getD i default).ret),.i ((h.getD i default).frm),.i ((h.getD i default).to)]⟩)],[6,999]⟩)
     ((True ∧ True ∧ (0 ≤ ((i : Nat) : Int)) ∧ (((i : Nat) : Int) < (h.length : Int))) ∧ True ∧ True ∧ (True ∧ True) ∧ True)
     ⟨⟨tt,tt,(by omega),(by omega)⟩,tt,tt,⟨tt,tt⟩,tt⟩ ?_
    refine W.seq ?_
    refine Kk cok tab5 hnt [] [0,1,6,27,28,29,35] (⟨[(0,.v (.string pr)),(1,.sl (.calls h)),(6,.ptr 6 0),(27,.sl (.calls h)),(28,.i (h.length : Int)),(29,.i ((i : Nat) : Int)),(35,.b (decide (((h.getD i default).kind) ≠ (2 : Int))))],[(6,⟨35,.fix [.i ((h.getD i default).proc),.i ((h.getD i default).obj),.i ((h.getD i default).kind),.i ((h.getD i default).arg),.i ((h.getD i default).ret),.i ((h.getD i default).frm),.i ((h.getD i default).to)]⟩)],[6,999]⟩)
     (True ∧ True ∧ (True ∧ True ∧ True) ∧ True)
     ⟨tt,tt,⟨tt,tt,tt⟩,tt⟩ ?_
    refine W.ifP (((h.getD i default).kind) ≠ (2 : Int)) (.b (decide (((h.getD i default).kind) ≠ (2 : Int)))) (by kernel_rfl) rfl trivial ?_ ?_
    ·intro h35
     refine W.exit (thenQ_exit (blockQ_hit ?_))
     refine thenQ_normal ?_
     refine Lk cok tab5 hnt [] (⟨[(0,.v (.string pr)),(1,.sl (.calls h)),(6,.ptr 6 0),(27,.sl (.calls h)),(28,.i (h.length : Int)),(29,.i (((i + 1) : Nat) : Int)),(35,.b (decide (((h.getD i default).kind) ≠ (2 : Int)))),(67,.i (((i + 1) : Nat) : Int))],[(6,⟨35,.fix [.i ((h.getD i default).proc),.i ((h.getD i default).obj),.i ((h.getD i default).kind),.i ((h.getD i default).arg),.i ((h.getD i default).ret),.i ((h.getD i default).frm),.i ((h.getD i default).to)]⟩)],[6,999]⟩)
      ((True ∧ True ∧ (Fits .i64 (((i + 1) : Nat) : Int))) ∧ True ∧ True)
      ⟨⟨tt,tt,(by exact fits_i64 (by omega) (by omega))⟩,tt,tt⟩ ?_
     refine thenQ_normal ?_
     refine ⟨((i + 1)),(show ((i + 1) ≤ h.length) ∧ (∀ j,j < (i + 1) → (decide ((callAt h j).kind ≠ 2) || keepOne h pr (callAt h j)) = true) from ⟨(by first | assumption | omega | rfl | (intro _ hjj; omega) | (simp; done) | (simp; omega)),(by first | exact upto_succ hA (or_tl (decide_eq_true h35)) | exact upto_succ hA (or_tr (keep_1 h45 (not_g n66))) | exact upto_succ hA (or_tr (keep_2 n45 (not_g n66))))⟩),(show h.length - (i + 1) < h.length - i from (by first | omega | (simp_all; omega))),?_⟩
     exact Sub.of [] (@cast (((((.string pr) : Value) = (.string pr)) ∧ (Sd (.calls h)) ∧ (Sd (.calls h)) ∧ (Si (h.length : Int)) ∧ (Si (((i + 1) : Nat) : Int)) ∧ True) ∧ True ∧ (true = true) ∧ (true = true)) _ (by kernel_rfl) ⟨⟨rfl,rfl,rfl,rfl,rfl,tt⟩,tt,rfl,rfl⟩)
    ·intro n35
     refine W.skip (thenQ_normal ?_)
     refine Kk cok tab5 hnt [] [0,1,6,7,27,28,29] (⟨[(0,.v (.string pr)),(1,.sl (.calls h)),(6,.ptr 6 0),(7,.i (sourceR h (h.getD i default).ret)),(27,.sl (.calls h)),(28,.i (h.length : Int)),(29,.i ((i : Nat) : Int))],[(6,⟨35,.fix [.i ((h.getD i default).proc),.i ((h.getD i default).obj),.i ((h.getD i default).kind),.i ((h.getD i default).arg),.i ((h.getD i default).ret),.i ((h.getD i default).frm),.i ((h.getD i default).to)]⟩)],[6,999]⟩)
      (True ∧ True ∧ (True ∧ (True ∧ True ∧ True) ∧ True) ∧ True ∧ True)
      ⟨tt,tt,⟨tt,⟨tt,tt,tt⟩,tt⟩,tt,tt⟩ ?_
     refine Kk cok tab5 hnt [] [0,1,6,7,8,27,28,29] (⟨[(0,.v (.string pr)),(1,.sl (.calls h)),(6,.ptr 6 0),(7,.i (sourceR h (h.getD i default).ret)),(8,.b (decide ((sourceR h (h.getD i default).ret) = (lastBefore h (h.getD i default))))),(27,.sl (.calls h)),(28,.i (h.length : Int)),(29,.i ((i : Nat) : Int))],[(6,⟨35,.fix [.i ((h.getD i default).proc),.i ((h.getD i default).obj),.i ((h.getD i default).kind),.i ((h.getD i default).arg),.i ((h.getD i default).ret),.i ((h.getD i default).frm),.i ((h.getD i default).to)]⟩)],[6,999]⟩)
      (True ∧ True ∧ True ∧ (True ∧ (True ∧ True ∧ True) ∧ True) ∧ (True ∧ True ∧ True) ∧ True ∧ True)
      ⟨tt,tt,tt,⟨tt,⟨tt,tt,tt⟩,tt⟩,⟨tt,tt,tt⟩,tt,tt⟩ ?_
     refine W.seq ?_
     refine Kk cok tab5 hnt [] [0,1,6,7,8,27,28,29,45] (⟨[(0,.v (.string pr)),(1,.sl (.calls h)),(6,.ptr 6 0),(7,.i (sourceR h (h.getD i default).ret)),(8,.b (decide ((sourceR h (h.getD i default).ret) = (lastBefore h (h.getD i default))))),(27,.sl (.calls h)),(28,.i (h.length : Int)),(29,.i ((i : Nat) : Int)),(45,.b (eqS pr nSafe))],[(6,⟨35,.fix [.i ((h.getD i default).proc),.i ((h.getD i default).obj),.i ((h.getD i default).kind),.i ((h.getD i default).arg),.i ((h.getD i default).ret),.i ((h.getD i default).frm),.i ((h.getD i default).to)]⟩)],[6,999]⟩)
      (True ∧ (True ∧ True ∧ True) ∧ True)
      ⟨tt,⟨tt,tt,tt⟩,tt⟩ ?_
     refine W.if' (eqS pr nSafe) (.b (eqS pr nSafe)) (by kernel_rfl) rfl trivial ?_ ?_
     ·intro h45
      refine Lk cok tab5 hnt [] ((fun (Z1:Bool)=>((fun (Z2:Bool)=>(⟨[(0,.v (.string pr)),(1,.sl (.calls h)),(6,.ptr 6 0),(7,.i (sourceR h (h.getD i default).ret)),(8,.b (Z2 || Z1)),(27,.sl (.calls h)),(28,.i (h.length : Int)),(29,.i ((i : Nat) : Int)),(45,.b (eqS pr nSafe)),(46,.b Z2),(47,.b Z2),(48,.g (!Z2) (.sl (.calls h))),(49,.g (!Z2) (.agg [.i ((h.getD i default).proc),.i ((h.getD i default).obj),.i ((h.getD i default).kind),.i ((h.getD i default).arg),.i ((h.getD i default).ret),.i ((h.getD i default).frm),.i ((h.getD i default).to)])),(50,.g (!Z2) (.b Z1)),(51,.b (Z2 || Z1))],[(6,⟨35,.fix [.i ((h.getD i default).proc),.i ((h.getD i default).obj),.i ((h.getD i default).kind),.i ((h.getD i default).arg),.i ((h.getD i default).ret),.i ((h.getD i default).frm),.i ((h.getD i default).to)]⟩)],[6,999]⟩:St)) (decide ((sourceR h (h.getD i default).ret) = (lastBefore h (h.getD i default)))))) (overlapsPut h (h.getD i default)))
       ((fun (Z1:Bool)=>(True ∧ (True ∧ (((!Z1) = true → True) ∧ (((!Z1) = true → True) ∧ (((!Z1) = true → (True ∧ (((((!Z1) = true) ∧ True) ∧ ((((!Z1) = true) ∧ True) ∧ True)) ∧ True))) ∧ ((True ∧ ((Z1 = true → True) ∧ (Z1 = false → ((!Z1) = true) ∧ True))) ∧ (True ∧ True)))))))) (decide ((sourceR h (h.getD i default).ret) = (lastBefore h (h.getD i default)))))
       ⟨tt,tt,(fun _ => trivial),(fun _ => trivial),(fun hG => ⟨tt,⟨⟨hG,tt⟩,⟨hG,tt⟩,tt⟩,tt⟩),⟨tt,(fun _ => trivial),(fun hp => ⟨(not_t hp),tt⟩)⟩,tt,tt⟩ ?_
      refine thenQ_normal ?_
      refine Kk cok tab5 hnt [] [0,1,27,28,29,66] (⟨[(0,.v (.string pr)),(1,.sl (.calls h)),(27,.sl (.calls h)),(28,.i (h.length : Int)),(29,.i ((i : Nat) : Int)),(66,.b (!((decide ((sourceR h (h.getD i default).ret) = (lastBefore h (h.getD i default)))) || (overlapsPut h (h.getD i default)))))],[(6,⟨35,.fix [.i ((h.getD i default).proc),.i ((h.getD i default).obj),.i ((h.getD i default).kind),.i ((h.getD i default).arg),.i ((h.getD i default).ret),.i ((h.getD i default).frm),.i ((h.getD i default).to)]⟩)],[6,999]⟩)
       (True ∧ True ∧ True)
       ⟨tt,tt,tt⟩ ?_
      refine W.if' (!((decide ((sourceR h (h.getD i default).ret) = (lastBefore h (h.getD i default)))) || (overlapsPut h (h.getD i default)))) (.b (!((decide ((sourceR h (h.getD i default).ret) = (lastBefore h (h.getD i default)))) || (overlapsPut h (h.getD i default))))) (by kernel_rfl) rfl trivial ?_ ?_
      ·intro h66
       have h66_0 : ¬ ((sourceR h (h.getD i default).ret) = (lastBefore h (h.getD i default))) := of_decide_eq_false (or_l (not_f h66))
       refine Kk cok tab5 hnt [] [4] (⟨[(4,.b false)],[(6,⟨35,.fix [.i ((h.getD i default).proc),.i ((h.getD i default).obj),.i ((h.getD i default).kind),.i ((h.getD i default).arg),.i ((h.getD i default).ret),.i ((h.getD i default).frm),.i ((h.getD i default).to)]⟩)],[6,999]⟩)
        (True ∧ True)
        ⟨tt,tt⟩ ?_
       refine W.ret (blockQ_ret (thenQ_ret (thenQ_ret (blockQ_ret (thenQ_ret ?_)))))
       exact endQ_ret (.b false) (by kernel_rfl) (@cast ((.bool false : Value) = .bool (keepsRegister pr h)) _ (by kernel_rfl) (congrArg Value.bool (by first | exact (keeps_1 (i := i) (by omega) n35 (keep_1 h45 (not_f h66))).symm | exact (keeps_1 (i := i) (by omega) n35 (keep_2 n45 (not_f h66))).symm)))
      ·intro n66
       refine W.skip (blockQ_normal (thenQ_normal ?_))
       refine Lk cok tab5 hnt [] (⟨[(0,.v (.string pr)),(1,.sl (.calls h)),(27,.sl (.calls h)),(28,.i (h.length : Int)),(29,.i (((i + 1) : Nat) : Int)),(66,.b (!((decide ((sourceR h (h.getD i default).ret) = (lastBefore h (h.getD i default)))) || (overlapsPut h (h.getD i default))))),(67,.i (((i + 1) : Nat) : Int))],[(6,⟨35,.fix [.i ((h.getD i default).proc),.i ((h.getD i default).obj),.i ((h.getD i default).kind),.i ((h.getD i default).arg),.i ((h.getD i default).ret),.i ((h.getD i default).frm),.i ((h.getD i default).to)]⟩)],[6,999]⟩)
        ((True ∧ True ∧ (Fits .i64 (((i + 1) : Nat) : Int))) ∧ True ∧ True)
        ⟨⟨tt,tt,(by exact fits_i64 (by omega) (by omega))⟩,tt,tt⟩ ?_
       refine thenQ_normal ?_
       refine ⟨((i + 1)),(show ((i + 1) ≤ h.length) ∧ (∀ j,j < (i + 1) → (decide ((callAt h j).kind ≠ 2) || keepOne h pr (callAt h j)) = true) from ⟨(by first | assumption | omega | rfl | (intro _ hjj; omega) | (simp; done) | (simp; omega)),(by first | exact upto_succ hA (or_tl (decide_eq_true h35)) | exact upto_succ hA (or_tr (keep_1 h45 (not_g n66))) | exact upto_succ hA (or_tr (keep_2 n45 (not_g n66))))⟩),(show h.length - (i + 1) < h.length - i from (by first | omega | (simp_all; omega))),?_⟩
       exact Sub.of [] (@cast (((((.string pr) : Value) = (.string pr)) ∧ (Sd (.calls h)) ∧ (Sd (.calls h)) ∧ (Si (h.length : Int)) ∧ (Si (((i + 1) : Nat) : Int)) ∧ True) ∧ True ∧ (true = true) ∧ (true = true)) _ (by kernel_rfl) ⟨⟨rfl,rfl,rfl,rfl,rfl,tt⟩,tt,rfl,rfl⟩)
     ·intro n45
      refine W.LA cok tab5 hnt [] ((fun (Z1:Bool)=>((fun (Z2:Bool)=>((fun (Z3:Bool)=>((fun (Z4:Bool)=>(⟨[(0,.v (.string pr)),(1,.sl (.calls h)),(6,.ptr 6 0),(7,.i (sourceR h (h.getD i default).ret)),(8,.b (Z2 || (Z1 && Z4))),(27,.sl (.calls h)),(28,.i (h.length : Int)),(29,.i ((i : Nat) : Int)),(45,.b (eqS pr nSafe)),(52,.b Z2),(53,.b Z2),(54,.g (!Z2) (.i (sourceR h (h.getD i default).ret))),(55,.g (!Z2) (.b Z1)),(56,.g (!Z2) (.g (!Z2) (.b Z1))),(57,.g Z3 (.sl (.calls h))),(58,.g Z3 (.i (sourceR h (h.getD i default).ret))),(59,.g Z3 (.ep [.i ((h.getD (Int.toNat (sourceR h (h.getD i default).ret)) default).proc),.i ((h.getD (Int.toNat (sourceR h (h.getD i default).ret)) default).obj),.i ((h.getD (Int.toNat (sourceR h (h.getD i default).ret)) default).kind),.i ((h.getD (Int.toNat (sourceR h (h.getD i default).ret)) default).arg),.i ((h.getD (Int.toNat (sourceR h (h.getD i default).ret)) default).ret),.i ((h.getD (Int.toNat (sourceR h (h.getD i default).ret)) default).frm),.i ((h.getD (Int.toNat (sourceR h (h.getD i default).ret)) default).to)])),(60,.g Z3 (.agg [.i ((h.getD (Int.toNat (sourceR h (h.getD i default).ret)) default).proc),.i ((h.getD (Int.toNat (sourceR h (h.getD i default).ret)) default).obj),.i ((h.getD (Int.toNat (sourceR h (h.getD i default).ret)) default).kind),.i ((h.getD (Int.toNat (sourceR h (h.getD i default).ret)) default).arg),.i ((h.getD (Int.toNat (sourceR h (h.getD i default).ret)) default).ret),.i ((h.getD (Int.toNat (sourceR h (h.getD i default).ret)) default).frm),.i ((h.getD (Int.toNat (sourceR h (h.getD i default).ret)) default).to)])),(61,.g Z3 (.agg [.i ((h.getD i default).proc),.i ((h.getD i default).obj),.i ((h.getD i default).kind),.i ((h.getD i default).arg),.i ((h.getD i default).ret),.i ((h.getD i default).frm),.i ((h.getD i default).to)])),(62,.g Z3 (.b Z4)),(63,.g (!Z2) (.b (Z1 && Z4))),(64,.b (Z2 || (Z1 && Z4)))],[(6,⟨35,.fix [.i ((h.getD i default).proc),.i ((h.getD i default).obj),.i ((h.getD i default).kind),.i ((h.getD i default).arg),.i ((h.getD i default).ret),.i ((h.getD i default).frm),.i ((h.getD i default).to)]⟩)],[6,999]⟩:St)) (doOverlap (h.getD (Int.toNat (sourceR h (h.getD i default).ret)) default) (h.getD i default)))) ((!Z2) && ((!Z2) && Z1)))) (decide ((sourceR h (h.getD i default).ret) = (lastBefore h (h.getD i default)))))) (decide ((0 : Int) ≤ (sourceR h (h.getD i default).ret))))
       ((fun (Z1:Bool)=>((fun (Z2:Bool)=>((fun (Z3:Bool)=>((fun (Z4:Bool)=>(True ∧ (True ∧ ((Z3 = true → True) ∧ ((Z3 = true → (((Z3 = true) ∧ True) ∧ (True ∧ True))) ∧ ((Z3 = true → True) ∧ ((Z4 = true → True) ∧ ((Z4 = true → True) ∧ ((Z4 = true → (((Z4 = true) ∧ True) ∧ (((Z4 = true) ∧ True) ∧ ((0 ≤ (sourceR h (h.getD i default).ret)) ∧ ((sourceR h (h.getD i default).ret) < (h.length : Int)))))) ∧ ((Z4 = true → ((Z4 = true) ∧ True)) ∧ ((Z4 = true → True) ∧ ((Z4 = true → (True ∧ ((((Z4 = true) ∧ True) ∧ (((Z4 = true) ∧ True) ∧ True)) ∧ True))) ∧ ((Z3 = true → (((Z3 = true) ∧ ((Z3 = true) ∧ True)) ∧ ((Z1 = true → (Z4 = true) ∧ True) ∧ (Z1 = false → True)))) ∧ ((True ∧ ((Z2 = true → True) ∧ (Z2 = false → (Z3 = true) ∧ True))) ∧ (True ∧ True))))))))))))))) (Z3 && (Z3 && Z1)))) (!Z2))) (decide ((sourceR h (h.getD i default).ret) = (lastBefore h (h.getD i default)))))) (decide ((0 : Int) ≤ (sourceR h (h.getD i default).ret)))) (by kernel_rfl) (by kernel_rfl)
       ⟨tt,tt,(fun _ => trivial),(fun hG => ⟨⟨hG,tt⟩,tt,tt⟩),(fun _ => trivial),(fun _ => trivial),(fun _ => trivial),(fun hG => ⟨⟨hG,tt⟩,⟨hG,tt⟩,(by have hg0 : ¬ ((sourceR h (h.getD i default).ret) = (lastBefore h (h.getD i default))) := of_decide_eq_false (not_f (and_l hG)); have hg1 : ¬ ((sourceR h (h.getD i default).ret) = (lastBefore h (h.getD i default))) := of_decide_eq_false (not_f (and_l (and_r hG))); have hg2 : (0 : Int) ≤ (sourceR h (h.getD i default).ret) := of_decide_eq_true (and_r (and_r hG)); have h1 := source_lt h (h.getD i default).ret; omega),(by have hg0 : ¬ ((sourceR h (h.getD i default).ret) = (lastBefore h (h.getD i default))) := of_decide_eq_false (not_f (and_l hG)); have hg1 : ¬ ((sourceR h (h.getD i default).ret) = (lastBefore h (h.getD i default))) := of_decide_eq_false (not_f (and_l (and_r hG))); have hg2 : (0 : Int) ≤ (sourceR h (h.getD i default).ret) := of_decide_eq_true (and_r (and_r hG)); have h1 := source_lt h (h.getD i default).ret; omega)⟩),(fun hG => ⟨hG,tt⟩),(fun _ => trivial),(fun hG => ⟨tt,⟨⟨hG,tt⟩,⟨hG,tt⟩,tt⟩,tt⟩),(fun hG => ⟨⟨hG,hG,tt⟩,(fun hp => ⟨(and_t hG (and_t hG hp)),tt⟩),(fun _ => trivial)⟩),⟨tt,(fun _ => trivial),(fun hp => ⟨(not_t hp),tt⟩)⟩,tt,tt⟩ ?_
      refine thenQ_normal ?_
      refine Kk cok tab5 hnt [] [0,1,27,28,29,66] (⟨[(0,.v (.string pr)),(1,.sl (.calls h)),(27,.sl (.calls h)),(28,.i (h.length : Int)),(29,.i ((i : Nat) : Int)),(66,.b (!((decide ((sourceR h (h.getD i default).ret) = (lastBefore h (h.getD i default)))) || ((decide ((0 : Int) ≤ (sourceR h (h.getD i default).ret))) && (doOverlap (h.getD (Int.toNat (sourceR h (h.getD i default).ret)) default) (h.getD i default))))))],[(6,⟨35,.fix [.i ((h.getD i default).proc),.i ((h.getD i default).obj),.i ((h.getD i default).kind),.i ((h.getD i default).arg),.i ((h.getD i default).ret),.i ((h.getD i default).frm),.i ((h.getD i default).to)]⟩)],[6,999]⟩)
       (True ∧ True ∧ True)
       ⟨tt,tt,tt⟩ ?_
      refine W.if' (!((decide ((sourceR h (h.getD i default).ret) = (lastBefore h (h.getD i default)))) || ((decide ((0 : Int) ≤ (sourceR h (h.getD i default).ret))) && (doOverlap (h.getD (Int.toNat (sourceR h (h.getD i default).ret)) default) (h.getD i default))))) (.b (!((decide ((sourceR h (h.getD i default).ret) = (lastBefore h (h.getD i default)))) || ((decide ((0 : Int) ≤ (sourceR h (h.getD i default).ret))) && (doOverlap (h.getD (Int.toNat (sourceR h (h.getD i default).ret)) default) (h.getD i default)))))) (by kernel_rfl) rfl trivial ?_ ?_
      ·intro h66
       have h66_0 : ¬ ((sourceR h (h.getD i default).ret) = (lastBefore h (h.getD i default))) := of_decide_eq_false (or_l (not_f h66))
       refine Kk cok tab5 hnt [] [4] (⟨[(4,.b false)],[(6,⟨35,.fix [.i ((h.getD i default).proc),.i ((h.getD i default).obj),.i ((h.getD i default).kind),.i ((h.getD i default).arg),.i ((h.getD i default).ret),.i ((h.getD i default).frm),.i ((h.getD i default).to)]⟩)],[6,999]⟩)
        (True ∧ True)
        ⟨tt,tt⟩ ?_
       refine W.ret (blockQ_ret (thenQ_ret (thenQ_ret (blockQ_ret (thenQ_ret ?_)))))
       exact endQ_ret (.b false) (by kernel_rfl) (@cast ((.bool false : Value) = .bool (keepsRegister pr h)) _ (by kernel_rfl) (congrArg Value.bool (by first | exact (keeps_1 (i := i) (by omega) n35 (keep_1 h45 (not_f h66))).symm | exact (keeps_1 (i := i) (by omega) n35 (keep_2 n45 (not_f h66))).symm)))
      ·intro n66
       refine W.skip (blockQ_normal (thenQ_normal ?_))
       refine Lk cok tab5 hnt [] (⟨[(0,.v (.string pr)),(1,.sl (.calls h)),(27,.sl (.calls h)),(28,.i (h.length : Int)),(29,.i (((i + 1) : Nat) : Int)),(66,.b (!((decide ((sourceR h (h.getD i default).ret) = (lastBefore h (h.getD i default)))) || ((decide ((0 : Int) ≤ (sourceR h (h.getD i default).ret))) && (doOverlap (h.getD (Int.toNat (sourceR h (h.getD i default).ret)) default) (h.getD i default)))))),(67,.i (((i + 1) : Nat) : Int))],[(6,⟨35,.fix [.i ((h.getD i default).proc),.i ((h.getD i default).obj),.i ((h.getD i default).kind),.i ((h.getD i default).arg),.i ((h.getD i default).ret),.i ((h.getD i default).frm),.i ((h.getD i default).to)]⟩)],[6,999]⟩)
        ((True ∧ True ∧ (Fits .i64 (((i + 1) : Nat) : Int))) ∧ True ∧ True)
        ⟨⟨tt,tt,(by exact fits_i64 (by omega) (by omega))⟩,tt,tt⟩ ?_
       refine thenQ_normal ?_
       refine ⟨((i + 1)),(show ((i + 1) ≤ h.length) ∧ (∀ j,j < (i + 1) → (decide ((callAt h j).kind ≠ 2) || keepOne h pr (callAt h j)) = true) from ⟨(by first | assumption | omega | rfl | (intro _ hjj; omega) | (simp; done) | (simp; omega)),(by first | exact upto_succ hA (or_tl (decide_eq_true h35)) | exact upto_succ hA (or_tr (keep_1 h45 (not_g n66))) | exact upto_succ hA (or_tr (keep_2 n45 (not_g n66))))⟩),(show h.length - (i + 1) < h.length - i from (by first | omega | (simp_all; omega))),?_⟩
       exact Sub.of [] (@cast (((((.string pr) : Value) = (.string pr)) ∧ (Sd (.calls h)) ∧ (Sd (.calls h)) ∧ (Si (h.length : Int)) ∧ (Si (((i + 1) : Nat) : Int)) ∧ True) ∧ True ∧ (true = true) ∧ (true = true)) _ (by kernel_rfl) ⟨⟨rfl,rfl,rfl,rfl,rfl,tt⟩,tt,rfl,rfl⟩)
   ·intro n30
    refine W.exit (thenQ_exit (thenQ_exit (blockQ_hit ?_)))
    refine thenQ_normal ?_
    refine W.seq ?_
    refine Kk cok tab5 hnt [] [1,69] (⟨[(1,.sl (.calls h)),(69,.b (!(eqS pr nAtomic)))],[],[999]⟩)
     (True ∧ (True ∧ True ∧ True) ∧ True)
     ⟨tt,⟨tt,tt,tt⟩,tt⟩ ?_
    refine W.if' (!(eqS pr nAtomic)) (.b (!(eqS pr nAtomic))) (by kernel_rfl) rfl trivial ?_ ?_
    ·intro h69
     refine Kk cok tab5 hnt [] [4] (⟨[(4,.b true)],[],[999]⟩)
      (True ∧ True)
      ⟨tt,tt⟩ ?_
     refine W.ret (thenQ_ret ?_)
     exact endQ_ret (.b true) (by kernel_rfl) (@cast ((.bool true : Value) = .bool (keepsRegister pr h)) _ (by kernel_rfl) (congrArg Value.bool (by exact (keeps_2 n26 (fun j hj => hA j (by omega)) h69).symm)))
    ·intro n69
     refine W.skip (thenQ_normal ?_)
     refine Kk cok tab5 hnt [] [11] (⟨[(11,.b ((turn h).2.2))],[],[999]⟩)
      (True ∧ (True ∧ (True ∧ True) ∧ True) ∧ True ∧ True ∧ True ∧ True ∧ True ∧ True ∧ True ∧ True)
      ⟨tt,⟨tt,⟨tt,tt⟩,tt⟩,tt,tt,tt,tt,tt,tt,tt,tt⟩ ?_
     refine Kk cok tab5 hnt [] [4] (⟨[(4,.b (!((turn h).2.2)))],[],[999]⟩)
      (True ∧ True ∧ True ∧ True)
      ⟨tt,tt,tt,tt⟩ ?_
     refine W.ret ?_
     exact endQ_ret (.b (!((turn h).2.2))) (by kernel_rfl) (@cast ((.bool (!((turn h).2.2)) : Value) = .bool (keepsRegister pr h)) _ (by kernel_rfl) (congrArg Value.bool (by exact (keeps_3 n26 (fun j hj => hA j (by omega)) n69).symm)))
theorem ent5 : Entr prog 5 := ⟨_,func5,rfl,by decide⟩
end Go.Proofs.Try

set_option linter.unusedSimpArgs false
set_option linter.unusedVariables false
namespace Go.Proofs.Try
open Go.Ab Go.RowKit
def fs47 : FnS := fnS [.o,.o,.o] [.int,.int,.int] (fun _ (n,low,high,_) => (.b (within n low high),[],True))
abbrev T47 : Tab := lk []
theorem tab47 : TabOK prog T47 := TabOK.nil
set_option maxRecDepth 100000 in
set_option maxHeartbeats 1000000 in
theorem ok47 : FnOK prog 47 fs47 := by
 refine FnOK.mk cok func47 rfl rfl rfl ?_
 rintro fl ⟨(n : Int),(low : Int),(high : Int),_⟩ hpre F hnt0 _
 have hnt : F.nt = 15 := hnt0.trans ntmps47
 clear hpre
 refine W.to (⟨[(0,.i n),(1,.i low),(2,.i high)],[],[999]⟩) rfl ?_
 refine Kk cok tab47 hnt [] [0,1,2] (⟨[(0,.i n),(1,.i low),(2,.i high)],[],[999]⟩)
  (True ∧ True)
  ⟨tt,tt⟩ ?_
 refine Kk cok tab47 hnt [] [6] (⟨[(6,.b ((decide (low ≤ n)) && (decide (n ≤ high))))],[],[999]⟩)
  ((fun (Z1:Bool)=>(True ∧ (True ∧ ((True ∧ (True ∧ True)) ∧ (True ∧ ((Z1 = true → True) ∧ ((Z1 = true → True) ∧ ((Z1 = true → (((Z1 = true) ∧ True) ∧ (((Z1 = true) ∧ True) ∧ True))) ∧ ((True ∧ ((Z1 = true → (Z1 = true) ∧ True) ∧ (Z1 = false → True))) ∧ (True ∧ True)))))))))) (decide (low ≤ n)))
  ⟨tt,tt,⟨tt,tt,tt⟩,tt,(fun _ => trivial),(fun _ => trivial),(fun hG => ⟨⟨hG,tt⟩,⟨hG,tt⟩,tt⟩),⟨tt,(fun hp => ⟨hp,tt⟩),(fun _ => trivial)⟩,tt,tt⟩ ?_
 refine W.ret ?_
 exact endQ_ret (.b ((decide (low ≤ n)) && (decide (n ≤ high)))) (by kernel_rfl) (@cast ((.bool ((decide (low ≤ n)) && (decide (n ≤ high))) : Value) = .bool (within n low high)) _ (by kernel_rfl) (congrArg Value.bool (by first | rfl | simp_all)))
theorem ent47 : Entr prog 47 := ⟨_,func47,rfl,by decide⟩
end Go.Proofs.Try

set_option linter.unusedSimpArgs false
set_option linter.unusedVariables false
namespace Go.Proofs.Try
open Go.Ab Go.RowKit
def fs37 : FnS := fnS [.o] [.call] (fun _ (c,_) => (.b (isCall c),[],True))
abbrev T37 : Tab := lk [(47,fs47)]
theorem tab37 : TabOK prog T37 := (TabOK.cons ok47 ent47 TabOK.nil)
set_option maxRecDepth 100000 in
set_option maxHeartbeats 1000000 in
theorem ok37 : FnOK prog 37 fs37 := by
 refine FnOK.mk cok func37 rfl rfl rfl ?_
 rintro fl ⟨(c : CallD),_⟩ hpre F hnt0 _
 have hnt : F.nt = 39 := hnt0.trans ntmps37
 clear hpre
 refine W.to (⟨[(0,.agg [.i c.proc,.i c.obj,.i c.kind,.i c.arg,.i c.ret,.i c.frm,.i c.to])],[],[999]⟩) rfl ?_
 refine Kk cok tab37 hnt [] [1] (⟨[(1,.ptr 1 0)],[(1,⟨35,.fix [.i c.proc,.i c.obj,.i c.kind,.i c.arg,.i c.ret,.i c.frm,.i c.to]⟩)],[1,999]⟩)
  (True ∧ True ∧ True)
  ⟨tt,tt,tt⟩ ?_
 refine Kk cok tab37 hnt [] [2] (⟨[(2,.b (((((((within c.proc (0 : Int) (2 : Int)) && (within c.obj (0 : Int) (1 : Int))) && (within c.kind (0 : Int) (2 : Int))) && (within c.arg (0 : Int) (3 : Int))) && (within c.ret (-1 : Int) (20 : Int))) && (within c.frm (0 : Int) (30 : Int))) && (within c.to (c.frm + (1 : Int)) (30 : Int))))],[(1,⟨35,.fix [.i c.proc,.i c.obj,.i c.kind,.i c.arg,.i c.ret,.i c.frm,.i c.to]⟩)],[1,999]⟩)
  ((fun (Z1:Bool)=>((fun (Z2:Bool)=>((fun (Z3:Bool)=>((fun (Z4:Bool)=>((fun (Z5:Bool)=>((fun (Z6:Bool)=>(True ∧ (True ∧ ((True ∧ ((True ∧ (True ∧ (True ∧ True))) ∧ True)) ∧ (True ∧ ((Z1 = true → True) ∧ ((Z1 = true → ((Z1 = true) ∧ True)) ∧ ((Z1 = true → (True ∧ ((((Z1 = true) ∧ True) ∧ (True ∧ (True ∧ True))) ∧ True))) ∧ ((True ∧ ((Z1 = true → (Z1 = true) ∧ True) ∧ (Z1 = false → True))) ∧ (True ∧ ((Z2 = true → True) ∧ ((Z2 = true → ((Z2 = true) ∧ True)) ∧ ((Z2 = true → (True ∧ ((((Z2 = true) ∧ True) ∧ (True ∧ (True ∧ True))) ∧ True))) ∧ ((True ∧ ((Z2 = true → (Z2 = true) ∧ True) ∧ (Z2 = false → True))) ∧ (True ∧ ((Z3 = true → True) ∧ ((Z3 = true → ((Z3 = true) ∧ True)) ∧ ((Z3 = true → (True ∧ ((((Z3 = true) ∧ True) ∧ (True ∧ (True ∧ True))) ∧ True))) ∧ ((True ∧ ((Z3 = true → (Z3 = true) ∧ True) ∧ (Z3 = false → True))) ∧ (True ∧ ((Z4 = true → True) ∧ ((Z4 = true → ((Z4 = true) ∧ True)) ∧ ((Z4 = true → (True ∧ ((((Z4 = true) ∧ True) ∧ (True ∧ (True ∧ True))) ∧ True))) ∧ ((True ∧ ((Z4 = true → (Z4 = true) ∧ True) ∧ (Z4 = false → True))) ∧ (True ∧ ((Z5 = true → True) ∧ ((Z5 = true → ((Z5 = true) ∧ True)) ∧ ((Z5 = true → (True ∧ ((((Z5 = true) ∧ True) ∧ (True ∧ (True ∧ True))) ∧ True))) ∧ ((True ∧ ((Z5 = true → (Z5 = true) ∧ True) ∧ (Z5 = false → True))) ∧ (True ∧ ((Z6 = true → True) ∧ ((Z6 = true → ((Z6 = true) ∧ True)) ∧ ((Z6 = true → True) ∧ ((Z6 = true → ((Z6 = true) ∧ True)) ∧ ((Z6 = true → (((Z6 = true) ∧ True) ∧ (True ∧ (Fits .i64 (c.frm + (1 : Int)))))) ∧ ((Z6 = true → (True ∧ ((((Z6 = true) ∧ True) ∧ (((Z6 = true) ∧ True) ∧ (True ∧ True))) ∧ True))) ∧ ((True ∧ ((Z6 = true → (Z6 = true) ∧ True) ∧ (Z6 = false → True))) ∧ (True ∧ True)))))))))))))))))))))))))))))))))))))) (Z5 && (within c.frm (0 : Int) (30 : Int))))) (Z4 && (within c.ret (-1 : Int) (20 : Int))))) (Z3 && (within c.arg (0 : Int) (3 : Int))))) (Z2 && (within c.kind (0 : Int) (2 : Int))))) (Z1 && (within c.obj (0 : Int) (1 : Int))))) (within c.proc (0 : Int) (2 : Int)))
  ⟨tt,tt,⟨tt,⟨tt,tt,tt,tt⟩,tt⟩,tt,(fun _ => trivial),(fun hG => ⟨hG,tt⟩),(fun hG => ⟨tt,⟨⟨hG,tt⟩,tt,tt,tt⟩,tt⟩),⟨tt,(fun hp => ⟨hp,tt⟩),(fun _ => trivial)⟩,tt,(fun _ => trivial),(fun hG => ⟨hG,tt⟩),(fun hG => ⟨tt,⟨⟨hG,tt⟩,tt,tt,tt⟩,tt⟩),⟨tt,(fun hp => ⟨hp,tt⟩),(fun _ => trivial)⟩,tt,(fun _ => trivial),(fun hG => ⟨hG,tt⟩),(fun hG => ⟨tt,⟨⟨hG,tt⟩,tt,tt,tt⟩,tt⟩),⟨tt,(fun hp => ⟨hp,tt⟩),(fun _ => trivial)⟩,tt,(fun _ => trivial),(fun hG => ⟨hG,tt⟩),(fun hG => ⟨tt,⟨⟨hG,tt⟩,tt,tt,tt⟩,tt⟩),⟨tt,(fun hp => ⟨hp,tt⟩),(fun _ => trivial)⟩,tt,(fun _ => trivial),(fun hG => ⟨hG,tt⟩),(fun hG => ⟨tt,⟨⟨hG,tt⟩,tt,tt,tt⟩,tt⟩),⟨tt,(fun hp => ⟨hp,tt⟩),(fun _ => trivial)⟩,tt,(fun _ => trivial),(fun hG => ⟨hG,tt⟩),(fun _ => trivial),(fun hG => ⟨hG,tt⟩),(fun hG => ⟨⟨hG,tt⟩,tt,(by have hh := hG; simp only [Bool.and_eq_true,inRange_iff] at hh; exact fits_i64 (by omega) (by omega))⟩),(fun hG => ⟨tt,⟨⟨hG,tt⟩,⟨hG,tt⟩,tt,tt⟩,tt⟩),⟨tt,(fun hp => ⟨hp,tt⟩),(fun _ => trivial)⟩,tt,tt⟩ ?_
 refine W.ret ?_
 exact endQ_ret (.b (((((((within c.proc (0 : Int) (2 : Int)) && (within c.obj (0 : Int) (1 : Int))) && (within c.kind (0 : Int) (2 : Int))) && (within c.arg (0 : Int) (3 : Int))) && (within c.ret (-1 : Int) (20 : Int))) && (within c.frm (0 : Int) (30 : Int))) && (within c.to (c.frm + (1 : Int)) (30 : Int)))) (by kernel_rfl) (@cast ((.bool (((((((within c.proc (0 : Int) (2 : Int)) && (within c.obj (0 : Int) (1 : Int))) && (within c.kind (0 : Int) (2 : Int))) && (within c.arg (0 : Int) (3 : Int))) && (within c.ret (-1 : Int) (20 : Int))) && (within c.frm (0 : Int) (30 : Int))) && (within c.to (c.frm + (1 : Int)) (30 : Int))) : Value) = .bool (isCall c)) _ (by kernel_rfl) (congrArg Value.bool (by rw [validCall_eq])))
theorem ent37 : Entr prog 37 := ⟨_,func37,rfl,by decide⟩
end Go.Proofs.Try

set_option linter.unusedSimpArgs false
set_option linter.unusedVariables false
namespace Go.Proofs.Try
open Go.Ab Go.RowKit
def fs27 : FnS := fnS [.s .calls] [.calls] (fun _ (h,_) => (.b (validHistory h),[],True))
abbrev T27 : Tab := lk [(37,fs37)]
theorem tab27 : TabOK prog T27 := (TabOK.cons ok37 ent37 TabOK.nil)
set_option maxRecDepth 100000 in
set_option maxHeartbeats 1000000 in
theorem ok27 : FnOK prog 27 fs27 := by
 refine FnOK.mk cok func27 rfl rfl rfl ?_
 rintro fl ⟨(h : List CallD),_⟩ hpre F hnt0 _
 have hnt : F.nt = 112 := hnt0.trans ntmps27
 clear hpre
 refine W.to (⟨[(0,.sl (.calls h))],[],[999]⟩) rfl ?_
 refine W.lenOf 0 (.calls h) (by kernel_rfl) ?_
 intro hl_h; replace hl_h : List.length h ≤ 9223372036854775807 := hl_h
 refine Kk cok tab27 hnt [] [0] (⟨[(0,.sl (.calls h))],[],[999]⟩)
  (True ∧ True)
  ⟨tt,tt⟩ ?_
 refine W.seq ?_
 refine Kk cok tab27 hnt [] [0,3] (⟨[(0,.sl (.calls h)),(3,.i (0 : Int))],[],[999]⟩)
  (True ∧ True)
  ⟨tt,tt⟩ ?_
 refine W.block ?_
 refine W.loop (ι := Nat) (fun (i : Nat) => (⟨[(0,.sl (.calls h)),(3,.i ((i : Nat) : Int))],[],[999]⟩ : St))
  (fun (i : Nat) => (i ≤ h.length) ∧ (∀ j,j < i → (isCall (callAt h j) && allN j (fun k => !clash (callAt h j) (callAt h k))) = true))
  (fun (i : Nat) => (h.length - i : Nat)) (0) ?_ ?_ ?_
 ·exact (show (0 ≤ h.length) ∧ (∀ j,j < 0 → (isCall (callAt h j) && allN j (fun k => !clash (callAt h j) (callAt h k))) = true) from ⟨(by first | assumption | omega | rfl | (intro _ hjj; omega) | (simp; done) | (simp; omega)),(by exact upto_zero)⟩)
 ·exact Sub.of [] (@cast (((Sd (.calls h)) ∧ ((.int .i64 (0 : Int) : Value) = .int .i64 ((0 : Nat) : Int)) ∧ True) ∧ True ∧ (true = true) ∧ (true = true)) _ (by kernel_rfl) ⟨⟨rfl,(congrArg (Value.int .i64) (by first | rfl | omega | assumption | simp | simp_all)),tt⟩,tt,rfl,rfl⟩)
 ·rintro i hC0
  have hC : (i ≤ h.length) ∧ (∀ j,j < i → (isCall (callAt h j) && allN j (fun k => !clash (callAt h j) (callAt h k))) = true) := hC0
  clear hC0
  obtain ⟨hi,hA⟩ := hC
  refine W.to (⟨[(0,.sl (.calls h)),(3,.i ((i : Nat) : Int))],[],[999]⟩) rfl ?_
  refine W.seq ?_
  refine Kk cok tab27 hnt [] [0,3,8] (⟨[(0,.sl (.calls h)),(3,.i ((i : Nat) : Int)),(8,.b (decide (((i : Nat) : Int) < (h.length : Int))))],[],[999]⟩)
   (True ∧ True ∧ True ∧ (True ∧ True ∧ True) ∧ True)
   ⟨tt,tt,tt,⟨tt,tt,tt⟩,tt⟩ ?_
  refine W.ifP (((i : Nat) : Int) < (h.length : Int)) (.b (decide (((i : Nat) : Int) < (h.length : Int)))) (by kernel_rfl) rfl trivial ?_ ?_
  ·intro h8
   refine W.skip (thenQ_normal ?_)
   refine W.seq ?_
   refine W.block ?_
   refine W.seq ?_
   refine Kk cok tab27 hnt [] [0,3,16] (⟨[(0,.sl (.calls h)),(3,.i ((i : Nat) : Int)),(16,.b (!(isCall (h.getD i default))))],[],[999]⟩)
    (True ∧ True ∧ (True ∧ True ∧ (0 ≤ ((i : Nat) : Int)) ∧ (((i : Nat) : Int) < (h.length : Int))) ∧ True ∧ (True ∧ (True ∧ True) ∧ True) ∧ True ∧ True)
    ⟨tt,tt,⟨tt,tt,(by omega),(by omega)⟩,tt,⟨tt,⟨tt,tt⟩,tt⟩,tt,tt⟩ ?_
   refine W.if' (!(isCall (h.getD i default))) (.b (!(isCall (h.getD i default)))) (by kernel_rfl) rfl trivial ?_ ?_
   ·intro h16
    refine Kk cok tab27 hnt [] [2] (⟨[(2,.b false)],[],[999]⟩)
     (True ∧ True)
     ⟨tt,tt⟩ ?_
    refine W.ret (thenQ_ret (blockQ_ret (thenQ_ret (thenQ_ret (blockQ_ret (thenQ_ret ?_))))))
    exact endQ_ret (.b false) (by kernel_rfl) (@cast ((.bool false : Value) = .bool (validHistory h)) _ (by kernel_rfl) (congrArg Value.bool (by unfold validHistory; symm; exact and_fr (allN_false (i := i) (by omega) (and_fl (not_f h16))))))
   ·intro n16
    refine W.skip (thenQ_normal ?_)
    refine Kk cok tab27 hnt [] [0,3,4] (⟨[(0,.sl (.calls h)),(3,.i ((i : Nat) : Int)),(4,.i (0 : Int))],[],[999]⟩)
     (True ∧ True)
     ⟨tt,tt⟩ ?_
    refine W.block ?_
    refine W.loop (ι := Nat) (fun (k : Nat) => (⟨[(0,.sl (.calls h)),(3,.i ((i : Nat) : Int)),(4,.i ((k : Nat) : Int))],[],[999]⟩ : St))
     (fun (k : Nat) => (k ≤ i) ∧ (∀ j,j < k → (!clash (callAt h i) (callAt h j)) = true))
     (fun (k : Nat) => (i - k : Nat)) (0) ?_ ?_ ?_
    ·exact (show (0 ≤ i) ∧ (∀ j,j < 0 → (!clash (callAt h i) (callAt h j)) = true) from ⟨(by first | assumption | omega | rfl | (intro _ hjj; omega) | (simp; done) | (simp; omega)),(by exact upto_zero)⟩)
    ·exact Sub.of [] (@cast (((Sd (.calls h)) ∧ (Si ((i : Nat) : Int)) ∧ ((.int .i64 (0 : Int) : Value) = .int .i64 ((0 : Nat) : Int)) ∧ True) ∧ True ∧ (true = true) ∧ (true = true)) _ (by kernel_rfl) ⟨⟨rfl,rfl,(congrArg (Value.int .i64) (by first | rfl | omega | assumption | simp | simp_all)),tt⟩,tt,rfl,rfl⟩)
    ·rintro k hC0
     have hC : (k ≤ i) ∧ (∀ j,j < k → (!clash (callAt h i) (callAt h j)) = true) := hC0
     clear hC0
     obtain ⟨hk,hB⟩ := hC
     refine W.to (⟨[(0,.sl (.calls h)),(3,.i ((i : Nat) : Int)),(4,.i ((k : Nat) : Int))],[],[999]⟩) rfl ?_
     refine W.seq ?_
     refine Kk cok tab27 hnt [] [0,3,4,19] (⟨[(0,.sl (.calls h)),(3,.i ((i : Nat) : Int)),(4,.i ((k : Nat) : Int)),(19,.b (decide (((k : Nat) : Int) < ((i : Nat) : Int))))],[],[999]⟩)
      (True ∧ True ∧ (True ∧ True ∧ True) ∧ True)
      ⟨tt,tt,⟨tt,tt,tt⟩,tt⟩ ?_
     refine W.ifP (((k : Nat) : Int) < ((i : Nat) : Int)) (.b (decide (((k : Nat) : Int) < ((i : Nat) : Int)))) (by kernel_rfl) rfl trivial ?_ ?_
     ·intro h19
      refine W.skip (thenQ_normal ?_)
      refine W.seq ?_
      refine W.block ?_
      refine W.seq ?_
      refine W.KA cok tab27 hnt [] [0,3,4,71] (⟨[(0,.sl (.calls h)),(3,.i ((i : Nat) : Int)),(4,.i ((k : Nat) : Int)),(71,.b ((((decide (((h.getD k default).frm) = ((h.getD i default).frm))) || (decide (((h.getD k default).frm) = ((h.getD i default).to)))) || (decide (((h.getD k default).to) = ((h.getD i default).frm)))) || (decide (((h.getD k default).to) = ((h.getD i default).to)))))],[],[999]⟩)
       ((fun (Z1:Bool)=>((fun (Z2:Bool)=>((fun (Z3:Bool)=>(True ∧ (True ∧ ((True ∧ (True ∧ ((0 ≤ ((k : Nat) : Int)) ∧ (((k : Nat) : Int) < (h.length : Int))))) ∧ (True ∧ (True ∧ (True ∧ (True ∧ ((True ∧ (True ∧ ((0 ≤ ((i : Nat) : Int)) ∧ (((i : Nat) : Int) < (h.length : Int))))) ∧ (True ∧ (True ∧ ((True ∧ (True ∧ True)) ∧ (True ∧ (((!Z1) = true → True) ∧ (((!Z1) = true → True) ∧ (((!Z1) = true → ((((!Z1) = true) ∧ True) ∧ ((((!Z1) = true) ∧ True) ∧ ((0 ≤ ((k : Nat) : Int)) ∧ (((k : Nat) : Int) < (h.length : Int)))))) ∧ (((!Z1) = true → (((!Z1) = true) ∧ True)) ∧ (((!Z1) = true → (((!Z1) = true) ∧ True)) ∧ (((!Z1) = true → True) ∧ (((!Z1) = true → True) ∧ (((!Z1) = true → ((((!Z1) = true) ∧ True) ∧ ((((!Z1) = true) ∧ True) ∧ ((0 ≤ ((i : Nat) : Int)) ∧ (((i : Nat) : Int) < (h.length : Int)))))) ∧ (((!Z1) = true → (((!Z1) = true) ∧ True)) ∧ (((!Z1) = true → (((!Z1) = true) ∧ True)) ∧ (((!Z1) = true → ((((!Z1) = true) ∧ True) ∧ ((((!Z1) = true) ∧ True) ∧ True))) ∧ ((True ∧ ((Z1 = true → True) ∧ (Z1 = false → ((!Z1) = true) ∧ True))) ∧ (True ∧ (((!Z2) = true → True) ∧ (((!Z2) = true → True) ∧ (((!Z2) = true → ((((!Z2) = true) ∧ True) ∧ ((((!Z2) = true) ∧ True) ∧ ((0 ≤ ((k : Nat) : Int)) ∧ (((k : Nat) : Int) < (h.length : Int)))))) ∧ (((!Z2) = true → (((!Z2) = true) ∧ True)) ∧ (((!Z2) = true → (((!Z2) = true) ∧ True)) ∧ (((!Z2) = true → True) ∧ (((!Z2) = true → True) ∧ (((!Z2) = true → ((((!Z2) = true) ∧ True) ∧ ((((!Z2) = true) ∧ True) ∧ ((0 ≤ ((i : Nat) : Int)) ∧ (((i : Nat) : Int) < (h.length : Int)))))) ∧ (((!Z2) = true → (((!Z2) = true) ∧ True)) ∧ (((!Z2) = true → (((!Z2) = true) ∧ True)) ∧ (((!Z2) = true → ((((!Z2) = true) ∧ True) ∧ ((((!Z2) = true) ∧ True) ∧ True))) ∧ ((True ∧ ((Z2 = true → True) ∧ (Z2 = false → ((!Z2) = true) ∧ True))) ∧ (True ∧ (((!Z3) = true → True) ∧ (((!Z3) = true → True) ∧ (((!Z3) = true → ((((!Z3) = true) ∧ True) ∧ ((((!Z3) = true) ∧ True) ∧ ((0 ≤ ((k : Nat) : Int)) ∧ (((k : Nat) : Int) < (h.length : Int)))))) ∧ (((!Z3) = true → (((!Z3) = true) ∧ True)) ∧ (((!Z3) = true → (((!Z3) = true) ∧ True)) ∧ (((!Z3) = true → True) ∧ (((!Z3) = true → True) ∧ (((!Z3) = true → ((((!Z3) = true) ∧ True) ∧ ((((!Z3) = true) ∧ True) ∧ ((0 ≤ ((i : Nat) : Int)) ∧ (((i : Nat) : Int) < (h.length : Int)))))) ∧ (((!Z3) = true → (((!Z3) = true) ∧ True)) ∧ (((!Z3) = true → (((!Z3) = true) ∧ True)) ∧ (((!Z3) = true → ((((!Z3) = true) ∧ True) ∧ ((((!Z3) = true) ∧ True) ∧ True))) ∧ ((True ∧ ((Z3 = true → True) ∧ (Z3 = false → ((!Z3) = true) ∧ True))) ∧ True))))))))))))))))))))))))))))))))))))))))))))))))))) (Z2 || (decide (((h.getD k default).to) = ((h.getD i default).frm)))))) (Z1 || (decide (((h.getD k default).frm) = ((h.getD i default).to)))))) (decide (((h.getD k default).frm) = ((h.getD i default).frm)))) (by kernel_rfl) (by kernel_rfl)
       ⟨tt,tt,⟨tt,tt,(by omega),(by omega)⟩,tt,tt,tt,tt,⟨tt,tt,(by omega),(by omega)⟩,tt,tt,⟨tt,tt,tt⟩,tt,(fun _ => trivial),(fun _ => trivial),(fun hG => ⟨⟨hG,tt⟩,⟨hG,tt⟩,(by have hg0 : ¬ (((h.getD k default).frm) = ((h.getD i default).frm)) := of_decide_eq_false (not_f hG); omega),(by have hg0 : ¬ (((h.getD k default).frm) = ((h.getD i default).frm)) := of_decide_eq_false (not_f hG); omega)⟩),(fun hG => ⟨hG,tt⟩),(fun hG => ⟨hG,tt⟩),(fun _ => trivial),(fun _ => trivial),(fun hG => ⟨⟨hG,tt⟩,⟨hG,tt⟩,(by have hg0 : ¬ (((h.getD k default).frm) = ((h.getD i default).frm)) := of_decide_eq_false (not_f hG); omega),(by have hg0 : ¬ (((h.getD k default).frm) = ((h.getD i default).frm)) := of_decide_eq_false (not_f hG); omega)⟩),(fun hG => ⟨hG,tt⟩),(fun hG => ⟨hG,tt⟩),(fun hG => ⟨⟨hG,tt⟩,⟨hG,tt⟩,tt⟩),⟨tt,(fun _ => trivial),(fun hp => ⟨(not_t hp),tt⟩)⟩,tt,(fun _ => trivial),(fun _ => trivial),(fun hG => ⟨⟨hG,tt⟩,⟨hG,tt⟩,(by have hg0 : ¬ (((h.getD k default).frm) = ((h.getD i default).frm)) := of_decide_eq_false (or_l (not_f hG)); have hg1 : ¬ (((h.getD k default).frm) = ((h.getD i default).to)) := of_decide_eq_false (or_r (not_f hG)); omega),(by have hg0 : ¬ (((h.getD k default).frm) = ((h.getD i default).frm)) := of_decide_eq_false (or_l (not_f hG)); have hg1 : ¬ (((h.getD k default).frm) = ((h.getD i default).to)) := of_decide_eq_false (or_r (not_f hG)); omega)⟩),(fun hG => ⟨hG,tt⟩),(fun hG => ⟨hG,tt⟩),(fun _ => trivial),(fun _ => trivial),(fun hG => ⟨⟨hG,tt⟩,⟨hG,tt⟩,(by have hg0 : ¬ (((h.getD k default).frm) = ((h.getD i default).frm)) := of_decide_eq_false (or_l (not_f hG)); have hg1 : ¬ (((h.getD k default).frm) = ((h.getD i default).to)) := of_decide_eq_false (or_r (not_f hG)); omega),(by have hg0 : ¬ (((h.getD k default).frm) = ((h.getD i default).frm)) := of_decide_eq_false (or_l (not_f hG)); have hg1 : ¬ (((h.getD k default).frm) = ((h.getD i default).to)) := of_decide_eq_false (or_r (not_f hG)); omega)⟩),(fun hG => ⟨hG,tt⟩),(fun hG => ⟨hG,tt⟩),(fun hG => ⟨⟨hG,tt⟩,⟨hG,tt⟩,tt⟩),⟨tt,(fun _ => trivial),(fun hp => ⟨(not_t hp),tt⟩)⟩,tt,(fun _ => trivial),(fun _ => trivial),(fun hG => ⟨⟨hG,tt⟩,⟨hG,tt⟩,(by have hg0 : ¬ (((h.getD k default).frm) = ((h.getD i default).frm)) := of_decide_eq_false (or_l (or_l (not_f hG))); have hg1 : ¬ (((h.getD k default).frm) = ((h.getD i default).to)) := of_decide_eq_false (or_r (or_l (not_f hG))); have hg2 : ¬ (((h.getD k default).to) = ((h.getD i default).frm)) := of_decide_eq_false (or_r (not_f hG)); omega),(by have hg0 : ¬ (((h.getD k default).frm) = ((h.getD i default).frm)) := of_decide_eq_false (or_l (or_l (not_f hG))); have hg1 : ¬ (((h.getD k default).frm) = ((h.getD i default).to)) := of_decide_eq_false (or_r (or_l (not_f hG))); have hg2 : ¬ (((h.getD k default).to) = ((h.getD i default).frm)) := of_decide_eq_false (or_r (not_f hG)); omega)⟩),(fun hG => ⟨hG,tt⟩),(fun hG => ⟨hG,tt⟩),(fun _ => trivial),(fun _ => trivial),(fun hG => ⟨⟨hG,tt⟩,⟨hG,tt⟩,(by have hg0 : ¬ (((h.getD k default).frm) = ((h.getD i default).frm)) := of_decide_eq_false (or_l (or_l (not_f hG))); have hg1 : ¬ (((h.getD k default).frm) = ((h.getD i default).to)) := of_decide_eq_false (or_r (or_l (not_f hG))); have hg2 : ¬ (((h.getD k default).to) = ((h.getD i default).frm)) := of_decide_eq_false (or_r (not_f hG)); omega),(by have hg0 : ¬ (((h.getD k default).frm) = ((h.getD i default).frm)) := of_decide_eq_false (or_l (or_l (not_f hG))); have hg1 : ¬ (((h.getD k default).frm) = ((h.getD i default).to)) := of_decide_eq_false (or_r (or_l (not_f hG))); have hg2 : ¬ (((h.getD k default).to) = ((h.getD i default).frm)) := of_decide_eq_false (or_r (not_f hG)); omega)⟩),(fun hG => ⟨hG,tt⟩),(fun hG => ⟨hG,tt⟩),(fun hG => ⟨⟨hG,tt⟩,⟨hG,tt⟩,tt⟩),⟨tt,(fun _ => trivial),(fun hp => ⟨(not_t hp),tt⟩)⟩,tt⟩ ?_
      refine W.if' ((((decide (((h.getD k default).frm) = ((h.getD i default).frm))) || (decide (((h.getD k default).frm) = ((h.getD i default).to)))) || (decide (((h.getD k default).to) = ((h.getD i default).frm)))) || (decide (((h.getD k default).to) = ((h.getD i default).to)))) (.b ((((decide (((h.getD k default).frm) = ((h.getD i default).frm))) || (decide (((h.getD k default).frm) = ((h.getD i default).to)))) || (decide (((h.getD k default).to) = ((h.getD i default).frm)))) || (decide (((h.getD k default).to) = ((h.getD i default).to))))) (by kernel_rfl) rfl trivial ?_ ?_
      ·intro h71
       refine Kk cok tab27 hnt [] [2] (⟨[(2,.b false)],[],[999]⟩)
        (True ∧ True)
        ⟨tt,tt⟩ ?_
       refine W.ret (thenQ_ret (blockQ_ret (thenQ_ret (thenQ_ret (blockQ_ret (blockQ_ret (thenQ_ret (thenQ_ret (blockQ_ret (thenQ_ret ?_))))))))))
       exact endQ_ret (.b false) (by kernel_rfl) (@cast ((.bool false : Value) = .bool (validHistory h)) _ (by kernel_rfl) (congrArg Value.bool (by unfold validHistory; symm; exact and_fr (allN_false (i := i) (by omega) (and_fr (allN_false (i := k) (by omega) (clash_true1 h71)))))))
      ·intro n71
       have n71_0 : ¬ (((h.getD k default).frm) = ((h.getD i default).frm)) := of_decide_eq_false (or_l (or_l (or_l n71)))
       have n71_1 : ¬ (((h.getD k default).frm) = ((h.getD i default).to)) := of_decide_eq_false (or_r (or_l (or_l n71)))
       have n71_2 : ¬ (((h.getD k default).to) = ((h.getD i default).frm)) := of_decide_eq_false (or_r (or_l n71))
       have n71_3 : ¬ (((h.getD k default).to) = ((h.getD i default).to)) := of_decide_eq_false (or_r n71)
       refine W.skip (thenQ_normal ?_)
       refine W.KA cok tab27 hnt [] [0,3,4,108] (⟨[(0,.sl (.calls h)),(3,.i ((i : Nat) : Int)),(4,.i ((k : Nat) : Int)),(108,.b (((decide (((h.getD k default).proc) = ((h.getD i default).proc))) && (decide (((h.getD i default).frm) < ((h.getD k default).to)))) && (decide (((h.getD k default).frm) < ((h.getD i default).to)))))],[],[999]⟩)
        ((fun (Z1:Bool)=>((fun (Z2:Bool)=>(True ∧ (True ∧ ((True ∧ (True ∧ ((0 ≤ ((k : Nat) : Int)) ∧ (((k : Nat) : Int) < (h.length : Int))))) ∧ (True ∧ (True ∧ (True ∧ (True ∧ ((True ∧ (True ∧ ((0 ≤ ((i : Nat) : Int)) ∧ (((i : Nat) : Int) < (h.length : Int))))) ∧ (True ∧ (True ∧ ((True ∧ (True ∧ True)) ∧ (True ∧ ((Z1 = true → True) ∧ ((Z1 = true → True) ∧ ((Z1 = true → (((Z1 = true) ∧ True) ∧ (((Z1 = true) ∧ True) ∧ ((0 ≤ ((k : Nat) : Int)) ∧ (((k : Nat) : Int) < (h.length : Int)))))) ∧ ((Z1 = true → ((Z1 = true) ∧ True)) ∧ ((Z1 = true → ((Z1 = true) ∧ True)) ∧ ((Z1 = true → True) ∧ ((Z1 = true → True) ∧ ((Z1 = true → (((Z1 = true) ∧ True) ∧ (((Z1 = true) ∧ True) ∧ ((0 ≤ ((i : Nat) : Int)) ∧ (((i : Nat) : Int) < (h.length : Int)))))) ∧ ((Z1 = true → ((Z1 = true) ∧ True)) ∧ ((Z1 = true → ((Z1 = true) ∧ True)) ∧ ((Z1 = true → (((Z1 = true) ∧ True) ∧ (((Z1 = true) ∧ True) ∧ True))) ∧ ((True ∧ ((Z1 = true → (Z1 = true) ∧ True) ∧ (Z1 = false → True))) ∧ (True ∧ ((Z2 = true → True) ∧ ((Z2 = true → True) ∧ ((Z2 = true → (((Z2 = true) ∧ True) ∧ (((Z2 = true) ∧ True) ∧ ((0 ≤ ((i : Nat) : Int)) ∧ (((i : Nat) : Int) < (h.length : Int)))))) ∧ ((Z2 = true → ((Z2 = true) ∧ True)) ∧ ((Z2 = true → ((Z2 = true) ∧ True)) ∧ ((Z2 = true → True) ∧ ((Z2 = true → True) ∧ ((Z2 = true → (((Z2 = true) ∧ True) ∧ (((Z2 = true) ∧ True) ∧ ((0 ≤ ((k : Nat) : Int)) ∧ (((k : Nat) : Int) < (h.length : Int)))))) ∧ ((Z2 = true → ((Z2 = true) ∧ True)) ∧ ((Z2 = true → ((Z2 = true) ∧ True)) ∧ ((Z2 = true → (((Z2 = true) ∧ True) ∧ (((Z2 = true) ∧ True) ∧ True))) ∧ ((True ∧ ((Z2 = true → (Z2 = true) ∧ True) ∧ (Z2 = false → True))) ∧ True)))))))))))))))))))))))))))))))))))))) (Z1 && (decide (((h.getD i default).frm) < ((h.getD k default).to)))))) (decide (((h.getD k default).proc) = ((h.getD i default).proc)))) (by kernel_rfl) (by kernel_rfl)
        ⟨tt,tt,⟨tt,tt,(by omega),(by omega)⟩,tt,tt,tt,tt,⟨tt,tt,(by omega),(by omega)⟩,tt,tt,⟨tt,tt,tt⟩,tt,(fun _ => trivial),(fun _ => trivial),(fun hG => ⟨⟨hG,tt⟩,⟨hG,tt⟩,(by have hg0 : ((h.getD k default).proc) = ((h.getD i default).proc) := of_decide_eq_true hG; omega),(by have hg0 : ((h.getD k default).proc) = ((h.getD i default).proc) := of_decide_eq_true hG; omega)⟩),(fun hG => ⟨hG,tt⟩),(fun hG => ⟨hG,tt⟩),(fun _ => trivial),(fun _ => trivial),(fun hG => ⟨⟨hG,tt⟩,⟨hG,tt⟩,(by have hg0 : ((h.getD k default).proc) = ((h.getD i default).proc) := of_decide_eq_true hG; omega),(by have hg0 : ((h.getD k default).proc) = ((h.getD i default).proc) := of_decide_eq_true hG; omega)⟩),(fun hG => ⟨hG,tt⟩),(fun hG => ⟨hG,tt⟩),(fun hG => ⟨⟨hG,tt⟩,⟨hG,tt⟩,tt⟩),⟨tt,(fun hp => ⟨hp,tt⟩),(fun _ => trivial)⟩,tt,(fun _ => trivial),(fun _ => trivial),(fun hG => ⟨⟨hG,tt⟩,⟨hG,tt⟩,(by have hg0 : ((h.getD k default).proc) = ((h.getD i default).proc) := of_decide_eq_true (and_l hG); have hg1 : ((h.getD i default).frm) < ((h.getD k default).to) := of_decide_eq_true (and_r hG); omega),(by have hg0 : ((h.getD k default).proc) = ((h.getD i default).proc) := of_decide_eq_true (and_l hG); have hg1 : ((h.getD i default).frm) < ((h.getD k default).to) := of_decide_eq_true (and_r hG); omega)⟩),(fun hG => ⟨hG,tt⟩),(fun hG => ⟨hG,tt⟩),(fun _ => trivial),(fun _ => trivial),(fun hG => ⟨⟨hG,tt⟩,⟨hG,tt⟩,(by have hg0 : ((h.getD k default).proc) = ((h.getD i default).proc) := of_decide_eq_true (and_l hG); have hg1 : ((h.getD i default).frm) < ((h.getD k default).to) := of_decide_eq_true (and_r hG); omega),(by have hg0 : ((h.getD k default).proc) = ((h.getD i default).proc) := of_decide_eq_true (and_l hG); have hg1 : ((h.getD i default).frm) < ((h.getD k default).to) := of_decide_eq_true (and_r hG); omega)⟩),(fun hG => ⟨hG,tt⟩),(fun hG => ⟨hG,tt⟩),(fun hG => ⟨⟨hG,tt⟩,⟨hG,tt⟩,tt⟩),⟨tt,(fun hp => ⟨hp,tt⟩),(fun _ => trivial)⟩,tt⟩ ?_
       refine W.if' (((decide (((h.getD k default).proc) = ((h.getD i default).proc))) && (decide (((h.getD i default).frm) < ((h.getD k default).to)))) && (decide (((h.getD k default).frm) < ((h.getD i default).to)))) (.b (((decide (((h.getD k default).proc) = ((h.getD i default).proc))) && (decide (((h.getD i default).frm) < ((h.getD k default).to)))) && (decide (((h.getD k default).frm) < ((h.getD i default).to))))) (by kernel_rfl) rfl trivial ?_ ?_
       ·intro h108
        have h108_0 : ((h.getD k default).proc) = ((h.getD i default).proc) := of_decide_eq_true (and_l (and_l h108))
        have h108_1 : ((h.getD i default).frm) < ((h.getD k default).to) := of_decide_eq_true (and_r (and_l h108))
        have h108_2 : ((h.getD k default).frm) < ((h.getD i default).to) := of_decide_eq_true (and_r h108)
        refine Kk cok tab27 hnt [] [2] (⟨[(2,.b false)],[],[999]⟩)
         (True ∧ True)
         ⟨tt,tt⟩ ?_
        refine W.ret (blockQ_ret (thenQ_ret (thenQ_ret (blockQ_ret (blockQ_ret (thenQ_ret (thenQ_ret (blockQ_ret (thenQ_ret ?_)))))))))
        exact endQ_ret (.b false) (by kernel_rfl) (@cast ((.bool false : Value) = .bool (validHistory h)) _ (by kernel_rfl) (congrArg Value.bool (by unfold validHistory; symm; exact and_fr (allN_false (i := i) (by omega) (and_fr (allN_false (i := k) (by omega) (clash_true2 h108)))))))
       ·intro n108
        refine W.skip (blockQ_normal (thenQ_normal ?_))
        refine Lk cok tab27 hnt [] (⟨[(0,.sl (.calls h)),(3,.i ((i : Nat) : Int)),(4,.i (((k + 1) : Nat) : Int)),(20,.i ((k : Nat) : Int)),(21,.i (((k + 1) : Nat) : Int)),(108,.b (((decide (((h.getD k default).proc) = ((h.getD i default).proc))) && (decide (((h.getD i default).frm) < ((h.getD k default).to)))) && (decide (((h.getD k default).frm) < ((h.getD i default).to)))))],[],[999]⟩)
         (True ∧ (True ∧ True ∧ (Fits .i64 (((k + 1) : Nat) : Int))) ∧ True ∧ True)
         ⟨tt,⟨tt,tt,(by exact fits_i64 (by omega) (by omega))⟩,tt,tt⟩ ?_
        refine thenQ_normal ?_
        refine ⟨((k + 1)),(show ((k + 1) ≤ i) ∧ (∀ j,j < (k + 1) → (!clash (callAt h i) (callAt h j)) = true) from ⟨(by first | assumption | omega | rfl | (intro _ hjj; omega) | (simp; done) | (simp; omega)),(by exact upto_succ hB (clash_false n71 n108))⟩),(show i - (k + 1) < i - k from (by first | omega | (simp_all; omega))),?_⟩
        exact Sub.of [] (@cast (((Sd (.calls h)) ∧ (Si ((i : Nat) : Int)) ∧ (Si (((k + 1) : Nat) : Int)) ∧ True) ∧ True ∧ (true = true) ∧ (true = true)) _ (by kernel_rfl) ⟨⟨rfl,rfl,rfl,tt⟩,tt,rfl,rfl⟩)
     ·intro n19
      refine W.exit (thenQ_exit (thenQ_exit (blockQ_hit ?_)))
      refine blockQ_normal (thenQ_normal ?_)
      refine Lk cok tab27 hnt [] (⟨[(0,.sl (.calls h)),(3,.i (((i + 1) : Nat) : Int)),(4,.i ((k : Nat) : Int)),(9,.i ((i : Nat) : Int)),(10,.i (((i + 1) : Nat) : Int)),(19,.b (decide (((k : Nat) : Int) < ((i : Nat) : Int))))],[],[999]⟩)
       (True ∧ (True ∧ True ∧ (Fits .i64 (((i + 1) : Nat) : Int))) ∧ True ∧ True)
       ⟨tt,⟨tt,tt,(by exact fits_i64 (by omega) (by omega))⟩,tt,tt⟩ ?_
      refine thenQ_normal ?_
      refine ⟨((i + 1)),(show ((i + 1) ≤ h.length) ∧ (∀ j,j < (i + 1) → (isCall (callAt h j) && allN j (fun k => !clash (callAt h j) (callAt h k))) = true) from ⟨(by first | assumption | omega | rfl | (intro _ hjj; omega) | (simp; done) | (simp; omega)),(by exact upto_succ hA (and_t (not_g n16) (allN_true (fun j hj => hB j (by omega)))))⟩),(show h.length - (i + 1) < h.length - i from (by first | omega | (simp_all; omega))),?_⟩
      exact Sub.of [] (@cast (((Sd (.calls h)) ∧ (Si (((i + 1) : Nat) : Int)) ∧ True) ∧ True ∧ (true = true) ∧ (true = true)) _ (by kernel_rfl) ⟨⟨rfl,rfl,tt⟩,tt,rfl,rfl⟩)
  ·intro n8
   refine W.exit (thenQ_exit (thenQ_exit (blockQ_hit ?_)))
   refine thenQ_normal ?_
   refine Kk cok tab27 hnt [] [2] (⟨[(2,.b (decide ((h.length : Int) ≤ (6 : Int))))],[],[999]⟩)
    (True ∧ True ∧ (True ∧ True ∧ True) ∧ True ∧ True)
    ⟨tt,tt,⟨tt,tt,tt⟩,tt,tt⟩ ?_
   refine W.ret ?_
   exact endQ_ret (.b (decide ((h.length : Int) ≤ (6 : Int)))) (by kernel_rfl) (@cast ((.bool (decide ((h.length : Int) ≤ (6 : Int))) : Value) = .bool (validHistory h)) _ (by kernel_rfl) (congrArg Value.bool (by unfold validHistory; symm; rw [allN_true (fun j hj => hA j (by omega)),Bool.and_true]; exact bool_ext (by simp only [decide_eq_true_eq]; omega))))
theorem ent27 : Entr prog 27 := ⟨_,func27,rfl,by decide⟩
end Go.Proofs.Try
