import Derived.Test.YtjcapebfkgoicaaDoorTF5S0
import Derived.Test.YtjcapebfkgoicaaDoorTF5S1
import Derived.Test.YtjcapebfkgoicaaDoorTF5S3
import Derived.Test.YtjcapebfkgoicaaDoorTF5S4
set_option linter.unusedSimpArgs false
set_option linter.unusedVariables false
namespace Go.Proofs.Tryd
open Go.Ab Go.RowKit
def fs55 : FnS := fnS [.o,.o,.o] [.int,.int,.int] (fun _ (n,low,high,_) => (.b (within n low high),[],True))
abbrev T55 : Tab := lk []
theorem tab55 : TabOK prog T55 := TabOK.nil
set_option maxRecDepth 100000 in
set_option maxHeartbeats 1000000 in
theorem ok55 : FnOK prog 55 fs55 := by
 refine FnOK.mk cok func55 rfl rfl rfl ?_
 rintro fl ⟨(n : Int),(low : Int),(high : Int),_⟩ hpre F hnt0 _
 have hnt : F.nt = 15 := hnt0.trans ntmps55
 clear hpre
 refine W.to (⟨[(0,.i n),(1,.i low),(2,.i high)],[],[999]⟩) rfl ?_
 refine Kk cok tab55 hnt [] [0,1,2] (⟨[(0,.i n),(1,.i low),(2,.i high)],[],[999]⟩)
  (True ∧ True)
  ⟨tt,tt⟩ ?_
 refine Kk cok tab55 hnt [] [6] (⟨[(6,.b ((decide (low ≤ n)) && (decide (n ≤ high))))],[],[999]⟩)
  ((fun (Z1:Bool)=>(True ∧ (True ∧ ((True ∧ (True ∧ True)) ∧ (True ∧ ((Z1 = true → True) ∧ ((Z1 = true → True) ∧ ((Z1 = true → (((Z1 = true) ∧ True) ∧ (((Z1 = true) ∧ True) ∧ True))) ∧ ((True ∧ ((Z1 = true → (Z1 = true) ∧ True) ∧ (Z1 = false → True))) ∧ (True ∧ True)))))))))) (decide (low ≤ n)))
  ⟨tt,tt,⟨tt,tt,tt⟩,tt,(fun _ => trivial),(fun _ => trivial),(fun hG => ⟨⟨hG,tt⟩,⟨hG,tt⟩,tt⟩),⟨tt,(fun hp => ⟨hp,tt⟩),(fun _ => trivial)⟩,tt,tt⟩ ?_
 refine W.ret ?_
 exact endQ_ret (.b ((decide (low ≤ n)) && (decide (n ≤ high)))) (by kernel_rfl) (@cast ((.bool ((decide (low ≤ n)) && (decide (n ≤ high))) : Value) = .bool (within n low high)) _ (by kernel_rfl) (congrArg Value.bool (by first | rfl | simp_all)))
theorem ent55 : Entr prog 55 := ⟨_,func55,rfl,by decide⟩
end Go.Proofs.Tryd

set_option linter.unusedSimpArgs false
set_option linter.unusedVariables false
namespace Go.Proofs.Tryd
open Go.Ab Go.RowKit
def fs37 : FnS := fnS [.o] [.call] (fun _ (c,_) => (.b (isCall c),[],True))
abbrev T37 : Tab := lk [(55,fs55)]
theorem tab37 : TabOK prog T37 := (TabOK.cons ok55 ent55 TabOK.nil)
set_option maxRecDepth 100000 in
set_option maxHeartbeats 1000000 in
theorem ok37 : FnOK prog 37 fs37 := by
 refine FnOK.mk cok func37 rfl rfl rfl ?_
 rintro fl ⟨(c : CallD),_⟩ hpre F hnt0 _
 have hnt : F.nt = 39 := hnt0.trans ntmps37
 clear hpre
 refine W.to (⟨[(0,.agg [.i c.proc,.i c.obj,.i c.kind,.i c.arg,.i c.ret,.i c.frm,.i c.to])],[],[999]⟩) rfl ?_
 refine Kk cok tab37 hnt [] [1] (⟨[(1,.ptr 1 0)],[(1,⟨40,.fix [.i c.proc,.i c.obj,.i c.kind,.i c.arg,.i c.ret,.i c.frm,.i c.to]⟩)],[1,999]⟩)
  (True ∧ True ∧ True)
  ⟨tt,tt,tt⟩ ?_
 refine Kk cok tab37 hnt [] [2] (⟨[(2,.b (((((((within c.proc (0 : Int) (2 : Int)) && (within c.obj (0 : Int) (1 : Int))) && (within c.kind (0 : Int) (2 : Int))) && (within c.arg (0 : Int) (3 : Int))) && (within c.ret (-1 : Int) (20 : Int))) && (within c.frm (0 : Int) (30 : Int))) && (within c.to (c.frm + (1 : Int)) (30 : Int))))],[(1,⟨40,.fix [.i c.proc,.i c.obj,.i c.kind,.i c.arg,.i c.ret,.i c.frm,.i c.to]⟩)],[1,999]⟩)
  ((fun (Z1:Bool)=>((fun (Z2:Bool)=>((fun (Z3:Bool)=>((fun (Z4:Bool)=>((fun (Z5:Bool)=>((fun (Z6:Bool)=>(True ∧ (True ∧ ((True ∧ ((True ∧ (True ∧ (True ∧ True))) ∧ True)) ∧ (True ∧ ((Z1 = true → True) ∧ ((Z1 = true → ((Z1 = true) ∧ True)) ∧ ((Z1 = true → (True ∧ ((((Z1 = true) ∧ True) ∧ (True ∧ (True ∧ True))) ∧ True))) ∧ ((True ∧ ((Z1 = true → (Z1 = true) ∧ True) ∧ (Z1 = false → True))) ∧ (True ∧ ((Z2 = true → True) ∧ ((Z2 = true → ((Z2 = true) ∧ True)) ∧ ((Z2 = true → (True ∧ ((((Z2 = true) ∧ True) ∧ (True ∧ (True ∧ True))) ∧ True))) ∧ ((True ∧ ((Z2 = true → (Z2 = true) ∧ True) ∧ (Z2 = false → True))) ∧ (True ∧ ((Z3 = true → True) ∧ ((Z3 = true → ((Z3 = true) ∧ True)) ∧ ((Z3 = true → (True ∧ ((((Z3 = true) ∧ True) ∧ (True ∧ (True ∧ True))) ∧ True))) ∧ ((True ∧ ((Z3 = true → (Z3 = true) ∧ True) ∧ (Z3 = false → True))) ∧ (True ∧ ((Z4 = true → True) ∧ ((Z4 = true → ((Z4 = true) ∧ True)) ∧ ((Z4 = true → (True ∧ ((((Z4 = true) ∧ True) ∧ (True ∧ (True ∧ True))) ∧ True))) ∧ ((True ∧ ((Z4 = true → (Z4 = true) ∧ True) ∧ (Z4 = false → True))) ∧ (True ∧ ((Z5 = true → True) ∧ ((Z5 = true → ((Z5 = true) ∧ True)) ∧ ((Z5 = true → (True ∧ ((((Z5 = true) ∧ True) ∧ (True ∧ (True ∧ True))) ∧ True))) ∧ ((True ∧ ((Z5 = true → (Z5 = true) ∧ True) ∧ (Z5 = false → True))) ∧ (True ∧ ((Z6 = true → True) ∧ ((Z6 = true → ((Z6 = true) ∧ True)) ∧ ((Z6 = true → True) ∧ ((Z6 = true → ((Z6 = true) ∧ True)) ∧ ((Z6 = true → (((Z6 = true) ∧ True) ∧ (True ∧ (Fits .i64 (c.frm + (1 : Int)))))) ∧ ((Z6 = true → (True ∧ ((((Z6 = true) ∧ True) ∧ (((Z6 = true) ∧ True) ∧ (True ∧ True))) ∧ True))) ∧ ((True ∧ ((Z6 = true → (Z6 = true) ∧ True) ∧ (Z6 = false → True))) ∧ (True ∧ True)))))))))))))))))))))))))))))))))))))) (Z5 && (within c.frm (0 : Int) (30 : Int))))) (Z4 && (within c.ret (-1 : Int) (20 : Int))))) (Z3 && (within c.arg (0 : Int) (3 : Int))))) (Z2 && (within c.kind (0 : Int) (2 : Int))))) (Z1 && (within c.obj (0 : Int) (1 : Int))))) (within c.proc (0 : Int) (2 : Int)))
  ⟨tt,tt,⟨tt,⟨tt,tt,tt,tt⟩,tt⟩,tt,(fun _ => trivial),(fun hG => ⟨hG,tt⟩),(fun hG => ⟨tt,⟨⟨hG,tt⟩,tt,tt,tt⟩,tt⟩),⟨tt,(fun hp => ⟨hp,tt⟩),(fun _ => trivial)⟩,tt,(fun _ => trivial),(fun hG => ⟨hG,tt⟩),(fun hG => ⟨tt,⟨⟨hG,tt⟩,tt,tt,tt⟩,tt⟩),⟨tt,(fun hp => ⟨hp,tt⟩),(fun _ => trivial)⟩,tt,(fun _ => trivial),(fun hG => ⟨hG,tt⟩),(fun hG => ⟨tt,⟨⟨hG,tt⟩,tt,tt,tt⟩,tt⟩),⟨tt,(fun hp => ⟨hp,tt⟩),(fun _ => trivial)⟩,tt,(fun _ => trivial),(fun hG => ⟨hG,tt⟩),(fun hG => ⟨tt,⟨⟨hG,tt⟩,tt,tt,tt⟩,tt⟩),⟨tt,(fun hp => ⟨hp,tt⟩),(fun _ => trivial)⟩,tt,(fun _ => trivial),(fun hG => ⟨hG,tt⟩),(fun hG => ⟨tt,⟨⟨hG,tt⟩,tt,tt,tt⟩,tt⟩),⟨tt,(fun hp => ⟨hp,tt⟩),(fun _ => trivial)⟩,tt,(fun _ => trivial),(fun hG => ⟨hG,tt⟩),(fun _ => trivial),(fun hG => ⟨hG,tt⟩),(fun hG => ⟨⟨hG,tt⟩,tt,(by have hh := hG; simp only [Bool.and_eq_true,inRange_iff] at hh; exact fits_i64 (by omega) (by omega))⟩),(fun hG => ⟨tt,⟨⟨hG,tt⟩,⟨hG,tt⟩,tt,tt⟩,tt⟩),⟨tt,(fun hp => ⟨hp,tt⟩),(fun _ => trivial)⟩,tt,tt⟩ ?_
 refine W.ret ?_
 exact endQ_ret (.b (((((((within c.proc (0 : Int) (2 : Int)) && (within c.obj (0 : Int) (1 : Int))) && (within c.kind (0 : Int) (2 : Int))) && (within c.arg (0 : Int) (3 : Int))) && (within c.ret (-1 : Int) (20 : Int))) && (within c.frm (0 : Int) (30 : Int))) && (within c.to (c.frm + (1 : Int)) (30 : Int)))) (by kernel_rfl) (@cast ((.bool (((((((within c.proc (0 : Int) (2 : Int)) && (within c.obj (0 : Int) (1 : Int))) && (within c.kind (0 : Int) (2 : Int))) && (within c.arg (0 : Int) (3 : Int))) && (within c.ret (-1 : Int) (20 : Int))) && (within c.frm (0 : Int) (30 : Int))) && (within c.to (c.frm + (1 : Int)) (30 : Int))) : Value) = .bool (isCall c)) _ (by kernel_rfl) (congrArg Value.bool (by rw [validCall_eq])))
theorem ent37 : Entr prog 37 := ⟨_,func37,rfl,by decide⟩
end Go.Proofs.Tryd

set_option linter.unusedSimpArgs false
set_option linter.unusedVariables false
namespace Go.Proofs.Tryd
open Go.Ab Go.RowKit
def fs20 : FnS := fnS [.s .calls] [.calls] (fun _ (h,_) => (.b (validHistory h),[],True))
abbrev T20 : Tab := lk [(37,fs37)]
theorem tab20 : TabOK prog T20 := (TabOK.cons ok37 ent37 TabOK.nil)
set_option maxRecDepth 100000 in
set_option maxHeartbeats 1000000 in
theorem ok20 : FnOK prog 20 fs20 := by
 refine FnOK.mk cok func20 rfl rfl rfl ?_
 rintro fl ⟨(h : List CallD),_⟩ hpre F hnt0 _
 have hnt : F.nt = 112 := hnt0.trans ntmps20
 clear hpre
 refine W.to (⟨[(0,.sl (.calls h))],[],[999]⟩) rfl ?_
 refine W.lenOf 0 (.calls h) (by kernel_rfl) ?_
 intro hl_h; replace hl_h : List.length h ≤ 9223372036854775807 := hl_h
 refine Kk cok tab20 hnt [] [0] (⟨[(0,.sl (.calls h))],[],[999]⟩)
  (True ∧ True)
  ⟨tt,tt⟩ ?_
 refine W.seq ?_
 refine Kk cok tab20 hnt [] [0,3] (⟨[(0,.sl (.calls h)),(3,.i (0 : Int))],[],[999]⟩)
  (True ∧ True)
  ⟨tt,tt⟩ ?_
 refine W.block ?_
 refine W.loop (ι := Nat) (fun (i : Nat) => (⟨[(0,.sl (.calls h)),(3,.i ((i : Nat) : Int))],[],[999]⟩ : St))
  (fun (i : Nat) => (i ≤ h.length) ∧ (∀ j,j < i → (isCall (callAt h j) && allN j (fun k => !clash (callAt h j) (callAt h k))) = true))
  (fun (i : Nat) => (h.length - i : Nat)) (0) ?_ ?_ ?_
 ·exact (show (0 ≤ h.length) ∧ (∀ j,j < 0 → (isCall (callAt h j) && allN j (fun k => !clash (callAt h j) (callAt h k))) = true) from ⟨(by first | assumption | omega | rfl | (intro _ hjj; omega) | (simp; done) | (simp; omega)),(by exact upto_zero)⟩)
 ·exact Sub.of [] (@cast (((Sd (.calls h)) ∧ ((.int .i64 (0 : Int) : Value) = .int .i64 ((0 : Nat) : Int)) ∧ True) ∧ True ∧ (true = true) ∧ (true = true)) _ (by kernel_rfl) ⟨⟨rfl,(congrArg (Value.int .i64) (by first | rfl | omega | assumption | simp | simp_all)),tt⟩,tt,rfl,rfl⟩)
 ·rintro i hC0
  have hC : (i ≤ h.length) ∧ (∀ j,j < i → (isCall (callAt h j) && allN j (fun k => !clash (callAt h j) (callAt h k))) = true) := hC0
  clear hC0
  obtain ⟨hi,hA⟩ := hC
  refine W.to (⟨[(0,.sl (.calls h)),(3,.i ((i : Nat) : Int))],[],[999]⟩) rfl ?_
  refine W.seq ?_
  refine Kk cok tab20 hnt [] [0,3,8] (⟨[(0,.sl (.calls h)),(3,.i ((i : Nat) : Int)),(8,.b (decide (((i : Nat) : Int) < (h.length : Int))))],[],[999]⟩)
   (True ∧ True ∧ True ∧ (True ∧ True ∧ True) ∧ True)
   ⟨tt,tt,tt,⟨tt,tt,tt⟩,tt⟩ ?_
  refine W.ifP (((i : Nat) : Int) < (h.length : Int)) (.b (decide (((i : Nat) : Int) < (h.length : Int)))) (by kernel_rfl) rfl trivial ?_ ?_
  ·intro h8
   refine W.skip (thenQ_normal ?_)
   refine W.seq ?_
   refine W.block ?_
   refine W.seq ?_
   refine Kk cok tab20 hnt [] [0,3,16] (⟨[(0,.sl (.calls h)),(3,.i ((i : Nat) : Int)),(16,.b (!(isCall (h.getD i default))))],[],[999]⟩)
    (True ∧ True ∧ (True ∧ True ∧ (0 ≤ ((i : Nat) : Int)) ∧ (((i : Nat) : Int) < (h.length : Int))) ∧ True ∧ (True ∧ (True ∧ True) ∧ True) ∧ True ∧ True)
    ⟨tt,tt,⟨tt,tt,(by omega),(by omega)⟩,tt,⟨tt,⟨tt,tt⟩,tt⟩,tt,tt⟩ ?_
   refine W.if' (!(isCall (h.getD i default))) (.b (!(isCall (h.getD i default)))) (by kernel_rfl) rfl trivial ?_ ?_
   ·intro h16
    refine Kk cok tab20 hnt [] [2] (⟨[(2,.b false)],[],[999]⟩)
     (True ∧ True)
     ⟨tt,tt⟩ ?_
    refine W.ret (thenQ_ret (blockQ_ret (thenQ_ret (thenQ_ret (blockQ_ret (thenQ_ret ?_))))))
    exact endQ_ret (.b false) (by kernel_rfl) (@cast ((.bool false : Value) = .bool (validHistory h)) _ (by kernel_rfl) (congrArg Value.bool (by unfold validHistory; symm; exact and_fr (allN_false (i := i) (by omega) (and_fl (not_f h16))))))
   ·intro n16
    refine W.skip (thenQ_normal ?_)
    refine Kk cok tab20 hnt [] [0,3,4] (⟨[(0,.sl (.calls h)),(3,.i ((i : Nat) : Int)),(4,.i (0 : Int))],[],[999]⟩)
     (True ∧ True)
     ⟨tt,tt⟩ ?_
    refine W.block ?_
    refine W.loop (ι := Nat) (fun (k : Nat) => (⟨[(0,.sl (.calls h)),(3,.i ((i : Nat) : Int)),(4,.i ((k : Nat) : Int))],[],[999]⟩ : St))
     (fun (k : Nat) => (k ≤ i) ∧ (∀ j,j < k → (!clash (callAt h i) (callAt h j)) = true))
     (fun (k : Nat) => (i - k : Nat)) (0) ?_ ?_ ?_
    ·exact (show (0 ≤ i) ∧ (∀ j,j < 0 → (!clash (callAt h i) (callAt h j)) = true) from ⟨(by first | assumption | omega | rfl | (intro _ hjj; omega) | (simp; done) | (simp; omega)),(by exact upto_zero)⟩)
    ·exact Sub.of [] (@cast (((Sd (.calls h)) ∧ (Si ((i : Nat) : Int)) ∧ ((.int .i64 (0 : Int) : Value) = .int .i64 ((0 : Nat) : Int)) ∧ True) ∧ True ∧ (true = true) ∧ (true = true)) _ (by kernel_rfl) ⟨⟨rfl,rfl,(congrArg (Value.int .i64) (by first | rfl | omega | assumption | simp | simp_all)),tt⟩,tt,rfl,rfl⟩)
    ·rintro k hC0
     have hC : (k ≤ i) ∧ (∀ j,j < k → (!clash (callAt h i) (callAt h j)) = true) := hC0
     clear hC0
     obtain ⟨hk,hB⟩ := hC
     refine W.to (⟨[(0,.sl (.calls h)),(3,.i ((i : Nat) : Int)),(4,.i ((k : Nat) : Int))],[],[999]⟩) rfl ?_
     refine W.seq ?_
     refine Kk cok tab20 hnt [] [0,3,4,19] (⟨[(0,.sl (.calls h)),(3,.i ((i : Nat) : Int)),(4,.i ((k : Nat) : Int)),(19,.b (decide (((k : Nat) : Int) < ((i : Nat) : Int))))],[],[999]⟩)
      (True ∧ True ∧ (True ∧ True ∧ True) ∧ True)
      ⟨tt,tt,⟨tt,tt,tt⟩,tt⟩ ?_
     refine W.ifP (((k : Nat) : Int) < ((i : Nat) : Int)) (.b (decide (((k : Nat) : Int) < ((i : Nat) : Int)))) (by kernel_rfl) rfl trivial ?_ ?_
     ·intro h19
      refine W.skip (thenQ_normal ?_)
      refine W.seq ?_
      refine W.block ?_
      refine W.seq ?_
      refine W.KA cok tab20 hnt [] [0,3,4,71] (⟨[(0,.sl (.calls h)),(3,.i ((i : Nat) : Int)),(4,.i ((k : Nat) : Int)),(71,.b ((((decide (((h.getD k default).frm) = ((h.getD i default).frm))) || (decide (((h.getD k default).frm) = ((h.getD i default).to)))) || (decide (((h.getD k default).to) = ((h.getD i default).frm)))) || (decide (((h.getD k default).to) = ((h.getD i default).to)))))],[],[999]⟩)
       ((fun (Z1:Bool)=>((fun (Z2:Bool)=>((fun (Z3:Bool)=>(True ∧ (True ∧ ((True ∧ (True ∧ ((0 ≤ ((k : Nat) : Int)) ∧ (((k : Nat) : Int) < (h.length : Int))))) ∧ (True ∧ (True ∧ (True ∧ (True ∧ ((True ∧ (True ∧ ((0 ≤ ((i : Nat) : Int)) ∧ (((i : Nat) : Int) < (h.length : Int))))) ∧ (True ∧ (True ∧ ((True ∧ (True ∧ True)) ∧ (True ∧ (((!Z1) = true → True) ∧ (((!Z1) = true → True) ∧ (((!Z1) = true → ((((!Z1) = true) ∧ True) ∧ ((((!Z1) = true) ∧ True) ∧ ((0 ≤ ((k : Nat) : Int)) ∧ (((k : Nat) : Int) < (h.length : Int)))))) ∧ (((!Z1) = true → (((!Z1) = true) ∧ True)) ∧ (((!Z1) = true → (((!Z1) = true) ∧ True)) ∧ (((!Z1) = true → True) ∧ (((!Z1) = true → True) ∧ (((!Z1) = true → ((((!Z1) = true) ∧ True) ∧ ((((!Z1) = true) ∧ True) ∧ ((0 ≤ ((i : Nat) : Int)) ∧ (((i : Nat) : Int) < (h.length : Int)))))) ∧ (((!Z1) = true → (((!Z1) = true) ∧ True)) ∧ (((!Z1) = true → (((!Z1) = true) ∧ True)) ∧ (((!Z1) = true → ((((!Z1) = true) ∧ True) ∧ ((((!Z1) = true) ∧ True) ∧ True))) ∧ ((True ∧ ((Z1 = true → True) ∧ (Z1 = false → ((!Z1) = true) ∧ True))) ∧ (True ∧ (((!Z2) = true → True) ∧ (((!Z2) = true → True) ∧ (((!Z2) = true → ((((!Z2) = true) ∧ True) ∧ ((((!Z2) = true) ∧ True) ∧ ((0 ≤ ((k : Nat) : Int)) ∧ (((k : Nat) : Int) < (h.length : Int)))))) ∧ (((!Z2) = true → (((!Z2) = true) ∧ True)) ∧ (((!Z2) = true → (((!Z2) = true) ∧ True)) ∧ (((!Z2) = true → True) ∧ (((!Z2) = true → True) ∧ (((!Z2) = true → ((((!Z2) = true) ∧ True) ∧ ((((!Z2) = true) ∧ True) ∧ ((0 ≤ ((i : Nat) : Int)) ∧ (((i : Nat) : Int) < (h.length : Int)))))) ∧ (((!Z2) = true → (((!Z2) = true) ∧ True)) ∧ (((!Z2) = true → (((!Z2) = true) ∧ True)) ∧ (((!Z2) = true → ((((!Z2) = true) ∧ True) ∧ ((((!Z2) = true) ∧ True) ∧ True))) ∧ ((True ∧ ((Z2 = true → True) ∧ (Z2 = false → ((!Z2) = true) ∧ True))) ∧ (True ∧ (((!Z3) = true → True) ∧ (((!Z3) = true → True) ∧ (((!Z3) = true → ((((!Z3) = true) ∧ True) ∧ ((((!Z3) = true) ∧ True) ∧ ((0 ≤ ((k : Nat) : Int)) ∧ (((k : Nat) : Int) < (h.length : Int)))))) ∧ (((!Z3) = true → (((!Z3) = true) ∧ True)) ∧ (((!Z3) = true → (((!Z3) = true) ∧ True)) ∧ (((!Z3) = true → True) ∧ (((!Z3) = true → True) ∧ (((!Z3) = true → ((((!Z3) = true) ∧ True) ∧ ((((!Z3) = true) ∧ True) ∧ ((0 ≤ ((i : Nat) : Int)) ∧ (((i : Nat) : Int) < (h.length : Int)))))) ∧ (((!Z3) = true → (((!Z3) = true) ∧ True)) ∧ (((!Z3) = true → (((!Z3) = true) ∧ True)) ∧ (((!Z3) = true → ((((!Z3) = true) ∧ True) ∧ ((((!Z3) = true) ∧ True) ∧ True))) ∧ ((True ∧ ((Z3 = true → True) ∧ (Z3 = false → ((!Z3) = true) ∧ True))) ∧ True))))))))))))))))))))))))))))))))))))))))))))))))))) (Z2 || (decide (((h.getD k default).to) = ((h.getD i default).frm)))))) (Z1 || (decide (((h.getD k default).frm) = ((h.getD i default).to)))))) (decide (((h.getD k default).frm) = ((h.getD i default).frm)))) (by kernel_rfl) (by kernel_rfl)
       ⟨tt,tt,⟨tt,tt,(by omega),(by omega)⟩,tt,tt,tt,tt,⟨tt,tt,(by omega),(by omega)⟩,tt,tt,⟨tt,tt,tt⟩,tt,(fun _ => trivial),(fun _ => trivial),(fun hG => ⟨⟨hG,tt⟩,⟨hG,tt⟩,(by have hg0 : ¬ (((h.getD k default).frm) = ((h.getD i default).frm)) := of_decide_eq_false (not_f hG); omega),(by have hg0 : ¬ (((h.getD k default).frm) = ((h.getD i default).frm)) := of_decide_eq_false (not_f hG); omega)⟩),(fun hG => ⟨hG,tt⟩),(fun hG => ⟨hG,tt⟩),(fun _ => trivial),(fun _ => trivial),(fun hG => ⟨⟨hG,tt⟩,⟨hG,tt⟩,(by have hg0 : ¬ (((h.getD k default).frm) = ((h.getD i default).frm)) := of_decide_eq_false (not_f hG); omega),(by have hg0 : ¬ (((h.getD k default).frm) = ((h.getD i default).frm)) := of_decide_eq_false (not_f hG); omega)⟩),(fun hG => ⟨hG,tt⟩),(fun hG => ⟨hG,tt⟩),(fun hG => ⟨⟨hG,tt⟩,⟨hG,tt⟩,tt⟩),⟨tt,(fun _ => trivial),(fun hp => ⟨(not_t hp),tt⟩)⟩,tt,(fun _ => trivial),(fun _ => trivial),(fun hG => ⟨⟨hG,tt⟩,⟨hG,tt⟩,(by have hg0 : ¬ (((h.getD k default).frm) = ((h.getD i default).frm)) := of_decide_eq_false (or_l (not_f hG)); have hg1 : ¬ (((h.getD k default).frm) = ((h.getD i default).to)) := of_decide_eq_false (or_r (not_f hG)); omega),(by have hg0 : ¬ (((h.getD k default).frm) = ((h.getD i default).frm)) := of_decide_eq_false (or_l (not_f hG)); have hg1 : ¬ (((h.getD k default).frm) = ((h.getD i default).to)) := of_decide_eq_false (or_r (not_f hG)); omega)⟩),(fun hG => ⟨hG,tt⟩),(fun hG => ⟨hG,tt⟩),(fun _ => trivial),(fun _ => trivial),(fun hG => ⟨⟨hG,tt⟩,⟨hG,tt⟩,(by have hg0 : ¬ (((h.getD k default).frm) = ((h.getD i default).frm)) := of_decide_eq_false (or_l (not_f hG)); have hg1 : ¬ (((h.getD k default).frm) = ((h.getD i default).to)) := of_decide_eq_false (or_r (not_f hG)); omega),(by have hg0 : ¬ (((h.getD k default).frm) = ((h.getD i default).frm)) := of_decide_eq_false (or_l (not_f hG)); have hg1 : ¬ (((h.getD k default).frm) = ((h.getD i default).to)) := of_decide_eq_false (or_r (not_f hG)); omega)⟩),(fun hG => ⟨hG,tt⟩),(fun hG => ⟨hG,tt⟩),(fun hG => ⟨⟨hG,tt⟩,⟨hG,tt⟩,tt⟩),⟨tt,(fun _ => trivial),(fun hp => ⟨(not_t hp),tt⟩)⟩,tt,(fun _ => trivial),(fun _ => trivial),(fun hG => ⟨⟨hG,tt⟩,⟨hG,tt⟩,(by have hg0 : ¬ (((h.getD k default).frm) = ((h.getD i default).frm)) := of_decide_eq_false (or_l (or_l (not_f hG))); have hg1 : ¬ (((h.getD k default).frm) = ((h.getD i default).to)) := of_decide_eq_false (or_r (or_l (not_f hG))); have hg2 : ¬ (((h.getD k default).to) = ((h.getD i default).frm)) := of_decide_eq_false (or_r (not_f hG)); omega),(by have hg0 : ¬ (((h.getD k default).frm) = ((h.getD i default).frm)) := of_decide_eq_false (or_l (or_l (not_f hG))); have hg1 : ¬ (((h.getD k default).frm) = ((h.getD i default).to)) := of_decide_eq_false (or_r (or_l (not_f hG))); have hg2 : ¬ (((h.getD k default).to) = ((h.getD i default).frm)) := of_decide_eq_false (or_r (not_f hG)); omega)⟩),(fun hG => ⟨hG,tt⟩),(fun hG => ⟨hG,tt⟩),(fun _ => trivial),(fun _ => trivial),(fun hG => ⟨⟨hG,tt⟩,⟨hG,tt⟩,(by have hg0 : ¬ (((h.getD k default).frm) = ((h.getD i default).frm)) := of_decide_eq_false (or_l (or_l (not_f hG))); have hg1 : ¬ (((h.getD k default).frm) = ((h.getD i default).to)) := of_decide_eq_false (or_r (or_l (not_f hG))); have hg2 : ¬ (((h.getD k default).to) = ((h.getD i default).frm)) := of_decide_eq_false (or_r (not_f hG)); omega),(by have hg0 : ¬ (((h.getD k default).frm) = ((h.getD i default).frm)) := of_decide_eq_false (or_l (or_l (not_f hG))); have hg1 : ¬ (((h.getD k default).frm) = ((h.getD i default).to)) := of_decide_eq_false (or_r (or_l (not_f hG))); have hg2 : ¬ (((h.getD k default).to) = ((h.getD i default).frm)) := of_decide_eq_false (or_r (not_f hG)); omega)⟩),(fun hG => ⟨hG,tt⟩),(fun hG => ⟨hG,tt⟩),(fun hG => ⟨⟨hG,tt⟩,⟨hG,tt⟩,tt⟩),⟨tt,(fun _ => trivial),(fun hp => ⟨(not_t hp),tt⟩)⟩,tt⟩ ?_
      refine W.if' ((((decide (((h.getD k default).frm) = ((h.getD i default).frm))) || (decide (((h.getD k default).frm) = ((h.getD i default).to)))) || (decide (((h.getD k default).to) = ((h.getD i default).frm)))) || (decide (((h.getD k default).to) = ((h.getD i default).to)))) (.b ((((decide (((h.getD k default).frm) = ((h.getD i default).frm))) || (decide (((h.getD k default).frm) = ((h.getD i default).to)))) || (decide (((h.getD k default).to) = ((h.getD i default).frm)))) || (decide (((h.getD k default).to) = ((h.getD i default).to))))) (by kernel_rfl) rfl trivial ?_ ?_
      ·intro h71
       refine Kk cok tab20 hnt [] [2] (⟨[(2,.b false)],[],[999]⟩)
        (True ∧ True)
        ⟨tt,tt⟩ ?_
       refine W.ret (thenQ_ret (blockQ_ret (thenQ_ret (thenQ_ret (blockQ_ret (blockQ_ret (thenQ_ret (thenQ_ret (blockQ_ret (thenQ_ret ?_))))))))))
       exact endQ_ret (.b false) (by kernel_rfl) (@cast ((.bool false : Value) = .bool (validHistory h)) _ (by kernel_rfl) (congrArg Value.bool (by unfold validHistory; symm; exact and_fr (allN_false (i := i) (by omega) (and_fr (allN_false (i := k) (by omega) (clash_true1 h71)))))))
      ·intro n71
       have n71_0 : ¬ (((h.getD k default).frm) = ((h.getD i default).frm)) := of_decide_eq_false (or_l (or_l (or_l n71)))
       have n71_1 : ¬ (((h.getD k default).frm) = ((h.getD i default).to)) := of_decide_eq_false (or_r (or_l (or_l n71)))
       have n71_2 : ¬ (((h.getD k default).to) = ((h.getD i default).frm)) := of_decide_eq_false (or_r (or_l n71))
       have n71_3 : ¬ (((h.getD k default).to) = ((h.getD i default).to)) := of_decide_eq_false (or_r n71)
       refine W.skip (thenQ_normal ?_)
       refine W.KA cok tab20 hnt [] [0,3,4,108] (⟨[(0,.sl (.calls h)),(3,.i ((i : Nat) : Int)),(4,.i ((k : Nat) : Int)),(108,.b (((decide (((h.getD k default).proc) = ((h.getD i default).proc))) && (decide (((h.getD i default).frm) < ((h.getD k default).to)))) && (decide (((h.getD k default).frm) < ((h.getD i default).to)))))],[],[999]⟩)
        ((fun (Z1:Bool)=>((fun (Z2:Bool)=>(True ∧ (True ∧ ((True ∧ (True ∧ ((0 ≤ ((k : Nat) : Int)) ∧ (((k : Nat) : Int) < (h.length : Int))))) ∧ (True ∧ (True ∧ (True ∧ (True ∧ ((True ∧ (True ∧ ((0 ≤ ((i : Nat) : Int)) ∧ (((i : Nat) : Int) < (h.length : Int))))) ∧ (True ∧ (True ∧ ((True ∧ (True ∧ True)) ∧ (True ∧ ((Z1 = true → True) ∧ ((Z1 = true → True) ∧ ((Z1 = true → (((Z1 = true) ∧ True) ∧ (((Z1 = true) ∧ True) ∧ ((0 ≤ ((k : Nat) : Int)) ∧ (((k : Nat) : Int) < (h.length : Int)))))) ∧ ((Z1 = true → ((Z1 = true) ∧ True)) ∧ ((Z1 = true → ((Z1 = true) ∧ True)) ∧ ((Z1 = true → True) ∧ ((Z1 = true → True) ∧ ((Z1 = true → (((Z1 = true) ∧ True) ∧ (((Z1 = true) ∧ True) ∧ ((0 ≤ ((i : Nat) : Int)) ∧ (((i : Nat) : Int) < (h.length : Int)))))) ∧ ((Z1 = true → ((Z1 = true) ∧ True)) ∧ ((Z1 = true → ((Z1 = true) ∧ True)) ∧ ((Z1 = true → (((Z1 = true) ∧ True) ∧ (((Z1 = true) ∧ True) ∧ True))) ∧ ((True ∧ ((Z1 = true → (Z1 = true) ∧ True) ∧ (Z1 = false → True))) ∧ (True ∧ ((Z2 = true → True) ∧ ((Z2 = true → True) ∧ ((Z2 = true → (((Z2 = true) ∧ True) ∧ (((Z2 = true) ∧ True) ∧ ((0 ≤ ((i : Nat) : Int)) ∧ (((i : Nat) : Int) < (h.length : Int)))))) ∧ ((Z2 = true → ((Z2 = true) ∧ True)) ∧ ((Z2 = true → ((Z2 = true) ∧ True)) ∧ ((Z2 = true → True) ∧ ((Z2 = true → True) ∧ ((Z2 = true → (((Z2 = true) ∧ True) ∧ (((Z2 = true) ∧ True) ∧ ((0 ≤ ((k : Nat) : Int)) ∧ (((k : Nat) : Int) < (h.length : Int)))))) ∧ ((Z2 = true → ((Z2 = true) ∧ True)) ∧ ((Z2 = true → ((Z2 = true) ∧ True)) ∧ ((Z2 = true → (((Z2 = true) ∧ True) ∧ (((Z2 = true) ∧ True) ∧ True))) ∧ ((True ∧ ((Z2 = true → (Z2 = true) ∧ True) ∧ (Z2 = false → True))) ∧ True)))))))))))))))))))))))))))))))))))))) (Z1 && (decide (((h.getD i default).frm) < ((h.getD k default).to)))))) (decide (((h.getD k default).proc) = ((h.getD i default).proc)))) (by kernel_rfl) (by kernel_rfl)
        ⟨tt,tt,⟨tt,tt,(by omega),(by omega)⟩,tt,tt,tt,tt,⟨tt,tt,(by omega),(by omega)⟩,tt,tt,⟨tt,tt,tt⟩,tt,(fun _ => trivial),(fun _ => trivial),(fun hG => ⟨⟨hG,tt⟩,⟨hG,tt⟩,(by have hg0 : ((h.getD k default).proc) = ((h.getD i default).proc) := of_decide_eq_true hG; omega),(by have hg0 : ((h.getD k default).proc) = ((h.getD i default).proc) := of_decide_eq_true hG; omega)⟩),(fun hG => ⟨hG,tt⟩),(fun hG => ⟨hG,tt⟩),(fun _ => trivial),(fun _ => trivial),(fun hG => ⟨⟨hG,tt⟩,⟨hG,tt⟩,(by have hg0 : ((h.getD k default).proc) = ((h.getD i default).proc) := of_decide_eq_true hG; omega),(by have hg0 : ((h.getD k default).proc) = ((h.getD i default).proc) := of_decide_eq_true hG; omega)⟩),(fun hG => ⟨hG,tt⟩),(fun hG => ⟨hG,tt⟩),(fun hG => ⟨⟨hG,tt⟩,⟨hG,tt⟩,tt⟩),⟨tt,(fun hp => ⟨hp,tt⟩),(fun _ => trivial)⟩,tt,(fun _ => trivial),(fun _ => trivial),(fun hG => ⟨⟨hG,tt⟩,⟨hG,tt⟩,(by have hg0 : ((h.getD k default).proc) = ((h.getD i default).proc) := of_decide_eq_true (and_l hG); have hg1 : ((h.getD i default).frm) < ((h.getD k default).to) := of_decide_eq_true (and_r hG); omega),(by have hg0 : ((h.getD k default).proc) = ((h.getD i default).proc) := of_decide_eq_true (and_l hG); have hg1 : ((h.getD i default).frm) < ((h.getD k default).to) := of_decide_eq_true (and_r hG); omega)⟩),(fun hG => ⟨hG,tt⟩),(fun hG => ⟨hG,tt⟩),(fun _ => trivial),(fun _ => trivial),(fun hG => ⟨⟨hG,tt⟩,⟨hG,tt⟩,(by have hg0 : ((h.getD k default).proc) = ((h.getD i default).proc) := of_decide_eq_true (and_l hG); have hg1 : ((h.getD i default).frm) < ((h.getD k default).to) := of_decide_eq_true (and_r hG); omega),(by have hg0 : ((h.getD k default).proc) = ((h.getD i default).proc) := of_decide_eq_true (and_l hG); have hg1 : ((h.getD i default).frm) < ((h.getD k default).to) := of_decide_eq_true (and_r hG); omega)⟩),(fun hG => ⟨hG,tt⟩),(fun hG => ⟨hG,tt⟩),(fun hG => ⟨⟨hG,tt⟩,⟨hG,tt⟩,tt⟩),⟨tt,(fun hp => ⟨hp,tt⟩),(fun _ => trivial)⟩,tt⟩ ?_
       refine W.if' (((decide (((h.getD k default).proc) = ((h.getD i default).proc))) && (decide (((h.getD i default).frm) < ((h.getD k default).to)))) && (decide (((h.getD k default).frm) < ((h.getD i default).to)))) (.b (((decide (((h.getD k default).proc) = ((h.getD i default).proc))) && (decide (((h.getD i default).frm) < ((h.getD k default).to)))) && (decide (((h.getD k default).frm) < ((h.getD i default).to))))) (by kernel_rfl) rfl trivial ?_ ?_
       ·intro h108
        have h108_0 : ((h.getD k default).proc) = ((h.getD i default).proc) := of_decide_eq_true (and_l (and_l h108))
        have h108_1 : ((h.getD i default).frm) < ((h.getD k default).to) := of_decide_eq_true (and_r (and_l h108))
        have h108_2 : ((h.getD k default).frm) < ((h.getD i default).to) := of_decide_eq_true (and_r h108)
        refine Kk cok tab20 hnt [] [2] (⟨[(2,.b false)],[],[999]⟩)
         (True ∧ True)
         ⟨tt,tt⟩ ?_
        refine W.ret (blockQ_ret (thenQ_ret (thenQ_ret (blockQ_ret (blockQ_ret (thenQ_ret (thenQ_ret (blockQ_ret (thenQ_ret ?_)))))))))
        exact endQ_ret (.b false) (by kernel_rfl) (@cast ((.bool false : Value) = .bool (validHistory h)) _ (by kernel_rfl) (congrArg Value.bool (by unfold validHistory; symm; exact and_fr (allN_false (i := i) (by omega) (and_fr (allN_false (i := k) (by omega) (clash_true2 h108)))))))
       ·intro n108
        refine W.skip (blockQ_normal (thenQ_normal ?_))
        refine Lk cok tab20 hnt [] (⟨[(0,.sl (.calls h)),(3,.i ((i : Nat) : Int)),(4,.i (((k + 1) : Nat) : Int)),(20,.i ((k : Nat) : Int)),(21,.i (((k + 1) : Nat) : Int)),(108,.b (((decide (((h.getD k default).proc) = ((h.getD i default).proc))) && (decide (((h.getD i default).frm) < ((h.getD k default).to)))) && (decide (((h.getD k default).frm) < ((h.getD i default).to)))))],[],[999]⟩)
         (True ∧ (True ∧ True ∧ (Fits .i64 (((k + 1) : Nat) : Int))) ∧ True ∧ True)
         ⟨tt,⟨tt,tt,(by exact fits_i64 (by omega) (by omega))⟩,tt,tt⟩ ?_
        refine thenQ_normal ?_
        refine ⟨((k + 1)),(show ((k + 1) ≤ i) ∧ (∀ j,j < (k + 1) → (!clash (callAt h i) (callAt h j)) = true) from ⟨(by first | assumption | omega | rfl | (intro _ hjj; omega) | (simp; done) | (simp; omega)),(by exact upto_succ hB (clash_false n71 n108))⟩),(show i - (k + 1) < i - k from (by first | omega | (simp_all; omega))),?_⟩
        exact Sub.of [] (@cast (((Sd (.calls h)) ∧ (Si ((i : Nat) : Int)) ∧ (Si (((k + 1) : Nat) : Int)) ∧ True) ∧ True ∧ (true = true) ∧ (true = true)) _ (by kernel_rfl) ⟨⟨rfl,rfl,rfl,tt⟩,tt,rfl,rfl⟩)
     ·intro n19
      refine W.exit (thenQ_exit (thenQ_exit (blockQ_hit ?_)))
      refine blockQ_normal (thenQ_normal ?_)
      refine Lk cok tab20 hnt [] (⟨[(0,.sl (.calls h)),(3,.i (((i + 1) : Nat) : Int)),(4,.i ((k : Nat) : Int)),(9,.i ((i : Nat) : Int)),(10,.i (((i + 1) : Nat) : Int)),(19,.b (decide (((k : Nat) : Int) < ((i : Nat) : Int))))],[],[999]⟩)
       (True ∧ (True ∧ True ∧ (Fits .i64 (((i + 1) : Nat) : Int))) ∧ True ∧ True)
       ⟨tt,⟨tt,tt,(by exact fits_i64 (by omega) (by omega))⟩,tt,tt⟩ ?_
      refine thenQ_normal ?_
      refine ⟨((i + 1)),(show ((i + 1) ≤ h.length) ∧ (∀ j,j < (i + 1) → (isCall (callAt h j) && allN j (fun k => !clash (callAt h j) (callAt h k))) = true) from ⟨(by first | assumption | omega | rfl | (intro _ hjj; omega) | (simp; done) | (simp; omega)),(by exact upto_succ hA (and_t (not_g n16) (allN_true (fun j hj => hB j (by omega)))))⟩),(show h.length - (i + 1) < h.length - i from (by first | omega | (simp_all; omega))),?_⟩
      exact Sub.of [] (@cast (((Sd (.calls h)) ∧ (Si (((i + 1) : Nat) : Int)) ∧ True) ∧ True ∧ (true = true) ∧ (true = true)) _ (by kernel_rfl) ⟨⟨rfl,rfl,tt⟩,tt,rfl,rfl⟩)
  ·intro n8
   refine W.exit (thenQ_exit (thenQ_exit (blockQ_hit ?_)))
   refine thenQ_normal ?_
   refine Kk cok tab20 hnt [] [2] (⟨[(2,.b (decide ((h.length : Int) ≤ (6 : Int))))],[],[999]⟩)
    (True ∧ True ∧ (True ∧ True ∧ True) ∧ True ∧ True)
    ⟨tt,tt,⟨tt,tt,tt⟩,tt,tt⟩ ?_
   refine W.ret ?_
   exact endQ_ret (.b (decide ((h.length : Int) ≤ (6 : Int)))) (by kernel_rfl) (@cast ((.bool (decide ((h.length : Int) ≤ (6 : Int))) : Value) = .bool (validHistory h)) _ (by kernel_rfl) (congrArg Value.bool (by unfold validHistory; symm; rw [allN_true (fun j hj => hA j (by omega)),Bool.and_true]; exact bool_ext (by simp only [decide_eq_true_eq]; omega))))
theorem ent20 : Entr prog 20 := ⟨_,func20,rfl,by decide⟩
end Go.Proofs.Tryd

set_option linter.unusedSimpArgs false
set_option linter.unusedVariables false
namespace Go.Proofs.Tryd
open Go.Ab Go.RowKit
def fs36 : FnS := fnS [.o] [.str] (fun _ (s,_) => (.tup [.sl (.calls (outS s.data.toList)),.b (validHistory (outS s.data.toList))],[],(s.size ≤ 1999999)))
abbrev T36 : Tab := lk [(20,fs20),(53,fs53),(54,fs54)]
theorem tab36 : TabOK prog T36 := (TabOK.cons ok20 ent20 (TabOK.cons ok53 ent53 (TabOK.cons ok54 ent54 TabOK.nil)))
set_option maxRecDepth 100000 in
set_option maxHeartbeats 1000000 in
theorem ok36 : FnOK prog 36 fs36 := by
 refine FnOK.mk cok func36 rfl rfl rfl ?_
 rintro fl ⟨(s : ByteArray),_⟩ hpre F hnt0 _
 have hnt : F.nt = 29 := hnt0.trans ntmps36
 replace hpre : (s.size ≤ 1999999) := hpre
 have hz := hpre
 refine W.to (⟨[(0,.v (.string s))],[],[999]⟩) rfl ?_
 have hp : ∀ i,(List.getD (splitB8 32 s) i default).size ≤ s.size := split8_piece 32 s
 have hsl := split8_len 32 s
 refine Kk cok tab36 hnt [] [0] (⟨[(0,.v (.string s))],[],[999]⟩)
  (True ∧ True ∧ True)
  ⟨tt,tt,tt⟩ ?_
 refine Kk cok tab36 hnt [7] [0,4] (⟨[(0,.v (.string s)),(4,.own 7 (List.length ([] : List CallD)))],[(7,⟨40,.row (.calls ([] : List CallD))⟩)],[7,999]⟩)
  (True ∧ True ∧ True)
  ⟨tt,tt,tt⟩ ?_
 refine W.seq ?_
 refine Kk cok tab36 hnt [] [0,4,9] (⟨[(0,.v (.string s)),(4,.own 7 (List.length ([] : List CallD))),(9,.b (!(eqS s nEmpty)))],[(7,⟨40,.row (.calls ([] : List CallD))⟩)],[7,999]⟩)
  (True ∧ (True ∧ True ∧ True) ∧ True)
  ⟨tt,⟨tt,tt,tt⟩,tt⟩ ?_
 refine W.if' (!(eqS s nEmpty)) (.b (!(eqS s nEmpty))) (by kernel_rfl) rfl trivial ?_ ?_
 ·intro h9
  refine Kk cok tab36 hnt [] [4,5] (⟨[(4,.own 7 (List.length ([] : List CallD))),(5,.sl (.strs (splitB8 (32 : Int) s)))],[(7,⟨40,.row (.calls ([] : List CallD))⟩)],[11,7,999]⟩)
   (True ∧ ((True ∧ (True ∧ True ∧ True) ∧ (0 ≤ (32 : Int) ∧ (32 : Int) ≤ 255) ∧ (s.size ≤ 2000000)) ∧ ((List.length (splitB8 (32 : Int) s)) = (List.length (splitB8 (32 : Int) s)))) ∧ True ∧ True)
   ⟨tt,⟨⟨tt,⟨tt,tt,tt⟩,(by omega),(by omega)⟩,rfl⟩,tt,tt⟩ ?_
  refine Kk cok tab36 hnt [] [4,5,6] (⟨[(4,.own 7 (List.length ([] : List CallD))),(5,.sl (.strs (splitB8 (32 : Int) s))),(6,.i (0 : Int))],[(7,⟨40,.row (.calls ([] : List CallD))⟩)],[11,7,999]⟩)
   (True ∧ True)
   ⟨tt,tt⟩ ?_
  refine W.block ?_
  refine W.loop (ι := Nat × (List CallD)) (fun (x : Nat × (List CallD)) => match x with | (i,o) => (⟨[(4,.own 7 o.length),(5,.sl (.strs (splitB8 (32 : Int) s))),(6,.i ((i : Nat) : Int))],[(7,⟨40,.row (.calls o)⟩)],[7,999]⟩ : St))
   (fun (x : Nat × (List CallD)) => match x with | (i,o) => (i ≤ (splitB8 32 s).length) ∧ (o = readUpS (splitB8 32 s) i))
   (fun (x : Nat × (List CallD)) => match x with | (i,o) => ((splitB8 32 s).length - i : Nat)) (0,([] : List CallD)) ?_ ?_ ?_
  ·exact (show (0 ≤ (splitB8 32 s).length) ∧ (([] : List CallD) = readUpS (splitB8 32 s) 0) from ⟨(by first | assumption | omega | rfl | (intro _ hjj; omega) | (simp; done) | (simp; omega)),(by rfl)⟩)
  ·exact Sub.of [] (@cast (((((7 : Nat) = 7) ∧ ((List.length ([] : List CallD)) = (List.length ([] : List CallD))) ∧ ((7 : Nat) ∈ ([7,999] : List Nat))) ∧ (Sd (.strs (splitB8 (32 : Int) s))) ∧ ((.int .i64 (0 : Int) : Value) = .int .i64 ((0 : Nat) : Int)) ∧ True) ∧ ((((40 : Nat) = 40) ∧ (Sd (.calls ([] : List CallD))) ∧ ((7 : Nat) ∈ ([7,999] : List Nat))) ∧ True) ∧ (true = true) ∧ (true = true)) _ (by kernel_rfl) ⟨⟨⟨rfl,rfl,(by decide)⟩,rfl,(congrArg (Value.int .i64) (by first | rfl | omega | assumption | simp | simp_all)),tt⟩,⟨⟨rfl,rfl,(by decide)⟩,tt⟩,rfl,rfl⟩)
  ·rintro ⟨i,o⟩ hC0
   have hC : (i ≤ (splitB8 32 s).length) ∧ (o = readUpS (splitB8 32 s) i) := hC0
   clear hC0
   obtain ⟨hi,ho⟩ := hC
   refine W.to (⟨[(4,.own 7 o.length),(5,.sl (.strs (splitB8 (32 : Int) s))),(6,.i ((i : Nat) : Int))],[(7,⟨40,.row (.calls o)⟩)],[7,999]⟩) rfl ?_
   have hol : o.length = i := by rw [ho]; exact readUp_lenS hi
   have hpi := hp i
   refine W.seq ?_
   refine Kk cok tab36 hnt [] [4,5,6,15] (⟨[(4,.own 7 o.length),(5,.sl (.strs (splitB8 (32 : Int) s))),(6,.i ((i : Nat) : Int)),(15,.b (decide (((i : Nat) : Int) < (((List.length (splitB8 (32 : Int) s)) : Nat) : Int))))],[(7,⟨40,.row (.calls o)⟩)],[7,999]⟩)
    (True ∧ True ∧ True ∧ (True ∧ True ∧ True) ∧ True)
    ⟨tt,tt,tt,⟨tt,tt,tt⟩,tt⟩ ?_
   refine W.ifP (((i : Nat) : Int) < (((List.length (splitB8 (32 : Int) s)) : Nat) : Int)) (.b (decide (((i : Nat) : Int) < (((List.length (splitB8 (32 : Int) s)) : Nat) : Int)))) (by kernel_rfl) rfl trivial ?_ ?_
   ·intro h15
    refine W.skip (thenQ_normal ?_)
    refine W.seq ?_
    refine W.block ?_
    refine Lk cok tab36 hnt [25] (⟨[(4,.own 25 (List.length (o ++ ([(readS (List.getD (splitB8 (32 : Int) s) i default).data.toList)])))),(5,.sl (.strs (splitB8 (32 : Int) s))),(6,.i ((i : Nat) : Int)),(15,.b (decide (((i : Nat) : Int) < (((List.length (splitB8 (32 : Int) s)) : Nat) : Int)))),(18,.own 7 o.length),(19,.sl (.strs (splitB8 (32 : Int) s))),(20,.i ((i : Nat) : Int)),(21,.ep [.v (.string (List.getD (splitB8 (32 : Int) s) i default))]),(22,.v (.string (List.getD (splitB8 (32 : Int) s) i default))),(23,.agg [.i ((readS (List.getD (splitB8 (32 : Int) s) i default).data.toList).proc),.i ((readS (List.getD (splitB8 (32 : Int) s) i default).data.toList).obj),.i ((readS (List.getD (splitB8 (32 : Int) s) i default).data.toList).kind),.i ((readS (List.getD (splitB8 (32 : Int) s) i default).data.toList).arg),.i ((readS (List.getD (splitB8 (32 : Int) s) i default).data.toList).ret),.i ((readS (List.getD (splitB8 (32 : Int) s) i default).data.toList).frm),.i ((readS (List.getD (splitB8 (32 : Int) s) i default).data.toList).to)]),(24,.sl (.calls ([(readS (List.getD (splitB8 (32 : Int) s) i default).data.toList)]))),(25,.own 25 (List.length (o ++ ([(readS (List.getD (splitB8 (32 : Int) s) i default).data.toList)]))))],[(25,⟨40,.row (.calls (o ++ ([(readS (List.getD (splitB8 (32 : Int) s) i default).data.toList)])))⟩)],[25,24,7,999]⟩)
     (True ∧ True ∧ True ∧ (True ∧ True ∧ (0 ≤ ((i : Nat) : Int)) ∧ (((i : Nat) : Int) < (((List.length (splitB8 (32 : Int) s)) : Nat) : Int))) ∧ True ∧ (True ∧ (True ∧ True) ∧ ((List.getD (splitB8 (32 : Int) s) i default).size ≤ 2000000)) ∧ (True ∧ True) ∧ ((True ∧ (o.length = o.length)) ∧ True ∧ ((o.length + (List.length ([(readS (List.getD (splitB8 (32 : Int) s) i default).data.toList)]))) * 56 ≤ 140737488355328)) ∧ True ∧ True)
     ⟨tt,tt,tt,⟨tt,tt,(by omega),(by omega)⟩,tt,⟨tt,⟨tt,tt⟩,(by omega)⟩,⟨tt,tt⟩,⟨⟨tt,rfl⟩,tt,(by (try simp only [List.length_append,List.length_cons,List.length_nil,List.length_set]); omega)⟩,tt,tt⟩ ?_
    refine blockQ_normal (thenQ_normal ?_)
    refine Lk cok tab36 hnt [] (⟨[(4,.own 25 (List.length (o ++ ([(readS (List.getD (splitB8 (32 : Int) s) i default).data.toList)])))),(5,.sl (.strs (splitB8 (32 : Int) s))),(6,.i (((i + 1) : Nat) : Int)),(15,.b (decide (((i : Nat) : Int) < (((List.length (splitB8 (32 : Int) s)) : Nat) : Int)))),(16,.i ((i : Nat) : Int)),(17,.i (((i + 1) : Nat) : Int)),(18,.own 7 o.length),(19,.sl (.strs (splitB8 (32 : Int) s))),(20,.i ((i : Nat) : Int)),(21,.ep [.v (.string (List.getD (splitB8 (32 : Int) s) i default))]),(22,.v (.string (List.getD (splitB8 (32 : Int) s) i default))),(23,.agg [.i ((readS (List.getD (splitB8 (32 : Int) s) i default).data.toList).proc),.i ((readS (List.getD (splitB8 (32 : Int) s) i default).data.toList).obj),.i ((readS (List.getD (splitB8 (32 : Int) s) i default).data.toList).kind),.i ((readS (List.getD (splitB8 (32 : Int) s) i default).data.toList).arg),.i ((readS (List.getD (splitB8 (32 : Int) s) i default).data.toList).ret),.i ((readS (List.getD (splitB8 (32 : Int) s) i default).data.toList).frm),.i ((readS (List.getD (splitB8 (32 : Int) s) i default).data.toList).to)]),(24,.sl (.calls ([(readS (List.getD (splitB8 (32 : Int) s) i default).data.toList)]))),(25,.own 25 (List.length (o ++ ([(readS (List.getD (splitB8 (32 : Int) s) i default).data.toList)]))))],[(25,⟨40,.row (.calls (o ++ ([(readS (List.getD (splitB8 (32 : Int) s) i default).data.toList)])))⟩)],[25,24,7,999]⟩)
     (True ∧ (True ∧ True ∧ (Fits .i64 (((i + 1) : Nat) : Int))) ∧ True ∧ True)
     ⟨tt,⟨tt,tt,(by exact fits_i64 (by omega) (by omega))⟩,tt,tt⟩ ?_
    refine thenQ_normal ?_
    refine ⟨((i + 1),(o ++ ([(readS (List.getD (splitB8 (32 : Int) s) i default).data.toList)]))),(show ((i + 1) ≤ (splitB8 32 s).length) ∧ ((o ++ ([(readS (List.getD (splitB8 (32 : Int) s) i default).data.toList)])) = readUpS (splitB8 32 s) (i + 1)) from ⟨(by first | assumption | omega | rfl | (intro _ hjj; omega) | (simp; done) | (simp; omega)),(by exact readUpS_next ho (by omega))⟩),(show (splitB8 32 s).length - (i + 1) < (splitB8 32 s).length - i from (by first | omega | (simp_all; omega))),?_⟩
    exact Sub.of [(7,25)] (@cast (((((25 : Nat) = 25) ∧ ((List.length (o ++ ([(readS (List.getD (splitB8 (32 : Int) s) i default).data.toList)]))) = (List.length (o ++ ([(readS (List.getD (splitB8 (32 : Int) s) i default).data.toList)])))) ∧ ((7 : Nat) ∈ ([7,999] : List Nat))) ∧ (Sd (.strs (splitB8 (32 : Int) s))) ∧ (Si (((i + 1) : Nat) : Int)) ∧ True) ∧ ((((40 : Nat) = 40) ∧ (Sd (.calls (o ++ ([(readS (List.getD (splitB8 (32 : Int) s) i default).data.toList)])))) ∧ ((7 : Nat) ∈ ([7,999] : List Nat))) ∧ True) ∧ (true = true) ∧ (true = true)) _ (by kernel_rfl) ⟨⟨⟨rfl,rfl,(by decide)⟩,rfl,rfl,tt⟩,⟨⟨rfl,rfl,(by decide)⟩,tt⟩,rfl,rfl⟩)
   ·intro n15
    have hO := outS_some (s := s) (fun e => Bool.false_ne_true ((not_f h9).symm.trans e)) ho (by omega)
    refine W.exit (thenQ_exit (thenQ_exit (blockQ_hit ?_)))
    refine thenQ_normal ?_
    refine Kk cok tab36 hnt [] [2,3] (⟨[(2,.own 7 o.length),(3,.b (validHistory o))],[(7,⟨40,.row (.calls o)⟩)],[7,999]⟩)
     (True ∧ True ∧ (True ∧ ((True ∧ (o.length = o.length)) ∧ True) ∧ True) ∧ True ∧ True ∧ True)
     ⟨tt,tt,⟨tt,⟨⟨tt,rfl⟩,tt⟩,tt⟩,tt,tt,tt⟩ ?_
    refine W.ret ?_
    exact endQ_ret (.tup [.own 7 o.length,.b (validHistory o)]) (by kernel_rfl) (@cast (((o.length = o.length) ∧ ((.calls o : Dat) = .calls (outS s.data.toList)) ∧ ((7 : Nat) ∉ ([] : List Nat))) ∧ ((.bool (validHistory o) : Value) = .bool (validHistory (outS s.data.toList))) ∧ True) _ (by kernel_rfl) ⟨⟨rfl,(congrArg Dat.calls (by first | exact hO | (rw [hO]))),(by decide)⟩,(congrArg Value.bool (by first | exact hO | (rw [hO]))),tt⟩)
 ·intro n9
  have hO := outS_none (s := s) (not_g n9)
  refine W.skip (thenQ_normal ?_)
  refine Kk cok tab36 hnt [] [2,3] (⟨[(2,.own 7 (List.length ([] : List CallD))),(3,.b (validHistory ([] : List CallD)))],[(7,⟨40,.row (.calls ([] : List CallD))⟩)],[7,999]⟩)
   (True ∧ True ∧ (True ∧ ((True ∧ ((List.length ([] : List CallD)) = (List.length ([] : List CallD)))) ∧ True) ∧ True) ∧ True ∧ True ∧ True)
   ⟨tt,tt,⟨tt,⟨⟨tt,rfl⟩,tt⟩,tt⟩,tt,tt,tt⟩ ?_
  refine W.ret ?_
  exact endQ_ret (.tup [.own 7 (List.length ([] : List CallD)),.b (validHistory ([] : List CallD))]) (by kernel_rfl) (@cast ((((List.length ([] : List CallD)) = (List.length ([] : List CallD))) ∧ ((.calls ([] : List CallD) : Dat) = .calls (outS s.data.toList)) ∧ ((7 : Nat) ∉ ([] : List Nat))) ∧ ((.bool (validHistory ([] : List CallD)) : Value) = .bool (validHistory (outS s.data.toList))) ∧ True) _ (by kernel_rfl) ⟨⟨rfl,(congrArg Dat.calls (by first | exact hO | (rw [hO]))),(by decide)⟩,(congrArg Value.bool (by first | exact hO | (rw [hO]))),tt⟩)
theorem ent36 : Entr prog 36 := ⟨_,func36,rfl,by decide⟩
end Go.Proofs.Tryd

set_option linter.unusedSimpArgs false
set_option linter.unusedVariables false
namespace Go.Proofs.Tryd
open Go.Ab Go.RowKit
def fs17 : FnS := fnS [.o] [.str] (fun _ (s,_) => (.tup [.sl (.calls ((parseS s.data.toList).1)),.b ((parseS s.data.toList).2)],[],(s.size ≤ 1999999)))
abbrev T17 : Tab := lk [(36,fs36)]
theorem tab17 : TabOK prog T17 := (TabOK.cons ok36 ent36 TabOK.nil)
set_option maxRecDepth 100000 in
set_option maxHeartbeats 1000000 in
theorem ok17 : FnOK prog 17 fs17 := by
 refine FnOK.mk cok func17 rfl rfl rfl ?_
 rintro fl ⟨(s : ByteArray),_⟩ hpre F hnt0 _
 have hnt : F.nt = 14 := hnt0.trans ntmps17
 replace hpre : (s.size ≤ 1999999) := hpre
 have hz := hpre
 refine W.to (⟨[(0,.v (.string s))],[],[999]⟩) rfl ?_
 refine Kk cok tab17 hnt [] [0] (⟨[(0,.v (.string s))],[],[999]⟩)
  (True ∧ True ∧ True)
  ⟨tt,tt,tt⟩ ?_
 refine Kk cok tab17 hnt [] [4,5] (⟨[(4,.sl (.calls (outS s.data.toList))),(5,.b (validHistory (outS s.data.toList)))],[],[999]⟩)
  (True ∧ (True ∧ (True ∧ True) ∧ (s.size ≤ 1999999)) ∧ True ∧ True ∧ True ∧ True ∧ True ∧ True)
  ⟨tt,⟨tt,⟨tt,tt⟩,(by omega)⟩,tt,tt,tt,tt,tt,tt⟩ ?_
 refine W.seq ?_
 refine Kk cok tab17 hnt [] [4,12] (⟨[(4,.sl (.calls (outS s.data.toList))),(12,.b (!(validHistory (outS s.data.toList))))],[],[999]⟩)
  (True ∧ True ∧ True)
  ⟨tt,tt,tt⟩ ?_
 refine W.if' (!(validHistory (outS s.data.toList))) (.b (!(validHistory (outS s.data.toList)))) (by kernel_rfl) rfl trivial ?_ ?_
 ·intro h12
  have hE := ps_val s
  rw [h12] at hE
  refine Kk cok tab17 hnt [] [2,3] (⟨[(2,.v (.slice none 0 0)),(3,.b false)],[],[999]⟩)
   (True ∧ True ∧ True)
   ⟨tt,tt,tt⟩ ?_
  refine W.ret (thenQ_ret ?_)
  exact endQ_ret (.tup [.v (.slice none 0 0),.b false]) (by kernel_rfl) (@cast ((((Value.slice none 0 0 : Value) = .slice none 0 0) ∧ ((Dat.calls ((parseS s.data.toList).1)).len = 0)) ∧ ((.bool false : Value) = .bool ((parseS s.data.toList).2)) ∧ True) _ (by kernel_rfl) ⟨⟨rfl,(by show List.length ((parseS s.data.toList).1) = 0; first | (rw [hE]; done) | (rw [hE]; rfl) | rfl)⟩,(congrArg Value.bool (by first | (rw [hE]; done) | (rw [hE]; rfl) | rfl)),tt⟩)
 ·intro n12
  have hE := ps_val s
  rw [n12] at hE
  refine W.skip (thenQ_normal ?_)
  refine Kk cok tab17 hnt [] [2,3] (⟨[(2,.sl (.calls (outS s.data.toList))),(3,.b true)],[],[999]⟩)
   (True ∧ True ∧ True ∧ True)
   ⟨tt,tt,tt,tt⟩ ?_
  refine W.ret ?_
  exact endQ_ret (.tup [.sl (.calls (outS s.data.toList)),.b true]) (by kernel_rfl) (@cast (((.calls (outS s.data.toList) : Dat) = .calls ((parseS s.data.toList).1)) ∧ ((.bool true : Value) = .bool ((parseS s.data.toList).2)) ∧ True) _ (by kernel_rfl) ⟨(congrArg Dat.calls (by first | (rw [hE]; done) | (rw [hE]; rfl) | rfl)),(congrArg Value.bool (by first | (rw [hE]; done) | (rw [hE]; rfl) | rfl)),tt⟩)
theorem ent17 : Entr prog 17 := ⟨_,func17,rfl,by decide⟩
end Go.Proofs.Tryd

set_option linter.unusedSimpArgs false
set_option linter.unusedVariables false
namespace Go.Proofs.Tryd
open Go.Ab Go.RowKit
def fs15 : FnS := fnS [.s .calls,.s .calls] [.calls,.calls] (fun _ (a,b,_) => (.b (decide (a = b)),[],True))
abbrev T15 : Tab := lk []
theorem tab15 : TabOK prog T15 := TabOK.nil
set_option maxRecDepth 100000 in
set_option maxHeartbeats 1000000 in
theorem ok15 : FnOK prog 15 fs15 := by
 refine FnOK.mk cok func15 rfl rfl rfl ?_
 rintro fl ⟨(a : List CallD),(b : List CallD),_⟩ hpre F hnt0 _
 have hnt : F.nt = 26 := hnt0.trans ntmps15
 clear hpre
 refine W.to (⟨[(0,.sl (.calls a)),(1,.sl (.calls b))],[],[999]⟩) rfl ?_
 refine W.lenOf 0 (.calls a) (by kernel_rfl) ?_
 intro hl_a; replace hl_a : List.length a ≤ 9223372036854775807 := hl_a
 refine W.lenOf 1 (.calls b) (by kernel_rfl) ?_
 intro hl_b; replace hl_b : List.length b ≤ 9223372036854775807 := hl_b
 refine Kk cok tab15 hnt [] [0,1] (⟨[(0,.sl (.calls a)),(1,.sl (.calls b))],[],[999]⟩)
  (True ∧ True)
  ⟨tt,tt⟩ ?_
 refine W.seq ?_
 refine Kk cok tab15 hnt [] [0,1,10] (⟨[(0,.sl (.calls a)),(1,.sl (.calls b)),(10,.b (decide ((a.length : Int) ≠ (b.length : Int))))],[],[999]⟩)
  (True ∧ True ∧ True ∧ True ∧ (True ∧ True ∧ True) ∧ True)
  ⟨tt,tt,tt,tt,⟨tt,tt,tt⟩,tt⟩ ?_
 refine W.ifP ((a.length : Int) ≠ (b.length : Int)) (.b (decide ((a.length : Int) ≠ (b.length : Int)))) (by kernel_rfl) rfl trivial ?_ ?_
 ·intro h10
  refine Kk cok tab15 hnt [] [4] (⟨[(4,.b false)],[],[999]⟩)
   (True ∧ True)
   ⟨tt,tt⟩ ?_
  refine W.ret (thenQ_ret ?_)
  exact endQ_ret (.b false) (by kernel_rfl) (@cast ((.bool false : Value) = .bool (decide (a = b))) _ (by kernel_rfl) (congrArg Value.bool (by symm; exact decide_eq_false (fun e => h10 (by rw [e])))))
 ·intro n10
  refine W.skip (thenQ_normal ?_)
  refine W.seq ?_
  refine Kk cok tab15 hnt [] [0,1,5] (⟨[(0,.sl (.calls a)),(1,.sl (.calls b)),(5,.i (0 : Int))],[],[999]⟩)
   (True ∧ True)
   ⟨tt,tt⟩ ?_
  refine W.block ?_
  refine W.loop (ι := Nat) (fun (i : Nat) => (⟨[(0,.sl (.calls a)),(1,.sl (.calls b)),(5,.i ((i : Nat) : Int))],[],[999]⟩ : St))
   (fun (i : Nat) => (i ≤ a.length) ∧ (∀ j,j < i → a.getD j default = b.getD j default))
   (fun (i : Nat) => (a.length - i : Nat)) (0) ?_ ?_ ?_
  ·exact (show (0 ≤ a.length) ∧ (∀ j,j < 0 → a.getD j default = b.getD j default) from ⟨(by first | assumption | omega | rfl | (intro _ hjj; omega) | (simp; done) | (simp; omega)),(by exact upto_zero)⟩)
  ·exact Sub.of [] (@cast (((Sd (.calls a)) ∧ (Sd (.calls b)) ∧ ((.int .i64 (0 : Int) : Value) = .int .i64 ((0 : Nat) : Int)) ∧ True) ∧ True ∧ (true = true) ∧ (true = true)) _ (by kernel_rfl) ⟨⟨rfl,rfl,(congrArg (Value.int .i64) (by first | rfl | omega | assumption | simp | simp_all)),tt⟩,tt,rfl,rfl⟩)
  ·rintro i hC0
   have hC : (i ≤ a.length) ∧ (∀ j,j < i → a.getD j default = b.getD j default) := hC0
   clear hC0
   obtain ⟨hi,hA⟩ := hC
   refine W.to (⟨[(0,.sl (.calls a)),(1,.sl (.calls b)),(5,.i ((i : Nat) : Int))],[],[999]⟩) rfl ?_
   refine W.seq ?_
   refine Kk cok tab15 hnt [] [0,1,5,14] (⟨[(0,.sl (.calls a)),(1,.sl (.calls b)),(5,.i ((i : Nat) : Int)),(14,.b (decide (((i : Nat) : Int) < (a.length : Int))))],[],[999]⟩)
    (True ∧ True ∧ True ∧ (True ∧ True ∧ True) ∧ True)
    ⟨tt,tt,tt,⟨tt,tt,tt⟩,tt⟩ ?_
   refine W.ifP (((i : Nat) : Int) < (a.length : Int)) (.b (decide (((i : Nat) : Int) < (a.length : Int)))) (by kernel_rfl) rfl trivial ?_ ?_
   ·intro h14
    refine W.skip (thenQ_normal ?_)
    refine W.seq ?_
    refine W.block ?_
    refine W.KA cok tab15 hnt [] [0,1,5,25] (⟨[(0,.sl (.calls a)),(1,.sl (.calls b)),(5,.i ((i : Nat) : Int)),(25,.b (!((decide (((a.getD i default).proc) = ((b.getD i default).proc))) && ((decide (((a.getD i default).obj) = ((b.getD i default).obj))) && ((decide (((a.getD i default).kind) = ((b.getD i default).kind))) && ((decide (((a.getD i default).arg) = ((b.getD i default).arg))) && ((decide (((a.getD i default).ret) = ((b.getD i default).ret))) && ((decide (((a.getD i default).frm) = ((b.getD i default).frm))) && ((decide (((a.getD i default).to) = ((b.getD i default).to))) && true)))))))))],[],[999]⟩)
     (True ∧ True ∧ (True ∧ True ∧ (0 ≤ ((i : Nat) : Int)) ∧ (((i : Nat) : Int) < (a.length : Int))) ∧ True ∧ True ∧ True ∧ (True ∧ True ∧ (0 ≤ ((i : Nat) : Int)) ∧ (((i : Nat) : Int) < (b.length : Int))) ∧ True ∧ (True ∧ True) ∧ True) (by kernel_rfl) (by kernel_rfl)
     ⟨tt,tt,⟨tt,tt,(by omega),(by omega)⟩,tt,tt,tt,⟨tt,tt,(by omega),(by omega)⟩,tt,⟨tt,tt⟩,tt⟩ ?_
    refine W.if' (!((decide (((a.getD i default).proc) = ((b.getD i default).proc))) && ((decide (((a.getD i default).obj) = ((b.getD i default).obj))) && ((decide (((a.getD i default).kind) = ((b.getD i default).kind))) && ((decide (((a.getD i default).arg) = ((b.getD i default).arg))) && ((decide (((a.getD i default).ret) = ((b.getD i default).ret))) && ((decide (((a.getD i default).frm) = ((b.getD i default).frm))) && ((decide (((a.getD i default).to) = ((b.getD i default).to))) && true)))))))) (.b (!((decide (((a.getD i default).proc) = ((b.getD i default).proc))) && ((decide (((a.getD i default).obj) = ((b.getD i default).obj))) && ((decide (((a.getD i default).kind) = ((b.getD i default).kind))) && ((decide (((a.getD i default).arg) = ((b.getD i default).arg))) && ((decide (((a.getD i default).ret) = ((b.getD i default).ret))) && ((decide (((a.getD i default).frm) = ((b.getD i default).frm))) && ((decide (((a.getD i default).to) = ((b.getD i default).to))) && true))))))))) (by kernel_rfl) rfl trivial ?_ ?_
    ·intro h25
     refine Kk cok tab15 hnt [] [4] (⟨[(4,.b false)],[],[999]⟩)
      (True ∧ True)
      ⟨tt,tt⟩ ?_
     refine W.ret (blockQ_ret (thenQ_ret (thenQ_ret (blockQ_ret (thenQ_ret ?_)))))
     exact endQ_ret (.b false) (by kernel_rfl) (@cast ((.bool false : Value) = .bool (decide (a = b))) _ (by kernel_rfl) (congrArg Value.bool (by symm; exact decide_eq_false (fun e => by rw [e] at h25; simp at h25))))
    ·intro n25
     have n25_0 : ((a.getD i default).proc) = ((b.getD i default).proc) := of_decide_eq_true (and_l (not_g n25))
     have n25_1 : ((a.getD i default).obj) = ((b.getD i default).obj) := of_decide_eq_true (and_l (and_r (not_g n25)))
     have n25_2 : ((a.getD i default).kind) = ((b.getD i default).kind) := of_decide_eq_true (and_l (and_r (and_r (not_g n25))))
     have n25_3 : ((a.getD i default).arg) = ((b.getD i default).arg) := of_decide_eq_true (and_l (and_r (and_r (and_r (not_g n25)))))
     have n25_4 : ((a.getD i default).ret) = ((b.getD i default).ret) := of_decide_eq_true (and_l (and_r (and_r (and_r (and_r (not_g n25))))))
     have n25_5 : ((a.getD i default).frm) = ((b.getD i default).frm) := of_decide_eq_true (and_l (and_r (and_r (and_r (and_r (and_r (not_g n25)))))))
     have n25_6 : ((a.getD i default).to) = ((b.getD i default).to) := of_decide_eq_true (and_l (and_r (and_r (and_r (and_r (and_r (and_r (not_g n25))))))))
     refine W.skip (blockQ_normal (thenQ_normal ?_))
     refine Lk cok tab15 hnt [] (⟨[(0,.sl (.calls a)),(1,.sl (.calls b)),(5,.i (((i + 1) : Nat) : Int)),(15,.i ((i : Nat) : Int)),(16,.i (((i + 1) : Nat) : Int)),(25,.b (!((decide (((a.getD i default).proc) = ((b.getD i default).proc))) && ((decide (((a.getD i default).obj) = ((b.getD i default).obj))) && ((decide (((a.getD i default).kind) = ((b.getD i default).kind))) && ((decide (((a.getD i default).arg) = ((b.getD i default).arg))) && ((decide (((a.getD i default).ret) = ((b.getD i default).ret))) && ((decide (((a.getD i default).frm) = ((b.getD i default).frm))) && ((decide (((a.getD i default).to) = ((b.getD i default).to))) && true)))))))))],[],[999]⟩)
      (True ∧ (True ∧ True ∧ (Fits .i64 (((i + 1) : Nat) : Int))) ∧ True ∧ True)
      ⟨tt,⟨tt,tt,(by exact fits_i64 (by omega) (by omega))⟩,tt,tt⟩ ?_
     refine thenQ_normal ?_
     refine ⟨((i + 1)),(show ((i + 1) ≤ a.length) ∧ (∀ j,j < (i + 1) → a.getD j default = b.getD j default) from ⟨(by first | assumption | omega | rfl | (intro _ hjj; omega) | (simp; done) | (simp; omega)),(by exact upto_succ hA (call_ext (by simp_all) (by simp_all) (by simp_all) (by simp_all) (by simp_all) (by simp_all) (by simp_all)))⟩),(show a.length - (i + 1) < a.length - i from (by first | omega | (simp_all; omega))),?_⟩
     exact Sub.of [] (@cast (((Sd (.calls a)) ∧ (Sd (.calls b)) ∧ (Si (((i + 1) : Nat) : Int)) ∧ True) ∧ True ∧ (true = true) ∧ (true = true)) _ (by kernel_rfl) ⟨⟨rfl,rfl,rfl,tt⟩,tt,rfl,rfl⟩)
   ·intro n14
    refine W.exit (thenQ_exit (thenQ_exit (blockQ_hit ?_)))
    refine thenQ_normal ?_
    refine Kk cok tab15 hnt [] [4] (⟨[(4,.b true)],[],[999]⟩)
     (True ∧ True)
     ⟨tt,tt⟩ ?_
    refine W.ret ?_
    exact endQ_ret (.b true) (by kernel_rfl) (@cast ((.bool true : Value) = .bool (decide (a = b))) _ (by kernel_rfl) (congrArg Value.bool (by symm; exact decide_eq_true (calls_ext (by omega) (fun j hj => hA j (by omega))))))
theorem ent15 : Entr prog 15 := ⟨_,func15,rfl,by decide⟩
end Go.Proofs.Tryd

set_option linter.unusedSimpArgs false
set_option linter.unusedVariables false
namespace Go.Proofs.Tryd
open Go.Ab Go.RowKit
def fs21 : FnS := fnS [.o] [.call] (fun _ (c,_) => (.v (.string (callTextB c)),[],(isCall c = true)))
abbrev T21 : Tab := lk [(38,fs38)]
theorem tab21 : TabOK prog T21 := (TabOK.cons ok38 ent38 TabOK.nil)
set_option maxRecDepth 100000 in
set_option maxHeartbeats 1000000 in
theorem ok21 : FnOK prog 21 fs21 := by
 refine FnOK.mk cok func21 rfl rfl rfl ?_
 rintro fl ⟨(c : CallD),_⟩ hpre F hnt0 _
 have hnt : F.nt = 39 := hnt0.trans ntmps21
 replace hpre : (isCall c = true) := hpre
 have hc := hpre
 refine W.to (⟨[(0,.agg [.i c.proc,.i c.obj,.i c.kind,.i c.arg,.i c.ret,.i c.frm,.i c.to])],[],[999]⟩) rfl ?_
 have hf := call_facts hc
 have s0 := numB_size c.proc
 have s1 := numB_size c.arg
 have s2 := numB_size c.ret
 have s3 := numB_size c.frm
 have s4 := numB_size c.to
 refine Kk cok tab21 hnt [] [1] (⟨[(1,.ptr 1 0)],[(1,⟨40,.fix [.i c.proc,.i c.obj,.i c.kind,.i c.arg,.i c.ret,.i c.frm,.i c.to]⟩)],[1,999]⟩)
  (True ∧ True ∧ True)
  ⟨tt,tt,tt⟩ ?_
 refine W.KA cok tab21 hnt [] [2] (⟨[(2,.v (.string ((((((((((numB c.proc) ++ ((⟨#[120,121]⟩ : ByteArray).extract (Int.toNat c.obj) (Int.toNat (c.obj + (1 : Int))))) ++ ((⟨#[112,116,108]⟩ : ByteArray).extract (Int.toNat c.kind) (Int.toNat (c.kind + (1 : Int))))) ++ (numB c.arg)) ++ (⟨#[61]⟩ : ByteArray)) ++ (numB c.ret)) ++ (⟨#[64]⟩ : ByteArray)) ++ (numB c.frm)) ++ (⟨#[45]⟩ : ByteArray)) ++ (numB c.to))))],[(1,⟨40,.fix [.i c.proc,.i c.obj,.i c.kind,.i c.arg,.i c.ret,.i c.frm,.i c.to]⟩)],[1,999]⟩)
  (True ∧ True ∧ (True ∧ (True ∧ True) ∧ -1000000 ≤ c.proc ∧ c.proc ≤ 1000000) ∧ True ∧ True ∧ True ∧ True ∧ (True ∧ True ∧ (Fits .i64 (c.obj + (1 : Int)))) ∧ (True ∧ True ∧ True ∧ (0 ≤ c.obj) ∧ (c.obj ≤ (c.obj + (1 : Int))) ∧ ((c.obj + (1 : Int)) ≤ ((((⟨#[120,121]⟩ : ByteArray).size) : Nat) : Int))) ∧ (True ∧ True ∧ ((numB c.proc).size + ((⟨#[120,121]⟩ : ByteArray).extract (Int.toNat c.obj) (Int.toNat (c.obj + (1 : Int)))).size ≤ 9223372036854775807)) ∧ True ∧ True ∧ True ∧ True ∧ (True ∧ True ∧ (Fits .i64 (c.kind + (1 : Int)))) ∧ (True ∧ True ∧ True ∧ (0 ≤ c.kind) ∧ (c.kind ≤ (c.kind + (1 : Int))) ∧ ((c.kind + (1 : Int)) ≤ ((((⟨#[112,116,108]⟩ : ByteArray).size) : Nat) : Int))) ∧ (True ∧ True ∧ (((numB c.proc) ++ ((⟨#[120,121]⟩ : ByteArray).extract (Int.toNat c.obj) (Int.toNat (c.obj + (1 : Int))))).size + ((⟨#[112,116,108]⟩ : ByteArray).extract (Int.toNat c.kind) (Int.toNat (c.kind + (1 : Int)))).size ≤ 9223372036854775807)) ∧ True ∧ True ∧ (True ∧ (True ∧ True) ∧ -1000000 ≤ c.arg ∧ c.arg ≤ 1000000) ∧ (True ∧ True ∧ ((((numB c.proc) ++ ((⟨#[120,121]⟩ : ByteArray).extract (Int.toNat c.obj) (Int.toNat (c.obj + (1 : Int))))) ++ ((⟨#[112,116,108]⟩ : ByteArray).extract (Int.toNat c.kind) (Int.toNat (c.kind + (1 : Int))))).size + (numB c.arg).size ≤ 9223372036854775807)) ∧ (True ∧ True ∧ (((((numB c.proc) ++ ((⟨#[120,121]⟩ : ByteArray).extract (Int.toNat c.obj) (Int.toNat (c.obj + (1 : Int))))) ++ ((⟨#[112,116,108]⟩ : ByteArray).extract (Int.toNat c.kind) (Int.toNat (c.kind + (1 : Int))))) ++ (numB c.arg)).size + (⟨#[61]⟩ : ByteArray).size ≤ 9223372036854775807)) ∧ True ∧ True ∧ (True ∧ (True ∧ True) ∧ -1000000 ≤ c.ret ∧ c.ret ≤ 1000000) ∧ (True ∧ True ∧ ((((((numB c.proc) ++ ((⟨#[120,121]⟩ : ByteArray).extract (Int.toNat c.obj) (Int.toNat (c.obj + (1 : Int))))) ++ ((⟨#[112,116,108]⟩ : ByteArray).extract (Int.toNat c.kind) (Int.toNat (c.kind + (1 : Int))))) ++ (numB c.arg)) ++ (⟨#[61]⟩ : ByteArray)).size + (numB c.ret).size ≤ 9223372036854775807)) ∧ (True ∧ True ∧ (((((((numB c.proc) ++ ((⟨#[120,121]⟩ : ByteArray).extract (Int.toNat c.obj) (Int.toNat (c.obj + (1 : Int))))) ++ ((⟨#[112,116,108]⟩ : ByteArray).extract (Int.toNat c.kind) (Int.toNat (c.kind + (1 : Int))))) ++ (numB c.arg)) ++ (⟨#[61]⟩ : ByteArray)) ++ (numB c.ret)).size + (⟨#[64]⟩ : ByteArray).size ≤ 9223372036854775807)) ∧ True ∧ True ∧ (True ∧ (True ∧ True) ∧ -1000000 ≤ c.frm ∧ c.frm ≤ 1000000) ∧ (True ∧ True ∧ ((((((((numB c.proc) ++ ((⟨#[120,121]⟩ : ByteArray).extract (Int.toNat c.obj) (Int.toNat (c.obj + (1 : Int))))) ++ ((⟨#[112,116,108]⟩ : ByteArray).extract (Int.toNat c.kind) (Int.toNat (c.kind + (1 : Int))))) ++ (numB c.arg)) ++ (⟨#[61]⟩ : ByteArray)) ++ (numB c.ret)) ++ (⟨#[64]⟩ : ByteArray)).size + (numB c.frm).size ≤ 9223372036854775807)) ∧ (True ∧ True ∧ (((((((((numB c.proc) ++ ((⟨#[120,121]⟩ : ByteArray).extract (Int.toNat c.obj) (Int.toNat (c.obj + (1 : Int))))) ++ ((⟨#[112,116,108]⟩ : ByteArray).extract (Int.toNat c.kind) (Int.toNat (c.kind + (1 : Int))))) ++ (numB c.arg)) ++ (⟨#[61]⟩ : ByteArray)) ++ (numB c.ret)) ++ (⟨#[64]⟩ : ByteArray)) ++ (numB c.frm)).size + (⟨#[45]⟩ : ByteArray).size ≤ 9223372036854775807)) ∧ True ∧ True ∧ (True ∧ (True ∧ True) ∧ -1000000 ≤ c.to ∧ c.to ≤ 1000000) ∧ (True ∧ True ∧ ((((((((((numB c.proc) ++ ((⟨#[120,121]⟩ : ByteArray).extract (Int.toNat c.obj) (Int.toNat (c.obj + (1 : Int))))) ++ ((⟨#[112,116,108]⟩ : ByteArray).extract (Int.toNat c.kind) (Int.toNat (c.kind + (1 : Int))))) ++ (numB c.arg)) ++ (⟨#[61]⟩ : ByteArray)) ++ (numB c.ret)) ++ (⟨#[64]⟩ : ByteArray)) ++ (numB c.frm)) ++ (⟨#[45]⟩ : ByteArray)).size + (numB c.to).size ≤ 9223372036854775807)) ∧ True ∧ True) (by kernel_rfl) (by kernel_rfl)
  ⟨tt,tt,⟨tt,⟨tt,tt⟩,(by omega)⟩,tt,tt,tt,tt,⟨tt,tt,(by exact fits_i64 (by omega) (by omega))⟩,⟨tt,tt,tt,(by omega),(by omega),(by (try simp only [ByteArray.size_append,ByteArray.size_extract,sz1,sz2,sz3,sz10]); omega)⟩,⟨tt,tt,(by (try simp only [ByteArray.size_append,ByteArray.size_extract,sz1,sz2,sz3,sz10]); omega)⟩,tt,tt,tt,tt,⟨tt,tt,(by exact fits_i64 (by omega) (by omega))⟩,⟨tt,tt,tt,(by omega),(by omega),(by (try simp only [ByteArray.size_append,ByteArray.size_extract,sz1,sz2,sz3,sz10]); omega)⟩,⟨tt,tt,(by (try simp only [ByteArray.size_append,ByteArray.size_extract,sz1,sz2,sz3,sz10]); omega)⟩,tt,tt,⟨tt,⟨tt,tt⟩,(by omega)⟩,⟨tt,tt,(by (try simp only [ByteArray.size_append,ByteArray.size_extract,sz1,sz2,sz3,sz10]); omega)⟩,⟨tt,tt,(by (try simp only [ByteArray.size_append,ByteArray.size_extract,sz1,sz2,sz3,sz10]); omega)⟩,tt,tt,⟨tt,⟨tt,tt⟩,(by omega)⟩,⟨tt,tt,(by (try simp only [ByteArray.size_append,ByteArray.size_extract,sz1,sz2,sz3,sz10]); omega)⟩,⟨tt,tt,(by (try simp only [ByteArray.size_append,ByteArray.size_extract,sz1,sz2,sz3,sz10]); omega)⟩,tt,tt,⟨tt,⟨tt,tt⟩,(by omega)⟩,⟨tt,tt,(by (try simp only [ByteArray.size_append,ByteArray.size_extract,sz1,sz2,sz3,sz10]); omega)⟩,⟨tt,tt,(by (try simp only [ByteArray.size_append,ByteArray.size_extract,sz1,sz2,sz3,sz10]); omega)⟩,tt,tt,⟨tt,⟨tt,tt⟩,(by omega)⟩,⟨tt,tt,(by (try simp only [ByteArray.size_append,ByteArray.size_extract,sz1,sz2,sz3,sz10]); omega)⟩,tt,tt⟩ ?_
 refine W.ret ?_
 exact endQ_ret (.v (.string ((((((((((numB c.proc) ++ ((⟨#[120,121]⟩ : ByteArray).extract (Int.toNat c.obj) (Int.toNat (c.obj + (1 : Int))))) ++ ((⟨#[112,116,108]⟩ : ByteArray).extract (Int.toNat c.kind) (Int.toNat (c.kind + (1 : Int))))) ++ (numB c.arg)) ++ (⟨#[61]⟩ : ByteArray)) ++ (numB c.ret)) ++ (⟨#[64]⟩ : ByteArray)) ++ (numB c.frm)) ++ (⟨#[45]⟩ : ByteArray)) ++ (numB c.to)))) (by kernel_rfl) (@cast (((.string ((((((((((numB c.proc) ++ ((⟨#[120,121]⟩ : ByteArray).extract (Int.toNat c.obj) (Int.toNat (c.obj + (1 : Int))))) ++ ((⟨#[112,116,108]⟩ : ByteArray).extract (Int.toNat c.kind) (Int.toNat (c.kind + (1 : Int))))) ++ (numB c.arg)) ++ (⟨#[61]⟩ : ByteArray)) ++ (numB c.ret)) ++ (⟨#[64]⟩ : ByteArray)) ++ (numB c.frm)) ++ (⟨#[45]⟩ : ByteArray)) ++ (numB c.to))) : Value) = (.string (callTextB c))) _ (by kernel_rfl) (congrArg Value.string (by exact text_val hc)))
theorem ent21 : Entr prog 21 := ⟨_,func21,rfl,by decide⟩
end Go.Proofs.Tryd

set_option linter.unusedSimpArgs false
set_option linter.unusedVariables false
namespace Go.Proofs.Tryd
open Go.Ab Go.RowKit
def fs8 : FnS := fnS [.s .calls] [.calls] (fun _ (h,_) => (.v (.string (histB h)),[],True))
abbrev T8 : Tab := lk [(20,fs20),(21,fs21)]
theorem tab8 : TabOK prog T8 := (TabOK.cons ok20 ent20 (TabOK.cons ok21 ent21 TabOK.nil))
set_option maxRecDepth 100000 in
set_option maxHeartbeats 1000000 in
theorem ok8 : FnOK prog 8 fs8 := by
 refine FnOK.mk cok func8 rfl rfl rfl ?_
 rintro fl ⟨(h : List CallD),_⟩ hpre F hnt0 _
 have hnt : F.nt = 26 := hnt0.trans ntmps8
 clear hpre
 refine W.to (⟨[(0,.sl (.calls h))],[],[999]⟩) rfl ?_
 refine W.lenOf 0 (.calls h) (by kernel_rfl) ?_
 intro hl_h; replace hl_h : List.length h ≤ 9223372036854775807 := hl_h
 refine Kk cok tab8 hnt [] [0] (⟨[(0,.sl (.calls h))],[],[999]⟩)
  (True ∧ True)
  ⟨tt,tt⟩ ?_
 refine W.seq ?_
 refine Kk cok tab8 hnt [] [0,7] (⟨[(0,.sl (.calls h)),(7,.b (!(validHistory h)))],[],[999]⟩)
  (True ∧ (True ∧ (True ∧ True) ∧ True) ∧ True ∧ True)
  ⟨tt,⟨tt,⟨tt,tt⟩,tt⟩,tt,tt⟩ ?_
 refine W.if' (!(validHistory h)) (.b (!(validHistory h))) (by kernel_rfl) rfl trivial ?_ ?_
 ·intro h7
  refine Kk cok tab8 hnt [] [2] (⟨[(2,.v (.string nEmpty))],[],[999]⟩)
   (True ∧ True)
   ⟨tt,tt⟩ ?_
  refine W.ret (thenQ_ret ?_)
  exact endQ_ret (.v (.string nEmpty)) (by kernel_rfl) (@cast (((.string nEmpty) : Value) = (.string (histB h))) _ (by kernel_rfl) (congrArg Value.string (by exact histB_no (not_f h7))))
 ·intro n7
  have hv : validHistory h = true := not_g n7
  have h6 := valid_len hv
  refine W.skip (thenQ_normal ?_)
  refine Kk cok tab8 hnt [] [0,3] (⟨[(0,.sl (.calls h)),(3,.v (.string nEmpty))],[],[999]⟩)
   (True ∧ True)
   ⟨tt,tt⟩ ?_
  refine W.seq ?_
  refine Kk cok tab8 hnt [] [0,3,4] (⟨[(0,.sl (.calls h)),(3,.v (.string nEmpty)),(4,.i (0 : Int))],[],[999]⟩)
   (True ∧ True)
   ⟨tt,tt⟩ ?_
  refine W.block ?_
  refine W.loop (ι := Nat × ByteArray) (fun (x : Nat × ByteArray) => match x with | (i,o) => (⟨[(0,.sl (.calls h)),(3,.v (.string o)),(4,.i ((i : Nat) : Int))],[],[999]⟩ : St))
   (fun (x : Nat × ByteArray) => match x with | (i,o) => (i ≤ h.length) ∧ (o = histUp h i))
   (fun (x : Nat × ByteArray) => match x with | (i,o) => (h.length - i : Nat)) (0,nEmpty) ?_ ?_ ?_
  ·exact (show (0 ≤ h.length) ∧ (nEmpty = histUp h 0) from ⟨(by first | assumption | omega | rfl | (intro _ hjj; omega) | (simp; done) | (simp; omega)),(by exact histUp_zero h)⟩)
  ·exact Sub.of [] (@cast (((Sd (.calls h)) ∧ (((.string nEmpty) : Value) = (.string nEmpty)) ∧ ((.int .i64 (0 : Int) : Value) = .int .i64 ((0 : Nat) : Int)) ∧ True) ∧ True ∧ (true = true) ∧ (true = true)) _ (by kernel_rfl) ⟨⟨rfl,rfl,(congrArg (Value.int .i64) (by first | rfl | omega | assumption | simp | simp_all)),tt⟩,tt,rfl,rfl⟩)
  ·rintro ⟨i,o⟩ hC0
   have hC : (i ≤ h.length) ∧ (o = histUp h i) := hC0
   clear hC0
   obtain ⟨hi,ho⟩ := hC
   refine W.to (⟨[(0,.sl (.calls h)),(3,.v (.string o)),(4,.i ((i : Nat) : Int))],[],[999]⟩) rfl ?_
   have hos : o.size ≤ 16 * i := by rw [ho]; exact hist_size h i
   have hts := text_size (h.getD i default)
   refine W.seq ?_
   refine Kk cok tab8 hnt [] [0,3,4,11] (⟨[(0,.sl (.calls h)),(3,.v (.string o)),(4,.i ((i : Nat) : Int)),(11,.b (decide (((i : Nat) : Int) < (h.length : Int))))],[],[999]⟩)
    (True ∧ True ∧ True ∧ (True ∧ True ∧ True) ∧ True)
    ⟨tt,tt,tt,⟨tt,tt,tt⟩,tt⟩ ?_
   refine W.ifP (((i : Nat) : Int) < (h.length : Int)) (.b (decide (((i : Nat) : Int) < (h.length : Int)))) (by kernel_rfl) rfl trivial ?_ ?_
   ·intro h11
    refine W.skip (thenQ_normal ?_)
    refine W.seq ?_
    refine W.block ?_
    refine W.seq ?_
    refine Kk cok tab8 hnt [] [0,3,4,15] (⟨[(0,.sl (.calls h)),(3,.v (.string o)),(4,.i ((i : Nat) : Int)),(15,.b (decide ((0 : Int) < ((i : Nat) : Int))))],[],[999]⟩)
     (True ∧ (True ∧ True ∧ True) ∧ True)
     ⟨tt,⟨tt,tt,tt⟩,tt⟩ ?_
    refine W.ifP ((0 : Int) < ((i : Nat) : Int)) (.b (decide ((0 : Int) < ((i : Nat) : Int)))) (by kernel_rfl) rfl trivial ?_ ?_
    ·intro h15
     refine Lk cok tab8 hnt [] (⟨[(0,.sl (.calls h)),(3,.v (.string (o ++ (⟨#[32]⟩ : ByteArray)))),(4,.i ((i : Nat) : Int)),(15,.b (decide ((0 : Int) < ((i : Nat) : Int)))),(16,.v (.string o)),(17,.v (.string (o ++ (⟨#[32]⟩ : ByteArray))))],[],[999]⟩)
      (True ∧ (True ∧ True ∧ (o.size + (⟨#[32]⟩ : ByteArray).size ≤ 9223372036854775807)) ∧ True ∧ True)
      ⟨tt,⟨tt,tt,(by (try simp only [ByteArray.size_append,ByteArray.size_extract,sz1,sz2,sz3,sz10]); omega)⟩,tt,tt⟩ ?_
     refine thenQ_normal ?_
     refine Lk cok tab8 hnt [] (⟨[(0,.sl (.calls h)),(3,.v (.string ((o ++ (⟨#[32]⟩ : ByteArray)) ++ (callTextB (h.getD i default))))),(4,.i ((i : Nat) : Int)),(15,.b (decide ((0 : Int) < ((i : Nat) : Int)))),(16,.v (.string o)),(17,.v (.string (o ++ (⟨#[32]⟩ : ByteArray)))),(18,.v (.string (o ++ (⟨#[32]⟩ : ByteArray)))),(19,.sl (.calls h)),(20,.i ((i : Nat) : Int)),(21,.ep [.i ((h.getD i default).proc),.i ((h.getD i default).obj),.i ((h.getD i default).kind),.i ((h.getD i default).arg),.i ((h.getD i default).ret),.i ((h.getD i default).frm),.i ((h.getD i default).to)]),(22,.agg [.i ((h.getD i default).proc),.i ((h.getD i default).obj),.i ((h.getD i default).kind),.i ((h.getD i default).arg),.i ((h.getD i default).ret),.i ((h.getD i default).frm),.i ((h.getD i default).to)]),(23,.v (.string (callTextB (h.getD i default)))),(24,.v (.string ((o ++ (⟨#[32]⟩ : ByteArray)) ++ (callTextB (h.getD i default)))))],[],[999]⟩)
      (True ∧ True ∧ True ∧ (True ∧ True ∧ (0 ≤ ((i : Nat) : Int)) ∧ (((i : Nat) : Int) < (h.length : Int))) ∧ True ∧ (True ∧ (True ∧ True) ∧ (isCall (h.getD i default) = true)) ∧ (True ∧ True ∧ ((o ++ (⟨#[32]⟩ : ByteArray)).size + (callTextB (h.getD i default)).size ≤ 9223372036854775807)) ∧ True ∧ True)
      ⟨tt,tt,tt,⟨tt,tt,(by omega),(by omega)⟩,tt,⟨tt,⟨tt,tt⟩,(by have h9 := valid_call hv _ (getD_mem h default (show i < h.length by omega)); exact h9)⟩,⟨tt,tt,(by (try simp only [ByteArray.size_append,ByteArray.size_extract,sz1,sz2,sz3,sz10]); omega)⟩,tt,tt⟩ ?_
     refine blockQ_normal (thenQ_normal ?_)
     refine Lk cok tab8 hnt [] (⟨[(0,.sl (.calls h)),(3,.v (.string ((o ++ (⟨#[32]⟩ : ByteArray)) ++ (callTextB (h.getD i default))))),(4,.i (((i + 1) : Nat) : Int)),(12,.i ((i : Nat) : Int)),(13,.i (((i + 1) : Nat) : Int)),(15,.b (decide ((0 : Int) < ((i : Nat) : Int)))),(16,.v (.string o)),(17,.v (.string (o ++ (⟨#[32]⟩ : ByteArray)))),(18,.v (.string (o ++ (⟨#[32]⟩ : ByteArray)))),(19,.sl (.calls h)),(20,.i ((i : Nat) : Int)),(21,.ep [.i ((h.getD i default).proc),.i ((h.getD i default).obj),.i ((h.getD i default).kind),.i ((h.getD i default).arg),.i ((h.getD i default).ret),.i ((h.getD i default).frm),.i ((h.getD i default).to)]),(22,.agg [.i ((h.getD i default).proc),.i ((h.getD i default).obj),.i ((h.getD i default).kind),.i ((h.getD i default).arg),.i ((h.getD i default).ret),.i ((h.getD i default).frm),.i ((h.getD i default).to)]),(23,.v (.string (callTextB (h.getD i default)))),(24,.v (.string ((o ++ (⟨#[32]⟩ : ByteArray)) ++ (callTextB (h.getD i default)))))],[],[999]⟩)
      (True ∧ (True ∧ True ∧ (Fits .i64 (((i + 1) : Nat) : Int))) ∧ True ∧ True)
      ⟨tt,⟨tt,tt,(by exact fits_i64 (by omega) (by omega))⟩,tt,tt⟩ ?_
     refine thenQ_normal ?_
     refine ⟨((i + 1),((o ++ (⟨#[32]⟩ : ByteArray)) ++ (callTextB (h.getD i default)))),(show ((i + 1) ≤ h.length) ∧ (((o ++ (⟨#[32]⟩ : ByteArray)) ++ (callTextB (h.getD i default))) = histUp h (i + 1)) from ⟨(by first | assumption | omega | rfl | (intro _ hjj; omega) | (simp; done) | (simp; omega)),(by first | exact histUp_next ho (by omega) h15 | exact histUp_one ho (by omega) n15)⟩),(show h.length - (i + 1) < h.length - i from (by first | omega | (simp_all; omega))),?_⟩
     exact Sub.of [] (@cast (((Sd (.calls h)) ∧ (((.string ((o ++ (⟨#[32]⟩ : ByteArray)) ++ (callTextB (h.getD i default)))) : Value) = (.string ((o ++ (⟨#[32]⟩ : ByteArray)) ++ (callTextB (h.getD i default))))) ∧ (Si (((i + 1) : Nat) : Int)) ∧ True) ∧ True ∧ (true = true) ∧ (true = true)) _ (by kernel_rfl) ⟨⟨rfl,rfl,rfl,tt⟩,tt,rfl,rfl⟩)
    ·intro n15
     refine W.skip (thenQ_normal ?_)
     refine Lk cok tab8 hnt [] (⟨[(0,.sl (.calls h)),(3,.v (.string (o ++ (callTextB (h.getD i default))))),(4,.i ((i : Nat) : Int)),(15,.b (decide ((0 : Int) < ((i : Nat) : Int)))),(18,.v (.string o)),(19,.sl (.calls h)),(20,.i ((i : Nat) : Int)),(21,.ep [.i ((h.getD i default).proc),.i ((h.getD i default).obj),.i ((h.getD i default).kind),.i ((h.getD i default).arg),.i ((h.getD i default).ret),.i ((h.getD i default).frm),.i ((h.getD i default).to)]),(22,.agg [.i ((h.getD i default).proc),.i ((h.getD i default).obj),.i ((h.getD i default).kind),.i ((h.getD i default).arg),.i ((h.getD i default).ret),.i ((h.getD i default).frm),.i ((h.getD i default).to)]),(23,.v (.string (callTextB (h.getD i default)))),(24,.v (.string (o ++ (callTextB (h.getD i default)))))],[],[999]⟩)
      (True ∧ True ∧ True ∧ (True ∧ True ∧ (0 ≤ ((i : Nat) : Int)) ∧ (((i : Nat) : Int) < (h.length : Int))) ∧ True ∧ (True ∧ (True ∧ True) ∧ (isCall (h.getD i default) = true)) ∧ (True ∧ True ∧ (o.size + (callTextB (h.getD i default)).size ≤ 9223372036854775807)) ∧ True ∧ True)
      ⟨tt,tt,tt,⟨tt,tt,(by omega),(by omega)⟩,tt,⟨tt,⟨tt,tt⟩,(by have h9 := valid_call hv _ (getD_mem h default (show i < h.length by omega)); exact h9)⟩,⟨tt,tt,(by (try simp only [ByteArray.size_append,ByteArray.size_extract,sz1,sz2,sz3,sz10]); omega)⟩,tt,tt⟩ ?_
     refine blockQ_normal (thenQ_normal ?_)
     refine Lk cok tab8 hnt [] (⟨[(0,.sl (.calls h)),(3,.v (.string (o ++ (callTextB (h.getD i default))))),(4,.i (((i + 1) : Nat) : Int)),(12,.i ((i : Nat) : Int)),(13,.i (((i + 1) : Nat) : Int)),(15,.b (decide ((0 : Int) < ((i : Nat) : Int)))),(18,.v (.string o)),(19,.sl (.calls h)),(20,.i ((i : Nat) : Int)),(21,.ep [.i ((h.getD i default).proc),.i ((h.getD i default).obj),.i ((h.getD i default).kind),.i ((h.getD i default).arg),.i ((h.getD i default).ret),.i ((h.getD i default).frm),.i ((h.getD i default).to)]),(22,.agg [.i ((h.getD i default).proc),.i ((h.getD i default).obj),.i ((h.getD i default).kind),.i ((h.getD i default).arg),.i ((h.getD i default).ret),.i ((h.getD i default).frm),.i ((h.getD i default).to)]),(23,.v (.string (callTextB (h.getD i default)))),(24,.v (.string (o ++ (callTextB (h.getD i default)))))],[],[999]⟩)
      (True ∧ (True ∧ True ∧ (Fits .i64 (((i + 1) : Nat) : Int))) ∧ True ∧ True)
      ⟨tt,⟨tt,tt,(by exact fits_i64 (by omega) (by omega))⟩,tt,tt⟩ ?_
     refine thenQ_normal ?_
     refine ⟨((i + 1),(o ++ (callTextB (h.getD i default)))),(show ((i + 1) ≤ h.length) ∧ ((o ++ (callTextB (h.getD i default))) = histUp h (i + 1)) from ⟨(by first | assumption | omega | rfl | (intro _ hjj; omega) | (simp; done) | (simp; omega)),(by first | exact histUp_next ho (by omega) h15 | exact histUp_one ho (by omega) n15)⟩),(show h.length - (i + 1) < h.length - i from (by first | omega | (simp_all; omega))),?_⟩
     exact Sub.of [] (@cast (((Sd (.calls h)) ∧ (((.string (o ++ (callTextB (h.getD i default)))) : Value) = (.string (o ++ (callTextB (h.getD i default))))) ∧ (Si (((i + 1) : Nat) : Int)) ∧ True) ∧ True ∧ (true = true) ∧ (true = true)) _ (by kernel_rfl) ⟨⟨rfl,rfl,rfl,tt⟩,tt,rfl,rfl⟩)
   ·intro n11
    refine W.exit (thenQ_exit (thenQ_exit (blockQ_hit ?_)))
    refine thenQ_normal ?_
    refine Kk cok tab8 hnt [] [2] (⟨[(2,.v (.string o))],[],[999]⟩)
     (True ∧ True ∧ True)
     ⟨tt,tt,tt⟩ ?_
    refine W.ret ?_
    exact endQ_ret (.v (.string o)) (by kernel_rfl) (@cast (((.string o) : Value) = (.string (histB h))) _ (by kernel_rfl) (congrArg Value.string (by exact histUp_all hv ho (by omega))))
theorem ent8 : Entr prog 8 := ⟨_,func8,rfl,by decide⟩
end Go.Proofs.Tryd

set_option linter.unusedSimpArgs false
set_option linter.unusedVariables false
namespace Go.Proofs.Tryd
open Go.Ab Go.RowKit
def pre27 : List AV → List AV → Prop := preP [.bytes] [] (fun (code,_) _ => True)
def rel27 : RelS := relP [.bytes] [] (ι := (List UInt8)) (fun (code,_) _ l => True) (fun (code,_) _ l => (.ptr 0 0,[⟨68,.fix [.sl (.bytes l),.i (0 : Int)]⟩],[]))
abbrev T27 : Tab := lk []
theorem tab27 : TabOK prog T27 := TabOK.nil
set_option maxRecDepth 100000 in
set_option maxHeartbeats 1000000 in
theorem rok27 : RelOK prog 27 none [.s .bytes] pre27 rel27 := by
 refine RelOK.mk cok func27 rfl rfl rfl ?_
 rintro ⟨(code : List UInt8),_⟩ _ hpre F hnt0
 have hnt : F.nt = 11 := hnt0.trans ntmps27
 clear hpre
 refine W.to (⟨[(0,.sl (.bytes code))],[],[998,999]⟩) rfl ?_
 refine Kk cok tab27 hnt [] [0] (⟨[(0,.sl (.bytes code))],[],[998,999]⟩)
  (True ∧ True)
  ⟨tt,tt⟩ ?_
 refine W.seq ?_
 refine Kk cok tab27 hnt [] [0,5] (⟨[(0,.sl (.bytes code)),(5,.b (decide ((2000 : Int) < (code.length : Int))))],[],[998,999]⟩)
  (True ∧ True ∧ (True ∧ True ∧ True) ∧ True)
  ⟨tt,tt,⟨tt,tt,tt⟩,tt⟩ ?_
 refine W.ifP ((2000 : Int) < (code.length : Int)) (.b (decide ((2000 : Int) < (code.length : Int)))) (by kernel_rfl) rfl trivial ?_ ?_
 ·intro h5
  refine Lk cok tab27 hnt [] (⟨[(0,.sl (.bytes (List.take 2000 code))),(5,.b (decide ((2000 : Int) < (code.length : Int)))),(6,.sl (.bytes code)),(7,.sl (.bytes (List.take 2000 code)))],[],[998,999]⟩)
   (True ∧ (True ∧ True ∧ True ∧ (0 ≤ (0 : Int)) ∧ ((0 : Int) ≤ (2000 : Int)) ∧ ((2000 : Int) ≤ (code.length : Int))) ∧ True ∧ True)
   ⟨tt,⟨tt,tt,tt,(by omega),(by omega),(by omega)⟩,tt,tt⟩ ?_
  refine thenQ_normal ?_
  refine Kk cok tab27 hnt [] [2] (⟨[(2,.ptr 10 0)],[(10,⟨68,.fix [.sl (.bytes (List.take 2000 code)),.i (0 : Int)]⟩)],[10,998,999]⟩)
   (True ∧ (True ∧ True) ∧ True ∧ True ∧ True)
   ⟨tt,⟨tt,tt⟩,tt,tt,tt⟩ ?_
  refine W.ret ?_
  exact endP_ret ((List.take 2000 code)) (show True from trivial) [(0,10)] (.ptr 10 0) (by kernel_rfl) (@cast ((((10 : Nat) = 10) ∧ ((0 : Nat) = 0) ∧ ((0 : Nat) ∈ ([0] : List Nat))) ∧ ((((68 : Nat) = 68) ∧ ((Sd (.bytes (List.take 2000 code))) ∧ (Si (0 : Int)) ∧ True) ∧ ((0 : Nat) ∈ ([0] : List Nat))) ∧ True) ∧ (true = true) ∧ ((([] : List Nat) = []) ∧ True) ∧ (false = true → (10 : Nat) = 998)) _ (by kernel_rfl) ⟨⟨rfl,rfl,(by decide)⟩,⟨⟨rfl,⟨rfl,rfl,tt⟩,(by decide)⟩,tt⟩,rfl,⟨rfl,tt⟩,(fun h => by cases h)⟩)
 ·intro n5
  refine W.skip (thenQ_normal ?_)
  refine Kk cok tab27 hnt [] [2] (⟨[(2,.ptr 10 0)],[(10,⟨68,.fix [.sl (.bytes code),.i (0 : Int)]⟩)],[10,998,999]⟩)
   (True ∧ (True ∧ True) ∧ True ∧ True ∧ True)
   ⟨tt,⟨tt,tt⟩,tt,tt,tt⟩ ?_
  refine W.ret ?_
  exact endP_ret (code) (show True from trivial) [(0,10)] (.ptr 10 0) (by kernel_rfl) (@cast ((((10 : Nat) = 10) ∧ ((0 : Nat) = 0) ∧ ((0 : Nat) ∈ ([0] : List Nat))) ∧ ((((68 : Nat) = 68) ∧ ((Sd (.bytes code)) ∧ (Si (0 : Int)) ∧ True) ∧ ((0 : Nat) ∈ ([0] : List Nat))) ∧ True) ∧ (true = true) ∧ ((([] : List Nat) = []) ∧ True) ∧ (false = true → (10 : Nat) = 998)) _ (by kernel_rfl) ⟨⟨rfl,rfl,(by decide)⟩,⟨⟨rfl,⟨rfl,rfl,tt⟩,(by decide)⟩,tt⟩,rfl,⟨rfl,tt⟩,(fun h => by cases h)⟩)
theorem ent27 : Entr prog 27 := ⟨_,func27,rfl,by decide⟩
end Go.Proofs.Tryd
