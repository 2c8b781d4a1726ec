import Derived.Test.YtjcapebfkgoicaaDoorTF6S0
import Derived.Test.YtjcapebfkgoicaaDoorTF6S1
import Derived.Test.YtjcapebfkgoicaaDoorTF6S2
set_option linter.unusedSimpArgs false
set_option linter.unusedVariables false
namespace Go.Proofs.Tryd
open Go.Ab Go.RowKit
def fs55 : FnS := fnS [.o,.o,.o] [.int,.int,.int] (fun _ (n,low,high,_) => (.b (within n low high),[],True))
abbrev T55 : Tab := lk []
theorem tab55 : TabOK prog T55 := TabOK.nil
set_option maxRecDepth 100000 in
set_option maxHeartbeats 1000000 in
theorem ok55 : FnOK prog 55 fs55 := by
 refine FnOK.mk cok func55 rfl rfl rfl ?_
 rintro fl ⟨(n : Int),(low : Int),(high : Int),_⟩ hpre F hnt0 _
 have hnt : F.nt = 15 := hnt0.trans ntmps55
 clear hpre
 refine W.to (⟨[(0,.i n),(1,.i low),(2,.i high)],[],[999]⟩) rfl ?_
 refine Kk cok tab55 hnt [] [0,1,2] (⟨[(0,.i n),(1,.i low),(2,.i high)],[],[999]⟩)
  (True ∧ True)
  ⟨tt,tt⟩ ?_
 refine Kk cok tab55 hnt [] [6] (⟨[(6,.b ((decide (low ≤ n)) && (decide (n ≤ high))))],[],[999]⟩)
  ((fun (Z1:Bool)=>(True ∧ (True ∧ ((True ∧ (True ∧ True)) ∧ (True ∧ ((Z1 = true → True) ∧ ((Z1 = true → True) ∧ ((Z1 = true → (((Z1 = true) ∧ True) ∧ (((Z1 = true) ∧ True) ∧ True))) ∧ ((True ∧ ((Z1 = true → (Z1 = true) ∧ True) ∧ (Z1 = false → True))) ∧ (True ∧ True)))))))))) (decide (low ≤ n)))
  ⟨tt,tt,⟨tt,tt,tt⟩,tt,(fun _ => trivial),(fun _ => trivial),(fun hG => ⟨⟨hG,tt⟩,⟨hG,tt⟩,tt⟩),⟨tt,(fun hp => ⟨hp,tt⟩),(fun _ => trivial)⟩,tt,tt⟩ ?_
 refine W.ret ?_
 exact endQ_ret (.b ((decide (low ≤ n)) && (decide (n ≤ high)))) (by kernel_rfl) (@cast ((.bool ((decide (low ≤ n)) && (decide (n ≤ high))) : Value) = .bool (within n low high)) _ (by kernel_rfl) (congrArg Value.bool (by first | rfl | simp_all)))
theorem ent55 : Entr prog 55 := ⟨_,func55,rfl,by decide⟩
end Go.Proofs.Tryd

set_option linter.unusedSimpArgs false
set_option linter.unusedVariables false
namespace Go.Proofs.Tryd
open Go.Ab Go.RowKit
def fs37 : FnS := fnS [.o] [.call] (fun _ (c,_) => (.b (isCall c),[],True))
abbrev T37 : Tab := lk [(55,fs55)]
theorem tab37 : TabOK prog T37 := (TabOK.cons ok55 ent55 TabOK.nil)
set_option maxRecDepth 100000 in
set_option maxHeartbeats 1000000 in
theorem ok37 : FnOK prog 37 fs37 := by
 refine FnOK.mk cok func37 rfl rfl rfl ?_
 rintro fl ⟨(c : CallD),_⟩ hpre F hnt0 _
 have hnt : F.nt = 39 := hnt0.trans ntmps37
 clear hpre
 refine W.to (⟨[(0,.agg [.i c.proc,.i c.obj,.i c.kind,.i c.arg,.i c.ret,.i c.frm,.i c.to])],[],[999]⟩) rfl ?_
 refine Kk cok tab37 hnt [] [1] (⟨[(1,.ptr 1 0)],[(1,⟨40,.fix [.i c.proc,.i c.obj,.i c.kind,.i c.arg,.i c.ret,.i c.frm,.i c.to]⟩)],[1,999]⟩)
  (True ∧ True ∧ True)
  ⟨tt,tt,tt⟩ ?_
 refine Kk cok tab37 hnt [] [2] (⟨[(2,.b (((((((within c.proc (0 : Int) (2 : Int)) && (within c.obj (0 : Int) (1 : Int))) && (within c.kind (0 : Int) (2 : Int))) && (within c.arg (0 : Int) (3 : Int))) && (within c.ret (-1 : Int) (20 : Int))) && (within c.frm (0 : Int) (30 : Int))) && (within c.to (c.frm + (1 : Int)) (30 : Int))))],[(1,⟨40,.fix [.i c.proc,.i c.obj,.i c.kind,.i c.arg,.i c.ret,.i c.frm,.i c.to]⟩)],[1,999]⟩)
  ((fun (Z1:Bool)=>((fun (Z2:Bool)=>((fun (Z3:Bool)=>((fun (Z4:Bool)=>((fun (Z5:Bool)=>((fun (Z6:Bool)=>(True ∧ (True ∧ ((True ∧ ((True ∧ (True ∧ (True ∧ True))) ∧ True)) ∧ (True ∧ ((Z1 = true → True) ∧ ((Z1 = true → ((Z1 = true) ∧ True)) ∧ ((Z1 = true → (True ∧ ((((Z1 = true) ∧ True) ∧ (True ∧ (True ∧ True))) ∧ True))) ∧ ((True ∧ ((Z1 = true → (Z1 = true) ∧ True) ∧ (Z1 = false → True))) ∧ (True ∧ ((Z2 = true → True) ∧ ((Z2 = true → ((Z2 = true) ∧ True)) ∧ ((Z2 = true → (True ∧ ((((Z2 = true) ∧ True) ∧ (True ∧ (True ∧ True))) ∧ True))) ∧ ((True ∧ ((Z2 = true → (Z2 = true) ∧ True) ∧ (Z2 = false → True))) ∧ (True ∧ ((Z3 = true → True) ∧ ((Z3 = true → ((Z3 = true) ∧ True)) ∧ ((Z3 = true → (True ∧ ((((Z3 = true) ∧ True) ∧ (True ∧ (True ∧ True))) ∧ True))) ∧ ((True ∧ ((Z3 = true → (Z3 = true) ∧ True) ∧ (Z3 = false → True))) ∧ (True ∧ ((Z4 = true → True) ∧ ((Z4 = true → ((Z4 = true) ∧ True)) ∧ ((Z4 = true → (True ∧ ((((Z4 = true) ∧ True) ∧ (True ∧ (True ∧ True))) ∧ True))) ∧ ((True ∧ ((Z4 = true → (Z4 = true) ∧ True) ∧ (Z4 = false → True))) ∧ (True ∧ ((Z5 = true → True) ∧ ((Z5 = true → ((Z5 = true) ∧ True)) ∧ ((Z5 = true → (True ∧ ((((Z5 = true) ∧ True) ∧ (True ∧ (True ∧ True))) ∧ True))) ∧ ((True ∧ ((Z5 = true → (Z5 = true) ∧ True) ∧ (Z5 = false → True))) ∧ (True ∧ ((Z6 = true → True) ∧ ((Z6 = true → ((Z6 = true) ∧ True)) ∧ ((Z6 = true → True) ∧ ((Z6 = true → ((Z6 = true) ∧ True)) ∧ ((Z6 = true → (((Z6 = true) ∧ True) ∧ (True ∧ (Fits .i64 (c.frm + (1 : Int)))))) ∧ ((Z6 = true → (True ∧ ((((Z6 = true) ∧ True) ∧ (((Z6 = true) ∧ True) ∧ (True ∧ True))) ∧ True))) ∧ ((True ∧ ((Z6 = true → (Z6 = true) ∧ True) ∧ (Z6 = false → True))) ∧ (True ∧ True)))))))))))))))))))))))))))))))))))))) (Z5 && (within c.frm (0 : Int) (30 : Int))))) (Z4 && (within c.ret (-1 : Int) (20 : Int))))) (Z3 && (within c.arg (0 : Int) (3 : Int))))) (Z2 && (within c.kind (0 : Int) (2 : Int))))) (Z1 && (within c.obj (0 : Int) (1 : Int))))) (within c.proc (0 : Int) (2 : Int)))
  ⟨tt,tt,⟨tt,⟨tt,tt,tt,tt⟩,tt⟩,tt,(fun _ => trivial),(fun hG => ⟨hG,tt⟩),(fun hG => ⟨tt,⟨⟨hG,tt⟩,tt,tt,tt⟩,tt⟩),⟨tt,(fun hp => ⟨hp,tt⟩),(fun _ => trivial)⟩,tt,(fun _ => trivial),(fun hG => ⟨hG,tt⟩),(fun hG => ⟨tt,⟨⟨hG,tt⟩,tt,tt,tt⟩,tt⟩),⟨tt,(fun hp => ⟨hp,tt⟩),(fun _ => trivial)⟩,tt,(fun _ => trivial),(fun hG => ⟨hG,tt⟩),(fun hG => ⟨tt,⟨⟨hG,tt⟩,tt,tt,tt⟩,tt⟩),⟨tt,(fun hp => ⟨hp,tt⟩),(fun _ => trivial)⟩,tt,(fun _ => trivial),(fun hG => ⟨hG,tt⟩),(fun hG => ⟨tt,⟨⟨hG,tt⟩,tt,tt,tt⟩,tt⟩),⟨tt,(fun hp => ⟨hp,tt⟩),(fun _ => trivial)⟩,tt,(fun _ => trivial),(fun hG => ⟨hG,tt⟩),(fun hG => ⟨tt,⟨⟨hG,tt⟩,tt,tt,tt⟩,tt⟩),⟨tt,(fun hp => ⟨hp,tt⟩),(fun _ => trivial)⟩,tt,(fun _ => trivial),(fun hG => ⟨hG,tt⟩),(fun _ => trivial),(fun hG => ⟨hG,tt⟩),(fun hG => ⟨⟨hG,tt⟩,tt,(by have hh := hG; simp only [Bool.and_eq_true,inRange_iff] at hh; exact fits_i64 (by omega) (by omega))⟩),(fun hG => ⟨tt,⟨⟨hG,tt⟩,⟨hG,tt⟩,tt,tt⟩,tt⟩),⟨tt,(fun hp => ⟨hp,tt⟩),(fun _ => trivial)⟩,tt,tt⟩ ?_
 refine W.ret ?_
 exact endQ_ret (.b (((((((within c.proc (0 : Int) (2 : Int)) && (within c.obj (0 : Int) (1 : Int))) && (within c.kind (0 : Int) (2 : Int))) && (within c.arg (0 : Int) (3 : Int))) && (within c.ret (-1 : Int) (20 : Int))) && (within c.frm (0 : Int) (30 : Int))) && (within c.to (c.frm + (1 : Int)) (30 : Int)))) (by kernel_rfl) (@cast ((.bool (((((((within c.proc (0 : Int) (2 : Int)) && (within c.obj (0 : Int) (1 : Int))) && (within c.kind (0 : Int) (2 : Int))) && (within c.arg (0 : Int) (3 : Int))) && (within c.ret (-1 : Int) (20 : Int))) && (within c.frm (0 : Int) (30 : Int))) && (within c.to (c.frm + (1 : Int)) (30 : Int))) : Value) = .bool (isCall c)) _ (by kernel_rfl) (congrArg Value.bool (by rw [validCall_eq])))
theorem ent37 : Entr prog 37 := ⟨_,func37,rfl,by decide⟩
end Go.Proofs.Tryd

set_option linter.unusedSimpArgs false
set_option linter.unusedVariables false
namespace Go.Proofs.Tryd
open Go.Ab Go.RowKit
def fs20 : FnS := fnS [.s .calls] [.calls] (fun _ (h,_) => (.b (validHistory h),[],True))
abbrev T20 : Tab := lk [(37,fs37)]
theorem tab20 : TabOK prog T20 := (TabOK.cons ok37 ent37 TabOK.nil)
set_option maxRecDepth 100000 in
set_option maxHeartbeats 1000000 in
theorem ok20 : FnOK prog 20 fs20 := by
 refine FnOK.mk cok func20 rfl rfl rfl ?_
 rintro fl ⟨(h : List CallD),_⟩ hpre F hnt0 _
 have hnt : F.nt = 112 := hnt0.trans ntmps20
 clear hpre
 refine W.to (⟨[(0,.sl (.calls h))],[],[999]⟩) rfl ?_
 refine W.lenOf 0 (.calls h) (by kernel_rfl) ?_
 intro hl_h; replace hl_h : List.length h ≤ 9223372036854775807 := hl_h
 refine Kk cok tab20 hnt [] [0] (⟨[(0,.sl (.calls h))],[],[999]⟩)
  (True ∧ True)
  ⟨tt,tt⟩ ?_
 refine W.seq ?_
 refine Kk cok tab20 hnt [] [0,3] (⟨[(0,.sl (.calls h)),(3,.i (0 : Int))],[],[999]⟩)
  (True ∧ True)
  ⟨tt,tt⟩ ?_
 refine W.block ?_
 refine W.loop (ι := Nat) (fun (i : Nat) => (⟨[(0,.sl (.calls h)),(3,.i ((i : Nat) : Int))],[],[999]⟩ : St))
  (fun (i : Nat) => (i ≤ h.length) ∧ (∀ j,j < i → (isCall (callAt h j) && allN j (fun k => !clash (callAt h j) (callAt h k))) = true))
  (fun (i : Nat) => (h.length - i : Nat)) (0) ?_ ?_ ?_
 ·exact (show (0 ≤ h.length) ∧ (∀ j,j < 0 → (isCall (callAt h j) && allN j (fun k => !clash (callAt h j) (callAt h k))) = true) from ⟨(by first | assumption | omega | rfl | (intro _ hjj; omega) | (simp; done) | (simp; omega)),(by exact upto_zero)⟩)
 ·exact Sub.of [] (@cast (((Sd (.calls h)) ∧ ((.int .i64 (0 : Int) : Value) = .int .i64 ((0 : Nat) : Int)) ∧ True) ∧ True ∧ (true = true) ∧ (true = true)) _ (by kernel_rfl) ⟨⟨rfl,(congrArg (Value.int .i64) (by first | rfl | omega | assumption | simp | simp_all)),tt⟩,tt,rfl,rfl⟩)
 ·rintro i hC0
  have hC : (i ≤ h.length) ∧ (∀ j,j < i → (isCall (callAt h j) && allN j (fun k => !clash (callAt h j) (callAt h k))) = true) := hC0
  clear hC0
  obtain ⟨hi,hA⟩ := hC
  refine W.to (⟨[(0,.sl (.calls h)),(3,.i ((i : Nat) : Int))],[],[999]⟩) rfl ?_
  refine W.seq ?_
  refine Kk cok tab20 hnt [] [0,3,8] (⟨[(0,.sl (.calls h)),(3,.i ((i : Nat) : Int)),(8,.b (decide (((i : Nat) : Int) < (h.length : Int))))],[],[999]⟩)
   (True ∧ True ∧ True ∧ (True ∧ True ∧ True) ∧ True)
   ⟨tt,tt,tt,⟨tt,tt,tt⟩,tt⟩ ?_
  refine W.ifP (((i : Nat) : Int) < (h.length : Int)) (.b (decide (((i : Nat) : Int) < (h.length : Int)))) (by kernel_rfl) rfl trivial ?_ ?_
  ·intro h8
   refine W.skip (thenQ_normal ?_)
   refine W.seq ?_
   refine W.block ?_
   refine W.seq ?_
   refine Kk cok tab20 hnt [] [0,3,16] (⟨[(0,.sl (.calls h)),(3,.i ((i : Nat) : Int)),(16,.b (!(isCall (h.getD i default))))],[],[999]⟩)
    (True ∧ True ∧ (True ∧ True ∧ (0 ≤ ((i : Nat) : Int)) ∧ (((i : Nat) : Int) < (h.length : Int))) ∧ True ∧ (True ∧ (True ∧ True) ∧ True) ∧ True ∧ True)
    ⟨tt,tt,⟨tt,tt,(by omega),(by omega)⟩,tt,⟨tt,⟨tt,tt⟩,tt⟩,tt,tt⟩ ?_
   refine W.if' (!(isCall (h.getD i default))) (.b (!(isCall (h.getD i default)))) (by kernel_rfl) rfl trivial ?_ ?_
   ·intro h16
    refine Kk cok tab20 hnt [] [2] (⟨[(2,.b false)],[],[999]⟩)
     (True ∧ True)
     ⟨tt,tt⟩ ?_
    refine W.ret (thenQ_ret (blockQ_ret (thenQ_ret (thenQ_ret (blockQ_ret (thenQ_ret ?_))))))
    exact endQ_ret (.b false) (by kernel_rfl) (@cast ((.bool false : Value) = .bool (validHistory h)) _ (by kernel_rfl) (congrArg Value.bool (by unfold validHistory; symm; exact and_fr (allN_false (i := i) (by omega) (and_fl (not_f h16))))))
   ·intro n16
    refine W.skip (thenQ_normal ?_)
    refine Kk cok tab20 hnt [] [0,3,4] (⟨[(0,.sl (.calls h)),(3,.i ((i : Nat) : Int)),(4,.i (0 : Int))],[],[999]⟩)
     (True ∧ True)
     ⟨tt,tt⟩ ?_
    refine W.block ?_
    refine W.loop (ι := Nat) (fun (k : Nat) => (⟨[(0,.sl (.calls h)),(3,.i ((i : Nat) : Int)),(4,.i ((k : Nat) : Int))],[],[999]⟩ : St))
     (fun (k : Nat) => (k ≤ i) ∧ (∀ j,j < k → (!clash (callAt h i) (callAt h j)) = true))
     (fun (k : Nat) => (i - k : Nat)) (0) ?_ ?_ ?_
    ·exact (show (0 ≤ i) ∧ (∀ j,j < 0 → (!clash (callAt h i) (callAt h j)) = true) from ⟨(by first | assumption | omega | rfl | (intro _ hjj; omega) | (simp; done) | (simp; omega)),(by exact upto_zero)⟩)
    ·exact Sub.of [] (@cast (((Sd (.calls h)) ∧ (Si ((i : Nat) : Int)) ∧ ((.int .i64 (0 : Int) : Value) = .int .i64 ((0 : Nat) : Int)) ∧ True) ∧ True ∧ (true = true) ∧ (true = true)) _ (by kernel_rfl) ⟨⟨rfl,rfl,(congrArg (Value.int .i64) (by first | rfl | omega | assumption | simp | simp_all)),tt⟩,tt,rfl,rfl⟩)
    ·rintro k hC0
     have hC : (k ≤ i) ∧ (∀ j,j < k → (!clash (callAt h i) (callAt h j)) = true) := hC0
     clear hC0
     obtain ⟨hk,hB⟩ := hC
     refine W.to (⟨[(0,.sl (.calls h)),(3,.i ((i : Nat) : Int)),(4,.i ((k : Nat) : Int))],[],[999]⟩) rfl ?_
     refine W.seq ?_
     refine Kk cok tab20 hnt [] [0,3,4,19] (⟨[(0,.sl (.calls h)),(3,.i ((i : Nat) : Int)),(4,.i ((k : Nat) : Int)),(19,.b (decide (((k : Nat) : Int) < ((i : Nat) : Int))))],[],[999]⟩)
      (True ∧ True ∧ (True ∧ True ∧ True) ∧ True)
      ⟨tt,tt,⟨tt,tt,tt⟩,tt⟩ ?_
     refine W.ifP (((k : Nat) : Int) < ((i : Nat) : Int)) (.b (decide (((k : Nat) : Int) < ((i : Nat) : Int)))) (by kernel_rfl) rfl trivial ?_ ?_
     ·intro h19
      refine W.skip (thenQ_normal ?_)
      refine W.seq ?_
      refine W.block ?_
      refine W.seq ?_
      refine W.KA cok tab20 hnt [] [0,3,4,71] (⟨[(0,.sl (.calls h)),(3,.i ((i : Nat) : Int)),(4,.i ((k : Nat) : Int)),(71,.b ((((decide (((h.getD k default).frm) = ((h.getD i default).frm))) || (decide (((h.getD k default).frm) = ((h.getD i default).to)))) || (decide (((h.getD k default).to) = ((h.getD i default).frm)))) || (decide (((h.getD k default).to) = ((h.getD i default).to)))))],[],[999]⟩)
       ((fun (Z1:Bool)=>((fun (Z2:Bool)=>((fun (Z3:Bool)=>(True ∧ (True ∧ ((True ∧ (True ∧ ((0 ≤ ((k : Nat) : Int)) ∧ (((k : Nat) : Int) < (h.length : Int))))) ∧ (True ∧ (True ∧ (True ∧ (True ∧ ((True ∧ (True ∧ ((0 ≤ ((i : Nat) : Int)) ∧ (((i : Nat) : Int) < (h.length : Int))))) ∧ (True ∧ (True ∧ ((True ∧ (True ∧ True)) ∧ (True ∧ (((!Z1) = true → True) ∧ (((!Z1) = true → True) ∧ (((!Z1) = true → ((((!Z1) = true) ∧ True) ∧ ((((!Z1) = true) ∧ True) ∧ ((0 ≤ ((k : Nat) : Int)) ∧ (((k : Nat) : Int) < (h.length : Int)))))) ∧ (((!Z1) = true → (((!Z1) = true) ∧ True)) ∧ (((!Z1) = true → (((!Z1) = true) ∧ True)) ∧ (((!Z1) = true → True) ∧ (((!Z1) = true → True) ∧ (((!Z1) = true → ((((!Z1) = true) ∧ True) ∧ ((((!Z1) = true) ∧ True) ∧ ((0 ≤ ((i : Nat) : Int)) ∧ (((i : Nat) : Int) < (h.length : Int)))))) ∧ (((!Z1) = true → (((!Z1) = true) ∧ True)) ∧ (((!Z1) = true → (((!Z1) = true) ∧ True)) ∧ (((!Z1) = true → ((((!Z1) = true) ∧ True) ∧ ((((!Z1) = true) ∧ True) ∧ True))) ∧ ((True ∧ ((Z1 = true → True) ∧ (Z1 = false → ((!Z1) = true) ∧ True))) ∧ (True ∧ (((!Z2) = true → True) ∧ (((!Z2) = true → True) ∧ (((!Z2) = true → ((((!Z2) = true) ∧ True) ∧ ((((!Z2) = true) ∧ True) ∧ ((0 ≤ ((k : Nat) : Int)) ∧ (((k : Nat) : Int) < (h.length : Int)))))) ∧ (((!Z2) = true → (((!Z2) = true) ∧ True)) ∧ (((!Z2) = true → (((!Z2) = true) ∧ True)) ∧ (((!Z2) = true → True) ∧ (((!Z2) = true → True) ∧ (((!Z2) = true → ((((!Z2) = true) ∧ True) ∧ ((((!Z2) = true) ∧ True) ∧ ((0 ≤ ((i : Nat) : Int)) ∧ (((i : Nat) : Int) < (h.length : Int)))))) ∧ (((!Z2) = true → (((!Z2) = true) ∧ True)) ∧ (((!Z2) = true → (((!Z2) = true) ∧ True)) ∧ (((!Z2) = true → ((((!Z2) = true) ∧ True) ∧ ((((!Z2) = true) ∧ True) ∧ True))) ∧ ((True ∧ ((Z2 = true → True) ∧ (Z2 = false → ((!Z2) = true) ∧ True))) ∧ (True ∧ (((!Z3) = true → True) ∧ (((!Z3) = true → True) ∧ (((!Z3) = true → ((((!Z3) = true) ∧ True) ∧ ((((!Z3) = true) ∧ True) ∧ ((0 ≤ ((k : Nat) : Int)) ∧ (((k : Nat) : Int) < (h.length : Int)))))) ∧ (((!Z3) = true → (((!Z3) = true) ∧ True)) ∧ (((!Z3) = true → (((!Z3) = true) ∧ True)) ∧ (((!Z3) = true → True) ∧ (((!Z3) = true → True) ∧ (((!Z3) = true → ((((!Z3) = true) ∧ True) ∧ ((((!Z3) = true) ∧ True) ∧ ((0 ≤ ((i : Nat) : Int)) ∧ (((i : Nat) : Int) < (h.length : Int)))))) ∧ (((!Z3) = true → (((!Z3) = true) ∧ True)) ∧ (((!Z3) = true → (((!Z3) = true) ∧ True)) ∧ (((!Z3) = true → ((((!Z3) = true) ∧ True) ∧ ((((!Z3) = true) ∧ True) ∧ True))) ∧ ((True ∧ ((Z3 = true → True) ∧ (Z3 = false → ((!Z3) = true) ∧ True))) ∧ True))))))))))))))))))))))))))))))))))))))))))))))))))) (Z2 || (decide (((h.getD k default).to) = ((h.getD i default).frm)))))) (Z1 || (decide (((h.getD k default).frm) = ((h.getD i default).to)))))) (decide (((h.getD k default).frm) = ((h.getD i default).frm)))) (by kernel_rfl) (by kernel_rfl)
       ⟨tt,tt,⟨tt,tt,(by omega),(by omega)⟩,tt,tt,tt,tt,⟨tt,tt,(by omega),(by omega)⟩,tt,tt,⟨tt,tt,tt⟩,tt,(fun _ => trivial),(fun _ => trivial),(fun hG => ⟨⟨hG,tt⟩,⟨hG,tt⟩,(by have hg0 : ¬ (((h.getD k default).frm) = ((h.getD i default).frm)) := of_decide_eq_false (not_f hG); omega),(by have hg0 : ¬ (((h.getD k default).frm) = ((h.getD i default).frm)) := of_decide_eq_false (not_f hG); omega)⟩),(fun hG => ⟨hG,tt⟩),(fun hG => ⟨hG,tt⟩),(fun _ => trivial),(fun _ => trivial),(fun hG => ⟨⟨hG,tt⟩,⟨hG,tt⟩,(by have hg0 : ¬ (((h.getD k default).frm) = ((h.getD i default).frm)) := of_decide_eq_false (not_f hG); omega),(by have hg0 : ¬ (((h.getD k default).frm) = ((h.getD i default).frm)) := of_decide_eq_false (not_f hG); omega)⟩),(fun hG => ⟨hG,tt⟩),(fun hG => ⟨hG,tt⟩),(fun hG => ⟨⟨hG,tt⟩,⟨hG,tt⟩,tt⟩),⟨tt,(fun _ => trivial),(fun hp => ⟨(not_t hp),tt⟩)⟩,tt,(fun _ => trivial),(fun _ => trivial),(fun hG => ⟨⟨hG,tt⟩,⟨hG,tt⟩,(by have hg0 : ¬ (((h.getD k default).frm) = ((h.getD i default).frm)) := of_decide_eq_false (or_l (not_f hG)); have hg1 : ¬ (((h.getD k default).frm) = ((h.getD i default).to)) := of_decide_eq_false (or_r (not_f hG)); omega),(by have hg0 : ¬ (((h.getD k default).frm) = ((h.getD i default).frm)) := of_decide_eq_false (or_l (not_f hG)); have hg1 : ¬ (((h.getD k default).frm) = ((h.getD i default).to)) := of_decide_eq_false (or_r (not_f hG)); omega)⟩),(fun hG => ⟨hG,tt⟩),(fun hG => ⟨hG,tt⟩),(fun _ => trivial),(fun _ => trivial),(fun hG => ⟨⟨hG,tt⟩,⟨hG,tt⟩,(by have hg0 : ¬ (((h.getD k default).frm) = ((h.getD i default).frm)) := of_decide_eq_false (or_l (not_f hG)); have hg1 : ¬ (((h.getD k default).frm) = ((h.getD i default).to)) := of_decide_eq_false (or_r (not_f hG)); omega),(by have hg0 : ¬ (((h.getD k default).frm) = ((h.getD i default).frm)) := of_decide_eq_false (or_l (not_f hG)); have hg1 : ¬ (((h.getD k default).frm) = ((h.getD i default).to)) := of_decide_eq_false (or_r (not_f hG)); omega)⟩),(fun hG => ⟨hG,tt⟩),(fun hG => ⟨hG,tt⟩),(fun hG => ⟨⟨hG,tt⟩,⟨hG,tt⟩,tt⟩),⟨tt,(fun _ => trivial),(fun hp => ⟨(not_t hp),tt⟩)⟩,tt,(fun _ => trivial),(fun _ => trivial),(fun hG => ⟨⟨hG,tt⟩,⟨hG,tt⟩,(by have hg0 : ¬ (((h.getD k default).frm) = ((h.getD i default).frm)) := of_decide_eq_false (or_l (or_l (not_f hG))); have hg1 : ¬ (((h.getD k default).frm) = ((h.getD i default).to)) := of_decide_eq_false (or_r (or_l (not_f hG))); have hg2 : ¬ (((h.getD k default).to) = ((h.getD i default).frm)) := of_decide_eq_false (or_r (not_f hG)); omega),(by have hg0 : ¬ (((h.getD k default).frm) = ((h.getD i default).frm)) := of_decide_eq_false (or_l (or_l (not_f hG))); have hg1 : ¬ (((h.getD k default).frm) = ((h.getD i default).to)) := of_decide_eq_false (or_r (or_l (not_f hG))); have hg2 : ¬ (((h.getD k default).to) = ((h.getD i default).frm)) := of_decide_eq_false (or_r (not_f hG)); omega)⟩),(fun hG => ⟨hG,tt⟩),(fun hG => ⟨hG,tt⟩),(fun _ => trivial),(fun _ => trivial),(fun hG => ⟨⟨hG,tt⟩,⟨hG,tt⟩,(by have hg0 : ¬ (((h.getD k default).frm) = ((h.getD i default).frm)) := of_decide_eq_false (or_l (or_l (not_f hG))); have hg1 : ¬ (((h.getD k default).frm) = ((h.getD i default).to)) := of_decide_eq_false (or_r (or_l (not_f hG))); have hg2 : ¬ (((h.getD k default).to) = ((h.getD i default).frm)) := of_decide_eq_false (or_r (not_f hG)); omega),(by have hg0 : ¬ (((h.getD k default).frm) = ((h.getD i default).frm)) := of_decide_eq_false (or_l (or_l (not_f hG))); have hg1 : ¬ (((h.getD k default).frm) = ((h.getD i default).to)) := of_decide_eq_false (or_r (or_l (not_f hG))); have hg2 : ¬ (((h.getD k default).to) = ((h.getD i default).frm)) := of_decide_eq_false (or_r (not_f hG)); omega)⟩),(fun hG => ⟨hG,tt⟩),(fun hG => ⟨hG,tt⟩),(fun hG => ⟨⟨hG,tt⟩,⟨hG,tt⟩,tt⟩),⟨tt,(fun _ => trivial),(fun hp => ⟨(not_t hp),tt⟩)⟩,tt⟩ ?_
      refine W.if' ((((decide (((h.getD k default).frm) = ((h.getD i default).frm))) || (decide (((h.getD k default).frm) = ((h.getD i default).to)))) || (decide (((h.getD k default).to) = ((h.getD i default).frm)))) || (decide (((h.getD k default).to) = ((h.getD i default).to)))) (.b ((((decide (((h.getD k default).frm) = ((h.getD i default).frm))) || (decide (((h.getD k default).frm) = ((h.getD i default).to)))) || (decide (((h.getD k default).to) = ((h.getD i default).frm)))) || (decide (((h.getD k default).to) = ((h.getD i default).to))))) (by kernel_rfl) rfl trivial ?_ ?_
      ·intro h71
       refine Kk cok tab20 hnt [] [2] (⟨[(2,.b false)],[],[999]⟩)
        (True ∧ True)
        ⟨tt,tt⟩ ?_
       refine W.ret (thenQ_ret (blockQ_ret (thenQ_ret (thenQ_ret (blockQ_ret (blockQ_ret (thenQ_ret (thenQ_ret (blockQ_ret (thenQ_ret ?_))))))))))
       exact endQ_ret (.b false) (by kernel_rfl) (@cast ((.bool false : Value) = .bool (validHistory h)) _ (by kernel_rfl) (congrArg Value.bool (by unfold validHistory; symm; exact and_fr (allN_false (i := i) (by omega) (and_fr (allN_false (i := k) (by omega) (clash_true1 h71)))))))
      ·intro n71
       have n71_0 : ¬ (((h.getD k default).frm) = ((h.getD i default).frm)) := of_decide_eq_false (or_l (or_l (or_l n71)))
       have n71_1 : ¬ (((h.getD k default).frm) = ((h.getD i default).to)) := of_decide_eq_false (or_r (or_l (or_l n71)))
       have n71_2 : ¬ (((h.getD k default).to) = ((h.getD i default).frm)) := of_decide_eq_false (or_r (or_l n71))
       have n71_3 : ¬ (((h.getD k default).to) = ((h.getD i default).to)) := of_decide_eq_false (or_r n71)
       refine W.skip (thenQ_normal ?_)
       refine W.KA cok tab20 hnt [] [0,3,4,108] (⟨[(0,.sl (.calls h)),(3,.i ((i : Nat) : Int)),(4,.i ((k : Nat) : Int)),(108,.b (((decide (((h.getD k default).proc) = ((h.getD i default).proc))) && (decide (((h.getD i default).frm) < ((h.getD k default).to)))) && (decide (((h.getD k default).frm) < ((h.getD i default).to)))))],[],[999]⟩)
        ((fun (Z1:Bool)=>((fun (Z2:Bool)=>(True ∧ (True ∧ ((True ∧ (True ∧ ((0 ≤ ((k : Nat) : Int)) ∧ (((k : Nat) : Int) < (h.length : Int))))) ∧ (True ∧ (True ∧ (True ∧ (True ∧ ((True ∧ (True ∧ ((0 ≤ ((i : Nat) : Int)) ∧ (((i : Nat) : Int) < (h.length : Int))))) ∧ (True ∧ (True ∧ ((True ∧ (True ∧ True)) ∧ (True ∧ ((Z1 = true → True) ∧ ((Z1 = true → True) ∧ ((Z1 = true → (((Z1 = true) ∧ True) ∧ (((Z1 = true) ∧ True) ∧ ((0 ≤ ((k : Nat) : Int)) ∧ (((k : Nat) : Int) < (h.length : Int)))))) ∧ ((Z1 = true → ((Z1 = true) ∧ True)) ∧ ((Z1 = true → ((Z1 = true) ∧ True)) ∧ ((Z1 = true → True) ∧ ((Z1 = true → True) ∧ ((Z1 = true → (((Z1 = true) ∧ True) ∧ (((Z1 = true) ∧ True) ∧ ((0 ≤ ((i : Nat) : Int)) ∧ (((i : Nat) : Int) < (h.length : Int)))))) ∧ ((Z1 = true → ((Z1 = true) ∧ True)) ∧ ((Z1 = true → ((Z1 = true) ∧ True)) ∧ ((Z1 = true → (((Z1 = true) ∧ True) ∧ (((Z1 = true) ∧ True) ∧ True))) ∧ ((True ∧ ((Z1 = true → (Z1 = true) ∧ True) ∧ (Z1 = false → True))) ∧ (True ∧ ((Z2 = true → True) ∧ ((Z2 = true → True) ∧ ((Z2 = true → (((Z2 = true) ∧ True) ∧ (((Z2 = true) ∧ True) ∧ ((0 ≤ ((i : Nat) : Int)) ∧ (((i : Nat) : Int) < (h.length : Int)))))) ∧ ((Z2 = true → ((Z2 = true) ∧ True)) ∧ ((Z2 = true → ((Z2 = true) ∧ True)) ∧ ((Z2 = true → True) ∧ ((Z2 = true → True) ∧ ((Z2 = true → (((Z2 = true) ∧ True) ∧ (((Z2 = true) ∧ True) ∧ ((0 ≤ ((k : Nat) : Int)) ∧ (((k : Nat) : Int) < (h.length : Int)))))) ∧ ((Z2 = true → ((Z2 = true) ∧ True)) ∧ ((Z2 = true → ((Z2 = true) ∧ True)) ∧ ((Z2 = true → (((Z2 = true) ∧ True) ∧ (((Z2 = true) ∧ True) ∧ True))) ∧ ((True ∧ ((Z2 = true → (Z2 = true) ∧ True) ∧ (Z2 = false → True))) ∧ True)))))))))))))))))))))))))))))))))))))) (Z1 && (decide (((h.getD i default).frm) < ((h.getD k default).to)))))) (decide (((h.getD k default).proc) = ((h.getD i default).proc)))) (by kernel_rfl) (by kernel_rfl)
        ⟨tt,tt,⟨tt,tt,(by omega),(by omega)⟩,tt,tt,tt,tt,⟨tt,tt,(by omega),(by omega)⟩,tt,tt,⟨tt,tt,tt⟩,tt,(fun _ => trivial),(fun _ => trivial),(fun hG => ⟨⟨hG,tt⟩,⟨hG,tt⟩,(by have hg0 : ((h.getD k default).proc) = ((h.getD i default).proc) := of_decide_eq_true hG; omega),(by have hg0 : ((h.getD k default).proc) = ((h.getD i default).proc) := of_decide_eq_true hG; omega)⟩),(fun hG => ⟨hG,tt⟩),(fun hG => ⟨hG,tt⟩),(fun _ => trivial),(fun _ => trivial),(fun hG => ⟨⟨hG,tt⟩,⟨hG,tt⟩,(by have hg0 : ((h.getD k default).proc) = ((h.getD i default).proc) := of_decide_eq_true hG; omega),(by have hg0 : ((h.getD k default).proc) = ((h.getD i default).proc) := of_decide_eq_true hG; omega)⟩),(fun hG => ⟨hG,tt⟩),(fun hG => ⟨hG,tt⟩),(fun hG => ⟨⟨hG,tt⟩,⟨hG,tt⟩,tt⟩),⟨tt,(fun hp => ⟨hp,tt⟩),(fun _ => trivial)⟩,tt,(fun _ => trivial),(fun _ => trivial),(fun hG => ⟨⟨hG,tt⟩,⟨hG,tt⟩,(by have hg0 : ((h.getD k default).proc) = ((h.getD i default).proc) := of_decide_eq_true (and_l hG); have hg1 : ((h.getD i default).frm) < ((h.getD k default).to) := of_decide_eq_true (and_r hG); omega),(by have hg0 : ((h.getD k default).proc) = ((h.getD i default).proc) := of_decide_eq_true (and_l hG); have hg1 : ((h.getD i default).frm) < ((h.getD k default).to) := of_decide_eq_true (and_r hG); omega)⟩),(fun hG => ⟨hG,tt⟩),(fun hG => ⟨hG,tt⟩),(fun _ => trivial),(fun _ => trivial),(fun hG => ⟨⟨hG,tt⟩,⟨hG,tt⟩,(by have hg0 : ((h.getD k default).proc) = ((h.getD i default).proc) := of_decide_eq_true (and_l hG); have hg1 : ((h.getD i default).frm) < ((h.getD k default).to) := of_decide_eq_true (and_r hG); omega),(by have hg0 : ((h.getD k default).proc) = ((h.getD i default).proc) := of_decide_eq_true (and_l hG); have hg1 : ((h.getD i default).frm) < ((h.getD k default).to) := of_decide_eq_true (and_r hG); omega)⟩),(fun hG => ⟨hG,tt⟩),(fun hG => ⟨hG,tt⟩),(fun hG => ⟨⟨hG,tt⟩,⟨hG,tt⟩,tt⟩),⟨tt,(fun hp => ⟨hp,tt⟩),(fun _ => trivial)⟩,tt⟩ ?_
       refine W.if' (((decide (((h.getD k default).proc) = ((h.getD i default).proc))) && (decide (((h.getD i default).frm) < ((h.getD k default).to)))) && (decide (((h.getD k default).frm) < ((h.getD i default).to)))) (.b (((decide (((h.getD k default).proc) = ((h.getD i default).proc))) && (decide (((h.getD i default).frm) < ((h.getD k default).to)))) && (decide (((h.getD k default).frm) < ((h.getD i default).to))))) (by kernel_rfl) rfl trivial ?_ ?_
       ·intro h108
        have h108_0 : ((h.getD k default).proc) = ((h.getD i default).proc) := of_decide_eq_true (and_l (and_l h108))
        have h108_1 : ((h.getD i default).frm) < ((h.getD k default).to) := of_decide_eq_true (and_r (and_l h108))
        have h108_2 : ((h.getD k default).frm) < ((h.getD i default).to) := of_decide_eq_true (and_r h108)
        refine Kk cok tab20 hnt [] [2] (⟨[(2,.b false)],[],[999]⟩)
         (True ∧ True)
         ⟨tt,tt⟩ ?_
        refine W.ret (blockQ_ret (thenQ_ret (thenQ_ret (blockQ_ret (blockQ_ret (thenQ_ret (thenQ_ret (blockQ_ret (thenQ_ret ?_)))))))))
        exact endQ_ret (.b false) (by kernel_rfl) (@cast ((.bool false : Value) = .bool (validHistory h)) _ (by kernel_rfl) (congrArg Value.bool (by unfold validHistory; symm; exact and_fr (allN_false (i := i) (by omega) (and_fr (allN_false (i := k) (by omega) (clash_true2 h108)))))))
       ·intro n108
        refine W.skip (blockQ_normal (thenQ_normal ?_))
        refine Lk cok tab20 hnt [] (⟨[(0,.sl (.calls h)),(3,.i ((i : Nat) : Int)),(4,.i (((k + 1) : Nat) : Int)),(20,.i ((k : Nat) : Int)),(21,.i (((k + 1) : Nat) : Int)),(108,.b (((decide (((h.getD k default).proc) = ((h.getD i default).proc))) && (decide (((h.getD i default).frm) < ((h.getD k default).to)))) && (decide (((h.getD k default).frm) < ((h.getD i default).to)))))],[],[999]⟩)
         (True ∧ (True ∧ True ∧ (Fits .i64 (((k + 1) : Nat) : Int))) ∧ True ∧ True)
         ⟨tt,⟨tt,tt,(by exact fits_i64 (by omega) (by omega))⟩,tt,tt⟩ ?_
        refine thenQ_normal ?_
        refine ⟨((k + 1)),(show ((k + 1) ≤ i) ∧ (∀ j,j < (k + 1) → (!clash (callAt h i) (callAt h j)) = true) from ⟨(by first | assumption | omega | rfl | (intro _ hjj; omega) | (simp; done) | (simp; omega)),(by exact upto_succ hB (clash_false n71 n108))⟩),(show i - (k + 1) < i - k from (by first | omega | (simp_all; omega))),?_⟩
        exact Sub.of [] (@cast (((Sd (.calls h)) ∧ (Si ((i : Nat) : Int)) ∧ (Si (((k + 1) : Nat) : Int)) ∧ True) ∧ True ∧ (true = true) ∧ (true = true)) _ (by kernel_rfl) ⟨⟨rfl,rfl,rfl,tt⟩,tt,rfl,rfl⟩)
     ·intro n19
      refine W.exit (thenQ_exit (thenQ_exit (blockQ_hit ?_)))
      refine blockQ_normal (thenQ_normal ?_)
      refine Lk cok tab20 hnt [] (⟨[(0,.sl (.calls h)),(3,.i (((i + 1) : Nat) : Int)),(4,.i ((k : Nat) : Int)),(9,.i ((i : Nat) : Int)),(10,.i (((i + 1) : Nat) : Int)),(19,.b (decide (((k : Nat) : Int) < ((i : Nat) : Int))))],[],[999]⟩)
       (True ∧ (True ∧ True ∧ (Fits .i64 (((i + 1) : Nat) : Int))) ∧ True ∧ True)
       ⟨tt,⟨tt,tt,(by exact fits_i64 (by omega) (by omega))⟩,tt,tt⟩ ?_
      refine thenQ_normal ?_
      refine ⟨((i + 1)),(show ((i + 1) ≤ h.length) ∧ (∀ j,j < (i + 1) → (isCall (callAt h j) && allN j (fun k => !clash (callAt h j) (callAt h k))) = true) from ⟨(by first | assumption | omega | rfl | (intro _ hjj; omega) | (simp; done) | (simp; omega)),(by exact upto_succ hA (and_t (not_g n16) (allN_true (fun j hj => hB j (by omega)))))⟩),(show h.length - (i + 1) < h.length - i from (by first | omega | (simp_all; omega))),?_⟩
      exact Sub.of [] (@cast (((Sd (.calls h)) ∧ (Si (((i + 1) : Nat) : Int)) ∧ True) ∧ True ∧ (true = true) ∧ (true = true)) _ (by kernel_rfl) ⟨⟨rfl,rfl,tt⟩,tt,rfl,rfl⟩)
  ·intro n8
   refine W.exit (thenQ_exit (thenQ_exit (blockQ_hit ?_)))
   refine thenQ_normal ?_
   refine Kk cok tab20 hnt [] [2] (⟨[(2,.b (decide ((h.length : Int) ≤ (6 : Int))))],[],[999]⟩)
    (True ∧ True ∧ (True ∧ True ∧ True) ∧ True ∧ True)
    ⟨tt,tt,⟨tt,tt,tt⟩,tt,tt⟩ ?_
   refine W.ret ?_
   exact endQ_ret (.b (decide ((h.length : Int) ≤ (6 : Int)))) (by kernel_rfl) (@cast ((.bool (decide ((h.length : Int) ≤ (6 : Int))) : Value) = .bool (validHistory h)) _ (by kernel_rfl) (congrArg Value.bool (by unfold validHistory; symm; rw [allN_true (fun j hj => hA j (by omega)),Bool.and_true]; exact bool_ext (by simp only [decide_eq_true_eq]; omega))))
theorem ent20 : Entr prog 20 := ⟨_,func20,rfl,by decide⟩
end Go.Proofs.Tryd

set_option linter.unusedSimpArgs false
set_option linter.unusedVariables false
namespace Go.Proofs.Tryd
open Go.Ab Go.RowKit
def fs36 : FnS := fnS [.o] [.str] (fun _ (s,_) => (.tup [.sl (.calls (outS s.data.toList)),.b (validHistory (outS s.data.toList))],[],(s.size ≤ 1999999)))
abbrev T36 : Tab := lk [(20,fs20),(53,fs53),(54,fs54)]
theorem tab36 : TabOK prog T36 := (TabOK.cons ok20 ent20 (TabOK.cons ok53 ent53 (TabOK.cons ok54 ent54 TabOK.nil)))
set_option maxRecDepth 100000 in
set_option maxHeartbeats 1000000 in
theorem ok36 : FnOK prog 36 fs36 := by
 refine FnOK.mk cok func36 rfl rfl rfl ?_
 rintro fl ⟨(s : ByteArray),_⟩ hpre F hnt0 _
 have hnt : F.nt = 29 := hnt0.trans ntmps36
 replace hpre : (s.size ≤ 1999999) := hpre
 have hz := hpre
 refine W.to (⟨[(0,.v (.string s))],[],[999]⟩) rfl ?_
 have hp : ∀ i,(List.getD (splitB8 32 s) i default).size ≤ s.size := split8_piece 32 s
 have hsl := split8_len 32 s
 refine Kk cok tab36 hnt [] [0] (⟨[(0,.v (.string s))],[],[999]⟩)
  (True ∧ True ∧ True)
  ⟨tt,tt,tt⟩ ?_
 refine Kk cok tab36 hnt [7] [0,4] (⟨[(0,.v (.string s)),(4,.own 7 (List.length ([] : List CallD)))],[(7,⟨40,.row (.calls ([] : List CallD))⟩)],[7,999]⟩)
  (True ∧ True ∧ True)
  ⟨tt,tt,tt⟩ ?_
 refine W.seq ?_
 refine Kk cok tab36 hnt [] [0,4,9] (⟨[(0,.v (.string s)),(4,.own 7 (List.length ([] : List CallD))),(9,.b (!(eqS s nEmpty)))],[(7,⟨40,.row (.calls ([] : List CallD))⟩)],[7,999]⟩)
  (True ∧ (True ∧ True ∧ True) ∧ True)
  ⟨tt,⟨tt,tt,tt⟩,tt⟩ ?_
 refine W.if' (!(eqS s nEmpty)) (.b (!(eqS s nEmpty))) (by kernel_rfl) rfl trivial ?_ ?_
 ·intro h9
  refine Kk cok tab36 hnt [] [4,5] (⟨[(4,.own 7 (List.length ([] : List CallD))),(5,.sl (.strs (splitB8 (32 : Int) s)))],[(7,⟨40,.row (.calls ([] : List CallD))⟩)],[11,7,999]⟩)
   (True ∧ ((True ∧ (True ∧ True ∧ True) ∧ (0 ≤ (32 : Int) ∧ (32 : Int) ≤ 255) ∧ (s.size ≤ 2000000)) ∧ ((List.length (splitB8 (32 : Int) s)) = (List.length (splitB8 (32 : Int) s)))) ∧ True ∧ True)
   ⟨tt,⟨⟨tt,⟨tt,tt,tt⟩,(by omega),(by omega)⟩,rfl⟩,tt,tt⟩ ?_
  refine Kk cok tab36 hnt [] [4,5,6] (⟨[(4,.own 7 (List.length ([] : List CallD))),(5,.sl (.strs (splitB8 (32 : Int) s))),(6,.i (0 : Int))],[(7,⟨40,.row (.calls ([] : List CallD))⟩)],[11,7,999]⟩)
   (True ∧ True)
   ⟨tt,tt⟩ ?_
  refine W.block ?_
  refine W.loop (ι := Nat × (List CallD)) (fun (x : Nat × (List CallD)) => match x with | (i,o) => (⟨[(4,.own 7 o.length),(5,.sl (.strs (splitB8 (32 : Int) s))),(6,.i ((i : Nat) : Int))],[(7,⟨40,.row (.calls o)⟩)],[7,999]⟩ : St))
   (fun (x : Nat × (List CallD)) => match x with | (i,o) => (i ≤ (splitB8 32 s).length) ∧ (o = readUpS (splitB8 32 s) i))
   (fun (x : Nat × (List CallD)) => match x with | (i,o) => ((splitB8 32 s).length - i : Nat)) (0,([] : List CallD)) ?_ ?_ ?_
  ·exact (show (0 ≤ (splitB8 32 s).length) ∧ (([] : List CallD) = readUpS (splitB8 32 s) 0) from ⟨(by first | assumption | omega | rfl | (intro _ hjj; omega) | (simp; done) | (simp; omega)),(by rfl)⟩)
  ·exact Sub.of [] (@cast (((((7 : Nat) = 7) ∧ ((List.length ([] : List CallD)) = (List.length ([] : List CallD))) ∧ ((7 : Nat) ∈ ([7,999] : List Nat))) ∧ (Sd (.strs (splitB8 (32 : Int) s))) ∧ ((.int .i64 (0 : Int) : Value) = .int .i64 ((0 : Nat) : Int)) ∧ True) ∧ ((((40 : Nat) = 40) ∧ (Sd (.calls ([] : List CallD))) ∧ ((7 : Nat) ∈ ([7,999] : List Nat))) ∧ True) ∧ (true = true) ∧ (true = true)) _ (by kernel_rfl) ⟨⟨⟨rfl,rfl,(by decide)⟩,rfl,(congrArg (Value.int .i64) (by first | rfl | omega | assumption | simp | simp_all)),tt⟩,⟨⟨rfl,rfl,(by decide)⟩,tt⟩,rfl,rfl⟩)
  ·rintro ⟨i,o⟩ hC0
   have hC : (i ≤ (splitB8 32 s).length) ∧ (o = readUpS (splitB8 32 s) i) := hC0
   clear hC0
   obtain ⟨hi,ho⟩ := hC
   refine W.to (⟨[(4,.own 7 o.length),(5,.sl (.strs (splitB8 (32 : Int) s))),(6,.i ((i : Nat) : Int))],[(7,⟨40,.row (.calls o)⟩)],[7,999]⟩) rfl ?_
   have hol : o.length = i := by rw [ho]; exact readUp_lenS hi
   have hpi := hp i
   refine W.seq ?_
   refine Kk cok tab36 hnt [] [4,5,6,15] (⟨[(4,.own 7 o.length),(5,.sl (.strs (splitB8 (32 : Int) s))),(6,.i ((i : Nat) : Int)),(15,.b (decide (((i : Nat) : Int) < (((List.length (splitB8 (32 : Int) s)) : Nat) : Int))))],[(7,⟨40,.row (.calls o)⟩)],[7,999]⟩)
    (True ∧ True ∧ True ∧ (True ∧ True ∧ True) ∧ True)
    ⟨tt,tt,tt,⟨tt,tt,tt⟩,tt⟩ ?_
   refine W.ifP (((i : Nat) : Int) < (((List.length (splitB8 (32 : Int) s)) : Nat) : Int)) (.b (decide (((i : Nat) : Int) < (((List.length (splitB8 (32 : Int) s)) : Nat) : Int)))) (by kernel_rfl) rfl trivial ?_ ?_
   ·intro h15
    refine W.skip (thenQ_normal ?_)
    refine W.seq ?_
    refine W.block ?_
    refine Lk cok tab36 hnt [25] (⟨[(4,.own 25 (List.length (o ++ ([(readS (List.getD (splitB8 (32 : Int) s) i default).data.toList)])))),(5,.sl (.strs (splitB8 (32 : Int) s))),(6,.i ((i : Nat) : Int)),(15,.b (decide (((i : Nat) : Int) < (((List.length (splitB8 (32 : Int) s)) : Nat) : Int)))),(18,.own 7 o.length),(19,.sl (.strs (splitB8 (32 : Int) s))),(20,.i ((i : Nat) : Int)),(21,.ep [.v (.string (List.getD (splitB8 (32 : Int) s) i default))]),(22,.v (.string (List.getD (splitB8 (32 : Int) s) i default))),(23,.agg [.i ((readS (List.getD (splitB8 (32 : Int) s) i default).data.toList).proc),.i ((readS (List.getD (splitB8 (32 : Int) s) i default).data.toList).obj),.i ((readS (List.getD (splitB8 (32 : Int) s) i default).data.toList).kind),.i ((readS (List.getD (splitB8 (32 : Int) s) i default).data.toList).arg),.i ((readS (List.getD (splitB8 (32 : Int) s) i default).data.toList).ret),.i ((readS (List.getD (splitB8 (32 : Int) s) i default).data.toList).frm),.i ((readS (List.getD (splitB8 (32 : Int) s) i default).data.toList).to)]),(24,.sl (.calls ([(readS (List.getD (splitB8 (32 : Int) s) i default).data.toList)]))),(25,.own 25 (List.length (o ++ ([(readS (List.getD (splitB8 (32 : Int) s) i default).data.toList)]))))],[(25,⟨40,.row (.calls (o ++ ([(readS (List.getD (splitB8 (32 : Int) s) i default).data.toList)])))⟩)],[25,24,7,999]⟩)
     (True ∧ True ∧ True ∧ (True ∧ True ∧ (0 ≤ ((i : Nat) : Int)) ∧ (((i : Nat) : Int) < (((List.length (splitB8 (32 : Int) s)) : Nat) : Int))) ∧ True ∧ (True ∧ (True ∧ True) ∧ ((List.getD (splitB8 (32 : Int) s) i default).size ≤ 2000000)) ∧ (True ∧ True) ∧ ((True ∧ (o.length = o.length)) ∧ True ∧ ((o.length + (List.length ([(readS (List.getD (splitB8 (32 : Int) s) i default).data.toList)]))) * 56 ≤ 140737488355328)) ∧ True ∧ True)
     ⟨tt,tt,tt,⟨tt,tt,(by omega),(by omega)⟩,tt,⟨tt,⟨tt,tt⟩,(by omega)⟩,⟨tt,tt⟩,⟨⟨tt,rfl⟩,tt,(by (try simp only [List.length_append,List.length_cons,List.length_nil,List.length_set]); omega)⟩,tt,tt⟩ ?_
    refine blockQ_normal (thenQ_normal ?_)
    refine Lk cok tab36 hnt [] (⟨[(4,.own 25 (List.length (o ++ ([(readS (List.getD (splitB8 (32 : Int) s) i default).data.toList)])))),(5,.sl (.strs (splitB8 (32 : Int) s))),(6,.i (((i + 1) : Nat) : Int)),(15,.b (decide (((i : Nat) : Int) < (((List.length (splitB8 (32 : Int) s)) : Nat) : Int)))),(16,.i ((i : Nat) : Int)),(17,.i (((i + 1) : Nat) : Int)),(18,.own 7 o.length),(19,.sl (.strs (splitB8 (32 : Int) s))),(20,.i ((i : Nat) : Int)),(21,.ep [.v (.string (List.getD (splitB8 (32 : Int) s) i default))]),(22,.v (.string (List.getD (splitB8 (32 : Int) s) i default))),(23,.agg [.i ((readS (List.getD (splitB8 (32 : Int) s) i default).data.toList).proc),.i ((readS (List.getD (splitB8 (32 : Int) s) i default).data.toList).obj),.i ((readS (List.getD (splitB8 (32 : Int) s) i default).data.toList).kind),.i ((readS (List.getD (splitB8 (32 : Int) s) i default).data.toList).arg),.i ((readS (List.getD (splitB8 (32 : Int) s) i default).data.toList).ret),.i ((readS (List.getD (splitB8 (32 : Int) s) i default).data.toList).frm),.i ((readS (List.getD (splitB8 (32 : Int) s) i default).data.toList).to)]),(24,.sl (.calls ([(readS (List.getD (splitB8 (32 : Int) s) i default).data.toList)]))),(25,.own 25 (List.length (o ++ ([(readS (List.getD (splitB8 (32 : Int) s) i default).data.toList)]))))],[(25,⟨40,.row (.calls (o ++ ([(readS (List.getD (splitB8 (32 : Int) s) i default).data.toList)])))⟩)],[25,24,7,999]⟩)
     (True ∧ (True ∧ True ∧ (Fits .i64 (((i + 1) : Nat) : Int))) ∧ True ∧ True)
     ⟨tt,⟨tt,tt,(by exact fits_i64 (by omega) (by omega))⟩,tt,tt⟩ ?_
    refine thenQ_normal ?_
    refine ⟨((i + 1),(o ++ ([(readS (List.getD (splitB8 (32 : Int) s) i default).data.toList)]))),(show ((i + 1) ≤ (splitB8 32 s).length) ∧ ((o ++ ([(readS (List.getD (splitB8 (32 : Int) s) i default).data.toList)])) = readUpS (splitB8 32 s) (i + 1)) from ⟨(by first | assumption | omega | rfl | (intro _ hjj; omega) | (simp; done) | (simp; omega)),(by exact readUpS_next ho (by omega))⟩),(show (splitB8 32 s).length - (i + 1) < (splitB8 32 s).length - i from (by first | omega | (simp_all; omega))),?_⟩
    exact Sub.of [(7,25)] (@cast (((((25 : Nat) = 25) ∧ ((List.length (o ++ ([(readS (List.getD (splitB8 (32 : Int) s) i default).data.toList)]))) = (List.length (o ++ ([(readS (List.getD (splitB8 (32 : Int) s) i default).data.toList)])))) ∧ ((7 : Nat) ∈ ([7,999] : List Nat))) ∧ (Sd (.strs (splitB8 (32 : Int) s))) ∧ (Si (((i + 1) : Nat) : Int)) ∧ True) ∧ ((((40 : Nat) = 40) ∧ (Sd (.calls (o ++ ([(readS (List.getD (splitB8 (32 : Int) s) i default).data.toList)])))) ∧ ((7 : Nat) ∈ ([7,999] : List Nat))) ∧ True) ∧ (true = true) ∧ (true = true)) _ (by kernel_rfl) ⟨⟨⟨rfl,rfl,(by decide)⟩,rfl,rfl,tt⟩,⟨⟨rfl,rfl,(by decide)⟩,tt⟩,rfl,rfl⟩)
   ·intro n15
    have hO := outS_some (s := s) (fun e => Bool.false_ne_true ((not_f h9).symm.trans e)) ho (by omega)
    refine W.exit (thenQ_exit (thenQ_exit (blockQ_hit ?_)))
    refine thenQ_normal ?_
    refine Kk cok tab36 hnt [] [2,3] (⟨[(2,.own 7 o.length),(3,.b (validHistory o))],[(7,⟨40,.row (.calls o)⟩)],[7,999]⟩)
     (True ∧ True ∧ (True ∧ ((True ∧ (o.length = o.length)) ∧ True) ∧ True) ∧ True ∧ True ∧ True)
     ⟨tt,tt,⟨tt,⟨⟨tt,rfl⟩,tt⟩,tt⟩,tt,tt,tt⟩ ?_
    refine W.ret ?_
    exact endQ_ret (.tup [.own 7 o.length,.b (validHistory o)]) (by kernel_rfl) (@cast (((o.length = o.length) ∧ ((.calls o : Dat) = .calls (outS s.data.toList)) ∧ ((7 : Nat) ∉ ([] : List Nat))) ∧ ((.bool (validHistory o) : Value) = .bool (validHistory (outS s.data.toList))) ∧ True) _ (by kernel_rfl) ⟨⟨rfl,(congrArg Dat.calls (by first | exact hO | (rw [hO]))),(by decide)⟩,(congrArg Value.bool (by first | exact hO | (rw [hO]))),tt⟩)
 ·intro n9
  have hO := outS_none (s := s) (not_g n9)
  refine W.skip (thenQ_normal ?_)
  refine Kk cok tab36 hnt [] [2,3] (⟨[(2,.own 7 (List.length ([] : List CallD))),(3,.b (validHistory ([] : List CallD)))],[(7,⟨40,.row (.calls ([] : List CallD))⟩)],[7,999]⟩)
   (True ∧ True ∧ (True ∧ ((True ∧ ((List.length ([] : List CallD)) = (List.length ([] : List CallD)))) ∧ True) ∧ True) ∧ True ∧ True ∧ True)
   ⟨tt,tt,⟨tt,⟨⟨tt,rfl⟩,tt⟩,tt⟩,tt,tt,tt⟩ ?_
  refine W.ret ?_
  exact endQ_ret (.tup [.own 7 (List.length ([] : List CallD)),.b (validHistory ([] : List CallD))]) (by kernel_rfl) (@cast ((((List.length ([] : List CallD)) = (List.length ([] : List CallD))) ∧ ((.calls ([] : List CallD) : Dat) = .calls (outS s.data.toList)) ∧ ((7 : Nat) ∉ ([] : List Nat))) ∧ ((.bool (validHistory ([] : List CallD)) : Value) = .bool (validHistory (outS s.data.toList))) ∧ True) _ (by kernel_rfl) ⟨⟨rfl,(congrArg Dat.calls (by first | exact hO | (rw [hO]))),(by decide)⟩,(congrArg Value.bool (by first | exact hO | (rw [hO]))),tt⟩)
theorem ent36 : Entr prog 36 := ⟨_,func36,rfl,by decide⟩
end Go.Proofs.Tryd

set_option linter.unusedSimpArgs false
set_option linter.unusedVariables false
namespace Go.Proofs.Tryd
open Go.Ab Go.RowKit
def fs17 : FnS := fnS [.o] [.str] (fun _ (s,_) => (.tup [.sl (.calls ((parseS s.data.toList).1)),.b ((parseS s.data.toList).2)],[],(s.size ≤ 1999999)))
abbrev T17 : Tab := lk [(36,fs36)]
theorem tab17 : TabOK prog T17 := (TabOK.cons ok36 ent36 TabOK.nil)
set_option maxRecDepth 100000 in
set_option maxHeartbeats 1000000 in
theorem ok17 : FnOK prog 17 fs17 := by
 refine FnOK.mk cok func17 rfl rfl rfl ?_
 rintro fl ⟨(s : ByteArray),_⟩ hpre F hnt0 _
 have hnt : F.nt = 14 := hnt0.trans ntmps17
 replace hpre : (s.size ≤ 1999999) := hpre
 have hz := hpre
 refine W.to (⟨[(0,.v (.string s))],[],[999]⟩) rfl ?_
 refine Kk cok tab17 hnt [] [0] (⟨[(0,.v (.string s))],[],[999]⟩)
  (True ∧ True ∧ True)
  ⟨tt,tt,tt⟩ ?_
 refine Kk cok tab17 hnt [] [4,5] (⟨[(4,.sl (.calls (outS s.data.toList))),(5,.b (validHistory (outS s.data.toList)))],[],[999]⟩)
  (True ∧ (True ∧ (True ∧ True) ∧ (s.size ≤ 1999999)) ∧ True ∧ True ∧ True ∧ True ∧ True ∧ True)
  ⟨tt,⟨tt,⟨tt,tt⟩,(by omega)⟩,tt,tt,tt,tt,tt,tt⟩ ?_
 refine W.seq ?_
 refine Kk cok tab17 hnt [] [4,12] (⟨[(4,.sl (.calls (outS s.data.toList))),(12,.b (!(validHistory (outS s.data.toList))))],[],[999]⟩)
  (True ∧ True ∧ True)
  ⟨tt,tt,tt⟩ ?_
 refine W.if' (!(validHistory (outS s.data.toList))) (.b (!(validHistory (outS s.data.toList)))) (by kernel_rfl) rfl trivial ?_ ?_
 ·intro h12
  have hE := ps_val s
  rw [h12] at hE
  refine Kk cok tab17 hnt [] [2,3] (⟨[(2,.v (.slice none 0 0)),(3,.b false)],[],[999]⟩)
   (True ∧ True ∧ True)
   ⟨tt,tt,tt⟩ ?_
  refine W.ret (thenQ_ret ?_)
  exact endQ_ret (.tup [.v (.slice none 0 0),.b false]) (by kernel_rfl) (@cast ((((Value.slice none 0 0 : Value) = .slice none 0 0) ∧ ((Dat.calls ((parseS s.data.toList).1)).len = 0)) ∧ ((.bool false : Value) = .bool ((parseS s.data.toList).2)) ∧ True) _ (by kernel_rfl) ⟨⟨rfl,(by show List.length ((parseS s.data.toList).1) = 0; first | (rw [hE]; done) | (rw [hE]; rfl) | rfl)⟩,(congrArg Value.bool (by first | (rw [hE]; done) | (rw [hE]; rfl) | rfl)),tt⟩)
 ·intro n12
  have hE := ps_val s
  rw [n12] at hE
  refine W.skip (thenQ_normal ?_)
  refine Kk cok tab17 hnt [] [2,3] (⟨[(2,.sl (.calls (outS s.data.toList))),(3,.b true)],[],[999]⟩)
   (True ∧ True ∧ True ∧ True)
   ⟨tt,tt,tt,tt⟩ ?_
  refine W.ret ?_
  exact endQ_ret (.tup [.sl (.calls (outS s.data.toList)),.b true]) (by kernel_rfl) (@cast (((.calls (outS s.data.toList) : Dat) = .calls ((parseS s.data.toList).1)) ∧ ((.bool true : Value) = .bool ((parseS s.data.toList).2)) ∧ True) _ (by kernel_rfl) ⟨(congrArg Dat.calls (by first | (rw [hE]; done) | (rw [hE]; rfl) | rfl)),(congrArg Value.bool (by first | (rw [hE]; done) | (rw [hE]; rfl) | rfl)),tt⟩)
theorem ent17 : Entr prog 17 := ⟨_,func17,rfl,by decide⟩
end Go.Proofs.Tryd

set_option linter.unusedSimpArgs false
set_option linter.unusedVariables false
namespace Go.Proofs.Tryd
open Go.Ab Go.RowKit Go.Shelf Go.Proofs Go.Lib
def fs62 : FnS := fnS [.o,.o] [.str,.str] (fun _ (s,sep,_) => (.i (idxB s sep),[],(sep.size = 1)))
def renX : Go.Shelf.Ren := ⟨fun k => bif Nat.beq k 143 then 62 else bif Nat.beq k 217 then 64 else bif Nat.beq k 219 then 76 else bif Nat.beq k 224 then 90 else bif Nat.beq k 225 then 89 else bif Nat.beq k 266 then 77 else bif Nat.beq k 267 then 91 else bif Nat.beq k 314 then 100 else k,fun k => bif Nat.beq k 3 then 3 else bif Nat.beq k 4 then 4 else bif Nat.beq k 5 then 5 else bif Nat.beq k 9 then 9 else bif Nat.beq k 46 then 106 else bif Nat.beq k 51 then 115 else bif Nat.beq k 146 then 123 else k,fun k => bif Nat.beq k 1 then 0 else k⟩
set_option maxRecDepth 100000 in
theorem laysX : Go.Proofs.Lays.n143 prog renX where
 mixed := by kernel_rfl
 f143 := by kernel_rfl
 f217 := by kernel_rfl
 f219 := by kernel_rfl
 f224 := by kernel_rfl
 f225 := by kernel_rfl
 f266 := by kernel_rfl
 f267 := by kernel_rfl
 f314 := by kernel_rfl
 t3 := underlying3
 a3 := isAgg3
 z3 := sizeOf3
 v3 := zeroValue3
 t4 := underlying4
 a4 := isAgg4
 z4 := sizeOf4
 v4 := zeroValue4
 t5 := underlying5
 a5 := isAgg5
 z5 := sizeOf5
 v5 := zeroValue5
 t9 := underlying9
 a9 := isAgg9
 z9 := sizeOf9
 v9 := zeroValue9
 t46 := underlying106
 a46 := isAgg106
 z46 := sizeOf106
 v46 := zeroValue106
 t51 := underlying115
 a51 := isAgg115
 z51 := sizeOf115
 v51 := zeroValue115
 t146 := underlying123
 a146 := isAgg123
 z146 := sizeOf123
 v146 := zeroValue123
 g1 := by kernel_rfl
theorem ok62 : FnOK prog 62 fs62 := index_ok laysX
theorem ent62 : Entr prog 62 := ⟨_,func62,rfl,by decide⟩
end Go.Proofs.Tryd

set_option linter.unusedSimpArgs false
set_option linter.unusedVariables false
namespace Go.Proofs.Tryd
open Go.Ab Go.RowKit
def fs46 : FnS := fnS [.o,.o,.o,.o] [.str,.str,.int,.int] (fun _ (s,sep,sv,n,_) => (.own 0 (List.length (splitNB sep n s)),[(9,.strs (splitNB sep n s))],(sep.size = 1) ∧ (sv = 0) ∧ (1 ≤ n ∧ n ≤ 1000) ∧ (s.size ≤ 2000000)))
abbrev T46 : Tab := lk [(62,fs62)]
theorem tab46 : TabOK prog T46 := (TabOK.cons ok62 ent62 TabOK.nil)
set_option maxRecDepth 100000 in
set_option maxHeartbeats 1000000 in
theorem ok46 : FnOK prog 46 fs46 := by
 refine FnOK.mk cok func46 rfl rfl rfl ?_
 rintro fl ⟨(s : ByteArray),(sep : ByteArray),(sv : Int),(n : Int),_⟩ hpre F hnt0 _
 have hnt : F.nt = 66 := hnt0.trans ntmps46
 replace hpre : (sep.size = 1) ∧ (sv = 0) ∧ (1 ≤ n ∧ n ≤ 1000) ∧ (s.size ≤ 2000000) := hpre
 obtain ⟨hs,hv,hn,hz⟩ := hpre
 refine W.to (⟨[(0,.v (.string s)),(1,.v (.string sep)),(2,.i sv),(3,.i n)],[],[999]⟩) rfl ?_
 refine Kk cok tab46 hnt [] [0,1,2,3] (⟨[(0,.v (.string s)),(1,.v (.string sep)),(2,.i sv),(3,.i n)],[],[999]⟩)
  (True ∧ True)
  ⟨tt,tt⟩ ?_
 refine W.seq ?_
 refine Kk cok tab46 hnt [] [0,1,2,3,13] (⟨[(0,.v (.string s)),(1,.v (.string sep)),(2,.i sv),(3,.i n),(13,.b (decide (n = (0 : Int))))],[],[999]⟩)
  (True ∧ (True ∧ True ∧ True) ∧ True)
  ⟨tt,⟨tt,tt,tt⟩,tt⟩ ?_
 refine W.ifP (n = (0 : Int)) (.b (decide (n = (0 : Int)))) (by kernel_rfl) rfl trivial ?_ ?_
 ·intro h13
  exact (show False from (by omega)).elim
 ·intro n13
  refine W.skip (thenQ_normal ?_)
  refine W.seq ?_
  refine Kk cok tab46 hnt [] [0,1,2,3,15] (⟨[(0,.v (.string s)),(1,.v (.string sep)),(2,.i sv),(3,.i n),(15,.b (eqS sep nEmpty))],[],[999]⟩)
   (True ∧ (True ∧ True ∧ True) ∧ True)
   ⟨tt,⟨tt,tt,tt⟩,tt⟩ ?_
  refine W.if' (eqS sep nEmpty) (.b (eqS sep nEmpty)) (by kernel_rfl) rfl trivial ?_ ?_
  ·intro h15
   exact (show False from (by rw [eqB_iff] at h15; rw [h15] at hs; cases hs)).elim
  ·intro n15
   refine W.skip (thenQ_normal ?_)
   refine W.seq ?_
   refine Kk cok tab46 hnt [] [0,1,2,3,20] (⟨[(0,.v (.string s)),(1,.v (.string sep)),(2,.i sv),(3,.i n),(20,.b (decide (n < (0 : Int))))],[],[999]⟩)
    (True ∧ (True ∧ True ∧ True) ∧ True)
    ⟨tt,⟨tt,tt,tt⟩,tt⟩ ?_
   refine W.ifP (n < (0 : Int)) (.b (decide (n < (0 : Int)))) (by kernel_rfl) rfl trivial ?_ ?_
   ·intro h20
    exact (show False from (by omega)).elim
   ·intro n20
    refine W.skip (thenQ_normal ?_)
    refine Kk cok tab46 hnt [] [0,1,2,3] (⟨[(0,.v (.string s)),(1,.v (.string sep)),(2,.i sv),(3,.i (min n (((s.size + 1) : Nat) : Int)))],[],[999]⟩)
     (True ∧ True ∧ True ∧ (True ∧ True ∧ (Fits .i64 (((s.size + 1) : Nat) : Int))) ∧ (True ∧ True) ∧ True ∧ True)
     ⟨tt,tt,tt,⟨tt,tt,(by exact fits_i64 (by omega) (by omega))⟩,⟨tt,tt⟩,tt,tt⟩ ?_
    refine Kk cok tab46 hnt [31] [0,1,2,3,9] (⟨[(0,.v (.string s)),(1,.v (.string sep)),(2,.i sv),(3,.i (min n (((s.size + 1) : Nat) : Int))),(9,.own 31 (List.length (List.replicate (Int.toNat (min n (((s.size + 1) : Nat) : Int))) ByteArray.empty)))],[(31,⟨9,.row (.strs (List.replicate (Int.toNat (min n (((s.size + 1) : Nat) : Int))) ByteArray.empty))⟩)],[31,999]⟩)
     (True ∧ (True ∧ True ∧ ((min n (((s.size + 1) : Nat) : Int)) = (min n (((s.size + 1) : Nat) : Int))) ∧ (0 ≤ (min n (((s.size + 1) : Nat) : Int))) ∧ ((min n (((s.size + 1) : Nat) : Int)) * 16 ≤ 281474976710656)) ∧ True ∧ True)
     ⟨tt,⟨tt,tt,rfl,(by omega),(by (try simp only [List.length_append,List.length_cons,List.length_nil,List.length_set]); omega)⟩,tt,tt⟩ ?_
    refine Kk cok tab46 hnt [] [0,1,2,3,9] (⟨[(0,.v (.string s)),(1,.v (.string sep)),(2,.i sv),(3,.i ((min n (((s.size + 1) : Nat) : Int)) - (1 : Int))),(9,.own 31 (List.length (List.replicate (Int.toNat (min n (((s.size + 1) : Nat) : Int))) ByteArray.empty)))],[(31,⟨9,.row (.strs (List.replicate (Int.toNat (min n (((s.size + 1) : Nat) : Int))) ByteArray.empty))⟩)],[31,999]⟩)
     (True ∧ (True ∧ True ∧ (Fits .i64 ((min n (((s.size + 1) : Nat) : Int)) - (1 : Int)))) ∧ True ∧ True)
     ⟨tt,⟨tt,tt,(by exact fits_i64 (by omega) (by omega))⟩,tt,tt⟩ ?_
    refine Kk cok tab46 hnt [] [0,1,2,3,9,10] (⟨[(0,.v (.string s)),(1,.v (.string sep)),(2,.i sv),(3,.i ((min n (((s.size + 1) : Nat) : Int)) - (1 : Int))),(9,.own 31 (List.length (List.replicate (Int.toNat (min n (((s.size + 1) : Nat) : Int))) ByteArray.empty))),(10,.i (0 : Int))],[(31,⟨9,.row (.strs (List.replicate (Int.toNat (min n (((s.size + 1) : Nat) : Int))) ByteArray.empty))⟩)],[31,999]⟩)
     (True ∧ True)
     ⟨tt,tt⟩ ?_
    refine W.seq ?_
    refine W.block ?_
    refine W.loop (ι := ByteArray × Nat × (List ByteArray)) (fun (x : ByteArray × Nat × (List ByteArray)) => match x with | (r,i,a) => (⟨[(0,.v (.string r)),(1,.v (.string sep)),(2,.i sv),(3,.i ((min n (((s.size + 1) : Nat) : Int)) - (1 : Int))),(9,.own 31 (List.length (List.replicate (Int.toNat (min n (((s.size + 1) : Nat) : Int))) ByteArray.empty))),(10,.i ((i : Nat) : Int))],[(31,⟨9,.row (.strs a)⟩)],[31,999]⟩ : St))
     (fun (x : ByteArray × Nat × (List ByteArray)) => match x with | (r,i,a) => (i + 1 ≤ Int.toNat (min n (((s.size : Nat) : Int) + 1))) ∧ (r.size ≤ s.size) ∧ (a.length = Int.toNat (min n (((s.size : Nat) : Int) + 1))) ∧ (a.take i ++ (splitNL (sepc sep) (Int.toNat (min n (((s.size : Nat) : Int) + 1)) - i) r.data.toList).map BA = splitNB sep n s))
     (fun (x : ByteArray × Nat × (List ByteArray)) => match x with | (r,i,a) => (Int.toNat n - i : Nat)) (s,0,(List.replicate (Int.toNat (min n (((s.size + 1) : Nat) : Int))) ByteArray.empty)) ?_ ?_ ?_
    ·exact (show (0 + 1 ≤ Int.toNat (min n (((s.size : Nat) : Int) + 1))) ∧ (s.size ≤ s.size) ∧ ((List.replicate (Int.toNat (min n (((s.size + 1) : Nat) : Int))) ByteArray.empty).length = Int.toNat (min n (((s.size : Nat) : Int) + 1))) ∧ ((List.replicate (Int.toNat (min n (((s.size + 1) : Nat) : Int))) ByteArray.empty).take 0 ++ (splitNL (sepc sep) (Int.toNat (min n (((s.size : Nat) : Int) + 1)) - 0) s.data.toList).map BA = splitNB sep n s) from ⟨(by omega),(by exact Nat.le_refl _),(by exact List.length_replicate),(by exact gs_init hn.1)⟩)
    ·exact Sub.of [] (@cast (((((.string s) : Value) = (.string s)) ∧ (((.string sep) : Value) = (.string sep)) ∧ (Si sv) ∧ (Si ((min n (((s.size + 1) : Nat) : Int)) - (1 : Int))) ∧ (((31 : Nat) = 31) ∧ ((List.length (List.replicate (Int.toNat (min n (((s.size + 1) : Nat) : Int))) ByteArray.empty)) = (List.length (List.replicate (Int.toNat (min n (((s.size + 1) : Nat) : Int))) ByteArray.empty))) ∧ ((31 : Nat) ∈ ([31,999] : List Nat))) ∧ ((.int .i64 (0 : Int) : Value) = .int .i64 ((0 : Nat) : Int)) ∧ True) ∧ ((((9 : Nat) = 9) ∧ (Sd (.strs (List.replicate (Int.toNat (min n (((s.size + 1) : Nat) : Int))) ByteArray.empty))) ∧ ((31 : Nat) ∈ ([31,999] : List Nat))) ∧ True) ∧ (true = true) ∧ (true = true)) _ (by kernel_rfl) ⟨⟨rfl,rfl,rfl,rfl,⟨rfl,rfl,(by decide)⟩,(congrArg (Value.int .i64) (by first | rfl | omega | assumption | simp | simp_all)),tt⟩,⟨⟨rfl,rfl,(by decide)⟩,tt⟩,rfl,rfl⟩)
    ·rintro ⟨r,i,a⟩ hC0
     have hC : (i + 1 ≤ Int.toNat (min n (((s.size : Nat) : Int) + 1))) ∧ (r.size ≤ s.size) ∧ (a.length = Int.toNat (min n (((s.size : Nat) : Int) + 1))) ∧ (a.take i ++ (splitNL (sepc sep) (Int.toNat (min n (((s.size : Nat) : Int) + 1)) - i) r.data.toList).map BA = splitNB sep n s) := hC0
     clear hC0
     obtain ⟨hi,hr,ha,hp⟩ := hC
     refine W.to (⟨[(0,.v (.string r)),(1,.v (.string sep)),(2,.i sv),(3,.i ((min n (((s.size + 1) : Nat) : Int)) - (1 : Int))),(9,.own 31 (List.length (List.replicate (Int.toNat (min n (((s.size + 1) : Nat) : Int))) ByteArray.empty))),(10,.i ((i : Nat) : Int))],[(31,⟨9,.row (.strs a)⟩)],[31,999]⟩) rfl ?_
     have hb := idx_bnd r sep
     refine W.seq ?_
     refine Kk cok tab46 hnt [] [0,1,2,3,9,10,36] (⟨[(0,.v (.string r)),(1,.v (.string sep)),(2,.i sv),(3,.i ((min n (((s.size + 1) : Nat) : Int)) - (1 : Int))),(9,.own 31 (List.length (List.replicate (Int.toNat (min n (((s.size + 1) : Nat) : Int))) ByteArray.empty))),(10,.i ((i : Nat) : Int)),(36,.b (decide (((i : Nat) : Int) < ((min n (((s.size + 1) : Nat) : Int)) - (1 : Int)))))],[(31,⟨9,.row (.strs a)⟩)],[31,999]⟩)
      (True ∧ True ∧ (True ∧ True ∧ True) ∧ True)
      ⟨tt,tt,⟨tt,tt,tt⟩,tt⟩ ?_
     refine W.ifP (((i : Nat) : Int) < ((min n (((s.size + 1) : Nat) : Int)) - (1 : Int))) (.b (decide (((i : Nat) : Int) < ((min n (((s.size + 1) : Nat) : Int)) - (1 : Int))))) (by kernel_rfl) rfl trivial ?_ ?_
     ·intro h36
      refine W.skip (thenQ_normal ?_)
      refine W.block ?_
      refine Kk cok tab46 hnt [] [0,1,2,3,9,10,11] (⟨[(0,.v (.string r)),(1,.v (.string sep)),(2,.i sv),(3,.i ((min n (((s.size + 1) : Nat) : Int)) - (1 : Int))),(9,.own 31 (List.length (List.replicate (Int.toNat (min n (((s.size + 1) : Nat) : Int))) ByteArray.empty))),(10,.i ((i : Nat) : Int)),(11,.i (idxB r sep))],[(31,⟨9,.row (.strs a)⟩)],[31,999]⟩)
       (True ∧ True ∧ (True ∧ (True ∧ True ∧ True) ∧ (sep.size = 1)) ∧ True ∧ True)
       ⟨tt,tt,⟨tt,⟨tt,tt,tt⟩,(by omega)⟩,tt,tt⟩ ?_
      refine W.seq ?_
      refine Kk cok tab46 hnt [] [0,1,2,3,9,10,11,41] (⟨[(0,.v (.string r)),(1,.v (.string sep)),(2,.i sv),(3,.i ((min n (((s.size + 1) : Nat) : Int)) - (1 : Int))),(9,.own 31 (List.length (List.replicate (Int.toNat (min n (((s.size + 1) : Nat) : Int))) ByteArray.empty))),(10,.i ((i : Nat) : Int)),(11,.i (idxB r sep)),(41,.b (decide ((idxB r sep) < (0 : Int))))],[(31,⟨9,.row (.strs a)⟩)],[31,999]⟩)
       (True ∧ (True ∧ True ∧ True) ∧ True)
       ⟨tt,⟨tt,tt,tt⟩,tt⟩ ?_
      refine W.ifP ((idxB r sep) < (0 : Int)) (.b (decide ((idxB r sep) < (0 : Int)))) (by kernel_rfl) rfl trivial ?_ ?_
      ·intro h41
       refine W.exit (thenQ_exit (blockQ_miss rfl (thenQ_exit (blockQ_hit ?_))))
       refine thenQ_normal ?_
       refine Kk cok tab46 hnt [] [9,10] (⟨[(9,.own 31 (List.length (List.replicate (Int.toNat (min n (((s.size + 1) : Nat) : Int))) ByteArray.empty))),(10,.i ((i : Nat) : Int))],[(31,⟨9,.row (.strs (List.set a i r))⟩)],[31,999]⟩)
        (True ∧ True ∧ True ∧ (True ∧ True ∧ (0 ≤ ((i : Nat) : Int)) ∧ (((i : Nat) : Int) < (((List.length (List.replicate (Int.toNat (min n (((s.size + 1) : Nat) : Int))) ByteArray.empty)) : Nat) : Int))) ∧ (True ∧ True ∧ (i < a.length)) ∧ True)
        ⟨tt,tt,tt,⟨tt,tt,(by omega),(by (try simp only [List.length_replicate,List.length_set]); omega)⟩,⟨tt,tt,(by omega)⟩,tt⟩ ?_
       refine Kk cok tab46 hnt [] [8] (⟨[(8,.own 31 (i + 1))],[(31,⟨9,.row (.strs (List.set a i r))⟩)],[31,999]⟩)
        (True ∧ True ∧ (True ∧ True ∧ (Fits .i64 (((i + 1) : Nat) : Int))) ∧ (True ∧ True ∧ (0 ≤ (((i + 1) : Nat) : Int)) ∧ ((((i + 1) : Nat) : Int) ≤ (((List.length (List.replicate (Int.toNat (min n (((s.size + 1) : Nat) : Int))) ByteArray.empty)) : Nat) : Int))) ∧ True ∧ True)
        ⟨tt,tt,⟨tt,tt,(by exact fits_i64 (by omega) (by omega))⟩,⟨tt,tt,(by omega),(by (try simp only [List.length_replicate,List.length_set]); omega)⟩,tt,tt⟩ ?_
       refine W.cutRow 31 9 (.strs (List.set a i r)) (.strs (List.take (i + 1) (List.set a i r))) (i + 1) (⟨[(8,.own 31 (i + 1))],[(31,⟨9,.row (.strs (List.take (i + 1) (List.set a i r)))⟩)],[31,999]⟩) (by kernel_rfl) (by rfl) (show (i + 1) ≤ (List.length (List.set a i r)) from (by (first | omega | (simp only [List.length_set]; done) | (simp only [List.length_append,List.length_cons,List.length_nil,List.length_take,List.length_drop,List.length_set,List.length_replicate,List.length_map] at *; omega) | assumption))) (by kernel_rfl) ?_
       refine W.ret ?_
       exact endQ_rows [(0,31)] (.own 31 (i + 1)) (by kernel_rfl) (@cast (((31 : Nat) = 31) ∧ ((i + 1) = (List.length (splitNB sep n s))) ∧ ((0 : Nat) ∈ ([0] : List Nat))) _ (by kernel_rfl) ⟨rfl,(by first | rfl | omega | assumption | (symm; assumption) | (exact congrArg List.length (by first | exact gs_end hp (by omega) ha (.inl h41) | (rw [← gs_end hp (by omega) ha (.inl h41),List.length_take,List.length_set]; omega))) | (first | exact gs_end hp (by omega) ha (.inl h41) | (rw [← gs_end hp (by omega) ha (.inl h41),List.length_take,List.length_set]; omega); done) | simp | simp_all),(by decide)⟩) (@cast ((((9 : Nat) = 9) ∧ ((.strs (List.take (i + 1) (List.set a i r)) : Dat) = .strs (splitNB sep n s)) ∧ ((0 : Nat) ∈ ([0] : List Nat))) ∧ True) _ (by kernel_rfl) ⟨⟨rfl,(congrArg Dat.strs (by first | exact gs_end hp (by omega) ha (.inl h41) | (rw [← gs_end hp (by omega) ha (.inl h41),List.length_take,List.length_set]; omega))),(by decide)⟩,tt⟩) (by kernel_rfl)
      ·intro n41
       have h41n := n41
       refine W.skip (thenQ_normal ?_)
       refine Kk cok tab46 hnt [] [0,1,2,3,9,10,11] (⟨[(0,.v (.string r)),(1,.v (.string sep)),(2,.i sv),(3,.i ((min n (((s.size + 1) : Nat) : Int)) - (1 : Int))),(9,.own 31 (List.length (List.replicate (Int.toNat (min n (((s.size + 1) : Nat) : Int))) ByteArray.empty))),(10,.i ((i : Nat) : Int)),(11,.i (idxB r sep))],[(31,⟨9,.row (.strs (List.set a i (r.extract 0 (Int.toNat ((idxB r sep) + sv)))))⟩)],[31,999]⟩)
        (True ∧ True ∧ True ∧ True ∧ True ∧ (True ∧ True ∧ (Fits .i64 ((idxB r sep) + sv))) ∧ (True ∧ True ∧ True ∧ (0 ≤ (0 : Int)) ∧ ((0 : Int) ≤ ((idxB r sep) + sv)) ∧ (((idxB r sep) + sv) ≤ ((r.size : Nat) : Int))) ∧ (True ∧ True ∧ (0 ≤ ((i : Nat) : Int)) ∧ (((i : Nat) : Int) < (((List.length (List.replicate (Int.toNat (min n (((s.size + 1) : Nat) : Int))) ByteArray.empty)) : Nat) : Int))) ∧ (True ∧ True ∧ (i < a.length)) ∧ True)
        ⟨tt,tt,tt,tt,tt,⟨tt,tt,(by exact fits_i64 (by omega) (by omega))⟩,⟨tt,tt,tt,(by omega),(by omega),(by omega)⟩,⟨tt,tt,(by omega),(by (try simp only [List.length_replicate,List.length_set]); omega)⟩,⟨tt,tt,(by omega)⟩,tt⟩ ?_
       refine Kk cok tab46 hnt [] [0,1,2,3,9,10] (⟨[(0,.v (.string (r.extract (Int.toNat ((idxB r sep) + ((sep.size : Nat) : Int))) r.size))),(1,.v (.string sep)),(2,.i sv),(3,.i ((min n (((s.size + 1) : Nat) : Int)) - (1 : Int))),(9,.own 31 (List.length (List.replicate (Int.toNat (min n (((s.size + 1) : Nat) : Int))) ByteArray.empty))),(10,.i ((i : Nat) : Int))],[(31,⟨9,.row (.strs (List.set a i (r.extract 0 (Int.toNat ((idxB r sep) + sv)))))⟩)],[31,999]⟩)
        (True ∧ True ∧ True ∧ True ∧ (True ∧ True ∧ (Fits .i64 ((idxB r sep) + ((sep.size : Nat) : Int)))) ∧ (True ∧ True ∧ True ∧ (0 ≤ ((idxB r sep) + ((sep.size : Nat) : Int))) ∧ (((idxB r sep) + ((sep.size : Nat) : Int)) ≤ ((r.size : Nat) : Int)) ∧ (((r.size : Nat) : Int) ≤ ((r.size : Nat) : Int))) ∧ True ∧ True)
        ⟨tt,tt,tt,tt,⟨tt,tt,(by exact fits_i64 (by omega) (by omega))⟩,⟨tt,tt,tt,(by omega),(by omega),(by omega)⟩,tt,tt⟩ ?_
       refine Lk cok tab46 hnt [] (⟨[(0,.v (.string (r.extract (Int.toNat ((idxB r sep) + ((sep.size : Nat) : Int))) r.size))),(1,.v (.string sep)),(2,.i sv),(3,.i ((min n (((s.size + 1) : Nat) : Int)) - (1 : Int))),(9,.own 31 (List.length (List.replicate (Int.toNat (min n (((s.size + 1) : Nat) : Int))) ByteArray.empty))),(10,.i (((i + 1) : Nat) : Int)),(56,.i ((i : Nat) : Int)),(57,.i (((i + 1) : Nat) : Int))],[(31,⟨9,.row (.strs (List.set a i (r.extract 0 (Int.toNat ((idxB r sep) + sv)))))⟩)],[31,999]⟩)
        (True ∧ (True ∧ True ∧ (Fits .i64 (((i + 1) : Nat) : Int))) ∧ True ∧ True)
        ⟨tt,⟨tt,tt,(by exact fits_i64 (by omega) (by omega))⟩,tt,tt⟩ ?_
       refine blockQ_normal (thenQ_normal ?_)
       refine ⟨((r.extract (Int.toNat ((idxB r sep) + ((sep.size : Nat) : Int))) r.size),(i + 1),(List.set a i (r.extract 0 (Int.toNat ((idxB r sep) + sv))))),(show ((i + 1) + 1 ≤ Int.toNat (min n (((s.size : Nat) : Int) + 1))) ∧ ((r.extract (Int.toNat ((idxB r sep) + ((sep.size : Nat) : Int))) r.size).size ≤ s.size) ∧ ((List.set a i (r.extract 0 (Int.toNat ((idxB r sep) + sv)))).length = Int.toNat (min n (((s.size : Nat) : Int) + 1))) ∧ ((List.set a i (r.extract 0 (Int.toNat ((idxB r sep) + sv)))).take (i + 1) ++ (splitNL (sepc sep) (Int.toNat (min n (((s.size : Nat) : Int) + 1)) - (i + 1)) (r.extract (Int.toNat ((idxB r sep) + ((sep.size : Nat) : Int))) r.size).data.toList).map BA = splitNB sep n s) from ⟨(by omega),(by rw [ByteArray.size_extract]; omega),(by rw [List.length_set]; exact ha),(by exact gs_step hp (by omega) ha h41n hv hs)⟩),(show Int.toNat n - (i + 1) < Int.toNat n - i from (by first | omega | (simp_all; omega))),?_⟩
       exact Sub.of [] (@cast (((((.string (r.extract (Int.toNat ((idxB r sep) + ((sep.size : Nat) : Int))) r.size)) : Value) = (.string (r.extract (Int.toNat ((idxB r sep) + ((sep.size : Nat) : Int))) r.size))) ∧ (((.string sep) : Value) = (.string sep)) ∧ (Si sv) ∧ (Si ((min n (((s.size + 1) : Nat) : Int)) - (1 : Int))) ∧ (((31 : Nat) = 31) ∧ ((List.length (List.replicate (Int.toNat (min n (((s.size + 1) : Nat) : Int))) ByteArray.empty)) = (List.length (List.replicate (Int.toNat (min n (((s.size + 1) : Nat) : Int))) ByteArray.empty))) ∧ ((31 : Nat) ∈ ([31,999] : List Nat))) ∧ (Si (((i + 1) : Nat) : Int)) ∧ True) ∧ ((((9 : Nat) = 9) ∧ (Sd (.strs (List.set a i (r.extract 0 (Int.toNat ((idxB r sep) + sv)))))) ∧ ((31 : Nat) ∈ ([31,999] : List Nat))) ∧ True) ∧ (true = true) ∧ (true = true)) _ (by kernel_rfl) ⟨⟨rfl,rfl,rfl,rfl,⟨rfl,rfl,(by decide)⟩,rfl,tt⟩,⟨⟨rfl,rfl,(by decide)⟩,tt⟩,rfl,rfl⟩)
     ·intro n36
      refine W.exit (thenQ_exit (thenQ_exit (blockQ_hit ?_)))
      refine thenQ_normal ?_
      refine Kk cok tab46 hnt [] [9,10] (⟨[(9,.own 31 (List.length (List.replicate (Int.toNat (min n (((s.size + 1) : Nat) : Int))) ByteArray.empty))),(10,.i ((i : Nat) : Int))],[(31,⟨9,.row (.strs (List.set a i r))⟩)],[31,999]⟩)
       (True ∧ True ∧ True ∧ (True ∧ True ∧ (0 ≤ ((i : Nat) : Int)) ∧ (((i : Nat) : Int) < (((List.length (List.replicate (Int.toNat (min n (((s.size + 1) : Nat) : Int))) ByteArray.empty)) : Nat) : Int))) ∧ (True ∧ True ∧ (i < a.length)) ∧ True)
       ⟨tt,tt,tt,⟨tt,tt,(by omega),(by (try simp only [List.length_replicate,List.length_set]); omega)⟩,⟨tt,tt,(by omega)⟩,tt⟩ ?_
      refine Kk cok tab46 hnt [] [8] (⟨[(8,.own 31 (i + 1))],[(31,⟨9,.row (.strs (List.set a i r))⟩)],[31,999]⟩)
       (True ∧ True ∧ (True ∧ True ∧ (Fits .i64 (((i + 1) : Nat) : Int))) ∧ (True ∧ True ∧ (0 ≤ (((i + 1) : Nat) : Int)) ∧ ((((i + 1) : Nat) : Int) ≤ (((List.length (List.replicate (Int.toNat (min n (((s.size + 1) : Nat) : Int))) ByteArray.empty)) : Nat) : Int))) ∧ True ∧ True)
       ⟨tt,tt,⟨tt,tt,(by exact fits_i64 (by omega) (by omega))⟩,⟨tt,tt,(by omega),(by (try simp only [List.length_replicate,List.length_set]); omega)⟩,tt,tt⟩ ?_
      refine W.cutRow 31 9 (.strs (List.set a i r)) (.strs (List.take (i + 1) (List.set a i r))) (i + 1) (⟨[(8,.own 31 (i + 1))],[(31,⟨9,.row (.strs (List.take (i + 1) (List.set a i r)))⟩)],[31,999]⟩) (by kernel_rfl) (by rfl) (show (i + 1) ≤ (List.length (List.set a i r)) from (by (first | omega | (simp only [List.length_set]; done) | (simp only [List.length_append,List.length_cons,List.length_nil,List.length_take,List.length_drop,List.length_set,List.length_replicate,List.length_map] at *; omega) | assumption))) (by kernel_rfl) ?_
      refine W.ret ?_
      exact endQ_rows [(0,31)] (.own 31 (i + 1)) (by kernel_rfl) (@cast (((31 : Nat) = 31) ∧ ((i + 1) = (List.length (splitNB sep n s))) ∧ ((0 : Nat) ∈ ([0] : List Nat))) _ (by kernel_rfl) ⟨rfl,(by first | rfl | omega | assumption | (symm; assumption) | (exact congrArg List.length (by first | exact gs_end hp (by omega) ha (.inr (by omega)) | (rw [← gs_end hp (by omega) ha (.inr (by omega)),List.length_take,List.length_set]; omega))) | (first | exact gs_end hp (by omega) ha (.inr (by omega)) | (rw [← gs_end hp (by omega) ha (.inr (by omega)),List.length_take,List.length_set]; omega); done) | simp | simp_all),(by decide)⟩) (@cast ((((9 : Nat) = 9) ∧ ((.strs (List.take (i + 1) (List.set a i r)) : Dat) = .strs (splitNB sep n s)) ∧ ((0 : Nat) ∈ ([0] : List Nat))) ∧ True) _ (by kernel_rfl) ⟨⟨rfl,(congrArg Dat.strs (by first | exact gs_end hp (by omega) ha (.inr (by omega)) | (rw [← gs_end hp (by omega) ha (.inr (by omega)),List.length_take,List.length_set]; omega))),(by decide)⟩,tt⟩) (by kernel_rfl)
theorem ent46 : Entr prog 46 := ⟨_,func46,rfl,by decide⟩
end Go.Proofs.Tryd

set_option linter.unusedSimpArgs false
set_option linter.unusedVariables false
namespace Go.Proofs.Tryd
open Go.Ab Go.RowKit
def fs30 : FnS := fnS [.o,.o,.o] [.str,.str,.int] (fun _ (s,sep,n,_) => (.own 0 (List.length (splitNB sep n s)),[(9,.strs (splitNB sep n s))],(sep.size = 1) ∧ (1 ≤ n ∧ n ≤ 1000) ∧ (s.size ≤ 2000000)))
abbrev T30 : Tab := lk [(46,fs46)]
theorem tab30 : TabOK prog T30 := (TabOK.cons ok46 ent46 TabOK.nil)
set_option maxRecDepth 100000 in
set_option maxHeartbeats 1000000 in
theorem ok30 : FnOK prog 30 fs30 := by
 refine FnOK.mk cok func30 rfl rfl rfl ?_
 rintro fl ⟨(s : ByteArray),(sep : ByteArray),(n : Int),_⟩ hpre F hnt0 _
 have hnt : F.nt = 11 := hnt0.trans ntmps30
 replace hpre : (sep.size = 1) ∧ (1 ≤ n ∧ n ≤ 1000) ∧ (s.size ≤ 2000000) := hpre
 obtain ⟨hs,hn,hz⟩ := hpre
 refine W.to (⟨[(0,.v (.string s)),(1,.v (.string sep)),(2,.i n)],[],[999]⟩) rfl ?_
 refine Kk cok tab30 hnt [] [0,1,2] (⟨[(0,.v (.string s)),(1,.v (.string sep)),(2,.i n)],[],[999]⟩)
  (True ∧ True)
  ⟨tt,tt⟩ ?_
 refine Kk cok tab30 hnt [10] [6] (⟨[(6,.own 10 (List.length (splitNB sep n s)))],[(10,⟨9,.row (.strs (splitNB sep n s))⟩)],[10,999]⟩)
  (True ∧ True ∧ True ∧ (True ∧ (True ∧ True ∧ True ∧ True ∧ True) ∧ (sep.size = 1) ∧ ((0 : Int) = 0) ∧ (1 ≤ n ∧ n ≤ 1000) ∧ (s.size ≤ 2000000)) ∧ True ∧ True)
  ⟨tt,tt,tt,⟨tt,⟨tt,tt,tt,tt,tt⟩,(by omega),(by rfl),(by omega),(by omega)⟩,tt,tt⟩ ?_
 refine W.ret ?_
 exact endQ_rows [(0,10)] (.own 10 (List.length (splitNB sep n s))) (by kernel_rfl) (@cast (((10 : Nat) = 10) ∧ ((List.length (splitNB sep n s)) = (List.length (splitNB sep n s))) ∧ ((0 : Nat) ∈ ([0] : List Nat))) _ (by kernel_rfl) ⟨rfl,rfl,(by decide)⟩) (@cast ((((9 : Nat) = 9) ∧ (Sd (.strs (splitNB sep n s))) ∧ ((0 : Nat) ∈ ([0] : List Nat))) ∧ True) _ (by kernel_rfl) ⟨⟨rfl,rfl,(by decide)⟩,tt⟩) (by kernel_rfl)
theorem ent30 : Entr prog 30 := ⟨_,func30,rfl,by decide⟩
end Go.Proofs.Tryd

set_option linter.unusedSimpArgs false
set_option linter.unusedVariables false
namespace Go.Proofs.Tryd
open Go.Ab Go.RowKit Go.Shelf Go.Proofs Go.Lib
def fs76 : FnS := fnS [.o,.o] [.str,.str] (fun _ (s,sep,_) => (.i (idxB s sep),[],(sep.size = 1)))
def renL : Go.Shelf.Ren := ⟨fun k => bif Nat.beq k 217 then 64 else bif Nat.beq k 219 then 76 else bif Nat.beq k 224 then 90 else bif Nat.beq k 225 then 89 else bif Nat.beq k 266 then 77 else bif Nat.beq k 267 then 91 else bif Nat.beq k 314 then 100 else k,fun k => bif Nat.beq k 3 then 3 else bif Nat.beq k 4 then 4 else bif Nat.beq k 5 then 5 else bif Nat.beq k 9 then 9 else bif Nat.beq k 46 then 106 else bif Nat.beq k 51 then 115 else bif Nat.beq k 146 then 123 else k,fun k => bif Nat.beq k 1 then 0 else k⟩
set_option maxRecDepth 100000 in
theorem laysL : Go.Proofs.Lays.n219 prog renL where
 mixed := by kernel_rfl
 f217 := by kernel_rfl
 f219 := by kernel_rfl
 f224 := by kernel_rfl
 f225 := by kernel_rfl
 f266 := by kernel_rfl
 f267 := by kernel_rfl
 f314 := by kernel_rfl
 t3 := underlying3
 a3 := isAgg3
 z3 := sizeOf3
 v3 := zeroValue3
 t4 := underlying4
 a4 := isAgg4
 z4 := sizeOf4
 v4 := zeroValue4
 t5 := underlying5
 a5 := isAgg5
 z5 := sizeOf5
 v5 := zeroValue5
 t9 := underlying9
 a9 := isAgg9
 z9 := sizeOf9
 v9 := zeroValue9
 t46 := underlying106
 a46 := isAgg106
 z46 := sizeOf106
 v46 := zeroValue106
 t51 := underlying115
 a51 := isAgg115
 z51 := sizeOf115
 v51 := zeroValue115
 t146 := underlying123
 a146 := isAgg123
 z146 := sizeOf123
 v146 := zeroValue123
 g1 := by kernel_rfl
theorem ok76 : FnOK prog 76 fs76 := lindex_ok laysL
theorem ent76 : Entr prog 76 := ⟨_,func76,rfl,by decide⟩
end Go.Proofs.Tryd

set_option linter.unusedSimpArgs false
set_option linter.unusedVariables false
namespace Go.Proofs.Tryd
open Go.Ab Go.RowKit
def fs63 : FnS := fnS [.o,.o] [.str,.str] (fun _ (s,sep,_) => (.tup [.v (.string (cutB1 s sep)),.v (.string (cutB2 s sep)),.b (decide (0 ≤ idxB s sep))],[],(sep.size = 1) ∧ (s.size ≤ 2000000)))
abbrev T63 : Tab := lk [(76,fs76)]
theorem tab63 : TabOK prog T63 := (TabOK.cons ok76 ent76 TabOK.nil)
set_option maxRecDepth 100000 in
set_option maxHeartbeats 1000000 in
theorem ok63 : FnOK prog 63 fs63 := by
 refine FnOK.mk cok func63 rfl rfl rfl ?_
 rintro fl ⟨(s : ByteArray),(sep : ByteArray),_⟩ hpre F hnt0 _
 have hnt : F.nt = 23 := hnt0.trans ntmps63
 replace hpre : (sep.size = 1) ∧ (s.size ≤ 2000000) := hpre
 obtain ⟨hs,hz⟩ := hpre
 refine W.to (⟨[(0,.v (.string s)),(1,.v (.string sep))],[],[999]⟩) rfl ?_
 have hb := idx_bnd s sep
 refine Kk cok tab63 hnt [] [0,1] (⟨[(0,.v (.string s)),(1,.v (.string sep))],[],[999]⟩)
  (True ∧ True ∧ True ∧ True)
  ⟨tt,tt,tt,tt⟩ ?_
 refine W.seq ?_
 refine Kk cok tab63 hnt [] [0,1,7] (⟨[(0,.v (.string s)),(1,.v (.string sep)),(7,.i (idxB s sep))],[],[999]⟩)
  (True ∧ True ∧ (True ∧ (True ∧ True ∧ True) ∧ (sep.size = 1)) ∧ True ∧ True)
  ⟨tt,tt,⟨tt,⟨tt,tt,tt⟩,(by exact hs)⟩,tt,tt⟩ ?_
 refine Kk cok tab63 hnt [] [0,1,7,12] (⟨[(0,.v (.string s)),(1,.v (.string sep)),(7,.i (idxB s sep)),(12,.b (decide ((0 : Int) ≤ (idxB s sep))))],[],[999]⟩)
  (True ∧ (True ∧ True ∧ True) ∧ True)
  ⟨tt,⟨tt,tt,tt⟩,tt⟩ ?_
 refine W.ifP ((0 : Int) ≤ (idxB s sep)) (.b (decide ((0 : Int) ≤ (idxB s sep)))) (by kernel_rfl) rfl trivial ?_ ?_
 ·intro h12
  refine W.KA cok tab63 hnt [] [4,5,6] (⟨[(4,.v (.string (s.extract 0 (Int.toNat (idxB s sep))))),(5,.v (.string (s.extract (Int.toNat ((idxB s sep) + ((sep.size : Nat) : Int))) s.size))),(6,.b true)],[],[999]⟩)
   (True ∧ True ∧ (True ∧ True ∧ True ∧ (0 ≤ (0 : Int)) ∧ ((0 : Int) ≤ (idxB s sep)) ∧ ((idxB s sep) ≤ ((s.size : Nat) : Int))) ∧ True ∧ True ∧ True ∧ True ∧ (True ∧ True ∧ (Fits .i64 ((idxB s sep) + ((sep.size : Nat) : Int)))) ∧ (True ∧ True ∧ True ∧ (0 ≤ ((idxB s sep) + ((sep.size : Nat) : Int))) ∧ (((idxB s sep) + ((sep.size : Nat) : Int)) ≤ ((s.size : Nat) : Int)) ∧ (((s.size : Nat) : Int) ≤ ((s.size : Nat) : Int))) ∧ True ∧ True ∧ True ∧ True) (by kernel_rfl) (by kernel_rfl)
   ⟨tt,tt,⟨tt,tt,tt,(by omega),(by omega),(by omega)⟩,tt,tt,tt,tt,⟨tt,tt,(by exact fits_i64 (by omega) (by omega))⟩,⟨tt,tt,tt,(by omega),(by omega),(by omega)⟩,tt,tt,tt,tt⟩ ?_
  refine W.ret (thenQ_ret ?_)
  exact endQ_ret (.tup [.v (.string (s.extract 0 (Int.toNat (idxB s sep)))),.v (.string (s.extract (Int.toNat ((idxB s sep) + ((sep.size : Nat) : Int))) s.size)),.b true]) (by kernel_rfl) (@cast ((((.string (s.extract 0 (Int.toNat (idxB s sep)))) : Value) = (.string (cutB1 s sep))) ∧ (((.string (s.extract (Int.toNat ((idxB s sep) + ((sep.size : Nat) : Int))) s.size)) : Value) = (.string (cutB2 s sep))) ∧ ((.bool true : Value) = .bool (decide (0 ≤ idxB s sep))) ∧ True) _ (by kernel_rfl) ⟨(congrArg Value.string (by first | exact cut_yes1 h12 | exact cut_yes2 hs h12 | exact (decide_eq_true h12).symm)),(congrArg Value.string (by first | exact cut_yes1 h12 | exact cut_yes2 hs h12 | exact (decide_eq_true h12).symm)),(congrArg Value.bool (by first | exact cut_yes1 h12 | exact cut_yes2 hs h12 | exact (decide_eq_true h12).symm)),tt⟩)
 ·intro n12
  refine W.skip (thenQ_normal ?_)
  refine Kk cok tab63 hnt [] [4,5,6] (⟨[(4,.v (.string s)),(5,.v (.string nEmpty)),(6,.b false)],[],[999]⟩)
   (True ∧ True ∧ True ∧ True ∧ True)
   ⟨tt,tt,tt,tt,tt⟩ ?_
  refine W.ret ?_
  exact endQ_ret (.tup [.v (.string s),.v (.string nEmpty),.b false]) (by kernel_rfl) (@cast ((((.string s) : Value) = (.string (cutB1 s sep))) ∧ (((.string nEmpty) : Value) = (.string (cutB2 s sep))) ∧ ((.bool false : Value) = .bool (decide (0 ≤ idxB s sep))) ∧ True) _ (by kernel_rfl) ⟨(congrArg Value.string (by first | exact cut_no1 n12 | exact cut_no2 n12 | exact (decide_eq_false n12).symm)),(congrArg Value.string (by first | exact cut_no1 n12 | exact cut_no2 n12 | exact (decide_eq_false n12).symm)),(congrArg Value.bool (by first | exact cut_no1 n12 | exact cut_no2 n12 | exact (decide_eq_false n12).symm)),tt⟩)
theorem ent63 : Entr prog 63 := ⟨_,func63,rfl,by decide⟩
end Go.Proofs.Tryd

set_option linter.unusedSimpArgs false
set_option linter.unusedVariables false
namespace Go.Proofs.Tryd
open Go.Ab Go.RowKit
def fs47 : FnS := fnS [.o,.o] [.str,.str] (fun _ (s,sep,_) => (.tup [.v (.string (cutB1 s sep)),.v (.string (cutB2 s sep)),.b (decide (0 ≤ idxB s sep))],[],(sep.size = 1) ∧ (s.size ≤ 2000000)))
abbrev T47 : Tab := lk [(63,fs63)]
theorem tab47 : TabOK prog T47 := (TabOK.cons ok63 ent63 TabOK.nil)
set_option maxRecDepth 100000 in
set_option maxHeartbeats 1000000 in
theorem ok47 : FnOK prog 47 fs47 := by
 refine FnOK.mk cok func47 rfl rfl rfl ?_
 rintro fl ⟨(s : ByteArray),(sep : ByteArray),_⟩ hpre F hnt0 _
 have hnt : F.nt = 13 := hnt0.trans ntmps47
 replace hpre : (sep.size = 1) ∧ (s.size ≤ 2000000) := hpre
 obtain ⟨hs,hz⟩ := hpre
 refine W.to (⟨[(0,.v (.string s)),(1,.v (.string sep))],[],[999]⟩) rfl ?_
 refine Kk cok tab47 hnt [] [0,1] (⟨[(0,.v (.string s)),(1,.v (.string sep))],[],[999]⟩)
  (True ∧ True ∧ True ∧ True)
  ⟨tt,tt,tt,tt⟩ ?_
 refine Kk cok tab47 hnt [] [4,5,6] (⟨[(4,.v (.string (cutB1 s sep))),(5,.v (.string (cutB2 s sep))),(6,.b (decide (0 ≤ idxB s sep)))],[],[999]⟩)
  (True ∧ True ∧ (True ∧ (True ∧ True ∧ True) ∧ (sep.size = 1) ∧ (s.size ≤ 2000000)) ∧ True ∧ True ∧ True ∧ True ∧ True ∧ True ∧ True)
  ⟨tt,tt,⟨tt,⟨tt,tt,tt⟩,(by omega),(by omega)⟩,tt,tt,tt,tt,tt,tt,tt⟩ ?_
 refine W.ret ?_
 exact endQ_ret (.tup [.v (.string (cutB1 s sep)),.v (.string (cutB2 s sep)),.b (decide (0 ≤ idxB s sep))]) (by kernel_rfl) (@cast ((((.string (cutB1 s sep)) : Value) = (.string (cutB1 s sep))) ∧ (((.string (cutB2 s sep)) : Value) = (.string (cutB2 s sep))) ∧ (Sv (.bool (decide (0 ≤ idxB s sep)))) ∧ True) _ (by kernel_rfl) ⟨rfl,rfl,rfl,tt⟩)
theorem ent47 : Entr prog 47 := ⟨_,func47,rfl,by decide⟩
end Go.Proofs.Tryd

set_option linter.unusedSimpArgs false
set_option linter.unusedVariables false
namespace Go.Proofs.Tryd
open Go.Ab Go.RowKit Go.Shelf Go.Proofs Go.Lib
def fs48 : FnS := fnS [.o,.o] [.str,.u8] (fun _ (s,c,_) => (.i (Lib.indexByte s.data.toList (Int.toNat c).toUInt8),[],True))
def renB : Go.Shelf.Ren := ⟨fun k => bif Nat.beq k 137 then 48 else bif Nat.beq k 217 then 64 else bif Nat.beq k 266 then 77 else k,fun k => bif Nat.beq k 3 then 3 else bif Nat.beq k 5 then 5 else bif Nat.beq k 9 then 9 else k,fun k => k⟩
set_option maxRecDepth 100000 in
theorem laysB : Go.Proofs.Lays.n137 prog renB where
 mixed := by kernel_rfl
 f137 := by kernel_rfl
 f217 := by kernel_rfl
 f266 := by kernel_rfl
 t3 := underlying3
 a3 := isAgg3
 z3 := sizeOf3
 v3 := zeroValue3
 t5 := underlying5
 a5 := isAgg5
 z5 := sizeOf5
 v5 := zeroValue5
 t9 := underlying9
 a9 := isAgg9
 z9 := sizeOf9
 v9 := zeroValue9
theorem ok48 : FnOK prog 48 fs48 := indexByte_ok laysB
theorem ent48 : Entr prog 48 := ⟨_,func48,rfl,by decide⟩
end Go.Proofs.Tryd

set_option linter.unusedSimpArgs false
set_option linter.unusedVariables false
namespace Go.Proofs.Tryd
open Go.Ab Go.RowKit Go.Shelf Go.Proofs Go.Lib
def fs49 : FnS := fnS [.o] [.str] (fun _ (s,_) => (.tup [.i (atoiV s.data.toList),.any],[],(s.size ≤ 2000000)))
def renA : Go.Shelf.Ren := ⟨fun k => bif Nat.beq k 129 then 96 else bif Nat.beq k 171 then 39 else bif Nat.beq k 172 then 49 else bif Nat.beq k 205 then 94 else bif Nat.beq k 243 then 56 else bif Nat.beq k 244 then 65 else bif Nat.beq k 245 then 66 else bif Nat.beq k 246 then 70 else bif Nat.beq k 247 then 78 else bif Nat.beq k 279 then 79 else bif Nat.beq k 280 then 80 else bif Nat.beq k 281 then 81 else bif Nat.beq k 282 then 82 else bif Nat.beq k 283 then 84 else bif Nat.beq k 284 then 85 else bif Nat.beq k 285 then 86 else bif Nat.beq k 286 then 87 else bif Nat.beq k 287 then 92 else bif Nat.beq k 316 then 93 else bif Nat.beq k 317 then 95 else bif Nat.beq k 318 then 97 else bif Nat.beq k 319 then 98 else bif Nat.beq k 320 then 99 else bif Nat.beq k 321 then 101 else bif Nat.beq k 322 then 102 else bif Nat.beq k 337 then 103 else bif Nat.beq k 338 then 104 else k,fun k => bif Nat.beq k 0 then 0 else bif Nat.beq k 2 then 2 else bif Nat.beq k 3 then 3 else bif Nat.beq k 4 then 4 else bif Nat.beq k 5 then 5 else bif Nat.beq k 9 then 9 else bif Nat.beq k 20 then 20 else bif Nat.beq k 21 then 21 else bif Nat.beq k 37 then 29 else bif Nat.beq k 46 then 106 else bif Nat.beq k 51 then 115 else bif Nat.beq k 53 then 101 else bif Nat.beq k 75 then 62 else bif Nat.beq k 76 then 63 else bif Nat.beq k 80 then 65 else bif Nat.beq k 85 then 94 else bif Nat.beq k 127 then 77 else bif Nat.beq k 143 then 126 else bif Nat.beq k 145 then 128 else bif Nat.beq k 167 then 93 else bif Nat.beq k 168 then 96 else bif Nat.beq k 171 then 100 else bif Nat.beq k 173 then 104 else bif Nat.beq k 175 then 107 else bif Nat.beq k 210 then 111 else bif Nat.beq k 212 then 114 else bif Nat.beq k 213 then 116 else bif Nat.beq k 232 then 130 else bif Nat.beq k 233 then 131 else k,fun k => bif Nat.beq k 15 then 1 else bif Nat.beq k 16 then 2 else bif Nat.beq k 17 then 3 else bif Nat.beq k 18 then 6 else bif Nat.beq k 19 then 7 else k⟩
set_option maxRecDepth 100000 in
theorem laysA : Go.Proofs.LaysC.n172 prog renA where
 mixed := by kernel_rfl
 f129 := by kernel_rfl
 f171 := by kernel_rfl
 f172 := by kernel_rfl
 f205 := by kernel_rfl
 f243 := by kernel_rfl
 f244 := by kernel_rfl
 f245 := by kernel_rfl
 f246 := by kernel_rfl
 f247 := by kernel_rfl
 f279 := by kernel_rfl
 f280 := by kernel_rfl
 f281 := by kernel_rfl
 f282 := by kernel_rfl
 f283 := by kernel_rfl
 f284 := by kernel_rfl
 f285 := by kernel_rfl
 f286 := by kernel_rfl
 f287 := by kernel_rfl
 f316 := by kernel_rfl
 f317 := by kernel_rfl
 f318 := by kernel_rfl
 f319 := by kernel_rfl
 f320 := by kernel_rfl
 f321 := by kernel_rfl
 f322 := by kernel_rfl
 f337 := by kernel_rfl
 f338 := by kernel_rfl
 t0 := underlying0
 a0 := isAgg0
 z0 := sizeOf0
 v0 := zeroValue0
 t2 := underlying2
 a2 := isAgg2
 z2 := sizeOf2
 v2 := zeroValue2
 t3 := underlying3
 a3 := isAgg3
 z3 := sizeOf3
 v3 := zeroValue3
 t4 := underlying4
 a4 := isAgg4
 z4 := sizeOf4
 v4 := zeroValue4
 t5 := underlying5
 a5 := isAgg5
 z5 := sizeOf5
 v5 := zeroValue5
 t9 := underlying9
 a9 := isAgg9
 z9 := sizeOf9
 v9 := zeroValue9
 t20 := underlying20
 a20 := isAgg20
 z20 := sizeOf20
 v20 := zeroValue20
 t21 := underlying21
 a21 := isAgg21
 z21 := sizeOf21
 v21 := zeroValue21
 t37 := underlying29
 a37 := isAgg29
 z37 := sizeOf29
 v37 := zeroValue29
 t46 := underlying106
 a46 := isAgg106
 z46 := sizeOf106
 v46 := zeroValue106
 t51 := underlying115
 a51 := isAgg115
 z51 := sizeOf115
 v51 := zeroValue115
 t53 := underlying101
 a53 := isAgg101
 z53 := sizeOf101
 v53 := zeroValue101
 t75 := underlying62
 a75 := isAgg62
 z75 := sizeOf62
 v75 := zeroValue62
 t76 := underlying63
 a76 := isAgg63
 z76 := sizeOf63
 v76 := zeroValue63
 t85 := underlying94
 a85 := isAgg94
 z85 := sizeOf94
 v85 := zeroValue94
 t127 := underlying77
 a127 := isAgg77
 z127 := sizeOf77
 v127 := zeroValue77
 t143 := underlying126
 a143 := isAgg126
 z143 := sizeOf126
 v143 := zeroValue126
 t145 := underlying128
 a145 := isAgg128
 z145 := sizeOf128
 v145 := zeroValue128
 t167 := underlying93
 a167 := isAgg93
 z167 := sizeOf93
 v167 := zeroValue93
 t168 := underlying96
 a168 := isAgg96
 z168 := sizeOf96
 v168 := zeroValue96
 t171 := underlying100
 a171 := isAgg100
 z171 := sizeOf100
 v171 := zeroValue100
 t173 := underlying104
 a173 := isAgg104
 z173 := sizeOf104
 v173 := zeroValue104
 t175 := underlying107
 a175 := isAgg107
 z175 := sizeOf107
 v175 := zeroValue107
 t210 := underlying111
 a210 := isAgg111
 z210 := sizeOf111
 v210 := zeroValue111
 t212 := underlying114
 a212 := isAgg114
 z212 := sizeOf114
 v212 := zeroValue114
 t213 := underlying116
 a213 := isAgg116
 z213 := sizeOf116
 t232 := underlying130
 a232 := isAgg130
 z232 := sizeOf130
 v232 := zeroValue130
 t233 := underlying131
 a233 := isAgg131
 z233 := sizeOf131
 v233 := zeroValue131
 g15 := by kernel_rfl
 g16 := by kernel_rfl
 g17 := by kernel_rfl
 g18 := by kernel_rfl
 g19 := by kernel_rfl
 t80 := underlying65
 a80 := isAgg65
 z80 := sizeOf65
 v80 := zeroValue65
 i0 := by kernel_rfl
 i2 := by kernel_rfl
 i3 := by kernel_rfl
 i4 := by kernel_rfl
 i5 := by kernel_rfl
 i9 := by kernel_rfl
 i20 := by kernel_rfl
 i21 := by kernel_rfl
 i37 := by kernel_rfl
 i46 := by kernel_rfl
 i51 := by kernel_rfl
 i53 := by kernel_rfl
 i75 := by kernel_rfl
 i76 := by kernel_rfl
 i80 := by kernel_rfl
 i85 := by kernel_rfl
 i127 := by kernel_rfl
 i143 := by kernel_rfl
 i145 := by kernel_rfl
 i167 := by kernel_rfl
 i168 := by kernel_rfl
 i171 := by kernel_rfl
 i173 := by kernel_rfl
 i175 := by kernel_rfl
 i210 := by kernel_rfl
 i212 := by kernel_rfl
 i232 := by kernel_rfl
 i233 := by kernel_rfl
 m15 := by kernel_rfl
 m16 := by kernel_rfl
 m17 := by kernel_rfl
 m18 := by kernel_rfl
 m19 := by kernel_rfl
 c0 := by kernel_rfl
 c2 := by kernel_rfl
 c3 := by kernel_rfl
 c4 := by kernel_rfl
 c5 := by kernel_rfl
 c9 := by kernel_rfl
 c20 := by kernel_rfl
 c21 := by kernel_rfl
 c37 := by kernel_rfl
 c46 := by kernel_rfl
 c51 := by kernel_rfl
 c53 := by kernel_rfl
 c75 := by kernel_rfl
 c76 := by kernel_rfl
 c80 := by kernel_rfl
 c85 := by kernel_rfl
 c127 := by kernel_rfl
 c143 := by kernel_rfl
 c145 := by kernel_rfl
 c167 := by kernel_rfl
 c168 := by kernel_rfl
 c171 := by kernel_rfl
 c173 := by kernel_rfl
 c175 := by kernel_rfl
 c210 := by kernel_rfl
 c212 := by kernel_rfl
 c213 := by kernel_rfl
 c232 := by kernel_rfl
 c233 := by kernel_rfl
theorem ok49 : FnOK prog 49 fs49 := atoi_ok laysA (by decide) (by decide)
theorem ent49 : Entr prog 49 := ⟨_,func49,rfl,by decide⟩
end Go.Proofs.Tryd
