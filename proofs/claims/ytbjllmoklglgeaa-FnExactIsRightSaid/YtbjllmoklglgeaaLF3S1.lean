import Derived.Test.YtbjllmoklglgeaaLF3S0
set_option linter.unusedSimpArgs false
set_option linter.unusedVariables false
namespace Go.Proofs.Try
open Go.Ab Go.RowKit
def fs39 : FnS := fnS [.o] [.call] (fun _ (c,_) => (.b (isCall c),[],True))
abbrev T39 : Tab := lk [(40,fs40)]
theorem tab39 : TabOK prog T39 := (TabOK.cons ok40 ent40 TabOK.nil)
set_option maxRecDepth 100000 in
set_option maxHeartbeats 1000000 in
theorem ok39 : FnOK prog 39 fs39 := by
 refine FnOK.mk cok func39 rfl rfl rfl ?_
 rintro fl ⟨(c : CallD),_⟩ hpre F hnt0 _
 have hnt : F.nt = 39 := hnt0.trans ntmps39
 clear hpre
 refine W.to (⟨[(0,.agg [.i c.proc,.i c.obj,.i c.kind,.i c.arg,.i c.ret,.i c.frm,.i c.to])],[],[999]⟩) rfl ?_
 refine W.K cok tab39 hnt [] [1] (⟨[(1,.ptr 1 0)],[(1,⟨38,.fix [.i c.proc,.i c.obj,.i c.kind,.i c.arg,.i c.ret,.i c.frm,.i c.to]⟩)],[1,999]⟩)
  (True ∧ True ∧ True) (by kernel_rfl)
  ⟨tt,tt,tt⟩ ?_
 refine W.K cok tab39 hnt [] [2] (⟨[(2,.b (((((((within c.proc (0 : Int) (2 : Int)) && (within c.obj (0 : Int) (1 : Int))) && (within c.kind (0 : Int) (2 : Int))) && (within c.arg (0 : Int) (3 : Int))) && (within c.ret (-1 : Int) (20 : Int))) && (within c.frm (0 : Int) (30 : Int))) && (within c.to (c.frm + (1 : Int)) (30 : Int))))],[(1,⟨38,.fix [.i c.proc,.i c.obj,.i c.kind,.i c.arg,.i c.ret,.i c.frm,.i c.to]⟩)],[1,999]⟩)
  (True ∧ True ∧ (True ∧ (True ∧ True ∧ True ∧ True) ∧ True) ∧ True ∧ ((within c.proc (0 : Int) (2 : Int)) = true → True) ∧ ((within c.proc (0 : Int) (2 : Int)) = true → (((within c.proc (0 : Int) (2 : Int)) = true) ∧ True)) ∧ ((within c.proc (0 : Int) (2 : Int)) = true → (True ∧ ((((within c.proc (0 : Int) (2 : Int)) = true) ∧ True) ∧ True ∧ True ∧ True) ∧ True)) ∧ (True ∧ ((within c.proc (0 : Int) (2 : Int)) = true → ((within c.proc (0 : Int) (2 : Int)) = true) ∧ True) ∧ ((within c.proc (0 : Int) (2 : Int)) = false → True)) ∧ True ∧ (((within c.proc (0 : Int) (2 : Int)) && (within c.obj (0 : Int) (1 : Int))) = true → True) ∧ (((within c.proc (0 : Int) (2 : Int)) && (within c.obj (0 : Int) (1 : Int))) = true → ((((within c.proc (0 : Int) (2 : Int)) && (within c.obj (0 : Int) (1 : Int))) = true) ∧ True)) ∧ (((within c.proc (0 : Int) (2 : Int)) && (within c.obj (0 : Int) (1 : Int))) = true → (True ∧ (((((within c.proc (0 : Int) (2 : Int)) && (within c.obj (0 : Int) (1 : Int))) = true) ∧ True) ∧ True ∧ True ∧ True) ∧ True)) ∧ (True ∧ (((within c.proc (0 : Int) (2 : Int)) && (within c.obj (0 : Int) (1 : Int))) = true → (((within c.proc (0 : Int) (2 : Int)) && (within c.obj (0 : Int) (1 : Int))) = true) ∧ True) ∧ (((within c.proc (0 : Int) (2 : Int)) && (within c.obj (0 : Int) (1 : Int))) = false → True)) ∧ True ∧ ((((within c.proc (0 : Int) (2 : Int)) && (within c.obj (0 : Int) (1 : Int))) && (within c.kind (0 : Int) (2 : Int))) = true → True) ∧ ((((within c.proc (0 : Int) (2 : Int)) && (within c.obj (0 : Int) (1 : Int))) && (within c.kind (0 : Int) (2 : Int))) = true → (((((within c.proc (0 : Int) (2 : Int)) && (within c.obj (0 : Int) (1 : Int))) && (within c.kind (0 : Int) (2 : Int))) = true) ∧ True)) ∧ ((((within c.proc (0 : Int) (2 : Int)) && (within c.obj (0 : Int) (1 : Int))) && (within c.kind (0 : Int) (2 : Int))) = true → (True ∧ ((((((within c.proc (0 : Int) (2 : Int)) && (within c.obj (0 : Int) (1 : Int))) && (within c.kind (0 : Int) (2 : Int))) = true) ∧ True) ∧ True ∧ True ∧ True) ∧ True)) ∧ (True ∧ ((((within c.proc (0 : Int) (2 : Int)) && (within c.obj (0 : Int) (1 : Int))) && (within c.kind (0 : Int) (2 : Int))) = true → ((((within c.proc (0 : Int) (2 : Int)) && (within c.obj (0 : Int) (1 : Int))) && (within c.kind (0 : Int) (2 : Int))) = true) ∧ True) ∧ ((((within c.proc (0 : Int) (2 : Int)) && (within c.obj (0 : Int) (1 : Int))) && (within c.kind (0 : Int) (2 : Int))) = false → True)) ∧ True ∧ (((((within c.proc (0 : Int) (2 : Int)) && (within c.obj (0 : Int) (1 : Int))) && (within c.kind (0 : Int) (2 : Int))) && (within c.arg (0 : Int) (3 : Int))) = true → True) ∧ (((((within c.proc (0 : Int) (2 : Int)) && (within c.obj (0 : Int) (1 : Int))) && (within c.kind (0 : Int) (2 : Int))) && (within c.arg (0 : Int) (3 : Int))) = true → ((((((within c.proc (0 : Int) (2 : Int)) && (within c.obj (0 : Int) (1 : Int))) && (within c.kind (0 : Int) (2 : Int))) && (within c.arg (0 : Int) (3 : Int))) = true) ∧ True)) ∧ (((((within c.proc (0 : Int) (2 : Int)) && (within c.obj (0 : Int) (1 : Int))) && (within c.kind (0 : Int) (2 : Int))) && (within c.arg (0 : Int) (3 : Int))) = true → (True ∧ (((((((within c.proc (0 : Int) (2 : Int)) && (within c.obj (0 : Int) (1 : Int))) && (within c.kind (0 : Int) (2 : Int))) && (within c.arg (0 : Int) (3 : Int))) = true) ∧ True) ∧ True ∧ True ∧ True) ∧ True)) ∧ (True ∧ (((((within c.proc (0 : Int) (2 : Int)) && (within c.obj (0 : Int) (1 : Int))) && (within c.kind (0 : Int) (2 : Int))) && (within c.arg (0 : Int) (3 : Int))) = true → (((((within c.proc (0 : Int) (2 : Int)) && (within c.obj (0 : Int) (1 : Int))) && (within c.kind (0 : Int) (2 : Int))) && (within c.arg (0 : Int) (3 : Int))) = true) ∧ True) ∧ (((((within c.proc (0 : Int) (2 : Int)) && (within c.obj (0 : Int) (1 : Int))) && (within c.kind (0 : Int) (2 : Int))) && (within c.arg (0 : Int) (3 : Int))) = false → True)) ∧ True ∧ ((((((within c.proc (0 : Int) (2 : Int)) && (within c.obj (0 : Int) (1 : Int))) && (within c.kind (0 : Int) (2 : Int))) && (within c.arg (0 : Int) (3 : Int))) && (within c.ret (-1 : Int) (20 : Int))) = true → True) ∧ ((((((within c.proc (0 : Int) (2 : Int)) && (within c.obj (0 : Int) (1 : Int))) && (within c.kind (0 : Int) (2 : Int))) && (within c.arg (0 : Int) (3 : Int))) && (within c.ret (-1 : Int) (20 : Int))) = true → (((((((within c.proc (0 : Int) (2 : Int)) && (within c.obj (0 : Int) (1 : Int))) && (within c.kind (0 : Int) (2 : Int))) && (within c.arg (0 : Int) (3 : Int))) && (within c.ret (-1 : Int) (20 : Int))) = true) ∧ True)) ∧ ((((((within c.proc (0 : Int) (2 : Int)) && (within c.obj (0 : Int) (1 : Int))) && (within c.kind (0 : Int) (2 : Int))) && (within c.arg (0 : Int) (3 : Int))) && (within c.ret (-1 : Int) (20 : Int))) = true → (True ∧ ((((((((within c.proc (0 : Int) (2 : Int)) && (within c.obj (0 : Int) (1 : Int))) && (within c.kind (0 : Int) (2 : Int))) && (within c.arg (0 : Int) (3 : Int))) && (within c.ret (-1 : Int) (20 : Int))) = true) ∧ True) ∧ True ∧ True ∧ True) ∧ True)) ∧ (True ∧ ((((((within c.proc (0 : Int) (2 : Int)) && (within c.obj (0 : Int) (1 : Int))) && (within c.kind (0 : Int) (2 : Int))) && (within c.arg (0 : Int) (3 : Int))) && (within c.ret (-1 : Int) (20 : Int))) = true → ((((((within c.proc (0 : Int) (2 : Int)) && (within c.obj (0 : Int) (1 : Int))) && (within c.kind (0 : Int) (2 : Int))) && (within c.arg (0 : Int) (3 : Int))) && (within c.ret (-1 : Int) (20 : Int))) = true) ∧ True) ∧ ((((((within c.proc (0 : Int) (2 : Int)) && (within c.obj (0 : Int) (1 : Int))) && (within c.kind (0 : Int) (2 : Int))) && (within c.arg (0 : Int) (3 : Int))) && (within c.ret (-1 : Int) (20 : Int))) = false → True)) ∧ True ∧ (((((((within c.proc (0 : Int) (2 : Int)) && (within c.obj (0 : Int) (1 : Int))) && (within c.kind (0 : Int) (2 : Int))) && (within c.arg (0 : Int) (3 : Int))) && (within c.ret (-1 : Int) (20 : Int))) && (within c.frm (0 : Int) (30 : Int))) = true → True) ∧ (((((((within c.proc (0 : Int) (2 : Int)) && (within c.obj (0 : Int) (1 : Int))) && (within c.kind (0 : Int) (2 : Int))) && (within c.arg (0 : Int) (3 : Int))) && (within c.ret (-1 : Int) (20 : Int))) && (within c.frm (0 : Int) (30 : Int))) = true → ((((((((within c.proc (0 : Int) (2 : Int)) && (within c.obj (0 : Int) (1 : Int))) && (within c.kind (0 : Int) (2 : Int))) && (within c.arg (0 : Int) (3 : Int))) && (within c.ret (-1 : Int) (20 : Int))) && (within c.frm (0 : Int) (30 : Int))) = true) ∧ True)) ∧ (((((((within c.proc (0 : Int) (2 : Int)) && (within c.obj (0 : Int) (1 : Int))) && (within c.kind (0 : Int) (2 : Int))) && (within c.arg (0 : Int) (3 : Int))) && (within c.ret (-1 : Int) (20 : Int))) && (within c.frm (0 : Int) (30 : Int))) = true → True) ∧ (((((((within c.proc (0 : Int) (2 : Int)) && (within c.obj (0 : Int) (1 : Int))) && (within c.kind (0 : Int) (2 : Int))) && (within c.arg (0 : Int) (3 : Int))) && (within c.ret (-1 : Int) (20 : Int))) && (within c.frm (0 : Int) (30 : Int))) = true → ((((((((within c.proc (0 : Int) (2 : Int)) && (within c.obj (0 : Int) (1 : Int))) && (within c.kind (0 : Int) (2 : Int))) && (within c.arg (0 : Int) (3 : Int))) && (within c.ret (-1 : Int) (20 : Int))) && (within c.frm (0 : Int) (30 : Int))) = true) ∧ True)) ∧ (((((((within c.proc (0 : Int) (2 : Int)) && (within c.obj (0 : Int) (1 : Int))) && (within c.kind (0 : Int) (2 : Int))) && (within c.arg (0 : Int) (3 : Int))) && (within c.ret (-1 : Int) (20 : Int))) && (within c.frm (0 : Int) (30 : Int))) = true → (((((((((within c.proc (0 : Int) (2 : Int)) && (within c.obj (0 : Int) (1 : Int))) && (within c.kind (0 : Int) (2 : Int))) && (within c.arg (0 : Int) (3 : Int))) && (within c.ret (-1 : Int) (20 : Int))) && (within c.frm (0 : Int) (30 : Int))) = true) ∧ True) ∧ True ∧ (Fits .i64 (c.frm + (1 : Int))))) ∧ (((((((within c.proc (0 : Int) (2 : Int)) && (within c.obj (0 : Int) (1 : Int))) && (within c.kind (0 : Int) (2 : Int))) && (within c.arg (0 : Int) (3 : Int))) && (within c.ret (-1 : Int) (20 : Int))) && (within c.frm (0 : Int) (30 : Int))) = true → (True ∧ (((((((((within c.proc (0 : Int) (2 : Int)) && (within c.obj (0 : Int) (1 : Int))) && (within c.kind (0 : Int) (2 : Int))) && (within c.arg (0 : Int) (3 : Int))) && (within c.ret (-1 : Int) (20 : Int))) && (within c.frm (0 : Int) (30 : Int))) = true) ∧ True) ∧ ((((((((within c.proc (0 : Int) (2 : Int)) && (within c.obj (0 : Int) (1 : Int))) && (within c.kind (0 : Int) (2 : Int))) && (within c.arg (0 : Int) (3 : Int))) && (within c.ret (-1 : Int) (20 : Int))) && (within c.frm (0 : Int) (30 : Int))) = true) ∧ True) ∧ True ∧ True) ∧ True)) ∧ (True ∧ (((((((within c.proc (0 : Int) (2 : Int)) && (within c.obj (0 : Int) (1 : Int))) && (within c.kind (0 : Int) (2 : Int))) && (within c.arg (0 : Int) (3 : Int))) && (within c.ret (-1 : Int) (20 : Int))) && (within c.frm (0 : Int) (30 : Int))) = true → (((((((within c.proc (0 : Int) (2 : Int)) && (within c.obj (0 : Int) (1 : Int))) && (within c.kind (0 : Int) (2 : Int))) && (within c.arg (0 : Int) (3 : Int))) && (within c.ret (-1 : Int) (20 : Int))) && (within c.frm (0 : Int) (30 : Int))) = true) ∧ True) ∧ (((((((within c.proc (0 : Int) (2 : Int)) && (within c.obj (0 : Int) (1 : Int))) && (within c.kind (0 : Int) (2 : Int))) && (within c.arg (0 : Int) (3 : Int))) && (within c.ret (-1 : Int) (20 : Int))) && (within c.frm (0 : Int) (30 : Int))) = false → True)) ∧ True ∧ True) (by kernel_rfl)
  ⟨tt,tt,⟨tt,⟨tt,tt,tt,tt⟩,tt⟩,tt,(fun _ => trivial),(fun hG => ⟨hG,tt⟩),(fun hG => ⟨tt,⟨⟨hG,tt⟩,tt,tt,tt⟩,tt⟩),⟨tt,(fun hp => ⟨hp,tt⟩),(fun _ => trivial)⟩,tt,(fun _ => trivial),(fun hG => ⟨hG,tt⟩),(fun hG => ⟨tt,⟨⟨hG,tt⟩,tt,tt,tt⟩,tt⟩),⟨tt,(fun hp => ⟨hp,tt⟩),(fun _ => trivial)⟩,tt,(fun _ => trivial),(fun hG => ⟨hG,tt⟩),(fun hG => ⟨tt,⟨⟨hG,tt⟩,tt,tt,tt⟩,tt⟩),⟨tt,(fun hp => ⟨hp,tt⟩),(fun _ => trivial)⟩,tt,(fun _ => trivial),(fun hG => ⟨hG,tt⟩),(fun hG => ⟨tt,⟨⟨hG,tt⟩,tt,tt,tt⟩,tt⟩),⟨tt,(fun hp => ⟨hp,tt⟩),(fun _ => trivial)⟩,tt,(fun _ => trivial),(fun hG => ⟨hG,tt⟩),(fun hG => ⟨tt,⟨⟨hG,tt⟩,tt,tt,tt⟩,tt⟩),⟨tt,(fun hp => ⟨hp,tt⟩),(fun _ => trivial)⟩,tt,(fun _ => trivial),(fun hG => ⟨hG,tt⟩),(fun _ => trivial),(fun hG => ⟨hG,tt⟩),(fun hG => ⟨⟨hG,tt⟩,tt,(by have hh := hG; simp only [Bool.and_eq_true,inRange_iff] at hh; exact fits_i64 (by omega) (by omega))⟩),(fun hG => ⟨tt,⟨⟨hG,tt⟩,⟨hG,tt⟩,tt,tt⟩,tt⟩),⟨tt,(fun hp => ⟨hp,tt⟩),(fun _ => trivial)⟩,tt,tt⟩ ?_
 refine W.ret ?_
 exact endQ_ret (.b (((((((within c.proc (0 : Int) (2 : Int)) && (within c.obj (0 : Int) (1 : Int))) && (within c.kind (0 : Int) (2 : Int))) && (within c.arg (0 : Int) (3 : Int))) && (within c.ret (-1 : Int) (20 : Int))) && (within c.frm (0 : Int) (30 : Int))) && (within c.to (c.frm + (1 : Int)) (30 : Int)))) (by kernel_rfl) (@cast ((.bool (((((((within c.proc (0 : Int) (2 : Int)) && (within c.obj (0 : Int) (1 : Int))) && (within c.kind (0 : Int) (2 : Int))) && (within c.arg (0 : Int) (3 : Int))) && (within c.ret (-1 : Int) (20 : Int))) && (within c.frm (0 : Int) (30 : Int))) && (within c.to (c.frm + (1 : Int)) (30 : Int))) : Value) = .bool (isCall c)) _ (by kernel_rfl) (congrArg Value.bool (by rw [validCall_eq])))
theorem ent39 : Entr prog 39 := ⟨_,func39,rfl,by decide⟩
end Go.Proofs.Try

set_option linter.unusedSimpArgs false
set_option linter.unusedVariables false
namespace Go.Proofs.Try
open Go.Ab Go.RowKit
def fs21 : FnS := fnS [.s .calls] [.calls] (fun _ (h,_) => (.b (validHistory h),[],True))
abbrev T21 : Tab := lk [(39,fs39)]
theorem tab21 : TabOK prog T21 := (TabOK.cons ok39 ent39 TabOK.nil)
set_option maxRecDepth 100000 in
set_option maxHeartbeats 1000000 in
theorem ok21 : FnOK prog 21 fs21 := by
 refine FnOK.mk cok func21 rfl rfl rfl ?_
 rintro fl ⟨(h : List CallD),_⟩ hpre F hnt0 _
 have hnt : F.nt = 112 := hnt0.trans ntmps21
 clear hpre
 refine W.to (⟨[(0,.sl (.calls h))],[],[999]⟩) rfl ?_
 refine W.lenOf 0 (.calls h) (by kernel_rfl) ?_
 intro hl_h; replace hl_h : List.length h ≤ 9223372036854775807 := hl_h
 refine W.K cok tab21 hnt [] [0] (⟨[(0,.sl (.calls h))],[],[999]⟩)
  (True ∧ True) (by kernel_rfl)
  ⟨tt,tt⟩ ?_
 refine W.seq ?_
 refine W.K cok tab21 hnt [] [0,3] (⟨[(0,.sl (.calls h)),(3,.i (0 : Int))],[],[999]⟩)
  (True ∧ True) (by kernel_rfl)
  ⟨tt,tt⟩ ?_
 refine W.block ?_
 refine W.loop (ι := Nat) (fun (i : Nat) => (⟨[(0,.sl (.calls h)),(3,.i ((i : Nat) : Int))],[],[999]⟩ : St))
  (fun (i : Nat) => (i ≤ h.length) ∧ (∀ j,j < i → (isCall (callAt h j) && allN j (fun k => !clash (callAt h j) (callAt h k))) = true))
  (fun (i : Nat) => (h.length - i : Nat)) (0) ?_ ?_ ?_
 ·exact (show (0 ≤ h.length) ∧ (∀ j,j < 0 → (isCall (callAt h j) && allN j (fun k => !clash (callAt h j) (callAt h k))) = true) from ⟨(by first | assumption | omega | rfl | (intro _ hjj; omega) | (simp; done) | (simp; omega)),(by exact upto_zero)⟩)
 ·exact Sub.of [] (@cast ((((.calls h : Dat) = .calls h) ∧ (((.int .i64 (0 : Int) : Value) = .int .i64 ((0 : Nat) : Int)) ∧ True)) ∧ (True ∧ ((true = true) ∧ (true = true)))) _ (by kernel_rfl) ⟨⟨rfl,(congrArg (Value.int .i64) (by first | rfl | omega | assumption | simp | simp_all)),tt⟩,tt,rfl,rfl⟩)
 ·rintro i hC0
  have hC : (i ≤ h.length) ∧ (∀ j,j < i → (isCall (callAt h j) && allN j (fun k => !clash (callAt h j) (callAt h k))) = true) := hC0
  clear hC0
  obtain ⟨hi,hA⟩ := hC
  refine W.to (⟨[(0,.sl (.calls h)),(3,.i ((i : Nat) : Int))],[],[999]⟩) rfl ?_
  refine W.seq ?_
  refine W.K cok tab21 hnt [] [0,3,8] (⟨[(0,.sl (.calls h)),(3,.i ((i : Nat) : Int)),(8,.b (decide (((i : Nat) : Int) < (h.length : Int))))],[],[999]⟩)
   (True ∧ True ∧ True ∧ (True ∧ True ∧ True) ∧ True) (by kernel_rfl)
   ⟨tt,tt,tt,⟨tt,tt,tt⟩,tt⟩ ?_
  refine W.ifP (((i : Nat) : Int) < (h.length : Int)) (.b (decide (((i : Nat) : Int) < (h.length : Int)))) (by kernel_rfl) rfl trivial ?_ ?_
  ·intro h8
   refine W.skip (thenQ_normal ?_)
   refine W.seq ?_
   refine W.block ?_
   refine W.seq ?_
   refine W.K cok tab21 hnt [] [0,3,16] (⟨[(0,.sl (.calls h)),(3,.i ((i : Nat) : Int)),(16,.b (!(isCall (h.getD i default))))],[],[999]⟩)
    (True ∧ True ∧ (True ∧ True ∧ (0 ≤ ((i : Nat) : Int)) ∧ (((i : Nat) : Int) < (h.length : Int))) ∧ True ∧ (True ∧ (True ∧ True) ∧ True) ∧ True ∧ True) (by kernel_rfl)
    ⟨tt,tt,⟨tt,tt,(by omega),(by omega)⟩,tt,⟨tt,⟨tt,tt⟩,tt⟩,tt,tt⟩ ?_
   refine W.if' (!(isCall (h.getD i default))) (.b (!(isCall (h.getD i default)))) (by kernel_rfl) rfl trivial ?_ ?_
   ·intro h16
    refine W.K cok tab21 hnt [] [2] (⟨[(2,.b false)],[],[999]⟩)
     (True ∧ True) (by kernel_rfl)
     ⟨tt,tt⟩ ?_
    refine W.ret (thenQ_ret (blockQ_ret (thenQ_ret (thenQ_ret (blockQ_ret (thenQ_ret ?_))))))
    exact endQ_ret (.b false) (by kernel_rfl) (@cast ((.bool false : Value) = .bool (validHistory h)) _ (by kernel_rfl) (congrArg Value.bool (by unfold validHistory; symm; exact and_fr (allN_false (i := i) (by omega) (and_fl (not_f h16))))))
   ·intro n16
    refine W.skip (thenQ_normal ?_)
    refine W.K cok tab21 hnt [] [0,3,4] (⟨[(0,.sl (.calls h)),(3,.i ((i : Nat) : Int)),(4,.i (0 : Int))],[],[999]⟩)
     (True ∧ True) (by kernel_rfl)
     ⟨tt,tt⟩ ?_
    refine W.block ?_
    refine W.loop (ι := Nat) (fun (k : Nat) => (⟨[(0,.sl (.calls h)),(3,.i ((i : Nat) : Int)),(4,.i ((k : Nat) : Int))],[],[999]⟩ : St))
     (fun (k : Nat) => (k ≤ i) ∧ (∀ j,j < k → (!clash (callAt h i) (callAt h j)) = true))
     (fun (k : Nat) => (i - k : Nat)) (0) ?_ ?_ ?_
    ·exact (show (0 ≤ i) ∧ (∀ j,j < 0 → (!clash (callAt h i) (callAt h j)) = true) from ⟨(by first | assumption | omega | rfl | (intro _ hjj; omega) | (simp; done) | (simp; omega)),(by exact upto_zero)⟩)
    ·exact Sub.of [] (@cast ((((.calls h : Dat) = .calls h) ∧ (((.int .i64 ((i : Nat) : Int) : Value) = .int .i64 ((i : Nat) : Int)) ∧ (((.int .i64 (0 : Int) : Value) = .int .i64 ((0 : Nat) : Int)) ∧ True))) ∧ (True ∧ ((true = true) ∧ (true = true)))) _ (by kernel_rfl) ⟨⟨rfl,rfl,(congrArg (Value.int .i64) (by first | rfl | omega | assumption | simp | simp_all)),tt⟩,tt,rfl,rfl⟩)
    ·rintro k hC0
     have hC : (k ≤ i) ∧ (∀ j,j < k → (!clash (callAt h i) (callAt h j)) = true) := hC0
     clear hC0
     obtain ⟨hk,hB⟩ := hC
     refine W.to (⟨[(0,.sl (.calls h)),(3,.i ((i : Nat) : Int)),(4,.i ((k : Nat) : Int))],[],[999]⟩) rfl ?_
     refine W.seq ?_
     refine W.K cok tab21 hnt [] [0,3,4,19] (⟨[(0,.sl (.calls h)),(3,.i ((i : Nat) : Int)),(4,.i ((k : Nat) : Int)),(19,.b (decide (((k : Nat) : Int) < ((i : Nat) : Int))))],[],[999]⟩)
      (True ∧ True ∧ (True ∧ True ∧ True) ∧ True) (by kernel_rfl)
      ⟨tt,tt,⟨tt,tt,tt⟩,tt⟩ ?_
     refine W.ifP (((k : Nat) : Int) < ((i : Nat) : Int)) (.b (decide (((k : Nat) : Int) < ((i : Nat) : Int)))) (by kernel_rfl) rfl trivial ?_ ?_
     ·intro h19
      refine W.skip (thenQ_normal ?_)
      refine W.seq ?_
      refine W.block ?_
      refine W.seq ?_
      refine W.KA cok tab21 hnt [] [0,3,4,71] (⟨[(0,.sl (.calls h)),(3,.i ((i : Nat) : Int)),(4,.i ((k : Nat) : Int)),(71,.b ((((decide (((h.getD k default).frm) = ((h.getD i default).frm))) || (decide (((h.getD k default).frm) = ((h.getD i default).to)))) || (decide (((h.getD k default).to) = ((h.getD i default).frm)))) || (decide (((h.getD k default).to) = ((h.getD i default).to)))))],[],[999]⟩)
       (True ∧ True ∧ (True ∧ True ∧ (0 ≤ ((k : Nat) : Int)) ∧ (((k : Nat) : Int) < (h.length : Int))) ∧ True ∧ True ∧ True ∧ True ∧ (True ∧ True ∧ (0 ≤ ((i : Nat) : Int)) ∧ (((i : Nat) : Int) < (h.length : Int))) ∧ True ∧ True ∧ (True ∧ True ∧ True) ∧ True ∧ ((!(decide (((h.getD k default).frm) = ((h.getD i default).frm)))) = true → True) ∧ ((!(decide (((h.getD k default).frm) = ((h.getD i default).frm)))) = true → True) ∧ ((!(decide (((h.getD k default).frm) = ((h.getD i default).frm)))) = true → ((((!(decide (((h.getD k default).frm) = ((h.getD i default).frm)))) = true) ∧ True) ∧ (((!(decide (((h.getD k default).frm) = ((h.getD i default).frm)))) = true) ∧ True) ∧ (0 ≤ ((k : Nat) : Int)) ∧ (((k : Nat) : Int) < (h.length : Int)))) ∧ ((!(decide (((h.getD k default).frm) = ((h.getD i default).frm)))) = true → (((!(decide (((h.getD k default).frm) = ((h.getD i default).frm)))) = true) ∧ True)) ∧ ((!(decide (((h.getD k default).frm) = ((h.getD i default).frm)))) = true → (((!(decide (((h.getD k default).frm) = ((h.getD i default).frm)))) = true) ∧ True)) ∧ ((!(decide (((h.getD k default).frm) = ((h.getD i default).frm)))) = true → True) ∧ ((!(decide (((h.getD k default).frm) = ((h.getD i default).frm)))) = true → True) ∧ ((!(decide (((h.getD k default).frm) = ((h.getD i default).frm)))) = true → ((((!(decide (((h.getD k default).frm) = ((h.getD i default).frm)))) = true) ∧ True) ∧ (((!(decide (((h.getD k default).frm) = ((h.getD i default).frm)))) = true) ∧ True) ∧ (0 ≤ ((i : Nat) : Int)) ∧ (((i : Nat) : Int) < (h.length : Int)))) ∧ ((!(decide (((h.getD k default).frm) = ((h.getD i default).frm)))) = true → (((!(decide (((h.getD k default).frm) = ((h.getD i default).frm)))) = true) ∧ True)) ∧ ((!(decide (((h.getD k default).frm) = ((h.getD i default).frm)))) = true → (((!(decide (((h.getD k default).frm) = ((h.getD i default).frm)))) = true) ∧ True)) ∧ ((!(decide (((h.getD k default).frm) = ((h.getD i default).frm)))) = true → ((((!(decide (((h.getD k default).frm) = ((h.getD i default).frm)))) = true) ∧ True) ∧ (((!(decide (((h.getD k default).frm) = ((h.getD i default).frm)))) = true) ∧ True) ∧ True)) ∧ (True ∧ ((decide (((h.getD k default).frm) = ((h.getD i default).frm))) = true → True) ∧ ((decide (((h.getD k default).frm) = ((h.getD i default).frm))) = false → ((!(decide (((h.getD k default).frm) = ((h.getD i default).frm)))) = true) ∧ True)) ∧ True ∧ ((!((decide (((h.getD k default).frm) = ((h.getD i default).frm))) || (decide (((h.getD k default).frm) = ((h.getD i default).to))))) = true → True) ∧ ((!((decide (((h.getD k default).frm) = ((h.getD i default).frm))) || (decide (((h.getD k default).frm) = ((h.getD i default).to))))) = true → True) ∧ ((!((decide (((h.getD k default).frm) = ((h.getD i default).frm))) || (decide (((h.getD k default).frm) = ((h.getD i default).to))))) = true → ((((!((decide (((h.getD k default).frm) = ((h.getD i default).frm))) || (decide (((h.getD k default).frm) = ((h.getD i default).to))))) = true) ∧ True) ∧ (((!((decide (((h.getD k default).frm) = ((h.getD i default).frm))) || (decide (((h.getD k default).frm) = ((h.getD i default).to))))) = true) ∧ True) ∧ (0 ≤ ((k : Nat) : Int)) ∧ (((k : Nat) : Int) < (h.length : Int)))) ∧ ((!((decide (((h.getD k default).frm) = ((h.getD i default).frm))) || (decide (((h.getD k default).frm) = ((h.getD i default).to))))) = true → (((!((decide (((h.getD k default).frm) = ((h.getD i default).frm))) || (decide (((h.getD k default).frm) = ((h.getD i default).to))))) = true) ∧ True)) ∧ ((!((decide (((h.getD k default).frm) = ((h.getD i default).frm))) || (decide (((h.getD k default).frm) = ((h.getD i default).to))))) = true → (((!((decide (((h.getD k default).frm) = ((h.getD i default).frm))) || (decide (((h.getD k default).frm) = ((h.getD i default).to))))) = true) ∧ True)) ∧ ((!((decide (((h.getD k default).frm) = ((h.getD i default).frm))) || (decide (((h.getD k default).frm) = ((h.getD i default).to))))) = true → True) ∧ ((!((decide (((h.getD k default).frm) = ((h.getD i default).frm))) || (decide (((h.getD k default).frm) = ((h.getD i default).to))))) = true → True) ∧ ((!((decide (((h.getD k default).frm) = ((h.getD i default).frm))) || (decide (((h.getD k default).frm) = ((h.getD i default).to))))) = true → ((((!((decide (((h.getD k default).frm) = ((h.getD i default).frm))) || (decide (((h.getD k default).frm) = ((h.getD i default).to))))) = true) ∧ True) ∧ (((!((decide (((h.getD k default).frm) = ((h.getD i default).frm))) || (decide (((h.getD k default).frm) = ((h.getD i default).to))))) = true) ∧ True) ∧ (0 ≤ ((i : Nat) : Int)) ∧ (((i : Nat) : Int) < (h.length : Int)))) ∧ ((!((decide (((h.getD k default).frm) = ((h.getD i default).frm))) || (decide (((h.getD k default).frm) = ((h.getD i default).to))))) = true → (((!((decide (((h.getD k default).frm) = ((h.getD i default).frm))) || (decide (((h.getD k default).frm) = ((h.getD i default).to))))) = true) ∧ True)) ∧ ((!((decide (((h.getD k default).frm) = ((h.getD i default).frm))) || (decide (((h.getD k default).frm) = ((h.getD i default).to))))) = true → (((!((decide (((h.getD k default).frm) = ((h.getD i default).frm))) || (decide (((h.getD k default).frm) = ((h.getD i default).to))))) = true) ∧ True)) ∧ ((!((decide (((h.getD k default).frm) = ((h.getD i default).frm))) || (decide (((h.getD k default).frm) = ((h.getD i default).to))))) = true → ((((!((decide (((h.getD k default).frm) = ((h.getD i default).frm))) || (decide (((h.getD k default).frm) = ((h.getD i default).to))))) = true) ∧ True) ∧ (((!((decide (((h.getD k default).frm) = ((h.getD i default).frm))) || (decide (((h.getD k default).frm) = ((h.getD i default).to))))) = true) ∧ True) ∧ True)) ∧ (True ∧ (((decide (((h.getD k default).frm) = ((h.getD i default).frm))) || (decide (((h.getD k default).frm) = ((h.getD i default).to)))) = true → True) ∧ (((decide (((h.getD k default).frm) = ((h.getD i default).frm))) || (decide (((h.getD k default).frm) = ((h.getD i default).to)))) = false → ((!((decide (((h.getD k default).frm) = ((h.getD i default).frm))) || (decide (((h.getD k default).frm) = ((h.getD i default).to))))) = true) ∧ True)) ∧ True ∧ ((!(((decide (((h.getD k default).frm) = ((h.getD i default).frm))) || (decide (((h.getD k default).frm) = ((h.getD i default).to)))) || (decide (((h.getD k default).to) = ((h.getD i default).frm))))) = true → True) ∧ ((!(((decide (((h.getD k default).frm) = ((h.getD i default).frm))) || (decide (((h.getD k default).frm) = ((h.getD i default).to)))) || (decide (((h.getD k default).to) = ((h.getD i default).frm))))) = true → True) ∧ ((!(((decide (((h.getD k default).frm) = ((h.getD i default).frm))) || (decide (((h.getD k default).frm) = ((h.getD i default).to)))) || (decide (((h.getD k default).to) = ((h.getD i default).frm))))) = true → ((((!(((decide (((h.getD k default).frm) = ((h.getD i default).frm))) || (decide (((h.getD k default).frm) = ((h.getD i default).to)))) || (decide (((h.getD k default).to) = ((h.getD i default).frm))))) = true) ∧ True) ∧ (((!(((decide (((h.getD k default).frm) = ((h.getD i default).frm))) || (decide (((h.getD k default).frm) = ((h.getD i default).to)))) || (decide (((h.getD k default).to) = ((h.getD i default).frm))))) = true) ∧ True) ∧ (0 ≤ ((k : Nat) : Int)) ∧ (((k : Nat) : Int) < (h.length : Int)))) ∧ ((!(((decide (((h.getD k default).frm) = ((h.getD i default).frm))) || (decide (((h.getD k default).frm) = ((h.getD i default).to)))) || (decide (((h.getD k default).to) = ((h.getD i default).frm))))) = true → (((!(((decide (((h.getD k default).frm) = ((h.getD i default).frm))) || (decide (((h.getD k default).frm) = ((h.getD i default).to)))) || (decide (((h.getD k default).to) = ((h.getD i default).frm))))) = true) ∧ True)) ∧ ((!(((decide (((h.getD k default).frm) = ((h.getD i default).frm))) || (decide (((h.getD k default).frm) = ((h.getD i default).to)))) || (decide (((h.getD k default).to) = ((h.getD i default).frm))))) = true → (((!(((decide (((h.getD k default).frm) = ((h.getD i default).frm))) || (decide (((h.getD k default).frm) = ((h.getD i default).to)))) || (decide (((h.getD k default).to) = ((h.getD i default).frm))))) = true) ∧ True)) ∧ ((!(((decide (((h.getD k default).frm) = ((h.getD i default).frm))) || (decide (((h.getD k default).frm) = ((h.getD i default).to)))) || (decide (((h.getD k default).to) = ((h.getD i default).frm))))) = true → True) ∧ ((!(((decide (((h.getD k default).frm) = ((h.getD i default).frm))) || (decide (((h.getD k default).frm) = ((h.getD i default).to)))) || (decide (((h.getD k default).to) = ((h.getD i default).frm))))) = true → True) ∧ ((!(((decide (((h.getD k default).frm) = ((h.getD i default).frm))) || (decide (((h.getD k default).frm) = ((h.getD i default).to)))) || (decide (((h.getD k default).to) = ((h.getD i default).frm))))) = true → ((((!(((decide (((h.getD k default).frm) = ((h.getD i default).frm))) || (decide (((h.getD k default).frm) = ((h.getD i default).to)))) || (decide (((h.getD k default).to) = ((h.getD i default).frm))))) = true) ∧ True) ∧ (((!(((decide (((h.getD k default).frm) = ((h.getD i default).frm))) || (decide (((h.getD k default).frm) = ((h.getD i default).to)))) || (decide (((h.getD k default).to) = ((h.getD i default).frm))))) = true) ∧ True) ∧ (0 ≤ ((i : Nat) : Int)) ∧ (((i : Nat) : Int) < (h.length : Int)))) ∧ ((!(((decide (((h.getD k default).frm) = ((h.getD i default).frm))) || (decide (((h.getD k default).frm) = ((h.getD i default).to)))) || (decide (((h.getD k default).to) = ((h.getD i default).frm))))) = true → (((!(((decide (((h.getD k default).frm) = ((h.getD i default).frm))) || (decide (((h.getD k default).frm) = ((h.getD i default).to)))) || (decide (((h.getD k default).to) = ((h.getD i default).frm))))) = true) ∧ True)) ∧ ((!(((decide (((h.getD k default).frm) = ((h.getD i default).frm))) || (decide (((h.getD k default).frm) = ((h.getD i default).to)))) || (decide (((h.getD k default).to) = ((h.getD i default).frm))))) = true → (((!(((decide (((h.getD k default).frm) = ((h.getD i default).frm))) || (decide (((h.getD k default).frm) = ((h.getD i default).to)))) || (decide (((h.getD k default).to) = ((h.getD i default).frm))))) = true) ∧ True)) ∧ ((!(((decide (((h.getD k default).frm) = ((h.getD i default).frm))) || (decide (((h.getD k default).frm) = ((h.getD i default).to)))) || (decide (((h.getD k default).to) = ((h.getD i default).frm))))) = true → ((((!(((decide (((h.getD k default).frm) = ((h.getD i default).frm))) || (decide (((h.getD k default).frm) = ((h.getD i default).to)))) || (decide (((h.getD k default).to) = ((h.getD i default).frm))))) = true) ∧ True) ∧ (((!(((decide (((h.getD k default).frm) = ((h.getD i default).frm))) || (decide (((h.getD k default).frm) = ((h.getD i default).to)))) || (decide (((h.getD k default).to) = ((h.getD i default).frm))))) = true) ∧ True) ∧ True)) ∧ (True ∧ ((((decide (((h.getD k default).frm) = ((h.getD i default).frm))) || (decide (((h.getD k default).frm) = ((h.getD i default).to)))) || (decide (((h.getD k default).to) = ((h.getD i default).frm)))) = true → True) ∧ ((((decide (((h.getD k default).frm) = ((h.getD i default).frm))) || (decide (((h.getD k default).frm) = ((h.getD i default).to)))) || (decide (((h.getD k default).to) = ((h.getD i default).frm)))) = false → ((!(((decide (((h.getD k default).frm) = ((h.getD i default).frm))) || (decide (((h.getD k default).frm) = ((h.getD i default).to)))) || (decide (((h.getD k default).to) = ((h.getD i default).frm))))) = true) ∧ True)) ∧ True) (by kernel_rfl) (by kernel_rfl)
       ⟨tt,tt,⟨tt,tt,(by omega),(by omega)⟩,tt,tt,tt,tt,⟨tt,tt,(by omega),(by omega)⟩,tt,tt,⟨tt,tt,tt⟩,tt,(fun _ => trivial),(fun _ => trivial),(fun hG => ⟨⟨hG,tt⟩,⟨hG,tt⟩,(by have hg0 : ¬ (((h.getD k default).frm) = ((h.getD i default).frm)) := of_decide_eq_false (not_f hG); omega),(by have hg0 : ¬ (((h.getD k default).frm) = ((h.getD i default).frm)) := of_decide_eq_false (not_f hG); omega)⟩),(fun hG => ⟨hG,tt⟩),(fun hG => ⟨hG,tt⟩),(fun _ => trivial),(fun _ => trivial),(fun hG => ⟨⟨hG,tt⟩,⟨hG,tt⟩,(by have hg0 : ¬ (((h.getD k default).frm) = ((h.getD i default).frm)) := of_decide_eq_false (not_f hG); omega),(by have hg0 : ¬ (((h.getD k default).frm) = ((h.getD i default).frm)) := of_decide_eq_false (not_f hG); omega)⟩),(fun hG => ⟨hG,tt⟩),(fun hG => ⟨hG,tt⟩),(fun hG => ⟨⟨hG,tt⟩,⟨hG,tt⟩,tt⟩),⟨tt,(fun _ => trivial),(fun hp => ⟨(not_t hp),tt⟩)⟩,tt,(fun _ => trivial),(fun _ => trivial),(fun hG => ⟨⟨hG,tt⟩,⟨hG,tt⟩,(by have hg0 : ¬ (((h.getD k default).frm) = ((h.getD i default).frm)) := of_decide_eq_false (or_l (not_f hG)); have hg1 : ¬ (((h.getD k default).frm) = ((h.getD i default).to)) := of_decide_eq_false (or_r (not_f hG)); omega),(by have hg0 : ¬ (((h.getD k default).frm) = ((h.getD i default).frm)) := of_decide_eq_false (or_l (not_f hG)); have hg1 : ¬ (((h.getD k default).frm) = ((h.getD i default).to)) := of_decide_eq_false (or_r (not_f hG)); omega)⟩),(fun hG => ⟨hG,tt⟩),(fun hG => ⟨hG,tt⟩),(fun _ => trivial),(fun _ => trivial),(fun hG => ⟨⟨hG,tt⟩,⟨hG,tt⟩,(by have hg0 : ¬ (((h.getD k default).frm) = ((h.getD i default).frm)) := of_decide_eq_false (or_l (not_f hG)); have hg1 : ¬ (((h.getD k default).frm) = ((h.getD i default).to)) := of_decide_eq_false (or_r (not_f hG)); omega),(by have hg0 : ¬ (((h.getD k default).frm) = ((h.getD i default).frm)) := of_decide_eq_false (or_l (not_f hG)); have hg1 : ¬ (((h.getD k default).frm) = ((h.getD i default).to)) := of_decide_eq_false (or_r (not_f hG)); omega)⟩),(fun hG => ⟨hG,tt⟩),(fun hG => ⟨hG,tt⟩),(fun hG => ⟨⟨hG,tt⟩,⟨hG,tt⟩,tt⟩),⟨tt,(fun _ => trivial),(fun hp => ⟨(not_t hp),tt⟩)⟩,tt,(fun _ => trivial),(fun _ => trivial),(fun hG => ⟨⟨hG,tt⟩,⟨hG,tt⟩,(by have hg0 : ¬ (((h.getD k default).frm) = ((h.getD i default).frm)) := of_decide_eq_false (or_l (or_l (not_f hG))); have hg1 : ¬ (((h.getD k default).frm) = ((h.getD i default).to)) := of_decide_eq_false (or_r (or_l (not_f hG))); have hg2 : ¬ (((h.getD k default).to) = ((h.getD i default).frm)) := of_decide_eq_false (or_r (not_f hG)); omega),(by have hg0 : ¬ (((h.getD k default).frm) = ((h.getD i default).frm)) := of_decide_eq_false (or_l (or_l (not_f hG))); have hg1 : ¬ (((h.getD k default).frm) = ((h.getD i default).to)) := of_decide_eq_false (or_r (or_l (not_f hG))); have hg2 : ¬ (((h.getD k default).to) = ((h.getD i default).frm)) := of_decide_eq_false (or_r (not_f hG)); omega)⟩),(fun hG => ⟨hG,tt⟩),(fun hG => ⟨hG,tt⟩),(fun _ => trivial),(fun _ => trivial),(fun hG => ⟨⟨hG,tt⟩,⟨hG,tt⟩,(by have hg0 : ¬ (((h.getD k default).frm) = ((h.getD i default).frm)) := of_decide_eq_false (or_l (or_l (not_f hG))); have hg1 : ¬ (((h.getD k default).frm) = ((h.getD i default).to)) := of_decide_eq_false (or_r (or_l (not_f hG))); have hg2 : ¬ (((h.getD k default).to) = ((h.getD i default).frm)) := of_decide_eq_false (or_r (not_f hG)); omega),(by have hg0 : ¬ (((h.getD k default).frm) = ((h.getD i default).frm)) := of_decide_eq_false (or_l (or_l (not_f hG))); have hg1 : ¬ (((h.getD k default).frm) = ((h.getD i default).to)) := of_decide_eq_false (or_r (or_l (not_f hG))); have hg2 : ¬ (((h.getD k default).to) = ((h.getD i default).frm)) := of_decide_eq_false (or_r (not_f hG)); omega)⟩),(fun hG => ⟨hG,tt⟩),(fun hG => ⟨hG,tt⟩),(fun hG => ⟨⟨hG,tt⟩,⟨hG,tt⟩,tt⟩),⟨tt,(fun _ => trivial),(fun hp => ⟨(not_t hp),tt⟩)⟩,tt⟩ ?_
      refine W.if' ((((decide (((h.getD k default).frm) = ((h.getD i default).frm))) || (decide (((h.getD k default).frm) = ((h.getD i default).to)))) || (decide (((h.getD k default).to) = ((h.getD i default).frm)))) || (decide (((h.getD k default).to) = ((h.getD i default).to)))) (.b ((((decide (((h.getD k default).frm) = ((h.getD i default).frm))) || (decide (((h.getD k default).frm) = ((h.getD i default).to)))) || (decide (((h.getD k default).to) = ((h.getD i default).frm)))) || (decide (((h.getD k default).to) = ((h.getD i default).to))))) (by kernel_rfl) rfl trivial ?_ ?_
      ·intro h71
       refine W.K cok tab21 hnt [] [2] (⟨[(2,.b false)],[],[999]⟩)
        (True ∧ True) (by kernel_rfl)
        ⟨tt,tt⟩ ?_
       refine W.ret (thenQ_ret (blockQ_ret (thenQ_ret (thenQ_ret (blockQ_ret (blockQ_ret (thenQ_ret (thenQ_ret (blockQ_ret (thenQ_ret ?_))))))))))
       exact endQ_ret (.b false) (by kernel_rfl) (@cast ((.bool false : Value) = .bool (validHistory h)) _ (by kernel_rfl) (congrArg Value.bool (by unfold validHistory; symm; exact and_fr (allN_false (i := i) (by omega) (and_fr (allN_false (i := k) (by omega) (clash_true1 h71)))))))
      ·intro n71
       have n71_0 : ¬ (((h.getD k default).frm) = ((h.getD i default).frm)) := of_decide_eq_false (or_l (or_l (or_l n71)))
       have n71_1 : ¬ (((h.getD k default).frm) = ((h.getD i default).to)) := of_decide_eq_false (or_r (or_l (or_l n71)))
       have n71_2 : ¬ (((h.getD k default).to) = ((h.getD i default).frm)) := of_decide_eq_false (or_r (or_l n71))
       have n71_3 : ¬ (((h.getD k default).to) = ((h.getD i default).to)) := of_decide_eq_false (or_r n71)
       refine W.skip (thenQ_normal ?_)
       refine W.KA cok tab21 hnt [] [0,3,4,108] (⟨[(0,.sl (.calls h)),(3,.i ((i : Nat) : Int)),(4,.i ((k : Nat) : Int)),(108,.b (((decide (((h.getD k default).proc) = ((h.getD i default).proc))) && (decide (((h.getD i default).frm) < ((h.getD k default).to)))) && (decide (((h.getD k default).frm) < ((h.getD i default).to)))))],[],[999]⟩)
        (True ∧ True ∧ (True ∧ True ∧ (0 ≤ ((k : Nat) : Int)) ∧ (((k : Nat) : Int) < (h.length : Int))) ∧ True ∧ True ∧ True ∧ True ∧ (True ∧ True ∧ (0 ≤ ((i : Nat) : Int)) ∧ (((i : Nat) : Int) < (h.length : Int))) ∧ True ∧ True ∧ (True ∧ True ∧ True) ∧ True ∧ ((decide (((h.getD k default).proc) = ((h.getD i default).proc))) = true → True) ∧ ((decide (((h.getD k default).proc) = ((h.getD i default).proc))) = true → True) ∧ ((decide (((h.getD k default).proc) = ((h.getD i default).proc))) = true → ((((decide (((h.getD k default).proc) = ((h.getD i default).proc))) = true) ∧ True) ∧ (((decide (((h.getD k default).proc) = ((h.getD i default).proc))) = true) ∧ True) ∧ (0 ≤ ((k : Nat) : Int)) ∧ (((k : Nat) : Int) < (h.length : Int)))) ∧ ((decide (((h.getD k default).proc) = ((h.getD i default).proc))) = true → (((decide (((h.getD k default).proc) = ((h.getD i default).proc))) = true) ∧ True)) ∧ ((decide (((h.getD k default).proc) = ((h.getD i default).proc))) = true → (((decide (((h.getD k default).proc) = ((h.getD i default).proc))) = true) ∧ True)) ∧ ((decide (((h.getD k default).proc) = ((h.getD i default).proc))) = true → True) ∧ ((decide (((h.getD k default).proc) = ((h.getD i default).proc))) = true → True) ∧ ((decide (((h.getD k default).proc) = ((h.getD i default).proc))) = true → ((((decide (((h.getD k default).proc) = ((h.getD i default).proc))) = true) ∧ True) ∧ (((decide (((h.getD k default).proc) = ((h.getD i default).proc))) = true) ∧ True) ∧ (0 ≤ ((i : Nat) : Int)) ∧ (((i : Nat) : Int) < (h.length : Int)))) ∧ ((decide (((h.getD k default).proc) = ((h.getD i default).proc))) = true → (((decide (((h.getD k default).proc) = ((h.getD i default).proc))) = true) ∧ True)) ∧ ((decide (((h.getD k default).proc) = ((h.getD i default).proc))) = true → (((decide (((h.getD k default).proc) = ((h.getD i default).proc))) = true) ∧ True)) ∧ ((decide (((h.getD k default).proc) = ((h.getD i default).proc))) = true → ((((decide (((h.getD k default).proc) = ((h.getD i default).proc))) = true) ∧ True) ∧ (((decide (((h.getD k default).proc) = ((h.getD i default).proc))) = true) ∧ True) ∧ True)) ∧ (True ∧ ((decide (((h.getD k default).proc) = ((h.getD i default).proc))) = true → ((decide (((h.getD k default).proc) = ((h.getD i default).proc))) = true) ∧ True) ∧ ((decide (((h.getD k default).proc) = ((h.getD i default).proc))) = false → True)) ∧ True ∧ (((decide (((h.getD k default).proc) = ((h.getD i default).proc))) && (decide (((h.getD i default).frm) < ((h.getD k default).to)))) = true → True) ∧ (((decide (((h.getD k default).proc) = ((h.getD i default).proc))) && (decide (((h.getD i default).frm) < ((h.getD k default).to)))) = true → True) ∧ (((decide (((h.getD k default).proc) = ((h.getD i default).proc))) && (decide (((h.getD i default).frm) < ((h.getD k default).to)))) = true → (((((decide (((h.getD k default).proc) = ((h.getD i default).proc))) && (decide (((h.getD i default).frm) < ((h.getD k default).to)))) = true) ∧ True) ∧ ((((decide (((h.getD k default).proc) = ((h.getD i default).proc))) && (decide (((h.getD i default).frm) < ((h.getD k default).to)))) = true) ∧ True) ∧ (0 ≤ ((i : Nat) : Int)) ∧ (((i : Nat) : Int) < (h.length : Int)))) ∧ (((decide (((h.getD k default).proc) = ((h.getD i default).proc))) && (decide (((h.getD i default).frm) < ((h.getD k default).to)))) = true → ((((decide (((h.getD k default).proc) = ((h.getD i default).proc))) && (decide (((h.getD i default).frm) < ((h.getD k default).to)))) = true) ∧ True)) ∧ (((decide (((h.getD k default).proc) = ((h.getD i default).proc))) && (decide (((h.getD i default).frm) < ((h.getD k default).to)))) = true → ((((decide (((h.getD k default).proc) = ((h.getD i default).proc))) && (decide (((h.getD i default).frm) < ((h.getD k default).to)))) = true) ∧ True)) ∧ (((decide (((h.getD k default).proc) = ((h.getD i default).proc))) && (decide (((h.getD i default).frm) < ((h.getD k default).to)))) = true → True) ∧ (((decide (((h.getD k default).proc) = ((h.getD i default).proc))) && (decide (((h.getD i default).frm) < ((h.getD k default).to)))) = true → True) ∧ (((decide (((h.getD k default).proc) = ((h.getD i default).proc))) && (decide (((h.getD i default).frm) < ((h.getD k default).to)))) = true → (((((decide (((h.getD k default).proc) = ((h.getD i default).proc))) && (decide (((h.getD i default).frm) < ((h.getD k default).to)))) = true) ∧ True) ∧ ((((decide (((h.getD k default).proc) = ((h.getD i default).proc))) && (decide (((h.getD i default).frm) < ((h.getD k default).to)))) = true) ∧ True) ∧ (0 ≤ ((k : Nat) : Int)) ∧ (((k : Nat) : Int) < (h.length : Int)))) ∧ (((decide (((h.getD k default).proc) = ((h.getD i default).proc))) && (decide (((h.getD i default).frm) < ((h.getD k default).to)))) = true → ((((decide (((h.getD k default).proc) = ((h.getD i default).proc))) && (decide (((h.getD i default).frm) < ((h.getD k default).to)))) = true) ∧ True)) ∧ (((decide (((h.getD k default).proc) = ((h.getD i default).proc))) && (decide (((h.getD i default).frm) < ((h.getD k default).to)))) = true → ((((decide (((h.getD k default).proc) = ((h.getD i default).proc))) && (decide (((h.getD i default).frm) < ((h.getD k default).to)))) = true) ∧ True)) ∧ (((decide (((h.getD k default).proc) = ((h.getD i default).proc))) && (decide (((h.getD i default).frm) < ((h.getD k default).to)))) = true → (((((decide (((h.getD k default).proc) = ((h.getD i default).proc))) && (decide (((h.getD i default).frm) < ((h.getD k default).to)))) = true) ∧ True) ∧ ((((decide (((h.getD k default).proc) = ((h.getD i default).proc))) && (decide (((h.getD i default).frm) < ((h.getD k default).to)))) = true) ∧ True) ∧ True)) ∧ (True ∧ (((decide (((h.getD k default).proc) = ((h.getD i default).proc))) && (decide (((h.getD i default).frm) < ((h.getD k default).to)))) = true → (((decide (((h.getD k default).proc) = ((h.getD i default).proc))) && (decide (((h.getD i default).frm) < ((h.getD k default).to)))) = true) ∧ True) ∧ (((decide (((h.getD k default).proc) = ((h.getD i default).proc))) && (decide (((h.getD i default).frm) < ((h.getD k default).to)))) = false → True)) ∧ True) (by kernel_rfl) (by kernel_rfl)
        ⟨tt,tt,⟨tt,tt,(by omega),(by omega)⟩,tt,tt,tt,tt,⟨tt,tt,(by omega),(by omega)⟩,tt,tt,⟨tt,tt,tt⟩,tt,(fun _ => trivial),(fun _ => trivial),(fun hG => ⟨⟨hG,tt⟩,⟨hG,tt⟩,(by have hg0 : ((h.getD k default).proc) = ((h.getD i default).proc) := of_decide_eq_true hG; omega),(by have hg0 : ((h.getD k default).proc) = ((h.getD i default).proc) := of_decide_eq_true hG; omega)⟩),(fun hG => ⟨hG,tt⟩),(fun hG => ⟨hG,tt⟩),(fun _ => trivial),(fun _ => trivial),(fun hG => ⟨⟨hG,tt⟩,⟨hG,tt⟩,(by have hg0 : ((h.getD k default).proc) = ((h.getD i default).proc) := of_decide_eq_true hG; omega),(by have hg0 : ((h.getD k default).proc) = ((h.getD i default).proc) := of_decide_eq_true hG; omega)⟩),(fun hG => ⟨hG,tt⟩),(fun hG => ⟨hG,tt⟩),(fun hG => ⟨⟨hG,tt⟩,⟨hG,tt⟩,tt⟩),⟨tt,(fun hp => ⟨hp,tt⟩),(fun _ => trivial)⟩,tt,(fun _ => trivial),(fun _ => trivial),(fun hG => ⟨⟨hG,tt⟩,⟨hG,tt⟩,(by have hg0 : ((h.getD k default).proc) = ((h.getD i default).proc) := of_decide_eq_true (and_l hG); have hg1 : ((h.getD i default).frm) < ((h.getD k default).to) := of_decide_eq_true (and_r hG); omega),(by have hg0 : ((h.getD k default).proc) = ((h.getD i default).proc) := of_decide_eq_true (and_l hG); have hg1 : ((h.getD i default).frm) < ((h.getD k default).to) := of_decide_eq_true (and_r hG); omega)⟩),(fun hG => ⟨hG,tt⟩),(fun hG => ⟨hG,tt⟩),(fun _ => trivial),(fun _ => trivial),(fun hG => ⟨⟨hG,tt⟩,⟨hG,tt⟩,(by have hg0 : ((h.getD k default).proc) = ((h.getD i default).proc) := of_decide_eq_true (and_l hG); have hg1 : ((h.getD i default).frm) < ((h.getD k default).to) := of_decide_eq_true (and_r hG); omega),(by have hg0 : ((h.getD k default).proc) = ((h.getD i default).proc) := of_decide_eq_true (and_l hG); have hg1 : ((h.getD i default).frm) < ((h.getD k default).to) := of_decide_eq_true (and_r hG); omega)⟩),(fun hG => ⟨hG,tt⟩),(fun hG => ⟨hG,tt⟩),(fun hG => ⟨⟨hG,tt⟩,⟨hG,tt⟩,tt⟩),⟨tt,(fun hp => ⟨hp,tt⟩),(fun _ => trivial)⟩,tt⟩ ?_
       refine W.if' (((decide (((h.getD k default).proc) = ((h.getD i default).proc))) && (decide (((h.getD i default).frm) < ((h.getD k default).to)))) && (decide (((h.getD k default).frm) < ((h.getD i default).to)))) (.b (((decide (((h.getD k default).proc) = ((h.getD i default).proc))) && (decide (((h.getD i default).frm) < ((h.getD k default).to)))) && (decide (((h.getD k default).frm) < ((h.getD i default).to))))) (by kernel_rfl) rfl trivial ?_ ?_
       ·intro h108
        have h108_0 : ((h.getD k default).proc) = ((h.getD i default).proc) := of_decide_eq_true (and_l (and_l h108))
        have h108_1 : ((h.getD i default).frm) < ((h.getD k default).to) := of_decide_eq_true (and_r (and_l h108))
        have h108_2 : ((h.getD k default).frm) < ((h.getD i default).to) := of_decide_eq_true (and_r h108)
        refine W.K cok tab21 hnt [] [2] (⟨[(2,.b false)],[],[999]⟩)
         (True ∧ True) (by kernel_rfl)
         ⟨tt,tt⟩ ?_
        refine W.ret (blockQ_ret (thenQ_ret (thenQ_ret (blockQ_ret (blockQ_ret (thenQ_ret (thenQ_ret (blockQ_ret (thenQ_ret ?_)))))))))
        exact endQ_ret (.b false) (by kernel_rfl) (@cast ((.bool false : Value) = .bool (validHistory h)) _ (by kernel_rfl) (congrArg Value.bool (by unfold validHistory; symm; exact and_fr (allN_false (i := i) (by omega) (and_fr (allN_false (i := k) (by omega) (clash_true2 h108)))))))
       ·intro n108
        refine W.skip (blockQ_normal (thenQ_normal ?_))
        refine W.L cok tab21 hnt [] (⟨[(0,.sl (.calls h)),(3,.i ((i : Nat) : Int)),(4,.i (((k + 1) : Nat) : Int)),(20,.i ((k : Nat) : Int)),(21,.i (((k + 1) : Nat) : Int)),(108,.b (((decide (((h.getD k default).proc) = ((h.getD i default).proc))) && (decide (((h.getD i default).frm) < ((h.getD k default).to)))) && (decide (((h.getD k default).frm) < ((h.getD i default).to)))))],[],[999]⟩)
         (True ∧ (True ∧ True ∧ (Fits .i64 (((k + 1) : Nat) : Int))) ∧ True ∧ True) (by kernel_rfl)
         ⟨tt,⟨tt,tt,(by exact fits_i64 (by omega) (by omega))⟩,tt,tt⟩ ?_
        refine thenQ_normal ?_
        refine ⟨((k + 1)),(show ((k + 1) ≤ i) ∧ (∀ j,j < (k + 1) → (!clash (callAt h i) (callAt h j)) = true) from ⟨(by first | assumption | omega | rfl | (intro _ hjj; omega) | (simp; done) | (simp; omega)),(by exact upto_succ hB (clash_false n71 n108))⟩),(show i - (k + 1) < i - k from (by first | omega | (simp_all; omega))),?_⟩
        exact Sub.of [] (@cast ((((.calls h : Dat) = .calls h) ∧ (((.int .i64 ((i : Nat) : Int) : Value) = .int .i64 ((i : Nat) : Int)) ∧ (((.int .i64 (((k + 1) : Nat) : Int) : Value) = .int .i64 (((k + 1) : Nat) : Int)) ∧ True))) ∧ (True ∧ ((true = true) ∧ (true = true)))) _ (by kernel_rfl) ⟨⟨rfl,rfl,rfl,tt⟩,tt,rfl,rfl⟩)
     ·intro n19
      refine W.exit (thenQ_exit (thenQ_exit (blockQ_hit ?_)))
      refine blockQ_normal (thenQ_normal ?_)
      refine W.L cok tab21 hnt [] (⟨[(0,.sl (.calls h)),(3,.i (((i + 1) : Nat) : Int)),(4,.i ((k : Nat) : Int)),(9,.i ((i : Nat) : Int)),(10,.i (((i + 1) : Nat) : Int)),(19,.b (decide (((k : Nat) : Int) < ((i : Nat) : Int))))],[],[999]⟩)
       (True ∧ (True ∧ True ∧ (Fits .i64 (((i + 1) : Nat) : Int))) ∧ True ∧ True) (by kernel_rfl)
       ⟨tt,⟨tt,tt,(by exact fits_i64 (by omega) (by omega))⟩,tt,tt⟩ ?_
      refine thenQ_normal ?_
      refine ⟨((i + 1)),(show ((i + 1) ≤ h.length) ∧ (∀ j,j < (i + 1) → (isCall (callAt h j) && allN j (fun k => !clash (callAt h j) (callAt h k))) = true) from ⟨(by first | assumption | omega | rfl | (intro _ hjj; omega) | (simp; done) | (simp; omega)),(by exact upto_succ hA (and_t (not_g n16) (allN_true (fun j hj => hB j (by omega)))))⟩),(show h.length - (i + 1) < h.length - i from (by first | omega | (simp_all; omega))),?_⟩
      exact Sub.of [] (@cast ((((.calls h : Dat) = .calls h) ∧ (((.int .i64 (((i + 1) : Nat) : Int) : Value) = .int .i64 (((i + 1) : Nat) : Int)) ∧ True)) ∧ (True ∧ ((true = true) ∧ (true = true)))) _ (by kernel_rfl) ⟨⟨rfl,rfl,tt⟩,tt,rfl,rfl⟩)
  ·intro n8
   refine W.exit (thenQ_exit (thenQ_exit (blockQ_hit ?_)))
   refine thenQ_normal ?_
   refine W.K cok tab21 hnt [] [2] (⟨[(2,.b (decide ((h.length : Int) ≤ (6 : Int))))],[],[999]⟩)
    (True ∧ True ∧ (True ∧ True ∧ True) ∧ True ∧ True) (by kernel_rfl)
    ⟨tt,tt,⟨tt,tt,tt⟩,tt,tt⟩ ?_
   refine W.ret ?_
   exact endQ_ret (.b (decide ((h.length : Int) ≤ (6 : Int)))) (by kernel_rfl) (@cast ((.bool (decide ((h.length : Int) ≤ (6 : Int))) : Value) = .bool (validHistory h)) _ (by kernel_rfl) (congrArg Value.bool (by unfold validHistory; symm; rw [allN_true (fun j hj => hA j (by omega)),Bool.and_true]; exact bool_ext (by simp only [decide_eq_true_eq]; omega))))
theorem ent21 : Entr prog 21 := ⟨_,func21,rfl,by decide⟩
end Go.Proofs.Try

set_option linter.unusedSimpArgs false
set_option linter.unusedVariables false
namespace Go.Proofs.Try
open Go.Ab Go.RowKit
def fs41 : FnS := fnS [.s .ints,.o] [.ints,.int] (fun _ (l,n,_) => (.b (hasInt l n),[],True))
abbrev T41 : Tab := lk []
theorem tab41 : TabOK prog T41 := TabOK.nil
set_option maxRecDepth 100000 in
set_option maxHeartbeats 1000000 in
theorem ok41 : FnOK prog 41 fs41 := by
 refine FnOK.mk cok func41 rfl rfl rfl ?_
 rintro fl ⟨(l : List Int),(n : Int),_⟩ hpre F hnt0 _
 have hnt : F.nt = 18 := hnt0.trans ntmps41
 clear hpre
 refine W.to (⟨[(0,.sl (.ints l)),(1,.i n)],[],[999]⟩) rfl ?_
 refine W.lenOf 0 (.ints l) (by kernel_rfl) ?_
 intro hl_l; replace hl_l : List.length l ≤ 9223372036854775807 := hl_l
 refine W.K cok tab41 hnt [] [0,1] (⟨[(0,.sl (.ints l)),(1,.i n)],[],[999]⟩)
  (True ∧ True) (by kernel_rfl)
  ⟨tt,tt⟩ ?_
 refine W.seq ?_
 refine W.K cok tab41 hnt [] [0,1,5] (⟨[(0,.sl (.ints l)),(1,.i n),(5,.i (0 : Int))],[],[999]⟩)
  (True ∧ True) (by kernel_rfl)
  ⟨tt,tt⟩ ?_
 refine W.block ?_
 refine W.loop (ι := Nat) (fun (i : Nat) => (⟨[(0,.sl (.ints l)),(1,.i n),(5,.i ((i : Nat) : Int))],[],[999]⟩ : St))
  (fun (i : Nat) => (i ≤ l.length) ∧ (∀ j,j < i → decide (l.getD j 0 = n) = false))
  (fun (i : Nat) => (l.length - i : Nat)) (0) ?_ ?_ ?_
 ·exact (show (0 ≤ l.length) ∧ (∀ j,j < 0 → decide (l.getD j 0 = n) = false) from ⟨(by first | assumption | omega | rfl | (intro _ hjj; omega) | (simp; done) | (simp; omega)),(by exact upto_zero)⟩)
 ·exact Sub.of [] (@cast ((((.ints l : Dat) = .ints l) ∧ (((.int .i64 n : Value) = .int .i64 n) ∧ (((.int .i64 (0 : Int) : Value) = .int .i64 ((0 : Nat) : Int)) ∧ True))) ∧ (True ∧ ((true = true) ∧ (true = true)))) _ (by kernel_rfl) ⟨⟨rfl,rfl,(congrArg (Value.int .i64) (by first | rfl | omega | assumption | simp | simp_all)),tt⟩,tt,rfl,rfl⟩)
 ·rintro i hC0
  have hC : (i ≤ l.length) ∧ (∀ j,j < i → decide (l.getD j 0 = n) = false) := hC0
  clear hC0
  obtain ⟨hi,hA⟩ := hC
  refine W.to (⟨[(0,.sl (.ints l)),(1,.i n),(5,.i ((i : Nat) : Int))],[],[999]⟩) rfl ?_
  refine W.seq ?_
  refine W.K cok tab41 hnt [] [0,1,5,9] (⟨[(0,.sl (.ints l)),(1,.i n),(5,.i ((i : Nat) : Int)),(9,.b (decide (((i : Nat) : Int) < (l.length : Int))))],[],[999]⟩)
   (True ∧ True ∧ True ∧ (True ∧ True ∧ True) ∧ True) (by kernel_rfl)
   ⟨tt,tt,tt,⟨tt,tt,tt⟩,tt⟩ ?_
  refine W.ifP (((i : Nat) : Int) < (l.length : Int)) (.b (decide (((i : Nat) : Int) < (l.length : Int)))) (by kernel_rfl) rfl trivial ?_ ?_
  ·intro h9
   refine W.skip (thenQ_normal ?_)
   refine W.seq ?_
   refine W.block ?_
   refine W.K cok tab41 hnt [] [0,1,5,17] (⟨[(0,.sl (.ints l)),(1,.i n),(5,.i ((i : Nat) : Int)),(17,.b (decide ((l.getD i 0) = n)))],[],[999]⟩)
    (True ∧ True ∧ (True ∧ True ∧ (0 ≤ ((i : Nat) : Int)) ∧ (((i : Nat) : Int) < (l.length : Int))) ∧ True ∧ True ∧ (True ∧ True ∧ True) ∧ True) (by kernel_rfl)
    ⟨tt,tt,⟨tt,tt,(by omega),(by omega)⟩,tt,tt,⟨tt,tt,tt⟩,tt⟩ ?_
   refine W.ifP ((l.getD i 0) = n) (.b (decide ((l.getD i 0) = n))) (by kernel_rfl) rfl trivial ?_ ?_
   ·intro h17
    refine W.K cok tab41 hnt [] [4] (⟨[(4,.b true)],[],[999]⟩)
     (True ∧ True) (by kernel_rfl)
     ⟨tt,tt⟩ ?_
    refine W.ret (blockQ_ret (thenQ_ret (thenQ_ret (blockQ_ret (thenQ_ret ?_)))))
    exact endQ_ret (.b true) (by kernel_rfl) (@cast ((.bool true : Value) = .bool (hasInt l n)) _ (by kernel_rfl) (congrArg Value.bool (by unfold hasInt; symm; exact anyN_true (i := i) (by omega) (decide_eq_true h17))))
   ·intro n17
    refine W.skip (blockQ_normal (thenQ_normal ?_))
    refine W.L cok tab41 hnt [] (⟨[(0,.sl (.ints l)),(1,.i n),(5,.i (((i + 1) : Nat) : Int)),(10,.i ((i : Nat) : Int)),(11,.i (((i + 1) : Nat) : Int)),(17,.b (decide ((l.getD i 0) = n)))],[],[999]⟩)
     (True ∧ (True ∧ True ∧ (Fits .i64 (((i + 1) : Nat) : Int))) ∧ True ∧ True) (by kernel_rfl)
     ⟨tt,⟨tt,tt,(by exact fits_i64 (by omega) (by omega))⟩,tt,tt⟩ ?_
    refine thenQ_normal ?_
    refine ⟨((i + 1)),(show ((i + 1) ≤ l.length) ∧ (∀ j,j < (i + 1) → decide (l.getD j 0 = n) = false) from ⟨(by first | assumption | omega | rfl | (intro _ hjj; omega) | (simp; done) | (simp; omega)),(by exact upto_succ hA (decide_eq_false n17))⟩),(show l.length - (i + 1) < l.length - i from (by first | omega | (simp_all; omega))),?_⟩
    exact Sub.of [] (@cast ((((.ints l : Dat) = .ints l) ∧ (((.int .i64 n : Value) = .int .i64 n) ∧ (((.int .i64 (((i + 1) : Nat) : Int) : Value) = .int .i64 (((i + 1) : Nat) : Int)) ∧ True))) ∧ (True ∧ ((true = true) ∧ (true = true)))) _ (by kernel_rfl) ⟨⟨rfl,rfl,rfl,tt⟩,tt,rfl,rfl⟩)
  ·intro n9
   refine W.exit (thenQ_exit (thenQ_exit (blockQ_hit ?_)))
   refine thenQ_normal ?_
   refine W.K cok tab41 hnt [] [4] (⟨[(4,.b false)],[],[999]⟩)
    (True ∧ True) (by kernel_rfl)
    ⟨tt,tt⟩ ?_
   refine W.ret ?_
   exact endQ_ret (.b false) (by kernel_rfl) (@cast ((.bool false : Value) = .bool (hasInt l n)) _ (by kernel_rfl) (congrArg Value.bool (by unfold hasInt; symm; exact anyN_false (fun j hj => hA j (by omega)))))
theorem ent41 : Entr prog 41 := ⟨_,func41,rfl,by decide⟩
end Go.Proofs.Try

set_option linter.unusedSimpArgs false
set_option linter.unusedVariables false
namespace Go.Proofs.Try
open Go.Ab Go.RowKit
def fs22 : FnS := fnS [.o,.s .ints] [.int,.ints] (fun _ (n,l,_) => (.b (isOrd l n),[],(0 ≤ n ∧ n ≤ 9223372036854775807)))
abbrev T22 : Tab := lk [(40,fs40),(41,fs41)]
theorem tab22 : TabOK prog T22 := (TabOK.cons ok40 ent40 (TabOK.cons ok41 ent41 TabOK.nil))
set_option maxRecDepth 100000 in
set_option maxHeartbeats 1000000 in
theorem ok22 : FnOK prog 22 fs22 := by
 refine FnOK.mk cok func22 rfl rfl rfl ?_
 rintro fl ⟨(n : Int),(l : List Int),_⟩ hpre F hnt0 _
 have hnt : F.nt = 34 := hnt0.trans ntmps22
 replace hpre : (0 ≤ n ∧ n ≤ 9223372036854775807) := hpre
 have hn := hpre
 refine W.to (⟨[(0,.i n),(1,.sl (.ints l))],[],[999]⟩) rfl ?_
 refine W.lenOf 1 (.ints l) (by kernel_rfl) ?_
 intro hl_l; replace hl_l : List.length l ≤ 9223372036854775807 := hl_l
 refine W.K cok tab22 hnt [] [0,1] (⟨[(0,.i n),(1,.sl (.ints l))],[],[999]⟩)
  (True ∧ True) (by kernel_rfl)
  ⟨tt,tt⟩ ?_
 refine W.seq ?_
 refine W.K cok tab22 hnt [] [0,1,5] (⟨[(0,.i n),(1,.sl (.ints l)),(5,.i (0 : Int))],[],[999]⟩)
  (True ∧ True) (by kernel_rfl)
  ⟨tt,tt⟩ ?_
 refine W.block ?_
 refine W.loop (ι := Nat) (fun (i : Nat) => (⟨[(0,.i n),(1,.sl (.ints l)),(5,.i ((i : Nat) : Int))],[],[999]⟩ : St))
  (fun (i : Nat) => (i ≤ l.length) ∧ (∀ j,j < i → ordOK l n j = true))
  (fun (i : Nat) => (l.length - i : Nat)) (0) ?_ ?_ ?_
 ·exact (show (0 ≤ l.length) ∧ (∀ j,j < 0 → ordOK l n j = true) from ⟨(by first | assumption | omega | rfl | (intro _ hjj; omega) | (simp; done) | (simp; omega)),(by exact upto_zero)⟩)
 ·exact Sub.of [] (@cast ((((.int .i64 n : Value) = .int .i64 n) ∧ (((.ints l : Dat) = .ints l) ∧ (((.int .i64 (0 : Int) : Value) = .int .i64 ((0 : Nat) : Int)) ∧ True))) ∧ (True ∧ ((true = true) ∧ (true = true)))) _ (by kernel_rfl) ⟨⟨rfl,rfl,(congrArg (Value.int .i64) (by first | rfl | omega | assumption | simp | simp_all)),tt⟩,tt,rfl,rfl⟩)
 ·rintro i hC0
  have hC : (i ≤ l.length) ∧ (∀ j,j < i → ordOK l n j = true) := hC0
  clear hC0
  obtain ⟨hi,hA⟩ := hC
  refine W.to (⟨[(0,.i n),(1,.sl (.ints l)),(5,.i ((i : Nat) : Int))],[],[999]⟩) rfl ?_
  refine W.seq ?_
  refine W.K cok tab22 hnt [] [0,1,5,9] (⟨[(0,.i n),(1,.sl (.ints l)),(5,.i ((i : Nat) : Int)),(9,.b (decide (((i : Nat) : Int) < (l.length : Int))))],[],[999]⟩)
   (True ∧ True ∧ True ∧ (True ∧ True ∧ True) ∧ True) (by kernel_rfl)
   ⟨tt,tt,tt,⟨tt,tt,tt⟩,tt⟩ ?_
  refine W.ifP (((i : Nat) : Int) < (l.length : Int)) (.b (decide (((i : Nat) : Int) < (l.length : Int)))) (by kernel_rfl) rfl trivial ?_ ?_
  ·intro h9
   refine W.skip (thenQ_normal ?_)
   refine W.seq ?_
   refine W.block ?_
   refine W.KA cok tab22 hnt [] [0,1,5,29] (⟨[(0,.i n),(1,.sl (.ints l)),(5,.i ((i : Nat) : Int)),(29,.b ((!(within (l.getD i 0) (0 : Int) (n - (1 : Int)))) || (hasInt (List.take i l) (l.getD i 0))))],[],[999]⟩)
    (True ∧ True ∧ (True ∧ True ∧ (0 ≤ ((i : Nat) : Int)) ∧ (((i : Nat) : Int) < (l.length : Int))) ∧ True ∧ True ∧ (True ∧ True ∧ (Fits .i64 (n - (1 : Int)))) ∧ (True ∧ (True ∧ True ∧ True ∧ True) ∧ True) ∧ True ∧ True ∧ ((!(!(within (l.getD i 0) (0 : Int) (n - (1 : Int))))) = true → True) ∧ ((!(!(within (l.getD i 0) (0 : Int) (n - (1 : Int))))) = true → True) ∧ ((!(!(within (l.getD i 0) (0 : Int) (n - (1 : Int))))) = true → ((((!(!(within (l.getD i 0) (0 : Int) (n - (1 : Int))))) = true) ∧ True) ∧ True ∧ (((!(!(within (l.getD i 0) (0 : Int) (n - (1 : Int))))) = true) ∧ True) ∧ (0 ≤ (0 : Int)) ∧ ((0 : Int) ≤ ((i : Nat) : Int)) ∧ (((i : Nat) : Int) ≤ (l.length : Int)))) ∧ ((!(!(within (l.getD i 0) (0 : Int) (n - (1 : Int))))) = true → True) ∧ ((!(!(within (l.getD i 0) (0 : Int) (n - (1 : Int))))) = true → True) ∧ ((!(!(within (l.getD i 0) (0 : Int) (n - (1 : Int))))) = true → ((((!(!(within (l.getD i 0) (0 : Int) (n - (1 : Int))))) = true) ∧ True) ∧ (((!(!(within (l.getD i 0) (0 : Int) (n - (1 : Int))))) = true) ∧ True) ∧ (0 ≤ ((i : Nat) : Int)) ∧ (((i : Nat) : Int) < (l.length : Int)))) ∧ ((!(!(within (l.getD i 0) (0 : Int) (n - (1 : Int))))) = true → (((!(!(within (l.getD i 0) (0 : Int) (n - (1 : Int))))) = true) ∧ True)) ∧ ((!(!(within (l.getD i 0) (0 : Int) (n - (1 : Int))))) = true → (True ∧ ((((!(!(within (l.getD i 0) (0 : Int) (n - (1 : Int))))) = true) ∧ True) ∧ (((!(!(within (l.getD i 0) (0 : Int) (n - (1 : Int))))) = true) ∧ True) ∧ True) ∧ True)) ∧ (True ∧ ((!(within (l.getD i 0) (0 : Int) (n - (1 : Int)))) = true → True) ∧ ((!(within (l.getD i 0) (0 : Int) (n - (1 : Int)))) = false → ((!(!(within (l.getD i 0) (0 : Int) (n - (1 : Int))))) = true) ∧ True)) ∧ True) (by kernel_rfl) (by kernel_rfl)
    ⟨tt,tt,⟨tt,tt,(by omega),(by omega)⟩,tt,tt,⟨tt,tt,(by exact fits_i64 (by omega) (by omega))⟩,⟨tt,⟨tt,tt,tt,tt⟩,tt⟩,tt,tt,(fun _ => trivial),(fun _ => trivial),(fun hG => ⟨⟨hG,tt⟩,tt,⟨hG,tt⟩,(by omega),(by omega),(by omega)⟩),(fun _ => trivial),(fun _ => trivial),(fun hG => ⟨⟨hG,tt⟩,⟨hG,tt⟩,(by omega),(by omega)⟩),(fun hG => ⟨hG,tt⟩),(fun hG => ⟨tt,⟨⟨hG,tt⟩,⟨hG,tt⟩,tt⟩,tt⟩),⟨tt,(fun _ => trivial),(fun hp => ⟨(not_t hp),tt⟩)⟩,tt⟩ ?_
   refine W.if' ((!(within (l.getD i 0) (0 : Int) (n - (1 : Int)))) || (hasInt (List.take i l) (l.getD i 0))) (.b ((!(within (l.getD i 0) (0 : Int) (n - (1 : Int)))) || (hasInt (List.take i l) (l.getD i 0)))) (by kernel_rfl) rfl trivial ?_ ?_
   ·intro h29
    refine W.K cok tab22 hnt [] [4] (⟨[(4,.b false)],[],[999]⟩)
     (True ∧ True) (by kernel_rfl)
     ⟨tt,tt⟩ ?_
    refine W.ret (blockQ_ret (thenQ_ret (thenQ_ret (blockQ_ret (thenQ_ret ?_)))))
    exact endQ_ret (.b false) (by kernel_rfl) (@cast ((.bool false : Value) = .bool (isOrd l n)) _ (by kernel_rfl) (congrArg Value.bool (by exact (ord_no (i := i) (by omega) h29).symm)))
   ·intro n29
    refine W.skip (blockQ_normal (thenQ_normal ?_))
    refine W.L cok tab22 hnt [] (⟨[(0,.i n),(1,.sl (.ints l)),(5,.i (((i + 1) : Nat) : Int)),(10,.i ((i : Nat) : Int)),(11,.i (((i + 1) : Nat) : Int)),(29,.b ((!(within (l.getD i 0) (0 : Int) (n - (1 : Int)))) || (hasInt (List.take i l) (l.getD i 0))))],[],[999]⟩)
     (True ∧ (True ∧ True ∧ (Fits .i64 (((i + 1) : Nat) : Int))) ∧ True ∧ True) (by kernel_rfl)
     ⟨tt,⟨tt,tt,(by exact fits_i64 (by omega) (by omega))⟩,tt,tt⟩ ?_
    refine thenQ_normal ?_
    refine ⟨((i + 1)),(show ((i + 1) ≤ l.length) ∧ (∀ j,j < (i + 1) → ordOK l n j = true) from ⟨(by first | assumption | omega | rfl | (intro _ hjj; omega) | (simp; done) | (simp; omega)),(by exact upto_succ hA (ord_ok n29))⟩),(show l.length - (i + 1) < l.length - i from (by first | omega | (simp_all; omega))),?_⟩
    exact Sub.of [] (@cast ((((.int .i64 n : Value) = .int .i64 n) ∧ (((.ints l : Dat) = .ints l) ∧ (((.int .i64 (((i + 1) : Nat) : Int) : Value) = .int .i64 (((i + 1) : Nat) : Int)) ∧ True))) ∧ (True ∧ ((true = true) ∧ (true = true)))) _ (by kernel_rfl) ⟨⟨rfl,rfl,rfl,tt⟩,tt,rfl,rfl⟩)
  ·intro n9
   refine W.exit (thenQ_exit (thenQ_exit (blockQ_hit ?_)))
   refine thenQ_normal ?_
   refine W.K cok tab22 hnt [] [4] (⟨[(4,.b (decide ((l.length : Int) = n)))],[],[999]⟩)
    (True ∧ True ∧ True ∧ (True ∧ True ∧ True) ∧ True ∧ True) (by kernel_rfl)
    ⟨tt,tt,tt,⟨tt,tt,tt⟩,tt,tt⟩ ?_
   refine W.ret ?_
   exact endQ_ret (.b (decide ((l.length : Int) = n))) (by kernel_rfl) (@cast ((.bool (decide ((l.length : Int) = n)) : Value) = .bool (isOrd l n)) _ (by kernel_rfl) (congrArg Value.bool (by exact ord_end (fun j hj => hA j (by omega)))))
theorem ent22 : Entr prog 22 := ⟨_,func22,rfl,by decide⟩
end Go.Proofs.Try
