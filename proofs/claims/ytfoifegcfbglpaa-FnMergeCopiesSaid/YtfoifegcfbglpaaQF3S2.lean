import Derived.Test.YtfoifegcfbglpaaQF3S0
import Derived.Test.YtfoifegcfbglpaaQF3S1
import Derived.Test.YtfoifegcfbglpaaFrameB
import Derived.Shelf.Slices.Delete
import Derived.Shelf.Slices.Clone
set_option linter.unusedSimpArgs false
set_option linter.unusedVariables false
namespace Go.Proofs.Try
open Go.Ab Go.RowKit
def fs13 : FnS := fnS [.a [some .ints,some .ints,none,none,none,some .marks]] [.copy] (fun _ (c,_) => (.b (validCopy c),[],True))
abbrev T13 : Tab := lk [(29,fs29),(39,fs39),(40,fs40),(41,fs41)]
theorem tab13 : TabOK prog T13 := (TabOK.cons ok29 ent29 (TabOK.cons ok39 ent39 (TabOK.cons ok40 ent40 (TabOK.cons ok41 ent41 TabOK.nil))))
set_option maxRecDepth 100000 in
set_option maxHeartbeats 1000000 in
theorem ok13 : FnOK prog 13 fs13 := by
 refine FnOK.mk cok func13 rfl rfl rfl ?_
 rintro fl ⟨(c : CopyD),_⟩ hpre F hnt0 _
 have hnt : F.nt = 78 := hnt0.trans ntmps13
 clear hpre
 refine W.to (⟨[(0,.agg (cC c))],[],[999]⟩) rfl ?_
 refine W.lenA 0 0 (cC c) (.ints c.up) (by kernel_rfl) (by kernel_rfl) ?_
 intro hl_c_up; replace hl_c_up : List.length c.up ≤ 9223372036854775807 := hl_c_up
 refine W.lenA 0 1 (cC c) (.ints c.down) (by kernel_rfl) (by kernel_rfl) ?_
 intro hl_c_down; replace hl_c_down : List.length c.down ≤ 9223372036854775807 := hl_c_down
 refine W.lenA 0 5 (cC c) (.marks c.marks) (by kernel_rfl) (by kernel_rfl) ?_
 intro hl_c_marks; replace hl_c_marks : List.length c.marks ≤ 9223372036854775807 := hl_c_marks
 refine Kk cok tab13 hnt [] [1] (⟨[(1,.ptr 1 0)],[(1,⟨26,.fix (cC c)⟩)],[1,999]⟩)
  (True ∧ True ∧ True)
  ⟨tt,tt,tt⟩ ?_
 refine W.seq ?_
 refine Kk cok tab13 hnt [] [1,7,8,9] (⟨[(1,.ptr 1 0),(7,.sl (.marks c.marks)),(8,.i (((List.length c.marks) : Nat) : Int)),(9,.i (0 : Int))],[(1,⟨26,.fix (cC c)⟩)],[1,999]⟩)
  (True ∧ True ∧ True ∧ True ∧ True)
  ⟨tt,tt,tt,tt,tt⟩ ?_
 refine W.block ?_
 refine W.loop (ι := Nat) (fun (i : Nat) => (⟨[(1,.ptr 1 0),(7,.sl (.marks c.marks)),(8,.i (((List.length c.marks) : Nat) : Int)),(9,.i ((i : Nat) : Int))],[(1,⟨26,.fix (cC c)⟩)],[1,999]⟩ : St))
  (fun (i : Nat) => (i ≤ c.marks.length) ∧ (∀ j,j < i → markOK c.marks j = true))
  (fun (i : Nat) => (c.marks.length - i : Nat)) (0) ?_ ?_ ?_
 ·exact (show (0 ≤ c.marks.length) ∧ (∀ j,j < 0 → markOK c.marks j = true) from ⟨(by first | assumption | omega | rfl | (intro _ hjj; omega) | (simp; done) | (simp; omega)),(by exact upto_zero)⟩)
 ·exact Sub.of [] (@cast (((((1 : Nat) = 1) ∧ ((0 : Nat) = 0) ∧ ((1 : Nat) ∈ ([1,999] : List Nat))) ∧ (Sd (.marks c.marks)) ∧ (Si (((List.length c.marks) : Nat) : Int)) ∧ ((.int .i64 (0 : Int) : Value) = .int .i64 ((0 : Nat) : Int)) ∧ True) ∧ ((((26 : Nat) = 26) ∧ (Sc c) ∧ ((1 : Nat) ∈ ([1,999] : List Nat))) ∧ True) ∧ (true = true) ∧ (true = true)) _ (by kernel_rfl) ⟨⟨⟨rfl,rfl,(by decide)⟩,rfl,rfl,(congrArg (Value.int .i64) (by first | rfl | omega | assumption | simp | simp_all)),tt⟩,⟨⟨rfl,⟨rfl,rfl,rfl,rfl,rfl,rfl,tt⟩,(by decide)⟩,tt⟩,rfl,rfl⟩)
 ·rintro i hC0
  have hC : (i ≤ c.marks.length) ∧ (∀ j,j < i → markOK c.marks j = true) := hC0
  clear hC0
  obtain ⟨hi,hA⟩ := hC
  refine W.to (⟨[(1,.ptr 1 0),(7,.sl (.marks c.marks)),(8,.i (((List.length c.marks) : Nat) : Int)),(9,.i ((i : Nat) : Int))],[(1,⟨26,.fix (cC c)⟩)],[1,999]⟩) rfl ?_
  refine Kk cok tab13 hnt [] [1,7,8,9,10] (⟨[(1,.ptr 1 0),(7,.sl (.marks c.marks)),(8,.i (((List.length c.marks) : Nat) : Int)),(9,.i ((i : Nat) : Int)),(10,.b (decide (((i : Nat) : Int) < (((List.length c.marks) : Nat) : Int))))],[(1,⟨26,.fix (cC c)⟩)],[1,999]⟩)
   ((True ∧ True ∧ True) ∧ True)
   ⟨⟨tt,tt,tt⟩,tt⟩ ?_
  refine W.seq ?_
  refine W.ifP (((i : Nat) : Int) < (((List.length c.marks) : Nat) : Int)) (.b (decide (((i : Nat) : Int) < (((List.length c.marks) : Nat) : Int)))) (by kernel_rfl) rfl trivial ?_ ?_
  ·intro h10
   refine W.skip (thenQ_normal ?_)
   refine W.seq ?_
   refine W.block ?_
   refine Kk cok tab13 hnt [] [1,3,4,7,8,9] (⟨[(1,.ptr 1 0),(3,.i ((i : Nat) : Int)),(4,.ptr 4 0),(7,.sl (.marks c.marks)),(8,.i (((List.length c.marks) : Nat) : Int)),(9,.i ((i : Nat) : Int))],[(1,⟨26,.fix (cC c)⟩),(4,⟨33,.fix [.i ((List.getD c.marks i default).value),.i ((List.getD c.marks i default).proc),.i ((List.getD c.marks i default).number),.b ((List.getD c.marks i default).gone)]⟩)],[4,1,999]⟩)
    (True ∧ (True ∧ True ∧ (0 ≤ ((i : Nat) : Int)) ∧ (((i : Nat) : Int) < (((List.length c.marks) : Nat) : Int))) ∧ True ∧ True ∧ True ∧ (True ∧ True) ∧ True)
    ⟨tt,⟨tt,tt,(by omega),(by omega)⟩,tt,tt,tt,⟨tt,tt⟩,tt⟩ ?_
   refine W.KA cok tab13 hnt [] [1,7,8,9,31] (⟨[(1,.ptr 1 0),(7,.sl (.marks c.marks)),(8,.i (((List.length c.marks) : Nat) : Int)),(9,.i ((i : Nat) : Int)),(31,.b ((!(isMark (List.getD c.marks i default))) || ((decide ((0 : Int) < ((i : Nat) : Int))) && (decide ((0 : Int) ≤ (cmpM (List.getD c.marks (Int.toNat (((i : Nat) : Int) - (1 : Int))) default) (List.getD c.marks i default)))))))],[(1,⟨26,.fix (cC c)⟩),(4,⟨33,.fix [.i ((List.getD c.marks i default).value),.i ((List.getD c.marks i default).proc),.i ((List.getD c.marks i default).number),.b ((List.getD c.marks i default).gone)]⟩)],[4,1,999]⟩)
    ((fun (Z1:Bool)=>((fun (Z2:Bool)=>((fun (Z3:Bool)=>((fun (Z4:Bool)=>(True ∧ ((True ∧ ((True ∧ True) ∧ True)) ∧ (True ∧ (True ∧ ((Z3 = true → True) ∧ ((Z3 = true → (((Z3 = true) ∧ True) ∧ (True ∧ True))) ∧ ((Z3 = true → True) ∧ ((Z4 = true → True) ∧ ((Z4 = true → ((Z4 = true) ∧ True)) ∧ ((Z4 = true → True) ∧ ((Z4 = true → (((Z4 = true) ∧ True) ∧ (True ∧ (Fits .i64 (((i : Nat) : Int) - (1 : Int)))))) ∧ ((Z4 = true → (((Z4 = true) ∧ True) ∧ (((Z4 = true) ∧ True) ∧ ((0 ≤ (((i : Nat) : Int) - (1 : Int))) ∧ ((((i : Nat) : Int) - (1 : Int)) < (((List.length c.marks) : Nat) : Int)))))) ∧ ((Z4 = true → ((Z4 = true) ∧ True)) ∧ ((Z4 = true → True) ∧ ((Z4 = true → (True ∧ ((((Z4 = true) ∧ True) ∧ (((Z4 = true) ∧ True) ∧ True)) ∧ True))) ∧ ((Z4 = true → (((Z4 = true) ∧ True) ∧ (True ∧ True))) ∧ ((Z3 = true → (((Z3 = true) ∧ ((Z3 = true) ∧ True)) ∧ ((Z1 = true → (Z4 = true) ∧ True) ∧ (Z1 = false → True)))) ∧ ((True ∧ ((Z2 = true → True) ∧ (Z2 = false → (Z3 = true) ∧ True))) ∧ True))))))))))))))))))) (Z3 && (Z3 && Z1)))) (!Z2))) (!(isMark (List.getD c.marks i default))))) (decide ((0 : Int) < ((i : Nat) : Int)))) (by kernel_rfl) (by kernel_rfl)
    ⟨tt,⟨tt,⟨tt,tt⟩,tt⟩,tt,tt,(fun _ => trivial),(fun hG => ⟨⟨hG,tt⟩,tt,tt⟩),(fun _ => trivial),(fun _ => trivial),(fun hG => ⟨hG,tt⟩),(fun _ => trivial),(fun hG => ⟨⟨hG,tt⟩,tt,(by have hg0 : (0 : Int) < ((i : Nat) : Int) := of_decide_eq_true (and_r (and_r hG)); exact fits_i64 (by omega) (by omega))⟩),(fun hG => ⟨⟨hG,tt⟩,⟨hG,tt⟩,(by have hg0 : (0 : Int) < ((i : Nat) : Int) := of_decide_eq_true (and_r (and_r hG)); omega),(by have hg0 : (0 : Int) < ((i : Nat) : Int) := of_decide_eq_true (and_r (and_r hG)); omega)⟩),(fun hG => ⟨hG,tt⟩),(fun _ => trivial),(fun hG => ⟨tt,⟨⟨hG,tt⟩,⟨hG,tt⟩,tt⟩,tt⟩),(fun hG => ⟨⟨hG,tt⟩,tt,tt⟩),(fun hG => ⟨⟨hG,hG,tt⟩,(fun hp => ⟨(and_t hG (and_t hG hp)),tt⟩),(fun _ => trivial)⟩),⟨tt,(fun _ => trivial),(fun hp => ⟨(not_t hp),tt⟩)⟩,tt⟩ ?_
   refine W.if' ((!(isMark (List.getD c.marks i default))) || ((decide ((0 : Int) < ((i : Nat) : Int))) && (decide ((0 : Int) ≤ (cmpM (List.getD c.marks (Int.toNat (((i : Nat) : Int) - (1 : Int))) default) (List.getD c.marks i default)))))) (.b ((!(isMark (List.getD c.marks i default))) || ((decide ((0 : Int) < ((i : Nat) : Int))) && (decide ((0 : Int) ≤ (cmpM (List.getD c.marks (Int.toNat (((i : Nat) : Int) - (1 : Int))) default) (List.getD c.marks i default))))))) (by kernel_rfl) rfl trivial ?_ ?_
   ·intro h31
    refine Kk cok tab13 hnt [] [2] (⟨[(2,.b false)],[(1,⟨26,.fix (cC c)⟩),(4,⟨33,.fix [.i ((List.getD c.marks i default).value),.i ((List.getD c.marks i default).proc),.i ((List.getD c.marks i default).number),.b ((List.getD c.marks i default).gone)]⟩)],[4,1,999]⟩)
     (True ∧ True)
     ⟨tt,tt⟩ ?_
    refine W.ret (blockQ_ret (thenQ_ret (thenQ_ret (blockQ_ret (thenQ_ret ?_)))))
    exact endQ_ret (.b false) (by kernel_rfl) (@cast ((.bool false : Value) = .bool (validCopy c)) _ (by kernel_rfl) (congrArg Value.bool (by rw [show ((i : Int) - 1).toNat = i - 1 by omega,cmpM_less] at h31; exact (valid_marks (mark_bad (i := i) (by omega) (markI_no h31))).symm)))
   ·intro n31
    refine W.skip (blockQ_normal (thenQ_normal ?_))
    refine Lk cok tab13 hnt [] (⟨[(1,.ptr 1 0),(7,.sl (.marks c.marks)),(8,.i (((List.length c.marks) : Nat) : Int)),(9,.i (((i + 1) : Nat) : Int)),(31,.b ((!(isMark (List.getD c.marks i default))) || ((decide ((0 : Int) < ((i : Nat) : Int))) && (decide ((0 : Int) ≤ (cmpM (List.getD c.marks (Int.toNat (((i : Nat) : Int) - (1 : Int))) default) (List.getD c.marks i default))))))),(32,.i (((i + 1) : Nat) : Int))],[(1,⟨26,.fix (cC c)⟩),(4,⟨33,.fix [.i ((List.getD c.marks i default).value),.i ((List.getD c.marks i default).proc),.i ((List.getD c.marks i default).number),.b ((List.getD c.marks i default).gone)]⟩)],[4,1,999]⟩)
     ((True ∧ True ∧ (Fits .i64 (((i + 1) : Nat) : Int))) ∧ True ∧ True)
     ⟨⟨tt,tt,(by exact fits_i64 (by omega) (by omega))⟩,tt,tt⟩ ?_
    refine thenQ_normal ?_
    refine ⟨((i + 1)),(show ((i + 1) ≤ c.marks.length) ∧ (∀ j,j < (i + 1) → markOK c.marks j = true) from ⟨(by first | assumption | omega | rfl | (intro _ hjj; omega) | (simp; done) | (simp; omega)),(by rw [show ((i : Int) - 1).toNat = i - 1 by omega,cmpM_less] at n31; exact upto_succ hA (markI_ok n31))⟩),(show c.marks.length - (i + 1) < c.marks.length - i from (by first | omega | (simp_all; omega))),?_⟩
    exact Sub.of [] (@cast (((((1 : Nat) = 1) ∧ ((0 : Nat) = 0) ∧ ((1 : Nat) ∈ ([1,999] : List Nat))) ∧ (Sd (.marks c.marks)) ∧ (Si (((List.length c.marks) : Nat) : Int)) ∧ (Si (((i + 1) : Nat) : Int)) ∧ True) ∧ ((((26 : Nat) = 26) ∧ (Sc c) ∧ ((1 : Nat) ∈ ([1,999] : List Nat))) ∧ True) ∧ (true = true) ∧ (true = true)) _ (by kernel_rfl) ⟨⟨⟨rfl,rfl,(by decide)⟩,rfl,rfl,rfl,tt⟩,⟨⟨rfl,⟨rfl,rfl,rfl,rfl,rfl,rfl,tt⟩,(by decide)⟩,tt⟩,rfl,rfl⟩)
  ·intro n10
   refine W.exit (thenQ_exit (thenQ_exit (blockQ_hit ?_)))
   refine thenQ_normal ?_
   refine Kk cok tab13 hnt [] [1,5] (⟨[(1,.ptr 1 0),(5,.b ((((within c.value (0 : Int) (3 : Int)) && (within c.time (0 : Int) (30 : Int))) && (within c.proc (0 : Int) (2 : Int))) && ((decide ((0 : Int) < c.time)) || ((decide (c.value = (0 : Int))) && (decide (c.proc = (0 : Int)))))))],[(1,⟨26,.fix (cC c)⟩)],[1,999]⟩)
    ((fun (Z1:Bool)=>((fun (Z2:Bool)=>((fun (Z3:Bool)=>((fun (Z4:Bool)=>((fun (Z5:Bool)=>((fun (Z6:Bool)=>((fun (Z7:Bool)=>(True ∧ (True ∧ ((True ∧ ((True ∧ (True ∧ (True ∧ True))) ∧ True)) ∧ (True ∧ ((Z3 = true → True) ∧ ((Z3 = true → ((Z3 = true) ∧ True)) ∧ ((Z3 = true → (True ∧ ((((Z3 = true) ∧ True) ∧ (True ∧ (True ∧ True))) ∧ True))) ∧ ((True ∧ ((Z3 = true → (Z3 = true) ∧ True) ∧ (Z3 = false → True))) ∧ (True ∧ ((Z4 = true → True) ∧ ((Z4 = true → ((Z4 = true) ∧ True)) ∧ ((Z4 = true → (True ∧ ((((Z4 = true) ∧ True) ∧ (True ∧ (True ∧ True))) ∧ True))) ∧ ((True ∧ ((Z4 = true → (Z4 = true) ∧ True) ∧ (Z4 = false → True))) ∧ (True ∧ ((Z5 = true → True) ∧ ((Z5 = true → ((Z5 = true) ∧ True)) ∧ ((Z5 = true → (((Z5 = true) ∧ True) ∧ (True ∧ True))) ∧ ((Z5 = true → True) ∧ ((Z6 = true → True) ∧ ((Z6 = true → ((Z6 = true) ∧ True)) ∧ ((Z6 = true → (((Z6 = true) ∧ True) ∧ (True ∧ True))) ∧ ((Z6 = true → True) ∧ ((Z7 = true → True) ∧ ((Z7 = true → ((Z7 = true) ∧ True)) ∧ ((Z7 = true → (((Z7 = true) ∧ True) ∧ (True ∧ True))) ∧ ((Z6 = true → (((Z6 = true) ∧ ((Z6 = true) ∧ True)) ∧ ((Z2 = true → (Z7 = true) ∧ True) ∧ (Z2 = false → True)))) ∧ ((Z5 = true → (((Z5 = true) ∧ ((Z5 = true) ∧ True)) ∧ ((Z1 = true → True) ∧ (Z1 = false → (Z6 = true) ∧ True)))) ∧ ((True ∧ ((Z5 = true → (Z5 = true) ∧ True) ∧ (Z5 = false → True))) ∧ (True ∧ True)))))))))))))))))))))))))))))) (Z6 && (Z6 && Z2)))) (Z5 && (Z5 && (!Z1))))) (Z4 && (within c.proc (0 : Int) (2 : Int))))) (Z3 && (within c.time (0 : Int) (30 : Int))))) (within c.value (0 : Int) (3 : Int)))) (decide (c.value = (0 : Int))))) (decide ((0 : Int) < c.time)))
    ⟨tt,tt,⟨tt,⟨tt,tt,tt,tt⟩,tt⟩,tt,(fun _ => trivial),(fun hG => ⟨hG,tt⟩),(fun hG => ⟨tt,⟨⟨hG,tt⟩,tt,tt,tt⟩,tt⟩),⟨tt,(fun hp => ⟨hp,tt⟩),(fun _ => trivial)⟩,tt,(fun _ => trivial),(fun hG => ⟨hG,tt⟩),(fun hG => ⟨tt,⟨⟨hG,tt⟩,tt,tt,tt⟩,tt⟩),⟨tt,(fun hp => ⟨hp,tt⟩),(fun _ => trivial)⟩,tt,(fun _ => trivial),(fun hG => ⟨hG,tt⟩),(fun hG => ⟨⟨hG,tt⟩,tt,tt⟩),(fun _ => trivial),(fun _ => trivial),(fun hG => ⟨hG,tt⟩),(fun hG => ⟨⟨hG,tt⟩,tt,tt⟩),(fun _ => trivial),(fun _ => trivial),(fun hG => ⟨hG,tt⟩),(fun hG => ⟨⟨hG,tt⟩,tt,tt⟩),(fun hG => ⟨⟨hG,hG,tt⟩,(fun hp => ⟨(and_t hG (and_t hG hp)),tt⟩),(fun _ => trivial)⟩),(fun hG => ⟨⟨hG,hG,tt⟩,(fun _ => trivial),(fun hp => ⟨(and_t hG (and_t hG (not_t hp))),tt⟩)⟩),⟨tt,(fun hp => ⟨hp,tt⟩),(fun _ => trivial)⟩,tt,tt⟩ ?_
   refine Kk cok tab13 hnt [] [2] (⟨[(2,.b ((((countsOK c.up) && (countsOK c.down)) && ((((within c.value (0 : Int) (3 : Int)) && (within c.time (0 : Int) (30 : Int))) && (within c.proc (0 : Int) (2 : Int))) && ((decide ((0 : Int) < c.time)) || ((decide (c.value = (0 : Int))) && (decide (c.proc = (0 : Int))))))) && (decide ((((List.length c.marks) : Nat) : Int) ≤ (20 : Int)))))],[(1,⟨26,.fix (cC c)⟩)],[1,999]⟩)
    ((fun (Z1:Bool)=>((fun (Z2:Bool)=>((fun (Z3:Bool)=>(True ∧ (True ∧ ((True ∧ ((True ∧ True) ∧ True)) ∧ (True ∧ ((Z1 = true → True) ∧ ((Z1 = true → ((Z1 = true) ∧ True)) ∧ ((Z1 = true → (True ∧ ((((Z1 = true) ∧ True) ∧ True) ∧ True))) ∧ ((True ∧ ((Z1 = true → (Z1 = true) ∧ True) ∧ (Z1 = false → True))) ∧ (True ∧ ((Z2 = true → True) ∧ ((True ∧ ((Z2 = true → (Z2 = true) ∧ True) ∧ (Z2 = false → True))) ∧ (True ∧ ((Z3 = true → True) ∧ ((Z3 = true → ((Z3 = true) ∧ True)) ∧ ((Z3 = true → ((Z3 = true) ∧ True)) ∧ ((Z3 = true → (((Z3 = true) ∧ True) ∧ (True ∧ True))) ∧ ((True ∧ ((Z3 = true → (Z3 = true) ∧ True) ∧ (Z3 = false → True))) ∧ (True ∧ True))))))))))))))))))) (Z2 && ((((within c.value (0 : Int) (3 : Int)) && (within c.time (0 : Int) (30 : Int))) && (within c.proc (0 : Int) (2 : Int))) && ((decide ((0 : Int) < c.time)) || ((decide (c.value = (0 : Int))) && (decide (c.proc = (0 : Int))))))))) (Z1 && (countsOK c.down)))) (countsOK c.up))
    ⟨tt,tt,⟨tt,⟨tt,tt⟩,tt⟩,tt,(fun _ => trivial),(fun hG => ⟨hG,tt⟩),(fun hG => ⟨tt,⟨⟨hG,tt⟩,tt⟩,tt⟩),⟨tt,(fun hp => ⟨hp,tt⟩),(fun _ => trivial)⟩,tt,(fun _ => trivial),⟨tt,(fun hp => ⟨hp,tt⟩),(fun _ => trivial)⟩,tt,(fun _ => trivial),(fun hG => ⟨hG,tt⟩),(fun hG => ⟨hG,tt⟩),(fun hG => ⟨⟨hG,tt⟩,tt,tt⟩),⟨tt,(fun hp => ⟨hp,tt⟩),(fun _ => trivial)⟩,tt,tt⟩ ?_
   refine W.ret ?_
   exact endQ_ret (.b ((((countsOK c.up) && (countsOK c.down)) && ((((within c.value (0 : Int) (3 : Int)) && (within c.time (0 : Int) (30 : Int))) && (within c.proc (0 : Int) (2 : Int))) && ((decide ((0 : Int) < c.time)) || ((decide (c.value = (0 : Int))) && (decide (c.proc = (0 : Int))))))) && (decide ((((List.length c.marks) : Nat) : Int) ≤ (20 : Int))))) (by kernel_rfl) (@cast ((.bool ((((countsOK c.up) && (countsOK c.down)) && ((((within c.value (0 : Int) (3 : Int)) && (within c.time (0 : Int) (30 : Int))) && (within c.proc (0 : Int) (2 : Int))) && ((decide ((0 : Int) < c.time)) || ((decide (c.value = (0 : Int))) && (decide (c.proc = (0 : Int))))))) && (decide ((((List.length c.marks) : Nat) : Int) ≤ (20 : Int)))) : Value) = .bool (validCopy c)) _ (by kernel_rfl) (congrArg Value.bool (by exact valid_impl (allN_true (fun j hj => hA j (by omega))))))
theorem ent13 : Entr prog 13 := ⟨_,func13,rfl,by decide⟩
end Go.Proofs.Try

namespace Go.Ab
open Go.RowKit Go.Shelf Go.Proofs
theorem elem_ints (l : List Int) (k : Nat) : (Dat.ints l).elem k = [.v (.int .i64 (l.getD k 0))] := rfl
end Go.Ab

namespace Go.Ab
open Go.RowKit Go.Shelf Go.Proofs
theorem clone_post {w w' : World} {T : Nat → Prop} {t : TypeId} {l : List Int} {v' : Value} (hown : w'.ownsRow w.heap.size t 1 v' l.length (l.map (Value.int .i64))) (hb : Below w.heap.size w w') :
  ∃ β', PostF w T none w' β' (.own 0 l.length) [(t, .ints l)] v' := by
 obtain ⟨_, h⟩ := hown
 rcases h with ⟨rfl, hn⟩ | ⟨g, cap, cur, rfl, hg, hcell, hlen, hcap, hsz, htake⟩
 ·refine ⟨fun k => if k = 0 then some .nil else none, hb.os, hb.tape, hb.output, hb.size, fun b hb' _ => hb.block b hb', ?_, ?_, ?_, ?_, ?_⟩
  ·simp only [Rep]; exact Or.inl ⟨rfl, hn, rfl⟩
  ·intro k c hk
   cases k with
   | succ k => simp [rowsHeap] at hk
   | zero =>
    simp only [rowsHeap, List.getElem?_cons_zero, Option.map_some, Option.some.injEq] at hk
    subst hk
    simp only [LocOK, CellsOK]
    exact .inl ⟨rfl, hn⟩
  ·intro k k' c c' g1 cap1 cap2 e1 e2 hb1 _
   by_cases hk : k = 0
   ·rw [hk] at hb1; simp at hb1
   ·rw [if_neg hk] at hb1; cases hb1
  ·intro k c g1 cap1 _ hb1
   by_cases hk : k = 0
   ·rw [hk] at hb1; simp at hb1
   ·rw [if_neg hk] at hb1; cases hb1
  ·intro k p hp
   by_cases hk : k = 0
   ·subst hk; simp
   ·rw [if_neg hk] at hp; cases hp
 ·refine ⟨fun k => if k = 0 then some (.blk g cap) else none, hb.os, hb.tape, hb.output, hb.size, fun b hb' _ => hb.block b hb', ?_, ?_, ?_, ?_, ?_⟩
  ·simp only [Rep, OwnRep]; exact .inr ⟨g, cap, rfl, hlen, rfl⟩
  ·intro k c hk
   cases k with
   | succ k => simp [rowsHeap] at hk
   | zero =>
    simp only [rowsHeap, List.getElem?_cons_zero, Option.map_some, Option.some.injEq] at hk
    subst hk
    simp only [LocOK, CellsOK]
    refine .inr ⟨g, cap, cur, rfl, hcell, hlen, hcap, hsz, ?_⟩
    intro k jj x hk hx
    have hk' : k < l.length := hk
    rw [elem_ints] at hx
    cases jj with
    | succ jj => simp at hx
    | zero =>
     simp only [List.getElem?_cons_zero, Option.some.injEq] at hx
     subst hx
     refine ⟨.int .i64 (l.getD k 0), ?_, by simp only [Rep]⟩
     have e1 : (cur.toList.take (l.length * 1))[k]? = some (.int .i64 (l.getD k 0)) := by
      rw [htake, List.getElem?_map, List.getElem?_eq_getElem hk']
      simp [List.getD_eq_getElem?_getD, hk']
     rw [List.getElem?_take, if_pos (by omega)] at e1
     simpa [Dat.esz] using e1
  ·intro k k' c c' g1 cap1 cap2 e1 e2 _ _
   cases k with
   | succ k => simp [rowsHeap] at e1
   | zero =>
    cases k' with
    | succ k' => simp [rowsHeap] at e2
    | zero => rfl
  ·intro k c g1 cap1 _ hb1
   by_cases hk : k = 0
   ·subst hk
    simp only [if_true, Option.some.injEq, Bl.blk.injEq] at hb1
    right; omega
   ·rw [if_neg hk] at hb1; cases hb1
  ·intro k p hp
   by_cases hk : k = 0
   ·subst hk; simp
   ·rw [if_neg hk] at hp; cases hp
theorem clone_core {P : Program} {ρ : Ren} (L : Lays2.n15 P ρ) (l : List Int) (hbig : l.length * 8 ≤ 140737488355328) (w : World) (T : Nat → Prop) (vals : List Value) (bC : Option Nat)
  (hargs : ArgsRep w T [.s .ints] [.sl (.ints l)] vals bC) :
  Calls P (ρ.f 15) vals.toArray w fun en w' => ∃ y β', en = .returned y ∧ PostF w T bC w' β' (.own 0 (List.length l)) [(ρ.t 3, .ints l)] y := by
 match vals, hargs with
 | [y0], h =>
  simp only [ArgsRep] at h
  obtain ⟨h1, rfl⟩ := h
  simp only [Rep, SlRep, FlatRep] at h1
  obtain ⟨a, c, rfl, hlc, hcm, hd⟩ := h1
  cases l with
  | nil =>
   cases a with
   | none =>
    refine (Any.slices_Clone_int_nil L 0 c w).mono ?_
    rintro e w' ⟨rfl, rfl⟩
    obtain ⟨β', h⟩ := clone_post (T := T) (t := ρ.t 3) (l := []) (World.ownsRow_nil w' w'.heap.size (ρ.t 3) 1) (Below.refl w'.heap.size w')
    exact ⟨_, β', rfl, h⟩
   | some ad =>
    refine (Any.slices_Clone_int_zero L ad c w).mono ?_
    rintro e w' ⟨v', rfl, hown, _, hb⟩
    obtain ⟨β', h⟩ := clone_post (T := T) (t := ρ.t 3) (l := []) hown hb
    exact ⟨_, β', rfl, h⟩
  | cons x0 l0 =>
   rcases hd with hd | ⟨ad, rfl, hT, hc⟩
   ·simp at hd
   ·have hcc : ∀ k, k < (x0 :: l0).length → w.cell? (ad.add k) = some (.int .i64 ((x0 :: l0).getD k 0)) := fun k hk => by
     have := hc k 0 _ hk (show ((Dat.ints (x0 :: l0)).flat k)[0]? = some (.int .i64 ((x0 :: l0).getD k 0)) from rfl)
     simpa using this
    obtain ⟨b, off, sp⟩ := ad
    cases sp with
    | some s0 =>
     have := hcc 0 (by simp)
     rw [Addr.add_zero'] at this
     unfold World.cell? at this
     simp at this
     split at this <;> cases this
    | none =>
     refine (Any.slices_Clone_int L b off (x0 :: l0).length c (x0 :: l0) w (Nat.le_refl _) hbig (fun j hj => by
      have := hcc j hj
      rwa [Addr.add_lit] at this)).mono ?_
     rintro e w' ⟨v', rfl, hown, _, hb⟩
     rw [List.take_length] at hown
     obtain ⟨β', h⟩ := clone_post (T := T) (t := ρ.t 3) (l := x0 :: l0) hown hb
     exact ⟨_, β', rfl, h⟩
theorem clone_ok {P : Program} {ρ : Ren} (L : Lays2.n15 P ρ) :
  FnOK P (ρ.f 15) (fnS [.s .ints] [.ints] (fun _ (l, _) => (.own 0 (List.length l), [(ρ.t 3, .ints l)], List.length l * 8 ≤ 140737488355328))) := by
 intro fl args r rows φ hg hφ w T vals bC hT hargs
 simp only [fnS] at hg
 split at hg
 ·rename_i a ha
  simp only [Option.some.injEq] at hg
  have hx := decL_encL ha
  subst hx
  obtain ⟨l, u⟩ := a
  simp only [Prod.mk.injEq] at hg
  obtain ⟨rfl, rfl, rfl⟩ := hg
  exact clone_core L l hφ w T vals bC hargs
 ·cases hg
end Go.Ab

set_option linter.unusedSimpArgs false
set_option linter.unusedVariables false
namespace Go.Proofs.Try
open Go.Ab Go.RowKit Go.Shelf Go.Proofs
def fs48 : FnS := fnS [.s .ints] [.ints] (fun _ (l,_) => (.own 0 l.length,[(3,.ints l)],(l.length * 8 ≤ 140737488355328)))
def ren15 : Go.Shelf.Ren := ⟨fun _ => 48,fun k => bif Nat.beq k 22 then 23 else bif Nat.beq k 3 then 3 else bif Nat.beq k 4 then 4 else k,fun k => k⟩
set_option maxRecDepth 100000 in
theorem lays15 : Lays2.n15 prog ren15 where
 mixed := by kernel_rfl
 f15 := by kernel_rfl
 t3 := underlying3
 a3 := isAgg3
 z3 := sizeOf3
 v3 := zeroValue3
 t4 := underlying4
 a4 := isAgg4
 z4 := sizeOf4
 v4 := zeroValue4
 t22 := underlying23
 a22 := isAgg23
 z22 := sizeOf23
 v22 := zeroValue23
 i3 := by kernel_rfl
theorem ok48 : FnOK prog 48 fs48 := clone_ok lays15
theorem ent48 : Entr prog 48 := ⟨_,func48,rfl,by decide⟩
end Go.Proofs.Try

set_option linter.unusedSimpArgs false
set_option linter.unusedVariables false
namespace Go.Proofs.Try
open Go.Ab Go.RowKit
def fs49 : FnS := fnS [.s .marks] [.marks] (fun _ (l,_) => (.own 0 l.length,[(33,.marks l)],(l.length ≤ 1000)))
abbrev T49 : Tab := lk []
theorem tab49 : TabOK prog T49 := TabOK.nil
set_option maxRecDepth 100000 in
set_option maxHeartbeats 1000000 in
theorem ok49 : FnOK prog 49 fs49 := by
 refine FnOK.mk cok func49 rfl rfl rfl ?_
 rintro fl ⟨(l : List MarkD),_⟩ hpre F hnt0 _
 have hnt : F.nt = 8 := hnt0.trans ntmps49
 replace hpre : (l.length ≤ 1000) := hpre
 have hl := hpre
 refine W.to (⟨[(0,.sl (.marks l))],[],[999]⟩) rfl ?_
 refine W.lenOf 0 (.marks l) (by kernel_rfl) ?_
 intro hl_l; replace hl_l : List.length l ≤ 9223372036854775807 := hl_l
 refine Kk cok tab49 hnt [] [0] (⟨[(0,.sl (.marks l))],[],[999]⟩)
  (True ∧ True)
  ⟨tt,tt⟩ ?_
 refine W.seq ?_
 refine W.seq (W.wi ?_)
 refine WI.runT cok tab49 hnt [] 1 1 (⟨[(0,.sl (.marks l)),(3,.sl (.marks l))],[],[999]⟩)
  (True ∧ True) (by kernel_rfl) rfl
  ⟨tt,tt⟩ ?_
 refine WI.nilEq 24 24 (.marks l) cok rfl hnt (wanted_none rfl) rfl (by kernel_rfl) (.inr (.inl rfl)) rfl rfl ?_
 intro b4 hb4
 replace hb4 : b4 = true → List.length l = 0 := hb4
 refine WI.to (⟨[(0,.sl (.marks l)),(3,.sl (.marks l)),(4,.b b4)],[],[999]⟩) 2 (by kernel_rfl) rfl ?_
 refine WI.nil rfl (thenQ_normal ?_)
 refine W.keepE [0,4] [(0,.sl (.marks l)),(4,.b b4)] (by kernel_rfl) ?_
 refine W.to (⟨[(0,.sl (.marks l)),(4,.b b4)],[],[999]⟩) rfl ?_
 refine W.if' b4 (.b b4) (by kernel_rfl) rfl trivial ?_ ?_
 ·intro h4
  refine Kk cok tab49 hnt [] [2] (⟨[(2,.v (.slice none 0 0))],[],[999]⟩)
   (True ∧ True)
   ⟨tt,tt⟩ ?_
  refine W.nilOwn 2 815 none 33 (.marks ([] : List MarkD)) (.v (.slice none 0 0)) (.own 815 0) (⟨[(2,.own 815 0)],[(815,⟨33,.row (.marks ([] : List MarkD))⟩)],[815,999]⟩) (by kernel_rfl) (by kernel_rfl) (by kernel_rfl) (by kernel_rfl) (by kernel_rfl) ?_
  refine W.ret (thenQ_ret ?_)
  exact endQ_rows [(0,815)] (.own 815 0) (by kernel_rfl) (@cast (((815 : Nat) = 815) ∧ (0 = l.length) ∧ ((0 : Nat) ∈ ([0] : List Nat))) _ (by kernel_rfl) ⟨rfl,(by first | rfl | omega | assumption | (symm; assumption) | (exact congrArg List.length (by exact (List.length_eq_zero_iff.1 (hb4 h4)).symm)) | (exact (List.length_eq_zero_iff.1 (hb4 h4)).symm; done) | simp | simp_all),(by decide)⟩) (@cast ((((33 : Nat) = 33) ∧ ((.marks ([] : List MarkD) : Dat) = .marks l) ∧ ((0 : Nat) ∈ ([0] : List Nat))) ∧ True) _ (by kernel_rfl) ⟨⟨rfl,(congrArg Dat.marks (by exact (List.length_eq_zero_iff.1 (hb4 h4)).symm)),(by decide)⟩,tt⟩) (by kernel_rfl)
 ·intro n4
  refine W.skip (thenQ_normal ?_)
  refine Kk cok tab49 hnt [5,7] [2] (⟨[(2,.own 7 l.length)],[(7,⟨33,.row (.marks l)⟩)],[7,5,999]⟩)
   (True ∧ True ∧ ((True ∧ ((List.length ([] : List MarkD)) = (List.length ([] : List MarkD)))) ∧ True ∧ (((List.length ([] : List MarkD)) + l.length) * 32 ≤ 140737488355328)) ∧ True ∧ True)
   ⟨tt,tt,⟨⟨tt,rfl⟩,tt,(by (try simp only [List.length_append,List.length_cons,List.length_nil,List.length_set]); omega)⟩,tt,tt⟩ ?_
  refine W.ret ?_
  exact endQ_rows [(0,7)] (.own 7 l.length) (by kernel_rfl) (@cast (((7 : Nat) = 7) ∧ (l.length = l.length) ∧ ((0 : Nat) ∈ ([0] : List Nat))) _ (by kernel_rfl) ⟨rfl,rfl,(by decide)⟩) (@cast ((((33 : Nat) = 33) ∧ (Sd (.marks l)) ∧ ((0 : Nat) ∈ ([0] : List Nat))) ∧ True) _ (by kernel_rfl) ⟨⟨rfl,rfl,(by decide)⟩,tt⟩) (by kernel_rfl)
theorem ent49 : Entr prog 49 := ⟨_,func49,rfl,by decide⟩
end Go.Proofs.Try

set_option linter.unusedSimpArgs false
set_option linter.unusedVariables false
namespace Go.Proofs.Try
open Go.Ab Go.RowKit
def fs26 : FnS := fnS [.a [some .ints,some .ints,none,none,none,some .marks]] [.copy] (fun _ (c,_) => (.agg [.own 0 (List.length c.up),.own 1 (List.length c.down),.i c.value,.i c.time,.i c.proc,.own 2 (List.length c.marks)],[(3,.ints c.up),(3,.ints c.down),(33,.marks c.marks)],(c.up.length ≤ 1000 ∧ c.down.length ≤ 1000 ∧ c.marks.length ≤ 1000)))
abbrev T26 : Tab := lk [(48,fs48),(49,fs49)]
theorem tab26 : TabOK prog T26 := (TabOK.cons ok48 ent48 (TabOK.cons ok49 ent49 TabOK.nil))
set_option maxRecDepth 100000 in
set_option maxHeartbeats 1000000 in
theorem ok26 : FnOK prog 26 fs26 := by
 refine FnOK.mk cok func26 rfl rfl rfl ?_
 rintro fl ⟨(c : CopyD),_⟩ hpre F hnt0 _
 have hnt : F.nt = 16 := hnt0.trans ntmps26
 replace hpre : (c.up.length ≤ 1000 ∧ c.down.length ≤ 1000 ∧ c.marks.length ≤ 1000) := hpre
 have hs := hpre
 refine W.to (⟨[(0,.agg (cC c))],[],[999]⟩) rfl ?_
 refine W.lenA 0 0 (cC c) (.ints c.up) (by kernel_rfl) (by kernel_rfl) ?_
 intro hl_c_up; replace hl_c_up : List.length c.up ≤ 9223372036854775807 := hl_c_up
 refine W.lenA 0 1 (cC c) (.ints c.down) (by kernel_rfl) (by kernel_rfl) ?_
 intro hl_c_down; replace hl_c_down : List.length c.down ≤ 9223372036854775807 := hl_c_down
 refine W.lenA 0 5 (cC c) (.marks c.marks) (by kernel_rfl) (by kernel_rfl) ?_
 intro hl_c_marks; replace hl_c_marks : List.length c.marks ≤ 9223372036854775807 := hl_c_marks
 refine Kk cok tab26 hnt [] [1,2] (⟨[(1,.ptr 1 0),(2,.ptr 2 0)],[(1,⟨26,.fix (cC c)⟩),(2,⟨26,.fix [.v (.slice none 0 0),.v (.slice none 0 0),.i (0 : Int),.i (0 : Int),.i (0 : Int),.v (.slice none 0 0)]⟩)],[2,1,999]⟩)
  (True ∧ True ∧ True)
  ⟨tt,tt,tt⟩ ?_
 refine W.KA cok tab26 hnt [5,8,11] [1,2] (⟨[(1,.ptr 1 0),(2,.ptr 2 0)],[(1,⟨26,.fix [.own 5 (List.length c.up),.own 8 (List.length c.down),.i c.value,.i c.time,.i c.proc,.own 11 (List.length c.marks)]⟩),(2,⟨26,.fix [.v (.slice none 0 0),.v (.slice none 0 0),.i (0 : Int),.i (0 : Int),.i (0 : Int),.v (.slice none 0 0)]⟩),(5,⟨3,.row (.ints c.up)⟩),(8,⟨3,.row (.ints c.down)⟩),(11,⟨33,.row (.marks c.marks)⟩)],[11,8,5,2,1,999]⟩)
  (True ∧ True ∧ (True ∧ (True ∧ True) ∧ (c.up.length * 8 ≤ 140737488355328)) ∧ True ∧ True ∧ (True ∧ (True ∧ True) ∧ (c.down.length * 8 ≤ 140737488355328)) ∧ True ∧ True ∧ (True ∧ (True ∧ True) ∧ (c.marks.length ≤ 1000)) ∧ True ∧ (True ∧ True) ∧ True ∧ (True ∧ True) ∧ True ∧ (True ∧ True) ∧ True) (by kernel_rfl) (by kernel_rfl)
  ⟨tt,tt,⟨tt,⟨tt,tt⟩,(by omega)⟩,tt,tt,⟨tt,⟨tt,tt⟩,(by omega)⟩,tt,tt,⟨tt,⟨tt,tt⟩,(by omega)⟩,tt,⟨tt,tt⟩,tt,⟨tt,tt⟩,tt,⟨tt,tt⟩,tt⟩ ?_
 refine Kk cok tab26 hnt [] [2] (⟨[(2,.ptr 2 0)],[(1,⟨26,.fix [.own 5 (List.length c.up),.own 8 (List.length c.down),.i c.value,.i c.time,.i c.proc,.own 11 (List.length c.marks)]⟩),(2,⟨26,.fix [.own 5 (List.length c.up),.own 8 (List.length c.down),.i c.value,.i c.time,.i c.proc,.own 11 (List.length c.marks)]⟩),(5,⟨3,.row (.ints c.up)⟩),(8,⟨3,.row (.ints c.down)⟩),(11,⟨33,.row (.marks c.marks)⟩)],[11,8,5,2,1,999]⟩)
  (True ∧ (True ∧ True) ∧ True)
  ⟨tt,⟨tt,tt⟩,tt⟩ ?_
 refine W.ret ?_
 exact endQ_rows [(0,5),(1,8),(2,11)] (.agg [.own 5 (List.length c.up),.own 8 (List.length c.down),.i c.value,.i c.time,.i c.proc,.own 11 (List.length c.marks)]) (by kernel_rfl) (@cast ((((5 : Nat) = 5) ∧ ((List.length c.up) = (List.length c.up)) ∧ ((0 : Nat) ∈ ([0,1,2] : List Nat))) ∧ (((8 : Nat) = 8) ∧ ((List.length c.down) = (List.length c.down)) ∧ ((1 : Nat) ∈ ([0,1,2] : List Nat))) ∧ (Si c.value) ∧ (Si c.time) ∧ (Si c.proc) ∧ (((11 : Nat) = 11) ∧ ((List.length c.marks) = (List.length c.marks)) ∧ ((2 : Nat) ∈ ([0,1,2] : List Nat))) ∧ True) _ (by kernel_rfl) ⟨⟨rfl,rfl,(by decide)⟩,⟨rfl,rfl,(by decide)⟩,rfl,rfl,rfl,⟨rfl,rfl,(by decide)⟩,tt⟩) (@cast ((((3 : Nat) = 3) ∧ (Sd (.ints c.up)) ∧ ((0 : Nat) ∈ ([0,1,2] : List Nat))) ∧ (((3 : Nat) = 3) ∧ (Sd (.ints c.down)) ∧ ((1 : Nat) ∈ ([0,1,2] : List Nat))) ∧ (((33 : Nat) = 33) ∧ (Sd (.marks c.marks)) ∧ ((2 : Nat) ∈ ([0,1,2] : List Nat))) ∧ True) _ (by kernel_rfl) ⟨⟨rfl,rfl,(by decide)⟩,⟨rfl,rfl,(by decide)⟩,⟨rfl,rfl,(by decide)⟩,tt⟩) (by kernel_rfl)
theorem ent26 : Entr prog 26 := ⟨_,func26,rfl,by decide⟩
end Go.Proofs.Try

set_option linter.unusedSimpArgs false
set_option linter.unusedVariables false
namespace Go.Proofs.Try
open Go.Ab Go.RowKit
def fs28 : FnS := fnS [.s .marks,.o,.o] [.marks,.mark,(.fn0 29)] (fun _ (l,mm,(),_) => (.tup [.i ((bsPos l mm : Nat) : Int),.b (bsFound l mm)],[],(sortedM l) ∧ (l.length ≤ 1000)))
abbrev T28 : Tab := lk [(29,fs29)]
theorem tab28 : TabOK prog T28 := (TabOK.cons ok29 ent29 TabOK.nil)
set_option maxRecDepth 100000 in
set_option maxHeartbeats 1000000 in
theorem ok28 : FnOK prog 28 fs28 := by
 refine FnOK.mk cok func28 rfl rfl rfl ?_
 rintro fl ⟨(l : List MarkD),(mm : MarkD),⟨⟩,_⟩ hpre F hnt0 _
 have hnt : F.nt = 49 := hnt0.trans ntmps28
 replace hpre : (sortedM l) ∧ (l.length ≤ 1000) := hpre
 obtain ⟨hs,hl⟩ := hpre
 refine W.to (⟨[(0,.sl (.marks l)),(1,.agg [.i mm.value,.i mm.proc,.i mm.number,.b mm.gone]),(2,.fn 29 [])],[],[999]⟩) rfl ?_
 refine W.lenOf 0 (.marks l) (by kernel_rfl) ?_
 intro hl_l; replace hl_l : List.length l ≤ 9223372036854775807 := hl_l
 refine Kk cok tab28 hnt [] [0,2,4] (⟨[(0,.sl (.marks l)),(2,.fn 29 []),(4,.ptr 4 0)],[(4,⟨33,.fix [.i mm.value,.i mm.proc,.i mm.number,.b mm.gone]⟩)],[4,999]⟩)
  (True ∧ True ∧ True ∧ True)
  ⟨tt,tt,tt,tt⟩ ?_
 refine Kk cok tab28 hnt [] [0,2,4,8] (⟨[(0,.sl (.marks l)),(2,.fn 29 []),(4,.ptr 4 0),(8,.i (l.length : Int))],[(4,⟨33,.fix [.i mm.value,.i mm.proc,.i mm.number,.b mm.gone]⟩)],[4,999]⟩)
  (True ∧ True ∧ True ∧ True)
  ⟨tt,tt,tt,tt⟩ ?_
 refine Kk cok tab28 hnt [] [0,2,4,8,9,10] (⟨[(0,.sl (.marks l)),(2,.fn 29 []),(4,.ptr 4 0),(8,.i (l.length : Int)),(9,.i (0 : Int)),(10,.i (l.length : Int))],[(4,⟨33,.fix [.i mm.value,.i mm.proc,.i mm.number,.b mm.gone]⟩)],[4,999]⟩)
  (True ∧ True ∧ True ∧ True)
  ⟨tt,tt,tt,tt⟩ ?_
 refine W.seq ?_
 refine W.block ?_
 refine W.loop (ι := Int × Int) (fun (x : Int × Int) => match x with | (i,j) => (⟨[(0,.sl (.marks l)),(2,.fn 29 []),(4,.ptr 4 0),(8,.i (l.length : Int)),(9,.i i),(10,.i j)],[(4,⟨33,.fix [.i mm.value,.i mm.proc,.i mm.number,.b mm.gone]⟩)],[4,999]⟩ : St))
  (fun (x : Int × Int) => match x with | (i,j) => (0 ≤ i ∧ i ≤ j ∧ j ≤ (l.length : Int)) ∧ (∀ q : Nat,((q : Nat) : Int) < i → lessM (l.getD q default) mm = true) ∧ (∀ q : Nat,j ≤ ((q : Nat) : Int) → q < l.length → lessM (l.getD q default) mm = false))
  (fun (x : Int × Int) => match x with | (i,j) => ((j - i).toNat : Nat)) ((0 : Int),(l.length : Int)) ?_ ?_ ?_
 ·exact (show (0 ≤ (0 : Int) ∧ (0 : Int) ≤ (l.length : Int) ∧ (l.length : Int) ≤ (l.length : Int)) ∧ (∀ q : Nat,((q : Nat) : Int) < (0 : Int) → lessM (l.getD q default) mm = true) ∧ (∀ q : Nat,(l.length : Int) ≤ ((q : Nat) : Int) → q < l.length → lessM (l.getD q default) mm = false) from ⟨(by first | assumption | omega | rfl | (intro _ hjj; omega) | (simp; done) | (simp; omega)),(by intro q hq; omega),(by intro q hq hl; omega)⟩)
 ·exact Sub.of [] (@cast (((Sd (.marks l)) ∧ (((29 : Nat) = 29) ∧ True) ∧ (((4 : Nat) = 4) ∧ ((0 : Nat) = 0) ∧ ((4 : Nat) ∈ ([4,999] : List Nat))) ∧ (Si (l.length : Int)) ∧ (Si (0 : Int)) ∧ (Si (l.length : Int)) ∧ True) ∧ ((((33 : Nat) = 33) ∧ ((Si mm.value) ∧ (Si mm.proc) ∧ (Si mm.number) ∧ (Sv (.bool mm.gone)) ∧ True) ∧ ((4 : Nat) ∈ ([4,999] : List Nat))) ∧ True) ∧ (true = true) ∧ (true = true)) _ (by kernel_rfl) ⟨⟨rfl,⟨rfl,tt⟩,⟨rfl,rfl,(by decide)⟩,rfl,rfl,rfl,tt⟩,⟨⟨rfl,⟨rfl,rfl,rfl,rfl,tt⟩,(by decide)⟩,tt⟩,rfl,rfl⟩)
 ·rintro ⟨i,j⟩ hC0
  have hC : (0 ≤ i ∧ i ≤ j ∧ j ≤ (l.length : Int)) ∧ (∀ q : Nat,((q : Nat) : Int) < i → lessM (l.getD q default) mm = true) ∧ (∀ q : Nat,j ≤ ((q : Nat) : Int) → q < l.length → lessM (l.getD q default) mm = false) := hC0
  clear hC0
  obtain ⟨hij,hA,hB⟩ := hC
  refine W.to (⟨[(0,.sl (.marks l)),(2,.fn 29 []),(4,.ptr 4 0),(8,.i (l.length : Int)),(9,.i i),(10,.i j)],[(4,⟨33,.fix [.i mm.value,.i mm.proc,.i mm.number,.b mm.gone]⟩)],[4,999]⟩) rfl ?_
  have hmid := shr_half (x := i + j) (by omega) (by omega)
  refine W.seq ?_
  refine Kk cok tab28 hnt [] [0,2,4,8,9,10,17] (⟨[(0,.sl (.marks l)),(2,.fn 29 []),(4,.ptr 4 0),(8,.i (l.length : Int)),(9,.i i),(10,.i j),(17,.b (decide (i < j)))],[(4,⟨33,.fix [.i mm.value,.i mm.proc,.i mm.number,.b mm.gone]⟩)],[4,999]⟩)
   (True ∧ True ∧ (True ∧ True ∧ True) ∧ True)
   ⟨tt,tt,⟨tt,tt,tt⟩,tt⟩ ?_
  refine W.ifP (i < j) (.b (decide (i < j))) (by kernel_rfl) rfl trivial ?_ ?_
  ·intro h17
   refine W.skip (thenQ_normal ?_)
   refine W.block ?_
   refine Kk cok tab28 hnt [] [0,2,4,8,9,10,11] (⟨[(0,.sl (.marks l)),(2,.fn 29 []),(4,.ptr 4 0),(8,.i (l.length : Int)),(9,.i i),(10,.i j),(11,.i (shrI .u64 (i + j) (1 : Int)))],[(4,⟨33,.fix [.i mm.value,.i mm.proc,.i mm.number,.b mm.gone]⟩)],[4,999]⟩)
    (True ∧ True ∧ (True ∧ True ∧ (Fits .i64 (i + j))) ∧ (True ∧ (Fits .u64 (i + j))) ∧ (True ∧ True ∧ (0 ≤ (1 : Int))) ∧ (True ∧ (Fits .i64 (shrI .u64 (i + j) (1 : Int)))) ∧ True ∧ True)
    ⟨tt,tt,⟨tt,tt,(by exact fits_i64 (by omega) (by omega))⟩,⟨tt,(by exact fits_u64 (by omega) (by omega))⟩,⟨tt,tt,(by omega)⟩,⟨tt,(by exact fits_i64 (by omega) (by omega))⟩,tt,tt⟩ ?_
   refine W.KA cok tab28 hnt [] [0,2,4,8,9,10,11,31] (⟨[(0,.sl (.marks l)),(2,.fn 29 []),(4,.ptr 4 0),(8,.i (l.length : Int)),(9,.i i),(10,.i j),(11,.i (shrI .u64 (i + j) (1 : Int))),(31,.b (decide ((cmpM (l.getD (Int.toNat (shrI .u64 (i + j) (1 : Int))) default) mm) < (0 : Int))))],[(4,⟨33,.fix [.i mm.value,.i mm.proc,.i mm.number,.b mm.gone]⟩)],[4,999]⟩)
    (True ∧ True ∧ True ∧ (True ∧ True ∧ (0 ≤ (shrI .u64 (i + j) (1 : Int))) ∧ ((shrI .u64 (i + j) (1 : Int)) < (l.length : Int))) ∧ True ∧ True ∧ (True ∧ (True ∧ True ∧ True) ∧ True) ∧ (True ∧ True ∧ True) ∧ True) (by kernel_rfl) (by kernel_rfl)
    ⟨tt,tt,tt,⟨tt,tt,(by omega),(by omega)⟩,tt,tt,⟨tt,⟨tt,tt,tt⟩,tt⟩,⟨tt,tt,tt⟩,tt⟩ ?_
   refine W.ifP ((cmpM (l.getD (Int.toNat (shrI .u64 (i + j) (1 : Int))) default) mm) < (0 : Int)) (.b (decide ((cmpM (l.getD (Int.toNat (shrI .u64 (i + j) (1 : Int))) default) mm) < (0 : Int)))) (by kernel_rfl) rfl trivial ?_ ?_
   ·intro h31
    refine Lk cok tab28 hnt [] (⟨[(0,.sl (.marks l)),(2,.fn 29 []),(4,.ptr 4 0),(8,.i (l.length : Int)),(9,.i ((shrI .u64 (i + j) (1 : Int)) + (1 : Int))),(10,.i j),(11,.i (shrI .u64 (i + j) (1 : Int))),(31,.b (decide ((cmpM (l.getD (Int.toNat (shrI .u64 (i + j) (1 : Int))) default) mm) < (0 : Int)))),(32,.i (shrI .u64 (i + j) (1 : Int))),(33,.i ((shrI .u64 (i + j) (1 : Int)) + (1 : Int)))],[(4,⟨33,.fix [.i mm.value,.i mm.proc,.i mm.number,.b mm.gone]⟩)],[4,999]⟩)
     (True ∧ (True ∧ True ∧ (Fits .i64 ((shrI .u64 (i + j) (1 : Int)) + (1 : Int)))) ∧ True ∧ True)
     ⟨tt,⟨tt,tt,(by exact fits_i64 (by omega) (by omega))⟩,tt,tt⟩ ?_
    refine blockQ_normal (thenQ_normal ?_)
    refine ⟨(((shrI .u64 (i + j) (1 : Int)) + (1 : Int)),j),(show (0 ≤ ((shrI .u64 (i + j) (1 : Int)) + (1 : Int)) ∧ ((shrI .u64 (i + j) (1 : Int)) + (1 : Int)) ≤ j ∧ j ≤ (l.length : Int)) ∧ (∀ q : Nat,((q : Nat) : Int) < ((shrI .u64 (i + j) (1 : Int)) + (1 : Int)) → lessM (l.getD q default) mm = true) ∧ (∀ q : Nat,j ≤ ((q : Nat) : Int) → q < l.length → lessM (l.getD q default) mm = false) from ⟨(by first | assumption | omega | rfl | (intro _ hjj; omega) | (simp; done) | (simp; omega)),(by first | assumption | exact bs_stepA hs (by omega) (by omega) h31),(by first | assumption | exact bs_stepB hs (by omega) n31)⟩),(show (j - ((shrI .u64 (i + j) (1 : Int)) + (1 : Int))).toNat < (j - i).toNat from (by omega)),?_⟩
    exact Sub.of [] (@cast (((Sd (.marks l)) ∧ (((29 : Nat) = 29) ∧ True) ∧ (((4 : Nat) = 4) ∧ ((0 : Nat) = 0) ∧ ((4 : Nat) ∈ ([4,999] : List Nat))) ∧ (Si (l.length : Int)) ∧ (Si ((shrI .u64 (i + j) (1 : Int)) + (1 : Int))) ∧ (Si j) ∧ True) ∧ ((((33 : Nat) = 33) ∧ ((Si mm.value) ∧ (Si mm.proc) ∧ (Si mm.number) ∧ (Sv (.bool mm.gone)) ∧ True) ∧ ((4 : Nat) ∈ ([4,999] : List Nat))) ∧ True) ∧ (true = true) ∧ (true = true)) _ (by kernel_rfl) ⟨⟨rfl,⟨rfl,tt⟩,⟨rfl,rfl,(by decide)⟩,rfl,rfl,rfl,tt⟩,⟨⟨rfl,⟨rfl,rfl,rfl,rfl,tt⟩,(by decide)⟩,tt⟩,rfl,rfl⟩)
   ·intro n31
    refine Lk cok tab28 hnt [] (⟨[(0,.sl (.marks l)),(2,.fn 29 []),(4,.ptr 4 0),(8,.i (l.length : Int)),(9,.i i),(10,.i (shrI .u64 (i + j) (1 : Int))),(11,.i (shrI .u64 (i + j) (1 : Int))),(31,.b (decide ((cmpM (l.getD (Int.toNat (shrI .u64 (i + j) (1 : Int))) default) mm) < (0 : Int)))),(34,.i (shrI .u64 (i + j) (1 : Int)))],[(4,⟨33,.fix [.i mm.value,.i mm.proc,.i mm.number,.b mm.gone]⟩)],[4,999]⟩)
     (True ∧ True ∧ True)
     ⟨tt,tt,tt⟩ ?_
    refine blockQ_normal (thenQ_normal ?_)
    refine ⟨(i,(shrI .u64 (i + j) (1 : Int))),(show (0 ≤ i ∧ i ≤ (shrI .u64 (i + j) (1 : Int)) ∧ (shrI .u64 (i + j) (1 : Int)) ≤ (l.length : Int)) ∧ (∀ q : Nat,((q : Nat) : Int) < i → lessM (l.getD q default) mm = true) ∧ (∀ q : Nat,(shrI .u64 (i + j) (1 : Int)) ≤ ((q : Nat) : Int) → q < l.length → lessM (l.getD q default) mm = false) from ⟨(by first | assumption | omega | rfl | (intro _ hjj; omega) | (simp; done) | (simp; omega)),(by first | assumption | exact bs_stepA hs (by omega) (by omega) h31),(by first | assumption | exact bs_stepB hs (by omega) n31)⟩),(show ((shrI .u64 (i + j) (1 : Int)) - i).toNat < (j - i).toNat from (by omega)),?_⟩
    exact Sub.of [] (@cast (((Sd (.marks l)) ∧ (((29 : Nat) = 29) ∧ True) ∧ (((4 : Nat) = 4) ∧ ((0 : Nat) = 0) ∧ ((4 : Nat) ∈ ([4,999] : List Nat))) ∧ (Si (l.length : Int)) ∧ (Si i) ∧ (Si (shrI .u64 (i + j) (1 : Int))) ∧ True) ∧ ((((33 : Nat) = 33) ∧ ((Si mm.value) ∧ (Si mm.proc) ∧ (Si mm.number) ∧ (Sv (.bool mm.gone)) ∧ True) ∧ ((4 : Nat) ∈ ([4,999] : List Nat))) ∧ True) ∧ (true = true) ∧ (true = true)) _ (by kernel_rfl) ⟨⟨rfl,⟨rfl,tt⟩,⟨rfl,rfl,(by decide)⟩,rfl,rfl,rfl,tt⟩,⟨⟨rfl,⟨rfl,rfl,rfl,rfl,tt⟩,(by decide)⟩,tt⟩,rfl,rfl⟩)
  ·intro n17
   refine W.exit (thenQ_exit (thenQ_exit (blockQ_hit ?_)))
   refine thenQ_normal ?_
   refine W.KA cok tab28 hnt [] [6,7] (⟨[(6,.i i),(7,.b ((decide (i < (l.length : Int))) && (decide ((cmpM (l.getD (Int.toNat i) default) mm) = (0 : Int)))))],[(4,⟨33,.fix [.i mm.value,.i mm.proc,.i mm.number,.b mm.gone]⟩)],[4,999]⟩)
    ((fun (Z1:Bool)=>(True ∧ (True ∧ (True ∧ ((True ∧ (True ∧ True)) ∧ (True ∧ ((Z1 = true → True) ∧ ((Z1 = true → True) ∧ ((Z1 = true → True) ∧ ((Z1 = true → (((Z1 = true) ∧ True) ∧ (((Z1 = true) ∧ True) ∧ ((0 ≤ i) ∧ (i < (l.length : Int)))))) ∧ ((Z1 = true → ((Z1 = true) ∧ True)) ∧ ((Z1 = true → True) ∧ ((Z1 = true → (((Z1 = true) ∧ True) ∧ ((((Z1 = true) ∧ True) ∧ (((Z1 = true) ∧ True) ∧ True)) ∧ True))) ∧ ((Z1 = true → (((Z1 = true) ∧ True) ∧ (True ∧ True))) ∧ ((True ∧ ((Z1 = true → (Z1 = true) ∧ True) ∧ (Z1 = false → True))) ∧ (True ∧ (True ∧ True))))))))))))))))) (decide (i < (l.length : Int)))) (by kernel_rfl) (by kernel_rfl)
    ⟨tt,tt,tt,⟨tt,tt,tt⟩,tt,(fun _ => trivial),(fun _ => trivial),(fun _ => trivial),(fun hG => ⟨⟨hG,tt⟩,⟨hG,tt⟩,(by have hg0 : i < (l.length : Int) := of_decide_eq_true hG; omega),(by have hg0 : i < (l.length : Int) := of_decide_eq_true hG; omega)⟩),(fun hG => ⟨hG,tt⟩),(fun _ => trivial),(fun hG => ⟨⟨hG,tt⟩,⟨⟨hG,tt⟩,⟨hG,tt⟩,tt⟩,tt⟩),(fun hG => ⟨⟨hG,tt⟩,tt,tt⟩),⟨tt,(fun hp => ⟨hp,tt⟩),(fun _ => trivial)⟩,tt,tt,tt⟩ ?_
   refine W.ret ?_
   exact endQ_ret (.tup [.i i,.b ((decide (i < (l.length : Int))) && (decide ((cmpM (l.getD (Int.toNat i) default) mm) = (0 : Int))))]) (by kernel_rfl) (@cast (((.int .i64 i : Value) = .int .i64 ((bsPos l mm : Nat) : Int)) ∧ ((.bool ((decide (i < (l.length : Int))) && (decide ((cmpM (l.getD (Int.toNat i) default) mm) = (0 : Int)))) : Value) = .bool (bsFound l mm)) ∧ True) _ (by kernel_rfl) ⟨(congrArg (Value.int .i64) (by first | exact (bs_end hij.1 (by omega) (by omega) hA hB).1 | exact (bs_end hij.1 (by omega) (by omega) hA hB).2)),(congrArg Value.bool (by first | exact (bs_end hij.1 (by omega) (by omega) hA hB).1 | exact (bs_end hij.1 (by omega) (by omega) hA hB).2)),tt⟩)
theorem ent28 : Entr prog 28 := ⟨_,func28,rfl,of_decide_eq_true (by kernel_rfl)⟩
end Go.Proofs.Try

set_option linter.unusedSimpArgs false
set_option linter.unusedVariables false
namespace Go.Proofs.Try
open Go.Ab Go.RowKit
abbrev T27 : Tab := lk [(50,fs50),(51,fs51)]
theorem tab27 : TabOK prog T27 := (TabOK.cons ok50 ent50 (TabOK.cons ok51 ent51 TabOK.nil))
theorem ent27 : Entr prog 27 := ⟨_,func27,rfl,by decide⟩
set_option maxRecDepth 100000 in
set_option maxHeartbeats 1000000 in
theorem hok27 : ∀ (cu : List Int) (cd : List Int) (cv : Int) (ct : Int) (cp : Int) (cm : List MarkD) (value : Int) (time : Int) (pp : Int),(True) → HOK prog 27 [910,911,912,913] [.ptr 910 0,.i value,.i time,.i pp] [(910,⟨26,.fix [.own 911 cu.length,.own 912 cd.length,.i cv,.i ct,.i cp,.own 913 cm.length]⟩),(911,⟨3,.row (.ints cu)⟩),(912,⟨3,.row (.ints cd)⟩),(913,⟨33,.row (.marks cm)⟩)] [910,911,912,913] (fun r s1 u1 => r = (.tup []) ∧ s1 = ([(910,⟨26,.fix [.own 911 cu.length,.own 912 cd.length,.i (bif newerC (⟨cu,cd,value,time,pp,cm⟩ : CopyD) (⟨cu,cd,cv,ct,cp,cm⟩ : CopyD) then value else cv),.i (bif newerC (⟨cu,cd,value,time,pp,cm⟩ : CopyD) (⟨cu,cd,cv,ct,cp,cm⟩ : CopyD) then time else ct),.i (bif newerC (⟨cu,cd,value,time,pp,cm⟩ : CopyD) (⟨cu,cd,cv,ct,cp,cm⟩ : CopyD) then pp else cp),.own 913 cm.length]⟩),(911,⟨3,.row (.ints cu)⟩),(912,⟨3,.row (.ints cd)⟩),(913,⟨33,.row (.marks cm)⟩)]) ∧ u1 = ([910,911,912,913])) := by
 intro cu cd cv ct cp cm value time pp hpre
 refine HOK.of cok func27 rfl rfl rfl ?_
 intro F hnt0
 have hnt : F.nt = 41 := hnt0.trans ntmps27
 refine W.to (⟨[(0,.ptr 910 0),(1,.i value),(2,.i time),(3,.i pp)],[(910,⟨26,.fix [.own 911 cu.length,.own 912 cd.length,.i cv,.i ct,.i cp,.own 913 cm.length]⟩),(911,⟨3,.row (.ints cu)⟩),(912,⟨3,.row (.ints cd)⟩),(913,⟨33,.row (.marks cm)⟩)],[910,911,912,913]⟩) rfl ?_
 refine W.KA cok tab27 hnt [] [0,1,2,3,28] (⟨[(0,.ptr 910 0),(1,.i value),(2,.i time),(3,.i pp),(28,.b (decide ((0 : Int) < (orI ([(cmpI time ct),(cmpI pp cp),(cmpI value cv)])))))],[(910,⟨26,.fix [.own 911 cu.length,.own 912 cd.length,.i cv,.i ct,.i cp,.own 913 cm.length]⟩),(911,⟨3,.row (.ints cu)⟩),(912,⟨3,.row (.ints cd)⟩),(913,⟨33,.row (.marks cm)⟩)],[26,910,911,912,913]⟩)
  (True ∧ True ∧ True ∧ True ∧ True ∧ (True ∧ (True ∧ True ∧ True) ∧ True) ∧ True ∧ True ∧ True ∧ True ∧ True ∧ (True ∧ (True ∧ True ∧ True) ∧ True) ∧ True ∧ True ∧ True ∧ True ∧ True ∧ (True ∧ (True ∧ True ∧ True) ∧ True) ∧ (True ∧ True ∧ True ∧ True) ∧ (True ∧ (True ∧ True) ∧ True) ∧ (True ∧ True ∧ True) ∧ True) (by kernel_rfl) (by kernel_rfl)
  ⟨tt,tt,tt,tt,tt,⟨tt,⟨tt,tt,tt⟩,tt⟩,tt,tt,tt,tt,tt,⟨tt,⟨tt,tt,tt⟩,tt⟩,tt,tt,tt,tt,tt,⟨tt,⟨tt,tt,tt⟩,tt⟩,⟨tt,tt,tt,tt⟩,⟨tt,⟨tt,tt⟩,tt⟩,⟨tt,tt,tt⟩,tt⟩ ?_
 refine W.ifP ((0 : Int) < (orI ([(cmpI time ct),(cmpI pp cp),(cmpI value cv)]))) (.b (decide ((0 : Int) < (orI ([(cmpI time ct),(cmpI pp cp),(cmpI value cv)]))))) (by kernel_rfl) rfl trivial ?_ ?_
 ·intro h28
  refine Lk cok tab27 hnt [] (⟨[(0,.ptr 910 0),(1,.i value),(2,.i time),(3,.i pp),(28,.b (decide ((0 : Int) < (orI ([(cmpI time ct),(cmpI pp cp),(cmpI value cv)]))))),(29,.ptr 910 0),(30,.ptr 910 0),(31,.ptr 910 0),(32,.i value),(33,.i time),(34,.i pp),(35,.ptr 910 0),(36,.ptr 910 2),(37,.ptr 910 0),(38,.ptr 910 3),(39,.ptr 910 0),(40,.ptr 910 4)],[(910,⟨26,.fix [.own 911 cu.length,.own 912 cd.length,.i value,.i time,.i pp,.own 913 cm.length]⟩),(911,⟨3,.row (.ints cu)⟩),(912,⟨3,.row (.ints cd)⟩),(913,⟨33,.row (.marks cm)⟩)],[26,910,911,912,913]⟩)
   (True ∧ True ∧ True ∧ True ∧ True ∧ True ∧ True ∧ True ∧ (True ∧ True) ∧ True ∧ True ∧ (True ∧ True) ∧ True ∧ True ∧ (True ∧ True) ∧ True)
   ⟨tt,tt,tt,tt,tt,tt,tt,tt,⟨tt,tt⟩,tt,tt,⟨tt,tt⟩,tt,tt,⟨tt,tt⟩,tt⟩ ?_
  exact endH_norm (.tup []) [(910,⟨26,.fix [.own 911 cu.length,.own 912 cd.length,.i (bif newerC (⟨cu,cd,value,time,pp,cm⟩ : CopyD) (⟨cu,cd,cv,ct,cp,cm⟩ : CopyD) then value else cv),.i (bif newerC (⟨cu,cd,value,time,pp,cm⟩ : CopyD) (⟨cu,cd,cv,ct,cp,cm⟩ : CopyD) then time else ct),.i (bif newerC (⟨cu,cd,value,time,pp,cm⟩ : CopyD) (⟨cu,cd,cv,ct,cp,cm⟩ : CopyD) then pp else cp),.own 913 cm.length]⟩),(911,⟨3,.row (.ints cu)⟩),(912,⟨3,.row (.ints cd)⟩),(913,⟨33,.row (.marks cm)⟩)] [910,911,912,913] ⟨rfl,rfl,rfl⟩ [(910,910),(911,911),(912,912),(913,913)] (.tup []) (by kernel_rfl) (@cast (True ∧ ((((26 : Nat) = 26) ∧ ((((911 : Nat) = 911) ∧ (cu.length = cu.length) ∧ ((911 : Nat) ∈ ([910,911,912,913] : List Nat))) ∧ (((912 : Nat) = 912) ∧ (cd.length = cd.length) ∧ ((912 : Nat) ∈ ([910,911,912,913] : List Nat))) ∧ ((.int .i64 value : Value) = .int .i64 (bif newerC (⟨cu,cd,value,time,pp,cm⟩ : CopyD) (⟨cu,cd,cv,ct,cp,cm⟩ : CopyD) then value else cv)) ∧ ((.int .i64 time : Value) = .int .i64 (bif newerC (⟨cu,cd,value,time,pp,cm⟩ : CopyD) (⟨cu,cd,cv,ct,cp,cm⟩ : CopyD) then time else ct)) ∧ ((.int .i64 pp : Value) = .int .i64 (bif newerC (⟨cu,cd,value,time,pp,cm⟩ : CopyD) (⟨cu,cd,cv,ct,cp,cm⟩ : CopyD) then pp else cp)) ∧ (((913 : Nat) = 913) ∧ (cm.length = cm.length) ∧ ((913 : Nat) ∈ ([910,911,912,913] : List Nat))) ∧ True) ∧ ((910 : Nat) ∈ ([910,911,912,913] : List Nat))) ∧ (((3 : Nat) = 3) ∧ (Sd (.ints cu)) ∧ ((911 : Nat) ∈ ([910,911,912,913] : List Nat))) ∧ (((3 : Nat) = 3) ∧ (Sd (.ints cd)) ∧ ((912 : Nat) ∈ ([910,911,912,913] : List Nat))) ∧ (((33 : Nat) = 33) ∧ (Sd (.marks cm)) ∧ ((913 : Nat) ∈ ([910,911,912,913] : List Nat))) ∧ True) ∧ (true = true) ∧ (true = true)) _ (by kernel_rfl) ⟨tt,⟨⟨rfl,⟨⟨rfl,rfl,(by decide)⟩,⟨rfl,rfl,(by decide)⟩,(congrArg (Value.int .i64) (by first | rfl | omega | assumption | (first | rfl | (have h9 := nw_yes (u := cu) (d := cd) (m := cm) h28; simp only [h9,cond_true]); done) | simp | simp_all)),(congrArg (Value.int .i64) (by first | rfl | omega | assumption | (first | rfl | (have h9 := nw_yes (u := cu) (d := cd) (m := cm) h28; simp only [h9,cond_true]); done) | simp | simp_all)),(congrArg (Value.int .i64) (by first | rfl | omega | assumption | (first | rfl | (have h9 := nw_yes (u := cu) (d := cd) (m := cm) h28; simp only [h9,cond_true]); done) | simp | simp_all)),⟨rfl,rfl,(by decide)⟩,tt⟩,(by decide)⟩,⟨rfl,rfl,(by decide)⟩,⟨rfl,rfl,(by decide)⟩,⟨rfl,rfl,(by decide)⟩,tt⟩,rfl,rfl⟩)
 ·intro n28
  refine W.skip ?_
  exact endH_norm (.tup []) [(910,⟨26,.fix [.own 911 cu.length,.own 912 cd.length,.i (bif newerC (⟨cu,cd,value,time,pp,cm⟩ : CopyD) (⟨cu,cd,cv,ct,cp,cm⟩ : CopyD) then value else cv),.i (bif newerC (⟨cu,cd,value,time,pp,cm⟩ : CopyD) (⟨cu,cd,cv,ct,cp,cm⟩ : CopyD) then time else ct),.i (bif newerC (⟨cu,cd,value,time,pp,cm⟩ : CopyD) (⟨cu,cd,cv,ct,cp,cm⟩ : CopyD) then pp else cp),.own 913 cm.length]⟩),(911,⟨3,.row (.ints cu)⟩),(912,⟨3,.row (.ints cd)⟩),(913,⟨33,.row (.marks cm)⟩)] [910,911,912,913] ⟨rfl,rfl,rfl⟩ [(910,910),(911,911),(912,912),(913,913)] (.tup []) (by kernel_rfl) (@cast (True ∧ ((((26 : Nat) = 26) ∧ ((((911 : Nat) = 911) ∧ (cu.length = cu.length) ∧ ((911 : Nat) ∈ ([910,911,912,913] : List Nat))) ∧ (((912 : Nat) = 912) ∧ (cd.length = cd.length) ∧ ((912 : Nat) ∈ ([910,911,912,913] : List Nat))) ∧ ((.int .i64 cv : Value) = .int .i64 (bif newerC (⟨cu,cd,value,time,pp,cm⟩ : CopyD) (⟨cu,cd,cv,ct,cp,cm⟩ : CopyD) then value else cv)) ∧ ((.int .i64 ct : Value) = .int .i64 (bif newerC (⟨cu,cd,value,time,pp,cm⟩ : CopyD) (⟨cu,cd,cv,ct,cp,cm⟩ : CopyD) then time else ct)) ∧ ((.int .i64 cp : Value) = .int .i64 (bif newerC (⟨cu,cd,value,time,pp,cm⟩ : CopyD) (⟨cu,cd,cv,ct,cp,cm⟩ : CopyD) then pp else cp)) ∧ (((913 : Nat) = 913) ∧ (cm.length = cm.length) ∧ ((913 : Nat) ∈ ([910,911,912,913] : List Nat))) ∧ True) ∧ ((910 : Nat) ∈ ([910,911,912,913] : List Nat))) ∧ (((3 : Nat) = 3) ∧ (Sd (.ints cu)) ∧ ((911 : Nat) ∈ ([910,911,912,913] : List Nat))) ∧ (((3 : Nat) = 3) ∧ (Sd (.ints cd)) ∧ ((912 : Nat) ∈ ([910,911,912,913] : List Nat))) ∧ (((33 : Nat) = 33) ∧ (Sd (.marks cm)) ∧ ((913 : Nat) ∈ ([910,911,912,913] : List Nat))) ∧ True) ∧ (true = true) ∧ (true = true)) _ (by kernel_rfl) ⟨tt,⟨⟨rfl,⟨⟨rfl,rfl,(by decide)⟩,⟨rfl,rfl,(by decide)⟩,(congrArg (Value.int .i64) (by first | rfl | omega | assumption | (first | rfl | (have h9 := nw_no (u := cu) (d := cd) (m := cm) n28; simp only [h9,cond_false]); done) | simp | simp_all)),(congrArg (Value.int .i64) (by first | rfl | omega | assumption | (first | rfl | (have h9 := nw_no (u := cu) (d := cd) (m := cm) n28; simp only [h9,cond_false]); done) | simp | simp_all)),(congrArg (Value.int .i64) (by first | rfl | omega | assumption | (first | rfl | (have h9 := nw_no (u := cu) (d := cd) (m := cm) n28; simp only [h9,cond_false]); done) | simp | simp_all)),⟨rfl,rfl,(by decide)⟩,tt⟩,(by decide)⟩,⟨rfl,rfl,(by decide)⟩,⟨rfl,rfl,(by decide)⟩,⟨rfl,rfl,(by decide)⟩,tt⟩,rfl,rfl⟩)
end Go.Proofs.Try

set_option linter.unusedSimpArgs false
set_option linter.unusedVariables false
namespace Go.Proofs.Try
open Go.Ab Go.RowKit Go.Shelf Go.Proofs Go.Lib
set_option maxHeartbeats 4000000 in
set_option maxRecDepth 100000 in
theorem ins_room (g gv i n : Nat) (l : List MarkD) (m : MarkD) (w : World) (c cv : Nat) (cur curv : Array Value) (R Rv : List Value) (hn : l.length = n) (hi : i < n) (hroom : n + 1 ≤ c) (hc63 : c ≤ maxLen) (hl : n ≤ 1000) (hvb : gv ≠ g)
  (hg : w.heap[g]? = some (.cells cur 33 (0,0))) (hsz : cur.size = c * 4) (hR : cur.toList = flatV l ++ R) (hgv : w.heap[gv]? = some (.cells curv 33 (0,0))) (hRv : curv.toList = flatV [m] ++ Rv) :
  Calls prog 30 #[.slice (some ⟨g,0,none⟩) n c,.int .i64 i,.slice (some ⟨gv,0,none⟩) 1 cv] w (InsR w 33 (some g) (flatV (insM l i m)) n) := by
 have hm63 : maxLen = 9223372036854775807 := by decide
 have hc64 : c ≤ 9223372036854775807 := by omega
 have hz1 : ¬ ((1 : Int) = 0) := by omega
 have hz2 : ¬ ((i : Int) = (n : Int)) := by omega
 have hin : i ≤ n := by omega
 have hw1 : IntKind.i64.wrap ((i : Int) + (1 : Int)) = (i : Int) + (1 : Int) := by rw [IntKind.wrap_i64]; omega
 have hov : ∀ lb cb,(callFunc 52 #[.slice (some ⟨gv,0,none⟩) 1 cv,.slice (some ⟨g,(i + 1) * 4,none⟩) lb cb]).run prog w = .ok (.value (.bool false)) w := fun lb cb => by
  rw [run_callFunc_extern func52 (by kernel_rfl) (by kernel_rfl) (by kernel_rfl) (e := Extern.SlicesOverlaps.overlaps #[24,24] #[4]) (by kernel_rfl),
   Lib.run_overlaps_apart w 24 4 33 underlying24 4 sizeOf33 ⟨gv,0,none⟩ ⟨g,(i + 1) * 4,none⟩ 1 cv lb cb hvb 33 33 curv.size cur.size (by unfold World.shape?; simp [hgv]) (by unfold World.shape?; simp [hg]) (by rw [hsz]; omega) (by unfold World.frozen?; simp [hgv]) (by unfold World.frozen?; simp [hgv])]
  rfl
 have hRl : 4 ≤ R.length := by
  have := congrArg List.length hR
  rw [List.length_append,flatV_len,Array.length_toList,hsz] at this
  omega
 have hX1 : (flatV (l.take i)).length = i * 4 := by rw [flatV_len,List.length_take]; congr 1; omega
 have hX2 : (flatV (l.drop i)).length = (n - i) * 4 := by rw [flatV_len,List.length_drop,hn]
 have hcur : cur.toList = (flatV (l.take i) ++ flatV (l.drop i)) ++ R := by rw [hR,← flat_split]
 obtain ⟨Y,R',hc1,hY,hR'⟩ := ins_cells1 hX1 hX2 hi hRl hcur
 obtain ⟨cur1,hcur1⟩ : ∃ cur1 : Array Value,cur1 = (cur.toList.take ((i + 1) * 4) ++ flatV (l.drop i) ++ cur.toList.drop ((i + 1) * 4 + (flatV (l.drop i)).length)).toArray := ⟨_,rfl⟩
 have hcur1' : cur1.toList = flatV (l.take i) ++ Y ++ (flatV (l.drop i) ++ R') := by rw [hcur1,← hc1]
 obtain ⟨W1,hW1⟩ : ∃ W1,W1 = w.drew.setRow g cur1 := ⟨_,rfl⟩
 have hcell : ∀ (j : Nat) (v : Value),(flatV (l.drop i))[j]? = some v → w.drew.cell? ((⟨g,i * 4,none⟩ : Addr).add j) = some v := fun j v hj => by
  rw [Addr.add_lit]
  unfold World.cell?
  simp only [World.drew,hg]
  rw [if_neg (by simp),← Array.getElem?_toList,hcur,List.append_assoc,List.getElem?_append_right (by omega),hX1,show i * 4 + j - i * 4 = j by omega,List.getElem?_append_left (List.getElem?_eq_some_iff.1 hj).1]
  exact hj
 have hcp1 : ∀ ty dc sc dl sl,Nat.min sl dl = n - i → (Builtin.copy_ #[24,24] ty #[.slice (some ⟨g,(i + 1) * 4,none⟩) dl dc,.slice (some ⟨g,i * 4,none⟩) sl sc]).run prog w.drew = .ok (goInt (Nat.min sl dl)) W1 := fun ty dc sc dl sl hmin => by
  rw [hW1,hcur1]
  exact run_copy_at w.drew 24 24 ty 33 _ g ((i + 1) * 4) dl dc ⟨g,i * 4,none⟩ sl sc cur 33 (flatV (l.drop i)) underlying24 rfl hg (by rw [hmin,hX2]; rfl) hcell (by have := congrArg List.length hcur; simp only [List.length_append,Array.length_toList] at this; omega) flatV_one
 have h1g : W1.heap[g]? = some (.cells cur1 33 (0,0)) := by rw [hW1]; exact row_g (w := w.drew) hg
 have h1v : W1.heap[gv]? = some (.cells curv 33 (0,0)) := by rw [hW1,row_b hvb]; exact hgv
 have hV4 : (flatV [m]).length = 4 := by rw [flatV_len]; rfl
 have hcellv : ∀ (j : Nat) (v : Value),(flatV [m])[j]? = some v → W1.cell? ((⟨gv,0,none⟩ : Addr).add j) = some v := fun j v hj => by
  rw [Addr.add_lit]
  unfold World.cell?
  simp only [h1v]
  rw [if_neg (by simp),← Array.getElem?_toList,hRv,Nat.zero_add,List.getElem?_append_left (List.getElem?_eq_some_iff.1 hj).1]
  exact hj
 obtain ⟨cur2,hcur2⟩ : ∃ cur2 : Array Value,cur2 = (cur1.toList.take (i * 4) ++ flatV [m] ++ cur1.toList.drop (i * 4 + (flatV [m]).length)).toArray := ⟨_,rfl⟩
 have hcur2' : cur2.toList = flatV (insM l i m) ++ R' := by
  rw [hcur2,ins_cells2 hX1 hY hV4 hcur1']
  show flatV (l.take i) ++ flatV [m] ++ (flatV (l.drop i) ++ R') = _
  rw [← List.append_assoc,flat_ins]; rfl
 have hs1 : cur1.size = c * 4 := by
  have := congrArg List.length hcur1'
  simp only [List.length_append,Array.length_toList] at this
  rw [this,← hsz]
  have h9 := hR'
  simp only [Array.length_toList] at h9
  omega
 have hs2 : cur2.size = c * 4 := by
  have := congrArg List.length hcur2'
  rw [Array.length_toList,List.length_append,flatV_len,insM_len (by omega)] at this
  have h9 := hR'
  simp only [Array.length_toList] at h9
  omega
 have hcp2 : ∀ ty dc dl,Nat.min 1 dl = 1 → (Builtin.copy_ #[24,24] ty #[.slice (some ⟨g,i * 4,none⟩) dl dc,.slice (some ⟨gv,0,none⟩) 1 cv]).run prog W1 = .ok (goInt (Nat.min 1 dl)) (W1.setRow g cur2) := fun ty dc dl hmin => by
  rw [hcur2]
  exact run_copy_at W1 24 24 ty 33 _ g (i * 4) dl dc ⟨gv,0,none⟩ 1 cv cur1 33 (flatV [m]) underlying24 rfl h1g (by rw [hmin,hV4]; rfl) hcellv (by rw [hV4,hs1]; omega) flatV_one
 have hfin : InsR w 33 (some g) (flatV (insM l i m)) n (.returned (.slice (some ⟨g,0,none⟩) (n + 1) c)) (W1.setRow g cur2) := by
  refine ⟨g,c,cur2,rfl,row_g h1g,⟨R',hcur2'⟩,hroom,hc63,hs2,by rw [hW1]; rfl,by rw [hW1]; rfl,by rw [hW1]; rfl,by rw [row_size,hW1,row_size]; exact Nat.le_refl _,fun b hb hne => ?_,.inl rfl⟩
  have hbg : b ≠ g := fun e => hne (by rw [e])
  rw [row_b hbg,hW1,row_b hbg]; rfl
 have hm1 : Nat.min (n + 1 - i) (n - i) = n - i := by simp only [Nat.min_def]; split <;> omega
 have hm2 : Nat.min 1 (n + 1 - i) = 1 := by simp only [Nat.min_def]; split <;> omega
 have hb1 : (0 : Int) ≤ (i : Int) + (1 : Int) := by omega
 have htn : ((i : Int) + (1 : Int)).toNat = i + 1 := by omega
 have hb2 : ¬ (c = i + 1) := by omega
 have hb3 : (i : Int) ≤ (n : Int) + (1 : Int) := by omega
 have hb4 : ¬ (c = i) := by omega
 clear hcur1 hcur2 hW1 hcellv hcell hc1 hR'
 go_enter func30,ntmps30
 go_wp2_with (simp only [hov])
 go_region_law (refine step_copy_runI rfl _ _ 24 24 rfl _ _ (by simp [Act.eval,Act.put]) (by simp [Act.eval,Act.put]) (hcp1 _ _ _ _ _ hm1) ?_)
 go_wp2_with (at_builtin; refine wpList_copy_runI _ rfl _ _ 24 24 rfl _ _ rfl rfl (hcp2 _ _ _ hm2) ?_)
 go_ret
 exact hfin
set_option maxHeartbeats 4000000 in
set_option maxRecDepth 100000 in
theorem ins_end (g gv n : Nat) (l : List MarkD) (m : MarkD) (w : World) (c cv : Nat) (cur curv : Array Value) (R Rv : List Value) (hn : l.length = n) (hroom : n + 1 ≤ c) (hc63 : c ≤ maxLen) (hl : n ≤ 1000) (hvb : gv ≠ g)
  (hg : w.heap[g]? = some (.cells cur 33 (0,0))) (hsz : cur.size = c * 4) (hR : cur.toList = flatV l ++ R) (hgv : w.heap[gv]? = some (.cells curv 33 (0,0))) (hRv : curv.toList = flatV [m] ++ Rv) :
  Calls prog 30 #[.slice (some ⟨g,0,none⟩) n c,.int .i64 n,.slice (some ⟨gv,0,none⟩) 1 cv] w (InsR w 33 (some g) (flatV (insM l n m)) n) := by
 have hm63 : maxLen = 9223372036854775807 := by decide
 have hc64 : c ≤ 9223372036854775807 := by omega
 have hz1 : ¬ ((1 : Int) = 0) := by omega
 have hX : (flatV l).length = n * 4 := by rw [flatV_len,hn]
 have hV4 : (flatV [m]).length = 4 := by rw [flatV_len]; rfl
 have hRl : 4 ≤ R.length := by
  have := congrArg List.length hR
  rw [List.length_append,hX,Array.length_toList,hsz] at this
  omega
 have hcellv : ∀ (j : Nat) (v : Value),(flatV [m])[j]? = some v → w.cell? ((⟨gv,0,none⟩ : Addr).add j) = some v := fun j v hj => by
  rw [Addr.add_lit]
  unfold World.cell?
  simp only [hgv]
  rw [if_neg (by simp),← Array.getElem?_toList,hRv,Nat.zero_add,List.getElem?_append_left (List.getElem?_eq_some_iff.1 hj).1]
  exact hj
 have hsrc : Src prog 4 24 (.slice (some ⟨gv,0,none⟩) 1 cv) 1 (flatV [m]) w := Src.ofSlice w underlying24 ⟨gv,0,none⟩ 1 cv (flatV [m]) hV4 hcellv flatV_one
 obtain ⟨cur2,hcur2⟩ : ∃ cur2 : Array Value,cur2 = (cur.toList.take (n * 4) ++ flatV [m] ++ cur.toList.drop (n * 4 + (flatV [m]).length)).toArray := ⟨_,rfl⟩
 have hcur2' : cur2.toList = flatV (insM l n m) ++ R.drop 4 := by
  rw [hcur2]
  show cur.toList.take (n * 4) ++ flatV [m] ++ cur.toList.drop (n * 4 + (flatV [m]).length) = _
  have e1 : cur.toList.take (n * 4) = flatV l := by rw [hR,← hX]; simp
  have e2 : cur.toList.drop (n * 4 + (flatV [m]).length) = R.drop 4 := by rw [hR,hV4,← hX,List.drop_length_add_append]
  rw [e1,e2]
  unfold insM
  rw [show l.take n = l from List.take_of_length_le (by omega),show l.drop n = [] from List.drop_eq_nil_of_le (by omega),flatV_app]
 have hs2 : cur2.size = c * 4 := by
  have h1 := congrArg List.length hcur2'
  have h2 := congrArg List.length hR
  rw [Array.length_toList,List.length_append,flatV_len,insM_len (by omega),List.length_drop] at h1
  rw [Array.length_toList,List.length_append,hX] at h2
  omega
 have hrun : ∀ ty,(Builtin.append_ #[24,24] ty #[.slice (some ⟨g,0,none⟩) n c,.slice (some ⟨gv,0,none⟩) 1 cv]).run prog w = .ok (.slice (some ⟨g,0,none⟩) (n + 1) c) (w.setRow g cur2) := fun ty => by
  rw [hcur2]
  exact run_append_row w 24 24 ty 33 _ underlying24 rfl g n c _ 1 (flatV [m]) hsrc hroom cur 33 hg (by rw [hV4,hsz]; show n * 4 + 4 ≤ c * 4; omega)
 have hfin : InsR w 33 (some g) (flatV (insM l n m)) n (.returned (.slice (some ⟨g,0,none⟩) (n + 1) c)) (w.setRow g cur2) := by
  refine ⟨g,c,cur2,rfl,row_g hg,⟨_,hcur2'⟩,hroom,hc63,hs2,rfl,rfl,rfl,by rw [row_size]; exact Nat.le_refl _,fun b hb hne => row_b (fun e => hne (by rw [e])),.inl rfl⟩
 clear hcur2 hsrc hcellv
 go_enter func30,ntmps30
 go_wp2_with (at_builtin; refine Lib.wpList_append_run _ rfl _ _ _ _ rfl _ _ rfl rfl _ _ (hrun _) ?_)
 go_ret
 exact hfin
set_option maxHeartbeats 4000000 in
set_option maxRecDepth 100000 in
theorem ins_end_grow (base : Option Addr) (go : Option Nat) (gv n : Nat) (l : List MarkD) (m : MarkD) (w : World) (c cv : Nat) (curv : Array Value) (Rv : List Value) (hn : l.length = n) (hnc : n ≤ c) (hroom : c < n + 1) (hl : n ≤ 1000) (hnil : base = none → n = 0 ∧ c = 0) (hsp : ∀ a,base = some a → a.off = 0 ∧ a.spot = none)
  (hold : (Builtin.firstCells 4 n (.slice base n c)).run prog w.drew = .ok (flatV l).toArray w.drew) (hgv : w.heap[gv]? = some (.cells curv 33 (0,0))) (hRv : curv.toList = flatV [m] ++ Rv) :
  Calls prog 30 #[.slice base n c,.int .i64 n,.slice (some ⟨gv,0,none⟩) 1 cv] w (InsR w 33 go (flatV (insM l n m)) n) := by
 have hm63 : maxLen = 9223372036854775807 := by decide
 have hz1 : ¬ ((1 : Int) = 0) := by omega
 have hX : (flatV l).length = n * 4 := by rw [flatV_len,hn]
 have hV4 : (flatV [m]).length = 4 := by rw [flatV_len]; rfl
 have hcellv : ∀ (j : Nat) (v : Value),(flatV [m])[j]? = some v → w.cell? ((⟨gv,0,none⟩ : Addr).add j) = some v := fun j v hj => by
  rw [Addr.add_lit]
  unfold World.cell?
  simp only [hgv]
  rw [if_neg (by simp),← Array.getElem?_toList,hRv,Nat.zero_add,List.getElem?_append_left (List.getElem?_eq_some_iff.1 hj).1]
  exact hj
 have hsrc : Src prog 4 24 (.slice (some ⟨gv,0,none⟩) 1 cv) 1 (flatV [m]) w := Src.ofSlice w underlying24 ⟨gv,0,none⟩ 1 cv (flatV [m]) hV4 hcellv flatV_one
 obtain ⟨G,hG⟩ : ∃ G,G = grownCap w (n + 1) c 33 := ⟨_,rfl⟩
 have hG1 : n + 1 ≤ G := by rw [hG]; exact grownCap_ge w _ _ _
 have hG2 : G ≤ maxLen := by rw [hG]; exact grownCap_le_maxLen w _ _ _ (by omega)
 obtain ⟨cur2,hcur2⟩ : ∃ cur2 : Array Value,cur2 = ((flatV l ++ flatV [m]).toArray ++ Builtin.zeroCells (Value.agg #[.int .i64 0,.int .i64 0,.int .i64 0,.bool false]).cells (G - (n + 1))) := ⟨_,rfl⟩
 have hcur2' : ∃ R,cur2.toList = flatV (insM l n m) ++ R := ⟨(Builtin.zeroCells (Value.agg #[.int .i64 0,.int .i64 0,.int .i64 0,.bool false]).cells (G - (n + 1))).toList,by
  rw [hcur2,Array.toList_append]
  show (flatV l ++ flatV [m]) ++ _ = _
  unfold insM
  rw [show l.take n = l from List.take_of_length_le (by omega),show l.drop n = [] from List.drop_eq_nil_of_le (by omega),flatV_app]⟩
 have hs2 : cur2.size = G * 4 := by
  rw [hcur2,Array.size_append,size_zeroCells]
  show (flatV l ++ flatV [m]).length + (G - (n + 1)) * 4 = G * 4
  rw [List.length_append,hX,hV4]; omega
 have hrun : ∀ ty,(Builtin.append_ #[24,24] ty #[.slice base n c,.slice (some ⟨gv,0,none⟩) 1 cv]).run prog w = .ok (.slice (some ⟨w.heap.size,0,none⟩) (n + 1) G) (w.drew.alloc (.cells cur2 33)) := fun ty => by
  rw [hcur2,hG]
  exact run_append_grow_src w 24 24 ty 33 _ _ underlying24 rfl rfl base n c (flatV l) hold _ 1 (flatV [m]) hsrc hroom (by omega) (growslice_fits hroom (by show (n + 1) * 32 ≤ _; omega))
 have hfin : InsR w 33 go (flatV (insM l n m)) n (.returned (.slice (some ⟨w.heap.size,0,none⟩) (n + 1) G)) (w.drew.alloc (.cells cur2 33)) := by
  refine ⟨w.heap.size,G,cur2,rfl,alloc_new,hcur2',hG1,hG2,hs2,rfl,rfl,rfl,by rw [alloc_size]; omega,fun b hb _ => alloc_old hb,.inr (Nat.le_refl _)⟩
 have hcn : c = n := by omega
 clear hcur2 hsrc hcellv hold hG
 subst hcn
 cases base with
 | none =>
  have h0 := (hnil rfl).1
  subst h0
  go_enter func30,ntmps30
  go_wp2_with (at_builtin; refine Lib.wpList_append_run _ rfl _ _ _ _ rfl _ _ rfl rfl _ _ (hrun _) ?_)
  go_ret
  exact hfin
 | some a =>
  obtain ⟨ab,ao,asp⟩ := a
  obtain ⟨rfl,rfl⟩ := hsp _ rfl
  go_enter func30,ntmps30
  go_wp2_with (at_builtin; refine Lib.wpList_append_run _ rfl _ _ _ _ rfl _ _ rfl rfl _ _ (hrun _) ?_)
  all_goals (go_ret; exact hfin)
set_option maxHeartbeats 4000000 in
set_option maxRecDepth 100000 in
theorem ins_grow (g gv i n : Nat) (l : List MarkD) (m : MarkD) (w : World) (c cv : Nat) (cur curv : Array Value) (R Rv : List Value) (hn : l.length = n) (hi : i < n) (hnc : n ≤ c) (hroom : c < n + 1) (hl : n ≤ 1000) (hvb : gv ≠ g)
  (hg : w.heap[g]? = some (.cells cur 33 (0,0))) (hR : cur.toList = flatV l ++ R) (hgv : w.heap[gv]? = some (.cells curv 33 (0,0))) (hRv : curv.toList = flatV [m] ++ Rv) :
  Calls prog 30 #[.slice (some ⟨g,0,none⟩) n c,.int .i64 i,.slice (some ⟨gv,0,none⟩) 1 cv] w (InsR w 33 (some g) (flatV (insM l i m)) n) := by
 have hm63 : maxLen = 9223372036854775807 := by decide
 have hz1 : ¬ ((1 : Int) = 0) := by omega
 have hz2 : ¬ ((i : Int) = (n : Int)) := by omega
 have hz3 : (c : Int) < (n : Int) + (1 : Int) := by omega
 have hin : i ≤ n := by omega
 have hgw := heap_lt hg
 have hvw := heap_lt hgv
 have hkk : (n : Int) + (1 : Int) - (i : Int) = ((n + 1 - i : Nat) : Int) := by omega
 have hik : i + (n + 1 - i) = n + 1 := by omega
 have hX1 : (flatV (l.take i)).length = i * 4 := by rw [flatV_len,List.length_take]; congr 1; omega
 have hX2 : (flatV (l.drop i)).length = (n - i) * 4 := by rw [flatV_len,List.length_drop,hn]
 have hV4 : (flatV [m]).length = 4 := by rw [flatV_len]; rfl
 have hcur : cur.toList = flatV (l.take i) ++ (flatV (l.drop i) ++ R) := by rw [hR,flat_split l i,List.append_assoc]
 have hold : (Builtin.firstCells 4 i (.slice (some ⟨g,0,none⟩) i c)).run prog w.drew = .ok (flatV (l.take i)).toArray w.drew :=
  run_firstCells_some w.drew 4 i ⟨g,0,none⟩ i c (flatV (l.take i)) hX1 (fun j v hj => by
   rw [Addr.add_lit]
   unfold World.cell?
   simp only [World.drew,hg]
   rw [if_neg (by simp),← Array.getElem?_toList,hcur,Nat.zero_add,List.getElem?_append_left (List.getElem?_eq_some_iff.1 hj).1]
   exact hj)
 obtain ⟨G,hG⟩ : ∃ G,G = grownCap w (n + 1) c 33 := ⟨_,rfl⟩
 have hG1 : n + 1 ≤ G := by rw [hG]; exact grownCap_ge w _ _ _
 have hG2 : G ≤ maxLen := by rw [hG]; exact grownCap_le_maxLen w _ _ _ (by omega)
 obtain ⟨ROW,hROW⟩ : ∃ ROW : Array Value,ROW = (flatV (l.take i)).toArray ++ Builtin.zeroCells (Value.agg #[.int .i64 0,.int .i64 0,.int .i64 0,.bool false]).cells (n + 1 - i) ++ Builtin.zeroCells (Value.agg #[.int .i64 0,.int .i64 0,.int .i64 0,.bool false]).cells (G - (n + 1)) := ⟨_,rfl⟩
 have hrz : ∀ ty,(Builtin.append_ #[24,3] ty #[.slice (some ⟨g,0,none⟩) i c,.int .i64 ((n : Int) + (1 : Int) - (i : Int))]).run prog w = .ok (.slice (some ⟨w.heap.size,0,none⟩) (n + 1) G) (w.drew.alloc (.cells ROW 33)) := fun ty => by
  have h := Lib.run_append_grow_zeros w 24 3 ty 33 _ _ .i64 .i64 underlying24 underlying3 rfl rfl (some ⟨g,0,none⟩) i c (flatV (l.take i)) hold (n + 1 - i) (by omega) (by decide) (by omega) (by omega) (by show (n + 1 - i) * 32 ≤ _; omega) (by rw [hik]; exact growslice_fits hroom (by show (n + 1) * 32 ≤ _; omega))
  rw [hik] at h
  rw [hkk,hROW,hG]
  exact h
 have hRs : ROW.size = G * 4 := by
  rw [hROW,Array.size_append,Array.size_append,size_zeroCells,size_zeroCells]
  show (flatV (l.take i)).length + (n + 1 - i) * 4 + (G - (n + 1)) * 4 = G * 4
  rw [hX1]; omega
 have hRl : ∃ Z,ROW.toList = flatV (l.take i) ++ Z ∧ Z.length + i * 4 = G * 4 := by
  refine ⟨(Builtin.zeroCells (Value.agg #[.int .i64 0,.int .i64 0,.int .i64 0,.bool false]).cells (n + 1 - i) ++ Builtin.zeroCells (Value.agg #[.int .i64 0,.int .i64 0,.int .i64 0,.bool false]).cells (G - (n + 1))).toList,by rw [hROW]; simp [Array.toList_append],?_⟩
  rw [Array.length_toList,Array.size_append,size_zeroCells,size_zeroCells]
  show (n + 1 - i) * 4 + (G - (n + 1)) * 4 + i * 4 = G * 4
  omega
 obtain ⟨Z,hZ,hZl⟩ := hRl
 obtain ⟨W1,hW1⟩ : ∃ W1,W1 = w.drew.alloc (.cells ROW 33) := ⟨_,rfl⟩
 rw [← hW1] at hrz
 have h1n : W1.heap[w.heap.size]? = some (.cells ROW 33 (0,0)) := by rw [hW1]; exact alloc_new
 have h1g : W1.heap[g]? = some (.cells cur 33 (0,0)) := by rw [hW1,alloc_old hgw]; exact hg
 have h1v : W1.heap[gv]? = some (.cells curv 33 (0,0)) := by rw [hW1,alloc_old hvw]; exact hgv
 -- the first copy
 obtain ⟨cur1,hcur1⟩ : ∃ cur1 : Array Value,cur1 = (ROW.toList.take (i * 4) ++ flatV [m] ++ ROW.toList.drop (i * 4 + (flatV [m]).length)).toArray := ⟨_,rfl⟩
 have hcur1' : cur1.toList = (flatV (l.take i) ++ flatV [m]) ++ Z.drop 4 := by
  rw [hcur1]
  show ROW.toList.take (i * 4) ++ flatV [m] ++ ROW.toList.drop (i * 4 + (flatV [m]).length) = _
  have e1 : ROW.toList.take (i * 4) = flatV (l.take i) := by rw [hZ,← hX1]; simp
  have e2 : ROW.toList.drop (i * 4 + (flatV [m]).length) = Z.drop 4 := by rw [hZ,hV4,← hX1,List.drop_length_add_append]
  rw [e1,e2]
 have hcpA : ∀ (W : World),W.heap = W1.heap → ∀ ty dc dl,Nat.min 1 dl = 1 → (Builtin.copy_ #[24,24] ty #[.slice (some ⟨w.heap.size,i * 4,none⟩) dl dc,.slice (some ⟨gv,0,none⟩) 1 cv]).run prog W = .ok (goInt (Nat.min 1 dl)) (W.setRow w.heap.size cur1) := fun W hW ty dc dl hmin => by
  rw [hcur1]
  exact run_copy_at W 24 24 ty 33 _ w.heap.size (i * 4) dl dc ⟨gv,0,none⟩ 1 cv ROW 33 (flatV [m]) underlying24 rfl (by rw [hW]; exact h1n) (by rw [hmin,hV4]; rfl) (fun j v hj => by
   rw [Addr.add_lit]
   unfold World.cell?
   simp only [hW,h1v]
   rw [if_neg (by simp),← Array.getElem?_toList,hRv,Nat.zero_add,List.getElem?_append_left (List.getElem?_eq_some_iff.1 hj).1]
   exact hj) (by rw [hV4,hRs]; omega) flatV_one
 obtain ⟨H2,hH2⟩ : ∃ H2,H2 = (W1.setRow w.heap.size cur1).heap := ⟨_,rfl⟩
 have hset : ∀ W : World,W.heap = W1.heap → (W.setRow w.heap.size cur1).heap = H2 := fun W hW => by rw [hH2]; unfold World.setRow; rw [hW]
 have h2n : H2[w.heap.size]? = some (.cells cur1 33 (0,0)) := by rw [hH2]; exact row_g h1n
 have h2g : H2[g]? = some (.cells cur 33 (0,0)) := by rw [hH2,row_b (by omega)]; exact h1g
 have h2b : ∀ b,b < w.heap.size → H2[b]? = w.heap[b]? := fun b hb => by rw [hH2,row_b (by omega),hW1,alloc_old hb]
 have h2s : H2.size = w.heap.size + 1 := by rw [hH2,row_size,hW1,alloc_size]
 obtain ⟨cur2,hcur2⟩ : ∃ cur2 : Array Value,cur2 = (cur1.toList.take ((i + 1) * 4) ++ flatV (l.drop i) ++ cur1.toList.drop ((i + 1) * 4 + (flatV (l.drop i)).length)).toArray := ⟨_,rfl⟩
 have hX1V : (flatV (l.take i) ++ flatV [m]).length = (i + 1) * 4 := by rw [List.length_append,hX1,hV4]; omega
 have hs1 : cur1.size = G * 4 := by
  have := congrArg List.length hcur1'
  rw [Array.length_toList,List.length_append,hX1V,List.length_drop] at this
  omega
 have hcur2' : ∃ R,cur2.toList = flatV (insM l i m) ++ R := by
  refine ⟨cur1.toList.drop ((i + 1) * 4 + (flatV (l.drop i)).length),?_⟩
  rw [hcur2]
  show cur1.toList.take ((i + 1) * 4) ++ flatV (l.drop i) ++ _ = _
  have e1 : cur1.toList.take ((i + 1) * 4) = flatV (l.take i) ++ flatV [m] := by rw [hcur1',← hX1V,List.take_append,List.take_of_length_le (Nat.le_refl _),Nat.sub_self,List.take_zero,List.append_nil]
  rw [e1,flat_ins]; rfl
 have hs2 : cur2.size = G * 4 := by
  rw [hcur2]
  show (cur1.toList.take ((i + 1) * 4) ++ flatV (l.drop i) ++ cur1.toList.drop ((i + 1) * 4 + (flatV (l.drop i)).length)).length = _
  simp only [List.length_append,List.length_take,List.length_drop,Array.length_toList,hs1,hX2]
  omega
 have hcpB : ∀ (W : World),W.heap = H2 → ∀ ty dc sc dl sl,Nat.min sl dl = n - i → (Builtin.copy_ #[24,24] ty #[.slice (some ⟨w.heap.size,(i + 1) * 4,none⟩) dl dc,.slice (some ⟨g,i * 4,none⟩) sl sc]).run prog W = .ok (goInt (Nat.min sl dl)) (W.setRow w.heap.size cur2) := fun W hW ty dc sc dl sl hmin => by
  rw [hcur2]
  exact run_copy_at W 24 24 ty 33 _ w.heap.size ((i + 1) * 4) dl dc ⟨g,i * 4,none⟩ sl sc cur1 33 (flatV (l.drop i)) underlying24 rfl (by rw [hW]; exact h2n) (by rw [hmin,hX2]; rfl) (fun j v hj => by
   rw [Addr.add_lit]
   unfold World.cell?
   simp only [hW,h2g]
   rw [if_neg (by simp),← Array.getElem?_toList,hcur,List.getElem?_append_right (by omega),hX1,show i * 4 + j - i * 4 = j by omega,List.getElem?_append_left (List.getElem?_eq_some_iff.1 hj).1]
   exact hj) (by rw [hX2,hs1]; omega) flatV_one
 have hfin : ∀ W : World,W.heap = H2 → W.os = w.os → W.tape = w.tape → W.output = w.output → InsR w 33 (some g) (flatV (insM l i m)) n (.returned (.slice (some ⟨w.heap.size,0,none⟩) (n + 1) G)) (W.setRow w.heap.size cur2) := fun W hW e1 e2 e3 => by
  refine ⟨w.heap.size,G,cur2,rfl,row_g (by rw [hW]; exact h2n),hcur2',hG1,hG2,hs2,e1,e2,e3,by rw [row_size,hW,h2s]; omega,fun b hb hne => by rw [row_b (by omega),hW]; exact h2b b hb,.inr (Nat.le_refl _)⟩
 have hm1 : Nat.min 1 (n + 1 - i) = 1 := by simp only [Nat.min_def]; split <;> omega
 have hm2 : Nat.min (n - i) (n - i) = n - i := by simp only [Nat.min_def]; split <;> omega
 have hw1 : IntKind.i64.wrap ((i : Int) + (1 : Int)) = (i : Int) + (1 : Int) := by rw [IntKind.wrap_i64]; omega
 have hb1 : (0 : Int) ≤ (i : Int) + (1 : Int) := by omega
 have htn : ((i : Int) + (1 : Int)).toNat = i + 1 := by omega
 have hb3 : (i : Int) ≤ (n : Int) := by omega
 have hGi : ¬ (G = i) := by omega
 have hGim : ¬ (G = i + 1) := by omega
 have hci : ¬ (c = i) := by omega
 clear hkk hik hold hROW hG hRs hcur1 hcur2 hZ hZl hcur1' hs1
 go_enter func30,ntmps30
 go_wp2_with (first
  | (at_builtin; refine Lib.wpList_append_run _ rfl _ _ _ _ rfl _ _ rfl rfl _ _ (hrz _) ?_)
  | (at_builtin; refine wpList_copy_runI _ rfl _ _ 24 24 rfl _ _ rfl rfl (hcpA _ rfl _ _ _ hm1) ?_))
 have g0 : ((w.alloc (.cells ROW 33)).drew.setRow w.heap.size cur1).heap = H2 := hset _ (by rw [hW1]; rfl)
 have g1 : ((w.alloc (.cells ROW 33)).drew.setRow w.heap.size cur1).os = w.os := rfl
 have g2 : ((w.alloc (.cells ROW 33)).drew.setRow w.heap.size cur1).tape = w.tape := rfl
 have g3 : ((w.alloc (.cells ROW 33)).drew.setRow w.heap.size cur1).output = w.output := rfl
 clear hcpA hset h1n h1g h1v hW1 hrz hH2
 generalize (w.alloc (.cells ROW 33)).drew.setRow w.heap.size cur1 = W2 at g0 g1 g2 g3 ⊢
 have hcpB2 := hcpB W2.drew g0
 have hfin2 := hfin W2.drew g0 g1 g2 g3
 clear hcpB hfin g0 g1 g2 g3 h2n h2g h2b h2s
 go_region_law (refine step_copy_runI rfl _ _ 24 24 rfl _ _ (by simp [Act.eval,Act.put]) (by simp [Act.eval,Act.put]) (hcpB2 _ _ _ _ _ hm2) ?_)
 go_wp2
 go_ret
 exact hfin2
theorem hok30 : ∀ (l : List MarkD) (i : Int) (m : MarkD),((0 ≤ i ∧ i ≤ ((List.length l : Nat) : Int)) ∧ (List.length l ≤ 1000)) →
  HOK prog 30 [] [.own 911 l.length,.i i,.own 912 1] [(911,⟨33,.row (.marks l)⟩),(912,⟨33,.row (.marks [m])⟩)] [911,912] (fun r s1 u1 => r = (.own 914 (List.length (insM l (Int.toNat i) m))) ∧ s1 = [(914,⟨33,.row (.marks (insM l (Int.toNat i) m))⟩)] ∧ u1 = [914]) := by
 rintro l i m ⟨⟨hi0,hi1⟩,hl⟩ w T β vals hT hdom hloc hinj hargs
 obtain ⟨k,rfl⟩ : ∃ k : Nat,i = ((k : Nat) : Int) := ⟨i.toNat,by omega⟩
 have hk : k ≤ l.length := by omega
 have l1 := hloc 911 _ rfl
 have l2 := hloc 912 _ rfl
 simp only [LocOK,CellsOK] at l1 l2
 match vals,hargs with
 | [y0,y1,y2],h =>
  simp only [RepL,Rep,OwnRep] at h
  obtain ⟨h0,rfl,h2,_⟩ := h
  rcases l2 with ⟨_,hz⟩ | ⟨gv,cv,curv,bv,hcv,hlv,hcapv,hszv,hrv⟩
  ·simp [Dat.len] at hz
  rcases h2 with ⟨e1,_⟩ | ⟨gv',cv',e1,_,rfl⟩
  ·rw [bv] at e1; cases e1
  rw [bv] at e1
  simp only [Option.some.injEq,Bl.blk.injEq] at e1
  obtain ⟨rfl,rfl⟩ := e1
  obtain ⟨Rv,hRv⟩ := row_flat hrv (by have h9 : curv.size = cv * 4 := hszv; have h8 : 1 ≤ cv := hlv; simp only [List.length_cons,List.length_nil]; omega)
  rcases l1 with ⟨b1,hz⟩ | ⟨g,c,cur,b1,hc,hlen,hcap,hsz,hr⟩
  ·have hl0 : l.length = 0 := hz
   rcases h0 with ⟨_,e2,rfl⟩ | ⟨g',c',e1,_⟩
   ·have hk0 : k = 0 := by omega
    subst hk0
    have hnil : l = [] := List.length_eq_zero_iff.1 hl0
    subst hnil
    exact (ins_end_grow none none gv 0 [] m w 0 cv curv Rv rfl (Nat.le_refl _) (by omega) (by omega) (fun _ => ⟨rfl,rfl⟩) (fun a h => by cases h) (run_firstCells_none w.drew 4 0 0 0) hcv hRv).mono fun e w' h => ins_post h rfl (fun b h => by cases h)
   ·rw [b1] at e1; cases e1
  ·rcases h0 with ⟨e1,_⟩ | ⟨g',c',e1,_,rfl⟩
   ·rw [b1] at e1; cases e1
   rw [b1] at e1
   simp only [Option.some.injEq,Bl.blk.injEq] at e1
   obtain ⟨rfl,rfl⟩ := e1
   have hlen' : l.length ≤ c := hlen
   have hsz' : cur.size = c * 4 := hsz
   obtain ⟨R,hR⟩ := row_flat hr (by omega)
   have hne : gv ≠ g := fun e => by
    subst e
    have := hinj 911 912 _ _ gv c cv rfl rfl b1 bv
    omega
   have hlive : ∀ b,some g = some b → Live β (lk [(911,(⟨33,.row (.marks l)⟩ : LB)),(912,⟨33,.row (.marks [m])⟩)]) b := fun b hb => by
    cases hb
    exact ⟨911,_,c,rfl,b1⟩
   have hcl : (insM l k m).length = l.length + 1 := insM_len hk
   by_cases hkl : k < l.length
   ·by_cases hroom : l.length + 1 ≤ c
    ·exact (ins_room g gv k l.length l m w c cv cur curv R Rv rfl hkl hroom hcap hl hne hc hsz' hR hcv hRv).mono fun e w' h => ins_post h hcl hlive
    ·exact (ins_grow g gv k l.length l m w c cv cur curv R Rv rfl hkl hlen' (by omega) hl hne hc hR hcv hRv).mono fun e w' h => ins_post h hcl hlive
   ·have hke : k = l.length := by omega
    subst hke
    by_cases hroom : l.length + 1 ≤ c
    ·exact (ins_end g gv l.length l m w c cv cur curv R Rv rfl hroom hcap hl hne hc hsz' hR hcv hRv).mono fun e w' h => ins_post h hcl hlive
    ·refine (ins_end_grow (some ⟨g,0,none⟩) (some g) gv l.length l m w c cv curv Rv rfl hlen' (by omega) hl (fun h => by cases h) (fun a h => by cases h; exact ⟨rfl,rfl⟩) ?_ hcv hRv).mono fun e w' h => ins_post h hcl hlive
     exact run_firstCells_some w.drew 4 l.length ⟨g,0,none⟩ l.length c (flatV l) (flatV_len l) (fun j v hj => by
      rw [Addr.add_lit]
      unfold World.cell?
      simp only [World.drew,hc]
      rw [if_neg (by simp),← Array.getElem?_toList,hR,Nat.zero_add,List.getElem?_append_left (List.getElem?_eq_some_iff.1 hj).1]
      exact hj)
theorem ent30 : Entr prog 30 := ⟨_,func30,rfl,by decide⟩
end Go.Proofs.Try

set_option linter.unusedSimpArgs false
set_option linter.unusedVariables false
namespace Go.Proofs.Try
open Go.Ab Go.RowKit
abbrev T31y : Tab := lk [(13,fs13)]
theorem tab31y : TabOK prog T31y := (TabOK.cons ok13 ent13 TabOK.nil)
theorem ent31y : Entr prog 31 := ⟨_,func31,rfl,by decide⟩
set_option maxRecDepth 100000 in
set_option maxHeartbeats 1000000 in
theorem hok31y : ∀ (cu : List Int) (cd : List Int) (cv : Int) (ct : Int) (cp : Int) (cm : List MarkD),((validCopy (⟨cu,cd,cv,ct,cp,cm⟩ : CopyD) = true)) → HOK prog 31 [911,912,913] [.agg [.own 911 cu.length,.own 912 cd.length,.i cv,.i ct,.i cp,.own 913 cm.length]] [(911,⟨3,.row (.ints cu)⟩),(912,⟨3,.row (.ints cd)⟩),(913,⟨33,.row (.marks cm)⟩)] [911,912,913] (fun r s1 u1 => r = (.tup [.agg [.own 911 cu.length,.own 912 cd.length,.i cv,.i ct,.i cp,.own 913 cm.length],.b true]) ∧ s1 = ([(911,⟨3,.row (.ints cu)⟩),(912,⟨3,.row (.ints cd)⟩),(913,⟨33,.row (.marks cm)⟩)]) ∧ u1 = ([911,912,913])) := by
 intro cu cd cv ct cp cm hpre
 have hV := hpre
 refine HOK.of cok func31 rfl rfl rfl ?_
 intro F hnt0
 have hnt : F.nt = 9 := hnt0.trans ntmps31
 refine W.to (⟨[(0,.agg [.own 911 cu.length,.own 912 cd.length,.i cv,.i ct,.i cp,.own 913 cm.length])],[(911,⟨3,.row (.ints cu)⟩),(912,⟨3,.row (.ints cd)⟩),(913,⟨33,.row (.marks cm)⟩)],[911,912,913]⟩) rfl ?_
 refine Kk cok tab31y hnt [] [1,2] (⟨[(1,.ptr 1 0),(2,.ptr 2 0)],[(1,⟨26,.fix [.own 911 cu.length,.own 912 cd.length,.i cv,.i ct,.i cp,.own 913 cm.length]⟩),(2,⟨26,.fix [.v (.slice none 0 0),.v (.slice none 0 0),.i (0 : Int),.i (0 : Int),.i (0 : Int),.v (.slice none 0 0)]⟩),(911,⟨3,.row (.ints cu)⟩),(912,⟨3,.row (.ints cd)⟩),(913,⟨33,.row (.marks cm)⟩)],[2,1,911,912,913]⟩)
  (True ∧ True ∧ True ∧ True)
  ⟨tt,tt,tt,tt⟩ ?_
 refine W.seq ?_
 refine Kk cok tab31y hnt [] [1,2,6] (⟨[(1,.ptr 1 0),(2,.ptr 2 0),(6,.b (!(validCopy ⟨cu,cd,cv,ct,cp,cm⟩)))],[(1,⟨26,.fix [.own 911 cu.length,.own 912 cd.length,.i cv,.i ct,.i cp,.own 913 cm.length]⟩),(2,⟨26,.fix [.v (.slice none 0 0),.v (.slice none 0 0),.i (0 : Int),.i (0 : Int),.i (0 : Int),.v (.slice none 0 0)]⟩),(911,⟨3,.row (.ints cu)⟩),(912,⟨3,.row (.ints cd)⟩),(913,⟨33,.row (.marks cm)⟩)],[2,1,911,912,913]⟩)
  (True ∧ (True ∧ ((True ∧ (True ∧ (cu.length = cu.length)) ∧ (True ∧ (cd.length = cd.length)) ∧ True ∧ True ∧ True ∧ (True ∧ (cm.length = cm.length)) ∧ True) ∧ True) ∧ True) ∧ True ∧ True)
  ⟨tt,⟨tt,⟨⟨tt,⟨tt,rfl⟩,⟨tt,rfl⟩,tt,tt,tt,⟨tt,rfl⟩,tt⟩,tt⟩,tt⟩,tt,tt⟩ ?_
 refine W.if' (!(validCopy ⟨cu,cd,cv,ct,cp,cm⟩)) (.b (!(validCopy ⟨cu,cd,cv,ct,cp,cm⟩))) (by kernel_rfl) rfl trivial ?_ ?_
 ·intro h6
  exact (show False from (by rw [hV] at h6; cases h6)).elim
 ·intro n6
  refine W.skip (thenQ_normal ?_)
  refine Kk cok tab31y hnt [] [2,3] (⟨[(2,.ptr 2 0),(3,.b true)],[(1,⟨26,.fix [.own 911 cu.length,.own 912 cd.length,.i cv,.i ct,.i cp,.own 913 cm.length]⟩),(2,⟨26,.fix [.own 911 cu.length,.own 912 cd.length,.i cv,.i ct,.i cp,.own 913 cm.length]⟩),(911,⟨3,.row (.ints cu)⟩),(912,⟨3,.row (.ints cd)⟩),(913,⟨33,.row (.marks cm)⟩)],[2,1,911,912,913]⟩)
   (True ∧ (True ∧ True) ∧ True ∧ True)
   ⟨tt,⟨tt,tt⟩,tt,tt⟩ ?_
  refine W.ret ?_
  exact endH_ret (.tup [.agg [.own 911 cu.length,.own 912 cd.length,.i cv,.i ct,.i cp,.own 913 cm.length],.b true]) [(911,⟨3,.row (.ints cu)⟩),(912,⟨3,.row (.ints cd)⟩),(913,⟨33,.row (.marks cm)⟩)] [911,912,913] ⟨rfl,rfl,rfl⟩ [(911,911),(912,912),(913,913)] (.tup [.agg [.own 911 cu.length,.own 912 cd.length,.i cv,.i ct,.i cp,.own 913 cm.length],.b true]) (by kernel_rfl) (@cast ((((((911 : Nat) = 911) ∧ (cu.length = cu.length) ∧ ((911 : Nat) ∈ ([911,912,913] : List Nat))) ∧ (((912 : Nat) = 912) ∧ (cd.length = cd.length) ∧ ((912 : Nat) ∈ ([911,912,913] : List Nat))) ∧ (Si cv) ∧ (Si ct) ∧ (Si cp) ∧ (((913 : Nat) = 913) ∧ (cm.length = cm.length) ∧ ((913 : Nat) ∈ ([911,912,913] : List Nat))) ∧ True) ∧ (Sv (.bool true)) ∧ True) ∧ ((((3 : Nat) = 3) ∧ (Sd (.ints cu)) ∧ ((911 : Nat) ∈ ([911,912,913] : List Nat))) ∧ (((3 : Nat) = 3) ∧ (Sd (.ints cd)) ∧ ((912 : Nat) ∈ ([911,912,913] : List Nat))) ∧ (((33 : Nat) = 33) ∧ (Sd (.marks cm)) ∧ ((913 : Nat) ∈ ([911,912,913] : List Nat))) ∧ True) ∧ (true = true) ∧ (true = true)) _ (by kernel_rfl) ⟨⟨⟨⟨rfl,rfl,(by decide)⟩,⟨rfl,rfl,(by decide)⟩,rfl,rfl,rfl,⟨rfl,rfl,(by decide)⟩,tt⟩,rfl,tt⟩,⟨⟨rfl,rfl,(by decide)⟩,⟨rfl,rfl,(by decide)⟩,⟨rfl,rfl,(by decide)⟩,tt⟩,rfl,rfl⟩)
end Go.Proofs.Try
