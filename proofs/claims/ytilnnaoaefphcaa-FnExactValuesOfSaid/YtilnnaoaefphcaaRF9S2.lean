import Derived.Test.YtilnnaoaefphcaaRF9S0
import Derived.Test.YtilnnaoaefphcaaRF9S1
import Derived.Test.YtilnnaoaefphcaaFrameB
set_option linter.unusedSimpArgs false
set_option linter.unusedVariables false
namespace Go.Proofs.Try
open Go.Ab Go.RowKit
def fs74counts : FnS := fnS [.s .ints,.o] [.ints,(.fn0 75)] (fun _ (l,(),_) => (.b (anyN l.length (fun jj => !within (l.getD jj 0) 0 20)),[],True))
abbrev T74counts : Tab := lk [(89,fs89counts)]
theorem tab74counts : TabOK prog T74counts := (TabOK.cons ok89counts ent89counts TabOK.nil)
set_option maxRecDepth 100000 in
set_option maxHeartbeats 1000000 in
theorem ok74counts : FnOK prog 74 fs74counts := by
 refine FnOK.mk cok func74 rfl rfl rfl ?_
 rintro fl ⟨(l : List Int),⟨⟩,_⟩ hpre F hnt0 _
 have hnt : F.nt = 9 := hnt0.trans ntmps74
 clear hpre
 refine W.to (⟨[(0,.sl (.ints l)),(1,.fn 75 [])],[],[999]⟩) rfl ?_
 refine W.lenOf 0 (.ints l) (by kernel_rfl) ?_
 intro hl_l; replace hl_l : List.length l ≤ 9223372036854775807 := hl_l
 refine Kk cok tab74counts hnt [] [0,1] (⟨[(0,.sl (.ints l)),(1,.fn 75 [])],[],[999]⟩)
  (True ∧ True)
  ⟨tt,tt⟩ ?_
 refine Kk cok tab74counts hnt [] [4] (⟨[(4,.b (decide ((0 : Int) ≤ (firstI l.length (fun jj => !within (l.getD jj 0) 0 20)))))],[],[999]⟩)
  (True ∧ True ∧ (True ∧ (True ∧ True ∧ True) ∧ True) ∧ (True ∧ True ∧ True) ∧ True ∧ True)
  ⟨tt,tt,⟨tt,⟨tt,tt,tt⟩,tt⟩,⟨tt,tt,tt⟩,tt,tt⟩ ?_
 refine W.ret ?_
 exact endQ_ret (.b (decide ((0 : Int) ≤ (firstI l.length (fun jj => !within (l.getD jj 0) 0 20))))) (by kernel_rfl) (@cast ((.bool (decide ((0 : Int) ≤ (firstI l.length (fun jj => !within (l.getD jj 0) 0 20)))) : Value) = .bool (anyN l.length (fun jj => !within (l.getD jj 0) 0 20))) _ (by kernel_rfl) (congrArg Value.bool (by exact firstI_has _ _)))
theorem ent74counts : Entr prog 74 := ⟨_,func74,rfl,by decide⟩
end Go.Proofs.Try

set_option linter.unusedSimpArgs false
set_option linter.unusedVariables false
namespace Go.Proofs.Try
open Go.Ab Go.RowKit
def fs62 : FnS := fnS [.s .ints] [.ints] (fun _ (l,_) => (.b (countsOK l),[],True))
abbrev T62 : Tab := lk [(74,fs74counts)]
theorem tab62 : TabOK prog T62 := (TabOK.cons ok74counts ent74counts TabOK.nil)
set_option maxRecDepth 100000 in
set_option maxHeartbeats 1000000 in
theorem ok62 : FnOK prog 62 fs62 := by
 refine FnOK.mk cok func62 rfl rfl rfl ?_
 rintro fl ⟨(l : List Int),_⟩ hpre F hnt0 _
 have hnt : F.nt = 11 := hnt0.trans ntmps62
 clear hpre
 refine W.to (⟨[(0,.sl (.ints l))],[],[999]⟩) rfl ?_
 refine W.lenOf 0 (.ints l) (by kernel_rfl) ?_
 intro hl_l; replace hl_l : List.length l ≤ 9223372036854775807 := hl_l
 refine Kk cok tab62 hnt [] [0] (⟨[(0,.sl (.ints l))],[],[999]⟩)
  (True ∧ True)
  ⟨tt,tt⟩ ?_
 refine Kk cok tab62 hnt [] [2] (⟨[(2,.b ((decide ((l.length : Int) = (3 : Int))) && (!(anyN l.length (fun jj => !within (l.getD jj 0) 0 20)))))],[],[999]⟩)
  ((fun (Z1:Bool)=>(True ∧ (True ∧ ((True ∧ (True ∧ True)) ∧ (True ∧ ((Z1 = true → True) ∧ ((Z1 = true → (True ∧ ((((Z1 = true) ∧ True) ∧ (True ∧ True)) ∧ True))) ∧ ((Z1 = true → ((Z1 = true) ∧ True)) ∧ ((True ∧ ((Z1 = true → (Z1 = true) ∧ True) ∧ (Z1 = false → True))) ∧ (True ∧ True)))))))))) (decide ((l.length : Int) = (3 : Int))))
  ⟨tt,tt,⟨tt,tt,tt⟩,tt,(fun _ => trivial),(fun hG => ⟨tt,⟨⟨hG,tt⟩,tt,tt⟩,tt⟩),(fun hG => ⟨hG,tt⟩),⟨tt,(fun hp => ⟨hp,tt⟩),(fun _ => trivial)⟩,tt,tt⟩ ?_
 refine W.ret ?_
 exact endQ_ret (.b ((decide ((l.length : Int) = (3 : Int))) && (!(anyN l.length (fun jj => !within (l.getD jj 0) 0 20))))) (by kernel_rfl) (@cast ((.bool ((decide ((l.length : Int) = (3 : Int))) && (!(anyN l.length (fun jj => !within (l.getD jj 0) 0 20)))) : Value) = .bool (countsOK l)) _ (by kernel_rfl) (congrArg Value.bool (by exact counts_impl l)))
theorem ent62 : Entr prog 62 := ⟨_,func62,rfl,by decide⟩
end Go.Proofs.Try

set_option linter.unusedSimpArgs false
set_option linter.unusedVariables false
namespace Go.Proofs.Try
open Go.Ab Go.RowKit
def fs38 : FnS := fnS [.a [some .ints,some .ints,none,none,none,some .marks]] [.copy] (fun _ (c,_) => (.b (validCopy c),[],True))
abbrev T38 : Tab := lk [(44,fs44),(56,fs56),(61,fs61),(62,fs62)]
theorem tab38 : TabOK prog T38 := (TabOK.cons ok44 ent44 (TabOK.cons ok56 ent56 (TabOK.cons ok61 ent61 (TabOK.cons ok62 ent62 TabOK.nil))))
set_option maxRecDepth 100000 in
set_option maxHeartbeats 1000000 in
theorem ok38 : FnOK prog 38 fs38 := by
 refine FnOK.mk cok func38 rfl rfl rfl ?_
 rintro fl ⟨(c : CopyD),_⟩ hpre F hnt0 _
 have hnt : F.nt = 78 := hnt0.trans ntmps38
 clear hpre
 refine W.to (⟨[(0,.agg (cC c))],[],[999]⟩) rfl ?_
 refine W.lenA 0 0 (cC c) (.ints c.up) (by kernel_rfl) (by kernel_rfl) ?_
 intro hl_c_up; replace hl_c_up : List.length c.up ≤ 9223372036854775807 := hl_c_up
 refine W.lenA 0 1 (cC c) (.ints c.down) (by kernel_rfl) (by kernel_rfl) ?_
 intro hl_c_down; replace hl_c_down : List.length c.down ≤ 9223372036854775807 := hl_c_down
 refine W.lenA 0 5 (cC c) (.marks c.marks) (by kernel_rfl) (by kernel_rfl) ?_
 intro hl_c_marks; replace hl_c_marks : List.length c.marks ≤ 9223372036854775807 := hl_c_marks
 refine Kk cok tab38 hnt [] [1] (⟨[(1,.ptr 1 0)],[(1,⟨29,.fix (cC c)⟩)],[1,999]⟩)
  (True ∧ True ∧ True)
  ⟨tt,tt,tt⟩ ?_
 refine W.seq ?_
 refine Kk cok tab38 hnt [] [1,7,8,9] (⟨[(1,.ptr 1 0),(7,.sl (.marks c.marks)),(8,.i (((List.length c.marks) : Nat) : Int)),(9,.i (0 : Int))],[(1,⟨29,.fix (cC c)⟩)],[1,999]⟩)
  (True ∧ True ∧ True ∧ True ∧ True)
  ⟨tt,tt,tt,tt,tt⟩ ?_
 refine W.block ?_
 refine W.loop (ι := Nat) (fun (i : Nat) => (⟨[(1,.ptr 1 0),(7,.sl (.marks c.marks)),(8,.i (((List.length c.marks) : Nat) : Int)),(9,.i ((i : Nat) : Int))],[(1,⟨29,.fix (cC c)⟩)],[1,999]⟩ : St))
  (fun (i : Nat) => (i ≤ c.marks.length) ∧ (∀ j,j < i → markOK c.marks j = true))
  (fun (i : Nat) => (c.marks.length - i : Nat)) (0) ?_ ?_ ?_
 ·exact (show (0 ≤ c.marks.length) ∧ (∀ j,j < 0 → markOK c.marks j = true) from ⟨(by first | assumption | omega | rfl | (intro _ hjj; omega) | (simp; done) | (simp; omega)),(by exact upto_zero)⟩)
 ·exact Sub.of [] (@cast (((((1 : Nat) = 1) ∧ ((0 : Nat) = 0) ∧ ((1 : Nat) ∈ ([1,999] : List Nat))) ∧ (Sd (.marks c.marks)) ∧ (Si (((List.length c.marks) : Nat) : Int)) ∧ ((.int .i64 (0 : Int) : Value) = .int .i64 ((0 : Nat) : Int)) ∧ True) ∧ ((((29 : Nat) = 29) ∧ (Sc c) ∧ ((1 : Nat) ∈ ([1,999] : List Nat))) ∧ True) ∧ (true = true) ∧ (true = true)) _ (by kernel_rfl) ⟨⟨⟨rfl,rfl,(by decide)⟩,rfl,rfl,(congrArg (Value.int .i64) (by first | rfl | omega | assumption | simp | simp_all)),tt⟩,⟨⟨rfl,⟨rfl,rfl,rfl,rfl,rfl,rfl,tt⟩,(by decide)⟩,tt⟩,rfl,rfl⟩)
 ·rintro i hC0
  have hC : (i ≤ c.marks.length) ∧ (∀ j,j < i → markOK c.marks j = true) := hC0
  clear hC0
  obtain ⟨hi,hA⟩ := hC
  refine W.to (⟨[(1,.ptr 1 0),(7,.sl (.marks c.marks)),(8,.i (((List.length c.marks) : Nat) : Int)),(9,.i ((i : Nat) : Int))],[(1,⟨29,.fix (cC c)⟩)],[1,999]⟩) rfl ?_
  refine Kk cok tab38 hnt [] [1,7,8,9,10] (⟨[(1,.ptr 1 0),(7,.sl (.marks c.marks)),(8,.i (((List.length c.marks) : Nat) : Int)),(9,.i ((i : Nat) : Int)),(10,.b (decide (((i : Nat) : Int) < (((List.length c.marks) : Nat) : Int))))],[(1,⟨29,.fix (cC c)⟩)],[1,999]⟩)
   ((True ∧ True ∧ True) ∧ True)
   ⟨⟨tt,tt,tt⟩,tt⟩ ?_
  refine W.seq ?_
  refine W.ifP (((i : Nat) : Int) < (((List.length c.marks) : Nat) : Int)) (.b (decide (((i : Nat) : Int) < (((List.length c.marks) : Nat) : Int)))) (by kernel_rfl) rfl trivial ?_ ?_
  ·intro h10
   refine W.skip (thenQ_normal ?_)
   refine W.seq ?_
   refine W.block ?_
   refine Kk cok tab38 hnt [] [1,3,4,7,8,9] (⟨[(1,.ptr 1 0),(3,.i ((i : Nat) : Int)),(4,.ptr 4 0),(7,.sl (.marks c.marks)),(8,.i (((List.length c.marks) : Nat) : Int)),(9,.i ((i : Nat) : Int))],[(1,⟨29,.fix (cC c)⟩),(4,⟨50,.fix [.i ((List.getD c.marks i default).value),.i ((List.getD c.marks i default).proc),.i ((List.getD c.marks i default).number),.b ((List.getD c.marks i default).gone)]⟩)],[4,1,999]⟩)
    (True ∧ (True ∧ True ∧ (0 ≤ ((i : Nat) : Int)) ∧ (((i : Nat) : Int) < (((List.length c.marks) : Nat) : Int))) ∧ True ∧ True ∧ True ∧ (True ∧ True) ∧ True)
    ⟨tt,⟨tt,tt,(by omega),(by omega)⟩,tt,tt,tt,⟨tt,tt⟩,tt⟩ ?_
   refine W.KA cok tab38 hnt [] [1,7,8,9,31] (⟨[(1,.ptr 1 0),(7,.sl (.marks c.marks)),(8,.i (((List.length c.marks) : Nat) : Int)),(9,.i ((i : Nat) : Int)),(31,.b ((!(isMark (List.getD c.marks i default))) || ((decide ((0 : Int) < ((i : Nat) : Int))) && (decide ((0 : Int) ≤ (cmpM (List.getD c.marks (Int.toNat (((i : Nat) : Int) - (1 : Int))) default) (List.getD c.marks i default)))))))],[(1,⟨29,.fix (cC c)⟩),(4,⟨50,.fix [.i ((List.getD c.marks i default).value),.i ((List.getD c.marks i default).proc),.i ((List.getD c.marks i default).number),.b ((List.getD c.marks i default).gone)]⟩)],[4,1,999]⟩)
    ((fun (Z1:Bool)=>((fun (Z2:Bool)=>((fun (Z3:Bool)=>((fun (Z4:Bool)=>(True ∧ ((True ∧ ((True ∧ True) ∧ True)) ∧ (True ∧ (True ∧ ((Z3 = true → True) ∧ ((Z3 = true → (((Z3 = true) ∧ True) ∧ (True ∧ True))) ∧ ((Z3 = true → True) ∧ ((Z4 = true → True) ∧ ((Z4 = true → ((Z4 = true) ∧ True)) ∧ ((Z4 = true → True) ∧ ((Z4 = true → (((Z4 = true) ∧ True) ∧ (True ∧ (Fits .i64 (((i : Nat) : Int) - (1 : Int)))))) ∧ ((Z4 = true → (((Z4 = true) ∧ True) ∧ (((Z4 = true) ∧ True) ∧ ((0 ≤ (((i : Nat) : Int) - (1 : Int))) ∧ ((((i : Nat) : Int) - (1 : Int)) < (((List.length c.marks) : Nat) : Int)))))) ∧ ((Z4 = true → ((Z4 = true) ∧ True)) ∧ ((Z4 = true → True) ∧ ((Z4 = true → (True ∧ ((((Z4 = true) ∧ True) ∧ (((Z4 = true) ∧ True) ∧ True)) ∧ True))) ∧ ((Z4 = true → (((Z4 = true) ∧ True) ∧ (True ∧ True))) ∧ ((Z3 = true → (((Z3 = true) ∧ ((Z3 = true) ∧ True)) ∧ ((Z1 = true → (Z4 = true) ∧ True) ∧ (Z1 = false → True)))) ∧ ((True ∧ ((Z2 = true → True) ∧ (Z2 = false → (Z3 = true) ∧ True))) ∧ True))))))))))))))))))) (Z3 && (Z3 && Z1)))) (!Z2))) (!(isMark (List.getD c.marks i default))))) (decide ((0 : Int) < ((i : Nat) : Int)))) (by kernel_rfl) (by kernel_rfl)
    ⟨tt,⟨tt,⟨tt,tt⟩,tt⟩,tt,tt,(fun _ => trivial),(fun hG => ⟨⟨hG,tt⟩,tt,tt⟩),(fun _ => trivial),(fun _ => trivial),(fun hG => ⟨hG,tt⟩),(fun _ => trivial),(fun hG => ⟨⟨hG,tt⟩,tt,(by have hg0 : (0 : Int) < ((i : Nat) : Int) := of_decide_eq_true (and_r (and_r hG)); exact fits_i64 (by omega) (by omega))⟩),(fun hG => ⟨⟨hG,tt⟩,⟨hG,tt⟩,(by have hg0 : (0 : Int) < ((i : Nat) : Int) := of_decide_eq_true (and_r (and_r hG)); omega),(by have hg0 : (0 : Int) < ((i : Nat) : Int) := of_decide_eq_true (and_r (and_r hG)); omega)⟩),(fun hG => ⟨hG,tt⟩),(fun _ => trivial),(fun hG => ⟨tt,⟨⟨hG,tt⟩,⟨hG,tt⟩,tt⟩,tt⟩),(fun hG => ⟨⟨hG,tt⟩,tt,tt⟩),(fun hG => ⟨⟨hG,hG,tt⟩,(fun hp => ⟨(and_t hG (and_t hG hp)),tt⟩),(fun _ => trivial)⟩),⟨tt,(fun _ => trivial),(fun hp => ⟨(not_t hp),tt⟩)⟩,tt⟩ ?_
   refine W.if' ((!(isMark (List.getD c.marks i default))) || ((decide ((0 : Int) < ((i : Nat) : Int))) && (decide ((0 : Int) ≤ (cmpM (List.getD c.marks (Int.toNat (((i : Nat) : Int) - (1 : Int))) default) (List.getD c.marks i default)))))) (.b ((!(isMark (List.getD c.marks i default))) || ((decide ((0 : Int) < ((i : Nat) : Int))) && (decide ((0 : Int) ≤ (cmpM (List.getD c.marks (Int.toNat (((i : Nat) : Int) - (1 : Int))) default) (List.getD c.marks i default))))))) (by kernel_rfl) rfl trivial ?_ ?_
   ·intro h31
    refine Kk cok tab38 hnt [] [2] (⟨[(2,.b false)],[(1,⟨29,.fix (cC c)⟩),(4,⟨50,.fix [.i ((List.getD c.marks i default).value),.i ((List.getD c.marks i default).proc),.i ((List.getD c.marks i default).number),.b ((List.getD c.marks i default).gone)]⟩)],[4,1,999]⟩)
     (True ∧ True)
     ⟨tt,tt⟩ ?_
    refine W.ret (blockQ_ret (thenQ_ret (thenQ_ret (blockQ_ret (thenQ_ret ?_)))))
    exact endQ_ret (.b false) (by kernel_rfl) (@cast ((.bool false : Value) = .bool (validCopy c)) _ (by kernel_rfl) (congrArg Value.bool (by rw [show ((i : Int) - 1).toNat = i - 1 by omega,cmpM_less] at h31; exact (valid_marks (mark_bad (i := i) (by omega) (markI_no h31))).symm)))
   ·intro n31
    refine W.skip (blockQ_normal (thenQ_normal ?_))
    refine Lk cok tab38 hnt [] (⟨[(1,.ptr 1 0),(7,.sl (.marks c.marks)),(8,.i (((List.length c.marks) : Nat) : Int)),(9,.i (((i + 1) : Nat) : Int)),(31,.b ((!(isMark (List.getD c.marks i default))) || ((decide ((0 : Int) < ((i : Nat) : Int))) && (decide ((0 : Int) ≤ (cmpM (List.getD c.marks (Int.toNat (((i : Nat) : Int) - (1 : Int))) default) (List.getD c.marks i default))))))),(32,.i (((i + 1) : Nat) : Int))],[(1,⟨29,.fix (cC c)⟩),(4,⟨50,.fix [.i ((List.getD c.marks i default).value),.i ((List.getD c.marks i default).proc),.i ((List.getD c.marks i default).number),.b ((List.getD c.marks i default).gone)]⟩)],[4,1,999]⟩)
     ((True ∧ True ∧ (Fits .i64 (((i + 1) : Nat) : Int))) ∧ True ∧ True)
     ⟨⟨tt,tt,(by exact fits_i64 (by omega) (by omega))⟩,tt,tt⟩ ?_
    refine thenQ_normal ?_
    refine ⟨((i + 1)),(show ((i + 1) ≤ c.marks.length) ∧ (∀ j,j < (i + 1) → markOK c.marks j = true) from ⟨(by first | assumption | omega | rfl | (intro _ hjj; omega) | (simp; done) | (simp; omega)),(by rw [show ((i : Int) - 1).toNat = i - 1 by omega,cmpM_less] at n31; exact upto_succ hA (markI_ok n31))⟩),(show c.marks.length - (i + 1) < c.marks.length - i from (by first | omega | (simp_all; omega))),?_⟩
    exact Sub.of [] (@cast (((((1 : Nat) = 1) ∧ ((0 : Nat) = 0) ∧ ((1 : Nat) ∈ ([1,999] : List Nat))) ∧ (Sd (.marks c.marks)) ∧ (Si (((List.length c.marks) : Nat) : Int)) ∧ (Si (((i + 1) : Nat) : Int)) ∧ True) ∧ ((((29 : Nat) = 29) ∧ (Sc c) ∧ ((1 : Nat) ∈ ([1,999] : List Nat))) ∧ True) ∧ (true = true) ∧ (true = true)) _ (by kernel_rfl) ⟨⟨⟨rfl,rfl,(by decide)⟩,rfl,rfl,rfl,tt⟩,⟨⟨rfl,⟨rfl,rfl,rfl,rfl,rfl,rfl,tt⟩,(by decide)⟩,tt⟩,rfl,rfl⟩)
  ·intro n10
   refine W.exit (thenQ_exit (thenQ_exit (blockQ_hit ?_)))
   refine thenQ_normal ?_
   refine Kk cok tab38 hnt [] [1,5] (⟨[(1,.ptr 1 0),(5,.b ((((within c.value (0 : Int) (3 : Int)) && (within c.time (0 : Int) (30 : Int))) && (within c.proc (0 : Int) (2 : Int))) && ((decide ((0 : Int) < c.time)) || ((decide (c.value = (0 : Int))) && (decide (c.proc = (0 : Int)))))))],[(1,⟨29,.fix (cC c)⟩)],[1,999]⟩)
    ((fun (Z1:Bool)=>((fun (Z2:Bool)=>((fun (Z3:Bool)=>((fun (Z4:Bool)=>((fun (Z5:Bool)=>((fun (Z6:Bool)=>((fun (Z7:Bool)=>(True ∧ (True ∧ ((True ∧ ((True ∧ (True ∧ (True ∧ True))) ∧ True)) ∧ (True ∧ ((Z3 = true → True) ∧ ((Z3 = true → ((Z3 = true) ∧ True)) ∧ ((Z3 = true → (True ∧ ((((Z3 = true) ∧ True) ∧ (True ∧ (True ∧ True))) ∧ True))) ∧ ((True ∧ ((Z3 = true → (Z3 = true) ∧ True) ∧ (Z3 = false → True))) ∧ (True ∧ ((Z4 = true → True) ∧ ((Z4 = true → ((Z4 = true) ∧ True)) ∧ ((Z4 = true → (True ∧ ((((Z4 = true) ∧ True) ∧ (True ∧ (True ∧ True))) ∧ True))) ∧ ((True ∧ ((Z4 = true → (Z4 = true) ∧ True) ∧ (Z4 = false → True))) ∧ (True ∧ ((Z5 = true → True) ∧ ((Z5 = true → ((Z5 = true) ∧ True)) ∧ ((Z5 = true → (((Z5 = true) ∧ True) ∧ (True ∧ True))) ∧ ((Z5 = true → True) ∧ ((Z6 = true → True) ∧ ((Z6 = true → ((Z6 = true) ∧ True)) ∧ ((Z6 = true → (((Z6 = true) ∧ True) ∧ (True ∧ True))) ∧ ((Z6 = true → True) ∧ ((Z7 = true → True) ∧ ((Z7 = true → ((Z7 = true) ∧ True)) ∧ ((Z7 = true → (((Z7 = true) ∧ True) ∧ (True ∧ True))) ∧ ((Z6 = true → (((Z6 = true) ∧ ((Z6 = true) ∧ True)) ∧ ((Z2 = true → (Z7 = true) ∧ True) ∧ (Z2 = false → True)))) ∧ ((Z5 = true → (((Z5 = true) ∧ ((Z5 = true) ∧ True)) ∧ ((Z1 = true → True) ∧ (Z1 = false → (Z6 = true) ∧ True)))) ∧ ((True ∧ ((Z5 = true → (Z5 = true) ∧ True) ∧ (Z5 = false → True))) ∧ (True ∧ True)))))))))))))))))))))))))))))) (Z6 && (Z6 && Z2)))) (Z5 && (Z5 && (!Z1))))) (Z4 && (within c.proc (0 : Int) (2 : Int))))) (Z3 && (within c.time (0 : Int) (30 : Int))))) (within c.value (0 : Int) (3 : Int)))) (decide (c.value = (0 : Int))))) (decide ((0 : Int) < c.time)))
    ⟨tt,tt,⟨tt,⟨tt,tt,tt,tt⟩,tt⟩,tt,(fun _ => trivial),(fun hG => ⟨hG,tt⟩),(fun hG => ⟨tt,⟨⟨hG,tt⟩,tt,tt,tt⟩,tt⟩),⟨tt,(fun hp => ⟨hp,tt⟩),(fun _ => trivial)⟩,tt,(fun _ => trivial),(fun hG => ⟨hG,tt⟩),(fun hG => ⟨tt,⟨⟨hG,tt⟩,tt,tt,tt⟩,tt⟩),⟨tt,(fun hp => ⟨hp,tt⟩),(fun _ => trivial)⟩,tt,(fun _ => trivial),(fun hG => ⟨hG,tt⟩),(fun hG => ⟨⟨hG,tt⟩,tt,tt⟩),(fun _ => trivial),(fun _ => trivial),(fun hG => ⟨hG,tt⟩),(fun hG => ⟨⟨hG,tt⟩,tt,tt⟩),(fun _ => trivial),(fun _ => trivial),(fun hG => ⟨hG,tt⟩),(fun hG => ⟨⟨hG,tt⟩,tt,tt⟩),(fun hG => ⟨⟨hG,hG,tt⟩,(fun hp => ⟨(and_t hG (and_t hG hp)),tt⟩),(fun _ => trivial)⟩),(fun hG => ⟨⟨hG,hG,tt⟩,(fun _ => trivial),(fun hp => ⟨(and_t hG (and_t hG (not_t hp))),tt⟩)⟩),⟨tt,(fun hp => ⟨hp,tt⟩),(fun _ => trivial)⟩,tt,tt⟩ ?_
   refine Kk cok tab38 hnt [] [2] (⟨[(2,.b ((((countsOK c.up) && (countsOK c.down)) && ((((within c.value (0 : Int) (3 : Int)) && (within c.time (0 : Int) (30 : Int))) && (within c.proc (0 : Int) (2 : Int))) && ((decide ((0 : Int) < c.time)) || ((decide (c.value = (0 : Int))) && (decide (c.proc = (0 : Int))))))) && (decide ((((List.length c.marks) : Nat) : Int) ≤ (20 : Int)))))],[(1,⟨29,.fix (cC c)⟩)],[1,999]⟩)
    ((fun (Z1:Bool)=>((fun (Z2:Bool)=>((fun (Z3:Bool)=>(True ∧ (True ∧ ((True ∧ ((True ∧ True) ∧ True)) ∧ (True ∧ ((Z1 = true → True) ∧ ((Z1 = true → ((Z1 = true) ∧ True)) ∧ ((Z1 = true → (True ∧ ((((Z1 = true) ∧ True) ∧ True) ∧ True))) ∧ ((True ∧ ((Z1 = true → (Z1 = true) ∧ True) ∧ (Z1 = false → True))) ∧ (True ∧ ((Z2 = true → True) ∧ ((True ∧ ((Z2 = true → (Z2 = true) ∧ True) ∧ (Z2 = false → True))) ∧ (True ∧ ((Z3 = true → True) ∧ ((Z3 = true → ((Z3 = true) ∧ True)) ∧ ((Z3 = true → ((Z3 = true) ∧ True)) ∧ ((Z3 = true → (((Z3 = true) ∧ True) ∧ (True ∧ True))) ∧ ((True ∧ ((Z3 = true → (Z3 = true) ∧ True) ∧ (Z3 = false → True))) ∧ (True ∧ True))))))))))))))))))) (Z2 && ((((within c.value (0 : Int) (3 : Int)) && (within c.time (0 : Int) (30 : Int))) && (within c.proc (0 : Int) (2 : Int))) && ((decide ((0 : Int) < c.time)) || ((decide (c.value = (0 : Int))) && (decide (c.proc = (0 : Int))))))))) (Z1 && (countsOK c.down)))) (countsOK c.up))
    ⟨tt,tt,⟨tt,⟨tt,tt⟩,tt⟩,tt,(fun _ => trivial),(fun hG => ⟨hG,tt⟩),(fun hG => ⟨tt,⟨⟨hG,tt⟩,tt⟩,tt⟩),⟨tt,(fun hp => ⟨hp,tt⟩),(fun _ => trivial)⟩,tt,(fun _ => trivial),⟨tt,(fun hp => ⟨hp,tt⟩),(fun _ => trivial)⟩,tt,(fun _ => trivial),(fun hG => ⟨hG,tt⟩),(fun hG => ⟨hG,tt⟩),(fun hG => ⟨⟨hG,tt⟩,tt,tt⟩),⟨tt,(fun hp => ⟨hp,tt⟩),(fun _ => trivial)⟩,tt,tt⟩ ?_
   refine W.ret ?_
   exact endQ_ret (.b ((((countsOK c.up) && (countsOK c.down)) && ((((within c.value (0 : Int) (3 : Int)) && (within c.time (0 : Int) (30 : Int))) && (within c.proc (0 : Int) (2 : Int))) && ((decide ((0 : Int) < c.time)) || ((decide (c.value = (0 : Int))) && (decide (c.proc = (0 : Int))))))) && (decide ((((List.length c.marks) : Nat) : Int) ≤ (20 : Int))))) (by kernel_rfl) (@cast ((.bool ((((countsOK c.up) && (countsOK c.down)) && ((((within c.value (0 : Int) (3 : Int)) && (within c.time (0 : Int) (30 : Int))) && (within c.proc (0 : Int) (2 : Int))) && ((decide ((0 : Int) < c.time)) || ((decide (c.value = (0 : Int))) && (decide (c.proc = (0 : Int))))))) && (decide ((((List.length c.marks) : Nat) : Int) ≤ (20 : Int)))) : Value) = .bool (validCopy c)) _ (by kernel_rfl) (congrArg Value.bool (by exact valid_impl (allN_true (fun j hj => hA j (by omega))))))
theorem ent38 : Entr prog 38 := ⟨_,func38,rfl,by decide⟩
end Go.Proofs.Try

set_option linter.unusedSimpArgs false
set_option linter.unusedVariables false
namespace Go.Proofs.Try
open Go.Ab Go.RowKit Go.Shelf Go.Proofs
def fs59 : FnS := fnS [.c .ints 3] [.ints] (fun _ (l,_) => (.own 0 (List.length (Lib.compact l)),[(3,.ints (Lib.compact l))],(l.length ≤ 1000)))
def renC : Go.Shelf.Ren := ⟨fun _ => 59,fun k => bif Nat.beq k 0 then 0 else bif Nat.beq k 3 then 3 else bif Nat.beq k 4 then 4 else bif Nat.beq k 22 then 22 else k,fun k => k⟩
set_option maxRecDepth 100000 in
theorem laysC : Go.Proofs.Lays2.n20 prog renC where
 mixed := by kernel_rfl
 f20 := by kernel_rfl
 t0 := underlying0
 a0 := isAgg0
 z0 := sizeOf0
 v0 := zeroValue0
 t3 := underlying3
 a3 := isAgg3
 z3 := sizeOf3
 v3 := zeroValue3
 t4 := underlying4
 a4 := isAgg4
 z4 := sizeOf4
 v4 := zeroValue4
 t22 := underlying22
 a22 := isAgg22
 z22 := sizeOf22
 v22 := zeroValue22
 i3 := by kernel_rfl
theorem ok59 : FnOK prog 59 fs59 := compact_ok laysC
theorem ent59 : Entr prog 59 := ⟨_,func59,rfl,by decide⟩
end Go.Proofs.Try

set_option linter.unusedSimpArgs false
set_option linter.unusedVariables false
namespace Go.Proofs.Try
open Go.Ab Go.RowKit Go.Shelf Go.Proofs Go.Lib
def renS : Go.Shelf.Ren := ⟨fun k => bif Nat.beq k 125 then 73 else bif Nat.beq k 128 then 87 else bif Nat.beq k 129 then 88 else bif Nat.beq k 189 then 58 else bif Nat.beq k 215 then 76 else bif Nat.beq k 216 then 84 else bif Nat.beq k 257 then 72 else bif Nat.beq k 294 then 78 else bif Nat.beq k 295 then 79 else bif Nat.beq k 296 then 80 else bif Nat.beq k 297 then 81 else bif Nat.beq k 298 then 82 else bif Nat.beq k 299 then 83 else bif Nat.beq k 300 then 85 else bif Nat.beq k 301 then 86 else bif Nat.beq k 328 then 91 else bif Nat.beq k 329 then 92 else bif Nat.beq k 330 then 93 else bif Nat.beq k 331 then 94 else bif Nat.beq k 332 then 95 else bif Nat.beq k 343 then 96 else k,fun k => bif Nat.beq k 0 then 0 else bif Nat.beq k 3 then 3 else bif Nat.beq k 4 then 4 else bif Nat.beq k 5 then 5 else bif Nat.beq k 9 then 9 else bif Nat.beq k 28 then 22 else bif Nat.beq k 46 then 76 else bif Nat.beq k 51 then 90 else bif Nat.beq k 53 then 92 else bif Nat.beq k 131 then 63 else bif Nat.beq k 182 then 82 else bif Nat.beq k 183 then 83 else bif Nat.beq k 218 then 95 else bif Nat.beq k 222 then 99 else bif Nat.beq k 228 then 101 else bif Nat.beq k 229 then 102 else k,fun k => k⟩
set_option maxRecDepth 100000 in
theorem laysS : Go.Proofs.Lays.n189 prog renS where
 mixed := by kernel_rfl
 f125 := by kernel_rfl
 f128 := by kernel_rfl
 f129 := by kernel_rfl
 f189 := by kernel_rfl
 f215 := by kernel_rfl
 f216 := by kernel_rfl
 f257 := by kernel_rfl
 f294 := by kernel_rfl
 f295 := by kernel_rfl
 f296 := by kernel_rfl
 f297 := by kernel_rfl
 f298 := by kernel_rfl
 f299 := by kernel_rfl
 f300 := by kernel_rfl
 f301 := by kernel_rfl
 f328 := by kernel_rfl
 f329 := by kernel_rfl
 f330 := by kernel_rfl
 f331 := by kernel_rfl
 f332 := by kernel_rfl
 f343 := by kernel_rfl
 t0 := underlying0
 a0 := isAgg0
 z0 := sizeOf0
 v0 := zeroValue0
 t3 := underlying3
 a3 := isAgg3
 z3 := sizeOf3
 v3 := zeroValue3
 t4 := underlying4
 a4 := isAgg4
 z4 := sizeOf4
 v4 := zeroValue4
 t5 := underlying5
 a5 := isAgg5
 z5 := sizeOf5
 v5 := zeroValue5
 t9 := underlying9
 a9 := isAgg9
 z9 := sizeOf9
 v9 := zeroValue9
 t28 := underlying22
 a28 := isAgg22
 z28 := sizeOf22
 v28 := zeroValue22
 t46 := underlying76
 a46 := isAgg76
 z46 := sizeOf76
 v46 := zeroValue76
 t51 := underlying90
 a51 := isAgg90
 z51 := sizeOf90
 v51 := zeroValue90
 t53 := underlying92
 a53 := isAgg92
 z53 := sizeOf92
 v53 := zeroValue92
 t131 := underlying63
 a131 := isAgg63
 z131 := sizeOf63
 v131 := zeroValue63
 t182 := underlying82
 a182 := isAgg82
 z182 := sizeOf82
 v182 := zeroValue82
 t183 := underlying83
 a183 := isAgg83
 z183 := sizeOf83
 v183 := zeroValue83
 t218 := underlying95
 a218 := isAgg95
 z218 := sizeOf95
 v218 := zeroValue95
 t222 := underlying99
 a222 := isAgg99
 z222 := sizeOf99
 v222 := zeroValue99
 t228 := underlying101
 a228 := isAgg101
 z228 := sizeOf101
 v228 := zeroValue101
 t229 := underlying102
 a229 := isAgg102
 z229 := sizeOf102
 v229 := zeroValue102
theorem hok58 : ∀ (l : List Int),(List.length l ≤ 1000) → HOK prog 58 [911] [.own 911 l.length] [(911,⟨3,.row (.ints l)⟩)] [911] (fun r s1 u1 => r = (.tup []) ∧ s1 = [(911,⟨3,.row (.ints (sortI l))⟩)] ∧ u1 = [911]) := fun l hl => sort_hok laysS l (by omega)
theorem ent58 : Entr prog 58 := ⟨_,func58,rfl,by decide⟩
end Go.Proofs.Try

set_option linter.unusedSimpArgs false
set_option linter.unusedVariables false
namespace Go.Proofs.Try
open Go.Ab Go.RowKit
def fs28 : FnS := fnS [.a [some .ints,some .ints,none,none,none,some .marks]] [.copy] (fun _ (c,_) => (.own 0 (List.length (valuesC c)),[(3,.ints (valuesC c))],True))
abbrev T28 : Tab := lk [(38,fs38),(59,fs59)]
theorem tab28 : TabOK prog T28 := (TabOK.cons ok38 ent38 (TabOK.cons ok59 ent59 TabOK.nil))
set_option maxRecDepth 100000 in
set_option maxHeartbeats 1000000 in
theorem ok28 : FnOK prog 28 fs28 := by
 refine FnOK.mk cok func28 rfl rfl rfl ?_
 rintro fl ⟨(c : CopyD),_⟩ hpre F hnt0 _
 have hnt : F.nt = 31 := hnt0.trans ntmps28
 clear hpre
 refine W.to (⟨[(0,.agg (cC c))],[],[999]⟩) rfl ?_
 refine W.lenA 0 0 (cC c) (.ints c.up) (by kernel_rfl) (by kernel_rfl) ?_
 intro hl_c_up; replace hl_c_up : List.length c.up ≤ 9223372036854775807 := hl_c_up
 refine W.lenA 0 1 (cC c) (.ints c.down) (by kernel_rfl) (by kernel_rfl) ?_
 intro hl_c_down; replace hl_c_down : List.length c.down ≤ 9223372036854775807 := hl_c_down
 refine W.lenA 0 5 (cC c) (.marks c.marks) (by kernel_rfl) (by kernel_rfl) ?_
 intro hl_c_marks; replace hl_c_marks : List.length c.marks ≤ 9223372036854775807 := hl_c_marks
 refine Kk cok tab28 hnt [] [1] (⟨[(1,.ptr 1 0)],[(1,⟨29,.fix (cC c)⟩)],[1,999]⟩)
  (True ∧ True ∧ True)
  ⟨tt,tt,tt⟩ ?_
 refine Kk cok tab28 hnt [6] [1,3] (⟨[(1,.ptr 1 0),(3,.own 6 (List.length ([] : List Int)))],[(1,⟨29,.fix (cC c)⟩),(6,⟨3,.row (.ints ([] : List Int))⟩)],[6,1,999]⟩)
  (True ∧ True ∧ True)
  ⟨tt,tt,tt⟩ ?_
 refine W.seq ?_
 refine Kk cok tab28 hnt [] [1,3,9] (⟨[(1,.ptr 1 0),(3,.own 6 (List.length ([] : List Int))),(9,.b (!(validCopy c)))],[(1,⟨29,.fix (cC c)⟩),(6,⟨3,.row (.ints ([] : List Int))⟩)],[6,1,999]⟩)
  (True ∧ (True ∧ ((True ∧ True ∧ True ∧ True ∧ True ∧ True ∧ True ∧ True) ∧ True) ∧ True) ∧ True ∧ True)
  ⟨tt,⟨tt,⟨⟨tt,tt,tt,tt,tt,tt,tt,tt⟩,tt⟩,tt⟩,tt,tt⟩ ?_
 refine W.if' (!(validCopy c)) (.b (!(validCopy c))) (by kernel_rfl) rfl trivial ?_ ?_
 ·intro h9
  refine Kk cok tab28 hnt [] [2] (⟨[(2,.own 6 (List.length ([] : List Int)))],[(1,⟨29,.fix (cC c)⟩),(6,⟨3,.row (.ints ([] : List Int))⟩)],[6,1,999]⟩)
   (True ∧ True ∧ True)
   ⟨tt,tt,tt⟩ ?_
  refine W.ret (thenQ_ret ?_)
  exact endQ_rows [(0,6)] (.own 6 (List.length ([] : List Int))) (by kernel_rfl) (@cast (((6 : Nat) = 6) ∧ ((List.length ([] : List Int)) = (List.length (valuesC c))) ∧ ((0 : Nat) ∈ ([0] : List Nat))) _ (by kernel_rfl) ⟨rfl,(by first | rfl | omega | assumption | (symm; assumption) | (exact congrArg List.length (by first | exact values_bad (not_f h9) | (rw [← values_bad (not_f h9)]; rfl))) | (first | exact values_bad (not_f h9) | (rw [← values_bad (not_f h9)]; rfl); done) | simp | simp_all),(by decide)⟩) (@cast ((((3 : Nat) = 3) ∧ ((.ints ([] : List Int) : Dat) = .ints (valuesC c)) ∧ ((0 : Nat) ∈ ([0] : List Nat))) ∧ True) _ (by kernel_rfl) ⟨⟨rfl,(congrArg Dat.ints (by first | exact values_bad (not_f h9) | (rw [← values_bad (not_f h9)]; rfl))),(by decide)⟩,tt⟩) (by kernel_rfl)
 ·intro n9
  have hf := up_len (not_g n9)
  refine W.skip (thenQ_normal ?_)
  refine W.seq ?_
  refine Kk cok tab28 hnt [] [3,12,13,14] (⟨[(3,.own 6 (List.length ([] : List Int))),(12,.sl (.marks c.marks)),(13,.i (((List.length c.marks) : Nat) : Int)),(14,.i (0 : Int))],[(1,⟨29,.fix (cC c)⟩),(6,⟨3,.row (.ints ([] : List Int))⟩)],[6,1,999]⟩)
   (True ∧ True ∧ True ∧ True ∧ True)
   ⟨tt,tt,tt,tt,tt⟩ ?_
  refine W.block ?_
  refine W.loop (ι := Nat × (List Int)) (fun (x : Nat × (List Int)) => match x with | (i,lo) => (⟨[(3,.own 6 lo.length),(12,.sl (.marks c.marks)),(13,.i (((List.length c.marks) : Nat) : Int)),(14,.i ((i : Nat) : Int))],[(6,⟨3,.row (.ints lo)⟩)],[6,999]⟩ : St))
   (fun (x : Nat × (List Int)) => match x with | (i,lo) => (i ≤ c.marks.length) ∧ (lo = listUp c.marks i))
   (fun (x : Nat × (List Int)) => match x with | (i,lo) => (c.marks.length - i : Nat)) (0,([] : List Int)) ?_ ?_ ?_
  ·exact (show (0 ≤ c.marks.length) ∧ (([] : List Int) = listUp c.marks 0) from ⟨(by first | assumption | omega | rfl | (intro _ hjj; omega) | (simp; done) | (simp; omega)),(by rfl)⟩)
  ·exact Sub.of [] (@cast (((((6 : Nat) = 6) ∧ ((List.length ([] : List Int)) = (List.length ([] : List Int))) ∧ ((6 : Nat) ∈ ([6,999] : List Nat))) ∧ (Sd (.marks c.marks)) ∧ (Si (((List.length c.marks) : Nat) : Int)) ∧ ((.int .i64 (0 : Int) : Value) = .int .i64 ((0 : Nat) : Int)) ∧ True) ∧ ((((3 : Nat) = 3) ∧ (Sd (.ints ([] : List Int))) ∧ ((6 : Nat) ∈ ([6,999] : List Nat))) ∧ True) ∧ (true = true) ∧ (true = true)) _ (by kernel_rfl) ⟨⟨⟨rfl,rfl,(by decide)⟩,rfl,rfl,(congrArg (Value.int .i64) (by first | rfl | omega | assumption | simp | simp_all)),tt⟩,⟨⟨rfl,rfl,(by decide)⟩,tt⟩,rfl,rfl⟩)
  ·rintro ⟨i,lo⟩ hC0
   have hC : (i ≤ c.marks.length) ∧ (lo = listUp c.marks i) := hC0
   clear hC0
   obtain ⟨hi,hl⟩ := hC
   refine W.to (⟨[(3,.own 6 lo.length),(12,.sl (.marks c.marks)),(13,.i (((List.length c.marks) : Nat) : Int)),(14,.i ((i : Nat) : Int))],[(6,⟨3,.row (.ints lo)⟩)],[6,999]⟩) rfl ?_
   have hll : lo.length ≤ i := by rw [hl]; exact listUp_len _ _
   refine Kk cok tab28 hnt [] [3,12,13,14,15] (⟨[(3,.own 6 lo.length),(12,.sl (.marks c.marks)),(13,.i (((List.length c.marks) : Nat) : Int)),(14,.i ((i : Nat) : Int)),(15,.b (decide (((i : Nat) : Int) < (((List.length c.marks) : Nat) : Int))))],[(6,⟨3,.row (.ints lo)⟩)],[6,999]⟩)
    ((True ∧ True ∧ True) ∧ True)
    ⟨⟨tt,tt,tt⟩,tt⟩ ?_
   refine W.seq ?_
   refine W.ifP (((i : Nat) : Int) < (((List.length c.marks) : Nat) : Int)) (.b (decide (((i : Nat) : Int) < (((List.length c.marks) : Nat) : Int)))) (by kernel_rfl) rfl trivial ?_ ?_
   ·intro h15
    refine W.skip (thenQ_normal ?_)
    refine W.seq ?_
    refine W.block ?_
    refine Kk cok tab28 hnt [] [3,5,12,13,14] (⟨[(3,.own 6 lo.length),(5,.ptr 5 0),(12,.sl (.marks c.marks)),(13,.i (((List.length c.marks) : Nat) : Int)),(14,.i ((i : Nat) : Int))],[(5,⟨50,.fix [.i ((List.getD c.marks i default).value),.i ((List.getD c.marks i default).proc),.i ((List.getD c.marks i default).number),.b ((List.getD c.marks i default).gone)]⟩),(6,⟨3,.row (.ints lo)⟩)],[5,6,999]⟩)
     ((True ∧ True ∧ (0 ≤ ((i : Nat) : Int)) ∧ (((i : Nat) : Int) < (((List.length c.marks) : Nat) : Int))) ∧ True ∧ True ∧ (True ∧ True) ∧ True)
     ⟨⟨tt,tt,(by omega),(by omega)⟩,tt,tt,⟨tt,tt⟩,tt⟩ ?_
    refine Kk cok tab28 hnt [] [3,5,12,13,14,20] ((fun (Z1:Bool)=>(⟨[(3,.own 6 lo.length),(5,.ptr 5 0),(12,.sl (.marks c.marks)),(13,.i (((List.length c.marks) : Nat) : Int)),(14,.i ((i : Nat) : Int)),(20,.b (!Z1))],[(5,⟨50,.fix [.i ((List.getD c.marks i default).value),.i ((List.getD c.marks i default).proc),.i ((List.getD c.marks i default).number),.b Z1]⟩),(6,⟨3,.row (.ints lo)⟩)],[5,6,999]⟩:St)) ((List.getD c.marks i default).gone))
     (True ∧ True ∧ True ∧ True)
     ⟨tt,tt,tt,tt⟩ ?_
    refine W.if' (!((List.getD c.marks i default).gone)) (.b (!((List.getD c.marks i default).gone))) (by kernel_rfl) rfl trivial ?_ ?_
    ·intro h20
     refine Lk cok tab28 hnt [25] ((fun (Z1:Bool)=>(⟨[(3,.own 25 (List.length (lo ++ ([((List.getD c.marks i default).value)])))),(5,.ptr 5 0),(12,.sl (.marks c.marks)),(13,.i (((List.length c.marks) : Nat) : Int)),(14,.i ((i : Nat) : Int)),(20,.b (!Z1)),(21,.own 6 lo.length),(22,.ptr 5 0),(23,.i ((List.getD c.marks i default).value)),(24,.sl (.ints ([((List.getD c.marks i default).value)]))),(25,.own 25 (List.length (lo ++ ([((List.getD c.marks i default).value)]))))],[(5,⟨50,.fix [.i ((List.getD c.marks i default).value),.i ((List.getD c.marks i default).proc),.i ((List.getD c.marks i default).number),.b Z1]⟩),(25,⟨3,.row (.ints (lo ++ ([((List.getD c.marks i default).value)])))⟩)],[25,24,5,6,999]⟩:St)) ((List.getD c.marks i default).gone))
      (True ∧ True ∧ True ∧ (True ∧ True) ∧ ((True ∧ (lo.length = lo.length)) ∧ True ∧ ((lo.length + (List.length ([((List.getD c.marks i default).value)]))) * 8 ≤ 140737488355328)) ∧ True ∧ True)
      ⟨tt,tt,tt,⟨tt,tt⟩,⟨⟨tt,rfl⟩,tt,(by (try simp only [List.length_append,List.length_cons,List.length_nil,List.length_set]); omega)⟩,tt,tt⟩ ?_
     refine blockQ_normal (thenQ_normal ?_)
     refine Lk cok tab28 hnt [] ((fun (Z1:Bool)=>(⟨[(3,.own 25 (List.length (lo ++ ([((List.getD c.marks i default).value)])))),(5,.ptr 5 0),(12,.sl (.marks c.marks)),(13,.i (((List.length c.marks) : Nat) : Int)),(14,.i (((i + 1) : Nat) : Int)),(20,.b (!Z1)),(21,.own 6 lo.length),(22,.ptr 5 0),(23,.i ((List.getD c.marks i default).value)),(24,.sl (.ints ([((List.getD c.marks i default).value)]))),(25,.own 25 (List.length (lo ++ ([((List.getD c.marks i default).value)])))),(26,.i (((i + 1) : Nat) : Int))],[(5,⟨50,.fix [.i ((List.getD c.marks i default).value),.i ((List.getD c.marks i default).proc),.i ((List.getD c.marks i default).number),.b Z1]⟩),(25,⟨3,.row (.ints (lo ++ ([((List.getD c.marks i default).value)])))⟩)],[25,24,5,6,999]⟩:St)) ((List.getD c.marks i default).gone))
      ((True ∧ True ∧ (Fits .i64 (((i + 1) : Nat) : Int))) ∧ True ∧ True)
      ⟨⟨tt,tt,(by exact fits_i64 (by omega) (by omega))⟩,tt,tt⟩ ?_
     refine thenQ_normal ?_
     refine ⟨((i + 1),(lo ++ ([((List.getD c.marks i default).value)]))),(show ((i + 1) ≤ c.marks.length) ∧ ((lo ++ ([((List.getD c.marks i default).value)])) = listUp c.marks (i + 1)) from ⟨(by first | assumption | omega | rfl | (intro _ hjj; omega) | (simp; done) | (simp; omega)),(by first | exact list_yes hl (not_f h20) | exact list_no hl (not_g n20))⟩),(show c.marks.length - (i + 1) < c.marks.length - i from (by first | omega | (simp_all; omega))),?_⟩
     exact Sub.of [(6,25)] (@cast (((((25 : Nat) = 25) ∧ ((List.length (lo ++ ([((List.getD c.marks i default).value)]))) = (List.length (lo ++ ([((List.getD c.marks i default).value)])))) ∧ ((6 : Nat) ∈ ([6,999] : List Nat))) ∧ (Sd (.marks c.marks)) ∧ (Si (((List.length c.marks) : Nat) : Int)) ∧ (Si (((i + 1) : Nat) : Int)) ∧ True) ∧ ((((3 : Nat) = 3) ∧ (Sd (.ints (lo ++ ([((List.getD c.marks i default).value)])))) ∧ ((6 : Nat) ∈ ([6,999] : List Nat))) ∧ True) ∧ (true = true) ∧ (true = true)) _ (by kernel_rfl) ⟨⟨⟨rfl,rfl,(by decide)⟩,rfl,rfl,rfl,tt⟩,⟨⟨rfl,rfl,(by decide)⟩,tt⟩,rfl,rfl⟩)
    ·intro n20
     refine W.skip (blockQ_normal (thenQ_normal ?_))
     refine Lk cok tab28 hnt [] ((fun (Z1:Bool)=>(⟨[(3,.own 6 lo.length),(5,.ptr 5 0),(12,.sl (.marks c.marks)),(13,.i (((List.length c.marks) : Nat) : Int)),(14,.i (((i + 1) : Nat) : Int)),(20,.b (!Z1)),(26,.i (((i + 1) : Nat) : Int))],[(5,⟨50,.fix [.i ((List.getD c.marks i default).value),.i ((List.getD c.marks i default).proc),.i ((List.getD c.marks i default).number),.b Z1]⟩),(6,⟨3,.row (.ints lo)⟩)],[5,6,999]⟩:St)) ((List.getD c.marks i default).gone))
      ((True ∧ True ∧ (Fits .i64 (((i + 1) : Nat) : Int))) ∧ True ∧ True)
      ⟨⟨tt,tt,(by exact fits_i64 (by omega) (by omega))⟩,tt,tt⟩ ?_
     refine thenQ_normal ?_
     refine ⟨((i + 1),lo),(show ((i + 1) ≤ c.marks.length) ∧ (lo = listUp c.marks (i + 1)) from ⟨(by first | assumption | omega | rfl | (intro _ hjj; omega) | (simp; done) | (simp; omega)),(by first | exact list_yes hl (not_f h20) | exact list_no hl (not_g n20))⟩),(show c.marks.length - (i + 1) < c.marks.length - i from (by first | omega | (simp_all; omega))),?_⟩
     exact Sub.of [] (@cast (((((6 : Nat) = 6) ∧ (lo.length = lo.length) ∧ ((6 : Nat) ∈ ([6,999] : List Nat))) ∧ (Sd (.marks c.marks)) ∧ (Si (((List.length c.marks) : Nat) : Int)) ∧ (Si (((i + 1) : Nat) : Int)) ∧ True) ∧ ((((3 : Nat) = 3) ∧ (Sd (.ints lo)) ∧ ((6 : Nat) ∈ ([6,999] : List Nat))) ∧ True) ∧ (true = true) ∧ (true = true)) _ (by kernel_rfl) ⟨⟨⟨rfl,rfl,(by decide)⟩,rfl,rfl,rfl,tt⟩,⟨⟨rfl,rfl,(by decide)⟩,tt⟩,rfl,rfl⟩)
   ·intro n15
    refine W.exit (thenQ_exit (thenQ_exit (blockQ_hit ?_)))
    refine thenQ_normal ?_
    refine W.seq (W.wi ?_)
    refine WI.runT cok tab28 hnt [] 1 1 (⟨[(3,.own 6 lo.length),(12,.sl (.marks c.marks)),(13,.i (((List.length c.marks) : Nat) : Int)),(14,.i ((i : Nat) : Int)),(15,.b (decide (((i : Nat) : Int) < (((List.length c.marks) : Nat) : Int)))),(27,.own 6 lo.length)],[(6,⟨3,.row (.ints lo)⟩)],[6,999]⟩)
     (True ∧ True) (by kernel_rfl) rfl
     ⟨tt,tt⟩ ?_
    refine WI.callH _ [.own 6 lo.length] [] (.fn 58 []) _ _ [(911,6)] (hok58 lo (by omega)) ent58 hnt rfl rfl (wanted_none rfl) (by kernel_rfl) (by kernel_rfl) trivial (by kernel_rfl) (by kernel_rfl) (by kernel_rfl) (@cast (((some ⟨3,.row (.ints lo)⟩ : Option LB) = some ⟨3,.row (.ints lo)⟩) ∧ (true = true) ∧ (True)) _ (by kernel_rfl) ⟨rfl,rfl,tt⟩) (by kernel_rfl) rfl ?_
    rintro r s1 u1 ⟨rfl,rfl,rfl⟩
    refine ⟨[(911,6)],by kernel_rfl,WI.to (⟨[(3,.own 6 lo.length),(12,.sl (.marks c.marks)),(13,.i (((List.length c.marks) : Nat) : Int)),(14,.i ((i : Nat) : Int)),(15,.b (decide (((i : Nat) : Int) < (((List.length c.marks) : Nat) : Int)))),(27,.own 6 lo.length),(28,.tup [])],[(6,⟨3,.row (.ints (sortI lo))⟩)],[6,999]⟩) 2 (by kernel_rfl) rfl ?_⟩
    refine WI.nil rfl (thenQ_normal ?_)
    refine W.keepE [3] [(3,.own 6 lo.length)] (by kernel_rfl) ?_
    refine W.to (⟨[(3,.own 6 lo.length)],[(6,⟨3,.row (.ints (sortI lo))⟩)],[6,999]⟩) rfl ?_
    refine Kk cok tab28 hnt [30] [2] (⟨[(2,.own 30 (List.length (Lib.compact (sortI lo))))],[(30,⟨3,.row (.ints (Lib.compact (sortI lo)))⟩)],[30,6,999]⟩)
     (True ∧ (True ∧ ((True ∧ (lo.length = (List.length (sortI lo)))) ∧ True) ∧ ((sortI lo).length ≤ 1000)) ∧ True ∧ True)
     ⟨tt,⟨tt,⟨⟨tt,(by have h8 : List.length (sortI lo) = lo.length := List.length_mergeSort _; omega)⟩,tt⟩,(by have h8 : List.length (sortI lo) = lo.length := List.length_mergeSort _; omega)⟩,tt,tt⟩ ?_
    refine W.ret ?_
    exact endQ_rows [(0,30)] (.own 30 (List.length (Lib.compact (sortI lo)))) (by kernel_rfl) (@cast (((30 : Nat) = 30) ∧ ((List.length (Lib.compact (sortI lo))) = (List.length (valuesC c))) ∧ ((0 : Nat) ∈ ([0] : List Nat))) _ (by kernel_rfl) ⟨rfl,(by first | rfl | omega | assumption | (symm; assumption) | (exact congrArg List.length (by exact values_ok (not_g n9) hl (by omega))) | (exact values_ok (not_g n9) hl (by omega); done) | simp | simp_all),(by decide)⟩) (@cast ((((3 : Nat) = 3) ∧ ((.ints (Lib.compact (sortI lo)) : Dat) = .ints (valuesC c)) ∧ ((0 : Nat) ∈ ([0] : List Nat))) ∧ True) _ (by kernel_rfl) ⟨⟨rfl,(congrArg Dat.ints (by exact values_ok (not_g n9) hl (by omega))),(by decide)⟩,tt⟩) (by kernel_rfl)
theorem ent28 : Entr prog 28 := ⟨_,func28,rfl,by decide⟩
end Go.Proofs.Try

set_option linter.unusedSimpArgs false
set_option linter.unusedVariables false
namespace Go.Proofs.Try
open Go.Ab Go.RowKit
def fs29 : FnS := fnS [.s .ints,.s .ints] [.ints,.ints] (fun _ (a,b,_) => (.b (decide (a = b)),[],True))
abbrev T29 : Tab := lk []
theorem tab29 : TabOK prog T29 := TabOK.nil
set_option maxRecDepth 100000 in
set_option maxHeartbeats 1000000 in
theorem ok29 : FnOK prog 29 fs29 := by
 refine FnOK.mk cok func29 rfl rfl rfl ?_
 rintro fl ⟨(a : List Int),(b : List Int),_⟩ hpre F hnt0 _
 have hnt : F.nt = 26 := hnt0.trans ntmps29
 clear hpre
 refine W.to (⟨[(0,.sl (.ints a)),(1,.sl (.ints b))],[],[999]⟩) rfl ?_
 refine W.lenOf 0 (.ints a) (by kernel_rfl) ?_
 intro hl_a; replace hl_a : List.length a ≤ 9223372036854775807 := hl_a
 refine W.lenOf 1 (.ints b) (by kernel_rfl) ?_
 intro hl_b; replace hl_b : List.length b ≤ 9223372036854775807 := hl_b
 refine Kk cok tab29 hnt [] [0,1] (⟨[(0,.sl (.ints a)),(1,.sl (.ints b))],[],[999]⟩)
  (True ∧ True)
  ⟨tt,tt⟩ ?_
 refine W.seq ?_
 refine Kk cok tab29 hnt [] [0,1,10] (⟨[(0,.sl (.ints a)),(1,.sl (.ints b)),(10,.b (decide ((a.length : Int) ≠ (b.length : Int))))],[],[999]⟩)
  (True ∧ True ∧ True ∧ True ∧ (True ∧ True ∧ True) ∧ True)
  ⟨tt,tt,tt,tt,⟨tt,tt,tt⟩,tt⟩ ?_
 refine W.ifP ((a.length : Int) ≠ (b.length : Int)) (.b (decide ((a.length : Int) ≠ (b.length : Int)))) (by kernel_rfl) rfl trivial ?_ ?_
 ·intro h10
  refine Kk cok tab29 hnt [] [4] (⟨[(4,.b false)],[],[999]⟩)
   (True ∧ True)
   ⟨tt,tt⟩ ?_
  refine W.ret (thenQ_ret ?_)
  exact endQ_ret (.b false) (by kernel_rfl) (@cast ((.bool false : Value) = .bool (decide (a = b))) _ (by kernel_rfl) (congrArg Value.bool (by symm; exact decide_eq_false (fun e => h10 (by rw [e])))))
 ·intro n10
  refine W.skip (thenQ_normal ?_)
  refine W.seq ?_
  refine Kk cok tab29 hnt [] [0,1,5] (⟨[(0,.sl (.ints a)),(1,.sl (.ints b)),(5,.i (0 : Int))],[],[999]⟩)
   (True ∧ True)
   ⟨tt,tt⟩ ?_
  refine W.block ?_
  refine W.loop (ι := Nat) (fun (i : Nat) => (⟨[(0,.sl (.ints a)),(1,.sl (.ints b)),(5,.i ((i : Nat) : Int))],[],[999]⟩ : St))
   (fun (i : Nat) => (i ≤ a.length) ∧ (∀ j,j < i → a.getD j 0 = b.getD j 0))
   (fun (i : Nat) => (a.length - i : Nat)) (0) ?_ ?_ ?_
  ·exact (show (0 ≤ a.length) ∧ (∀ j,j < 0 → a.getD j 0 = b.getD j 0) from ⟨(by first | assumption | omega | rfl | (intro _ hjj; omega) | (simp; done) | (simp; omega)),(by exact upto_zero)⟩)
  ·exact Sub.of [] (@cast (((Sd (.ints a)) ∧ (Sd (.ints b)) ∧ ((.int .i64 (0 : Int) : Value) = .int .i64 ((0 : Nat) : Int)) ∧ True) ∧ True ∧ (true = true) ∧ (true = true)) _ (by kernel_rfl) ⟨⟨rfl,rfl,(congrArg (Value.int .i64) (by first | rfl | omega | assumption | simp | simp_all)),tt⟩,tt,rfl,rfl⟩)
  ·rintro i hC0
   have hC : (i ≤ a.length) ∧ (∀ j,j < i → a.getD j 0 = b.getD j 0) := hC0
   clear hC0
   obtain ⟨hi,hA⟩ := hC
   refine W.to (⟨[(0,.sl (.ints a)),(1,.sl (.ints b)),(5,.i ((i : Nat) : Int))],[],[999]⟩) rfl ?_
   refine W.seq ?_
   refine Kk cok tab29 hnt [] [0,1,5,14] (⟨[(0,.sl (.ints a)),(1,.sl (.ints b)),(5,.i ((i : Nat) : Int)),(14,.b (decide (((i : Nat) : Int) < (a.length : Int))))],[],[999]⟩)
    (True ∧ True ∧ True ∧ (True ∧ True ∧ True) ∧ True)
    ⟨tt,tt,tt,⟨tt,tt,tt⟩,tt⟩ ?_
   refine W.ifP (((i : Nat) : Int) < (a.length : Int)) (.b (decide (((i : Nat) : Int) < (a.length : Int)))) (by kernel_rfl) rfl trivial ?_ ?_
   ·intro h14
    refine W.skip (thenQ_normal ?_)
    refine W.seq ?_
    refine W.block ?_
    refine W.KA cok tab29 hnt [] [0,1,5,25] (⟨[(0,.sl (.ints a)),(1,.sl (.ints b)),(5,.i ((i : Nat) : Int)),(25,.b (decide ((a.getD i 0) ≠ (b.getD i 0))))],[],[999]⟩)
     (True ∧ True ∧ (True ∧ True ∧ (0 ≤ ((i : Nat) : Int)) ∧ (((i : Nat) : Int) < (a.length : Int))) ∧ True ∧ True ∧ True ∧ (True ∧ True ∧ (0 ≤ ((i : Nat) : Int)) ∧ (((i : Nat) : Int) < (b.length : Int))) ∧ True ∧ (True ∧ True ∧ True) ∧ True) (by kernel_rfl) (by kernel_rfl)
     ⟨tt,tt,⟨tt,tt,(by omega),(by omega)⟩,tt,tt,tt,⟨tt,tt,(by omega),(by omega)⟩,tt,⟨tt,tt,tt⟩,tt⟩ ?_
    refine W.ifP ((a.getD i 0) ≠ (b.getD i 0)) (.b (decide ((a.getD i 0) ≠ (b.getD i 0)))) (by kernel_rfl) rfl trivial ?_ ?_
    ·intro h25
     refine Kk cok tab29 hnt [] [4] (⟨[(4,.b false)],[],[999]⟩)
      (True ∧ True)
      ⟨tt,tt⟩ ?_
     refine W.ret (blockQ_ret (thenQ_ret (thenQ_ret (blockQ_ret (thenQ_ret ?_)))))
     exact endQ_ret (.b false) (by kernel_rfl) (@cast ((.bool false : Value) = .bool (decide (a = b))) _ (by kernel_rfl) (congrArg Value.bool (by symm; exact decide_eq_false (fun e => h25 (by rw [e])))))
    ·intro n25
     refine W.skip (blockQ_normal (thenQ_normal ?_))
     refine Lk cok tab29 hnt [] (⟨[(0,.sl (.ints a)),(1,.sl (.ints b)),(5,.i (((i + 1) : Nat) : Int)),(15,.i ((i : Nat) : Int)),(16,.i (((i + 1) : Nat) : Int)),(25,.b (decide ((a.getD i 0) ≠ (b.getD i 0))))],[],[999]⟩)
      (True ∧ (True ∧ True ∧ (Fits .i64 (((i + 1) : Nat) : Int))) ∧ True ∧ True)
      ⟨tt,⟨tt,tt,(by exact fits_i64 (by omega) (by omega))⟩,tt,tt⟩ ?_
     refine thenQ_normal ?_
     refine ⟨((i + 1)),(show ((i + 1) ≤ a.length) ∧ (∀ j,j < (i + 1) → a.getD j 0 = b.getD j 0) from ⟨(by first | assumption | omega | rfl | (intro _ hjj; omega) | (simp; done) | (simp; omega)),(by exact upto_succ hA (Decidable.not_not.1 n25))⟩),(show a.length - (i + 1) < a.length - i from (by first | omega | (simp_all; omega))),?_⟩
     exact Sub.of [] (@cast (((Sd (.ints a)) ∧ (Sd (.ints b)) ∧ (Si (((i + 1) : Nat) : Int)) ∧ True) ∧ True ∧ (true = true) ∧ (true = true)) _ (by kernel_rfl) ⟨⟨rfl,rfl,rfl,tt⟩,tt,rfl,rfl⟩)
   ·intro n14
    refine W.exit (thenQ_exit (thenQ_exit (blockQ_hit ?_)))
    refine thenQ_normal ?_
    refine Kk cok tab29 hnt [] [4] (⟨[(4,.b true)],[],[999]⟩)
     (True ∧ True)
     ⟨tt,tt⟩ ?_
    refine W.ret ?_
    exact endQ_ret (.b true) (by kernel_rfl) (@cast ((.bool true : Value) = .bool (decide (a = b))) _ (by kernel_rfl) (congrArg Value.bool (by symm; exact decide_eq_true (ints_ext (by omega) (fun j hj => hA j (by omega))))))
theorem ent29 : Entr prog 29 := ⟨_,func29,rfl,by decide⟩
end Go.Proofs.Try

set_option linter.unusedSimpArgs false
set_option linter.unusedVariables false
namespace Go.Proofs.Try
open Go.Ab Go.RowKit
def fs65 : FnS := fnS [.o,.o] [.mark,.mark] (fun _ (a,b,_) => (.b (decide (a = b)),[],True))
abbrev T65 : Tab := lk []
theorem tab65 : TabOK prog T65 := TabOK.nil
set_option maxRecDepth 100000 in
set_option maxHeartbeats 1000000 in
theorem ok65 : FnOK prog 65 fs65 := by
 refine FnOK.mk cok func65 rfl rfl rfl ?_
 rintro fl ⟨(a : MarkD),(b : MarkD),_⟩ hpre F hnt0 _
 have hnt : F.nt = 25 := hnt0.trans ntmps65
 clear hpre
 refine W.to (⟨[(0,.agg [.i a.value,.i a.proc,.i a.number,.b a.gone]),(1,.agg [.i b.value,.i b.proc,.i b.number,.b b.gone])],[],[999]⟩) rfl ?_
 refine Kk cok tab65 hnt [] [2,3] (⟨[(2,.ptr 2 0),(3,.ptr 3 0)],[(2,⟨50,.fix [.i a.value,.i a.proc,.i a.number,.b a.gone]⟩),(3,⟨50,.fix [.i b.value,.i b.proc,.i b.number,.b b.gone]⟩)],[3,2,999]⟩)
  (True ∧ True ∧ True ∧ True)
  ⟨tt,tt,tt,tt⟩ ?_
 refine W.seq ?_
 refine Kk cok tab65 hnt [] [2,3,9] (⟨[(2,.ptr 2 0),(3,.ptr 3 0),(9,.b (decide (a.value ≠ b.value)))],[(2,⟨50,.fix [.i a.value,.i a.proc,.i a.number,.b a.gone]⟩),(3,⟨50,.fix [.i b.value,.i b.proc,.i b.number,.b b.gone]⟩)],[3,2,999]⟩)
  (True ∧ True ∧ True ∧ True ∧ (True ∧ True ∧ True) ∧ True)
  ⟨tt,tt,tt,tt,⟨tt,tt,tt⟩,tt⟩ ?_
 refine W.ifP (a.value ≠ b.value) (.b (decide (a.value ≠ b.value))) (by kernel_rfl) rfl trivial ?_ ?_
 ·intro h9
  refine Kk cok tab65 hnt [] [4] (⟨[(4,.b false)],[(2,⟨50,.fix [.i a.value,.i a.proc,.i a.number,.b a.gone]⟩),(3,⟨50,.fix [.i b.value,.i b.proc,.i b.number,.b b.gone]⟩)],[3,2,999]⟩)
   (True ∧ True)
   ⟨tt,tt⟩ ?_
  refine W.ret (thenQ_ret ?_)
  exact endQ_ret (.b false) (by kernel_rfl) (@cast ((.bool false : Value) = .bool (decide (a = b))) _ (by kernel_rfl) (congrArg Value.bool (by first | (symm; exact decide_eq_true (mark_ext (by omega) (by omega) (by omega) (by simp_all))) | (symm; exact decide_eq_false (fun e => by subst e; simp_all)))))
 ·intro n9
  refine W.skip (thenQ_normal ?_)
  refine W.seq ?_
  refine Kk cok tab65 hnt [] [2,3,14] (⟨[(2,.ptr 2 0),(3,.ptr 3 0),(14,.b (decide (a.proc ≠ b.proc)))],[(2,⟨50,.fix [.i a.value,.i a.proc,.i a.number,.b a.gone]⟩),(3,⟨50,.fix [.i b.value,.i b.proc,.i b.number,.b b.gone]⟩)],[3,2,999]⟩)
   (True ∧ True ∧ True ∧ True ∧ (True ∧ True ∧ True) ∧ True)
   ⟨tt,tt,tt,tt,⟨tt,tt,tt⟩,tt⟩ ?_
  refine W.ifP (a.proc ≠ b.proc) (.b (decide (a.proc ≠ b.proc))) (by kernel_rfl) rfl trivial ?_ ?_
  ·intro h14
   refine Kk cok tab65 hnt [] [4] (⟨[(4,.b false)],[(2,⟨50,.fix [.i a.value,.i a.proc,.i a.number,.b a.gone]⟩),(3,⟨50,.fix [.i b.value,.i b.proc,.i b.number,.b b.gone]⟩)],[3,2,999]⟩)
    (True ∧ True)
    ⟨tt,tt⟩ ?_
   refine W.ret (thenQ_ret ?_)
   exact endQ_ret (.b false) (by kernel_rfl) (@cast ((.bool false : Value) = .bool (decide (a = b))) _ (by kernel_rfl) (congrArg Value.bool (by first | (symm; exact decide_eq_true (mark_ext (by omega) (by omega) (by omega) (by simp_all))) | (symm; exact decide_eq_false (fun e => by subst e; simp_all)))))
  ·intro n14
   refine W.skip (thenQ_normal ?_)
   refine W.seq ?_
   refine Kk cok tab65 hnt [] [2,3,19] (⟨[(2,.ptr 2 0),(3,.ptr 3 0),(19,.b (decide (a.number ≠ b.number)))],[(2,⟨50,.fix [.i a.value,.i a.proc,.i a.number,.b a.gone]⟩),(3,⟨50,.fix [.i b.value,.i b.proc,.i b.number,.b b.gone]⟩)],[3,2,999]⟩)
    (True ∧ True ∧ True ∧ True ∧ (True ∧ True ∧ True) ∧ True)
    ⟨tt,tt,tt,tt,⟨tt,tt,tt⟩,tt⟩ ?_
   refine W.ifP (a.number ≠ b.number) (.b (decide (a.number ≠ b.number))) (by kernel_rfl) rfl trivial ?_ ?_
   ·intro h19
    refine Kk cok tab65 hnt [] [4] (⟨[(4,.b false)],[(2,⟨50,.fix [.i a.value,.i a.proc,.i a.number,.b a.gone]⟩),(3,⟨50,.fix [.i b.value,.i b.proc,.i b.number,.b b.gone]⟩)],[3,2,999]⟩)
     (True ∧ True)
     ⟨tt,tt⟩ ?_
    refine W.ret (thenQ_ret ?_)
    exact endQ_ret (.b false) (by kernel_rfl) (@cast ((.bool false : Value) = .bool (decide (a = b))) _ (by kernel_rfl) (congrArg Value.bool (by first | (symm; exact decide_eq_true (mark_ext (by omega) (by omega) (by omega) (by simp_all))) | (symm; exact decide_eq_false (fun e => by subst e; simp_all)))))
   ·intro n19
    refine W.skip (thenQ_normal ?_)
    refine W.seq ?_
    refine Kk cok tab65 hnt [] [24] (⟨[(24,.b (a.gone != b.gone))],[(2,⟨50,.fix [.i a.value,.i a.proc,.i a.number,.b a.gone]⟩),(3,⟨50,.fix [.i b.value,.i b.proc,.i b.number,.b b.gone]⟩)],[3,2,999]⟩)
     (True ∧ True ∧ True ∧ True ∧ (True ∧ True) ∧ True)
     ⟨tt,tt,tt,tt,⟨tt,tt⟩,tt⟩ ?_
    refine W.if' (a.gone != b.gone) (.b (a.gone != b.gone)) (by kernel_rfl) rfl trivial ?_ ?_
    ·intro h24
     refine Kk cok tab65 hnt [] [4] (⟨[(4,.b false)],[(2,⟨50,.fix [.i a.value,.i a.proc,.i a.number,.b a.gone]⟩),(3,⟨50,.fix [.i b.value,.i b.proc,.i b.number,.b b.gone]⟩)],[3,2,999]⟩)
      (True ∧ True)
      ⟨tt,tt⟩ ?_
     refine W.ret (thenQ_ret ?_)
     exact endQ_ret (.b false) (by kernel_rfl) (@cast ((.bool false : Value) = .bool (decide (a = b))) _ (by kernel_rfl) (congrArg Value.bool (by first | (symm; exact decide_eq_true (mark_ext (by omega) (by omega) (by omega) (by simp_all))) | (symm; exact decide_eq_false (fun e => by subst e; simp_all)))))
    ·intro n24
     refine W.skip (thenQ_normal ?_)
     refine Kk cok tab65 hnt [] [4] (⟨[(4,.b true)],[(2,⟨50,.fix [.i a.value,.i a.proc,.i a.number,.b a.gone]⟩),(3,⟨50,.fix [.i b.value,.i b.proc,.i b.number,.b b.gone]⟩)],[3,2,999]⟩)
      (True ∧ True)
      ⟨tt,tt⟩ ?_
     refine W.ret ?_
     exact endQ_ret (.b true) (by kernel_rfl) (@cast ((.bool true : Value) = .bool (decide (a = b))) _ (by kernel_rfl) (congrArg Value.bool (by first | (symm; exact decide_eq_true (mark_ext (by omega) (by omega) (by omega) (by simp_all))) | (symm; exact decide_eq_false (fun e => by subst e; simp_all)))))
theorem ent65 : Entr prog 65 := ⟨_,func65,rfl,by decide⟩
end Go.Proofs.Try

set_option linter.unusedSimpArgs false
set_option linter.unusedVariables false
namespace Go.Proofs.Try
open Go.Ab Go.RowKit
def fs40 : FnS := fnS [.s .marks,.s .marks] [.marks,.marks] (fun _ (a,b,_) => (.b (decide (a = b)),[],True))
abbrev T40 : Tab := lk [(65,fs65)]
theorem tab40 : TabOK prog T40 := (TabOK.cons ok65 ent65 TabOK.nil)
set_option maxRecDepth 100000 in
set_option maxHeartbeats 1000000 in
theorem ok40 : FnOK prog 40 fs40 := by
 refine FnOK.mk cok func40 rfl rfl rfl ?_
 rintro fl ⟨(a : List MarkD),(b : List MarkD),_⟩ hpre F hnt0 _
 have hnt : F.nt = 27 := hnt0.trans ntmps40
 clear hpre
 refine W.to (⟨[(0,.sl (.marks a)),(1,.sl (.marks b))],[],[999]⟩) rfl ?_
 refine W.lenOf 0 (.marks a) (by kernel_rfl) ?_
 intro hl_a; replace hl_a : List.length a ≤ 9223372036854775807 := hl_a
 refine W.lenOf 1 (.marks b) (by kernel_rfl) ?_
 intro hl_b; replace hl_b : List.length b ≤ 9223372036854775807 := hl_b
 refine Kk cok tab40 hnt [] [0,1] (⟨[(0,.sl (.marks a)),(1,.sl (.marks b))],[],[999]⟩)
  (True ∧ True)
  ⟨tt,tt⟩ ?_
 refine W.seq ?_
 refine Kk cok tab40 hnt [] [0,1,10] (⟨[(0,.sl (.marks a)),(1,.sl (.marks b)),(10,.b (decide ((a.length : Int) ≠ (b.length : Int))))],[],[999]⟩)
  (True ∧ True ∧ True ∧ True ∧ (True ∧ True ∧ True) ∧ True)
  ⟨tt,tt,tt,tt,⟨tt,tt,tt⟩,tt⟩ ?_
 refine W.ifP ((a.length : Int) ≠ (b.length : Int)) (.b (decide ((a.length : Int) ≠ (b.length : Int)))) (by kernel_rfl) rfl trivial ?_ ?_
 ·intro h10
  refine Kk cok tab40 hnt [] [4] (⟨[(4,.b false)],[],[999]⟩)
   (True ∧ True)
   ⟨tt,tt⟩ ?_
  refine W.ret (thenQ_ret ?_)
  exact endQ_ret (.b false) (by kernel_rfl) (@cast ((.bool false : Value) = .bool (decide (a = b))) _ (by kernel_rfl) (congrArg Value.bool (by symm; exact decide_eq_false (fun e => h10 (by rw [e])))))
 ·intro n10
  refine W.skip (thenQ_normal ?_)
  refine W.seq ?_
  refine Kk cok tab40 hnt [] [0,1,5] (⟨[(0,.sl (.marks a)),(1,.sl (.marks b)),(5,.i (0 : Int))],[],[999]⟩)
   (True ∧ True)
   ⟨tt,tt⟩ ?_
  refine W.block ?_
  refine W.loop (ι := Nat) (fun (i : Nat) => (⟨[(0,.sl (.marks a)),(1,.sl (.marks b)),(5,.i ((i : Nat) : Int))],[],[999]⟩ : St))
   (fun (i : Nat) => (i ≤ a.length) ∧ (∀ j,j < i → a.getD j default = b.getD j default))
   (fun (i : Nat) => (a.length - i : Nat)) (0) ?_ ?_ ?_
  ·exact (show (0 ≤ a.length) ∧ (∀ j,j < 0 → a.getD j default = b.getD j default) from ⟨(by first | assumption | omega | rfl | (intro _ hjj; omega) | (simp; done) | (simp; omega)),(by exact upto_zero)⟩)
  ·exact Sub.of [] (@cast (((Sd (.marks a)) ∧ (Sd (.marks b)) ∧ ((.int .i64 (0 : Int) : Value) = .int .i64 ((0 : Nat) : Int)) ∧ True) ∧ True ∧ (true = true) ∧ (true = true)) _ (by kernel_rfl) ⟨⟨rfl,rfl,(congrArg (Value.int .i64) (by first | rfl | omega | assumption | simp | simp_all)),tt⟩,tt,rfl,rfl⟩)
  ·rintro i hC0
   have hC : (i ≤ a.length) ∧ (∀ j,j < i → a.getD j default = b.getD j default) := hC0
   clear hC0
   obtain ⟨hi,hA⟩ := hC
   refine W.to (⟨[(0,.sl (.marks a)),(1,.sl (.marks b)),(5,.i ((i : Nat) : Int))],[],[999]⟩) rfl ?_
   refine W.seq ?_
   refine Kk cok tab40 hnt [] [0,1,5,14] (⟨[(0,.sl (.marks a)),(1,.sl (.marks b)),(5,.i ((i : Nat) : Int)),(14,.b (decide (((i : Nat) : Int) < (a.length : Int))))],[],[999]⟩)
    (True ∧ True ∧ True ∧ (True ∧ True ∧ True) ∧ True)
    ⟨tt,tt,tt,⟨tt,tt,tt⟩,tt⟩ ?_
   refine W.ifP (((i : Nat) : Int) < (a.length : Int)) (.b (decide (((i : Nat) : Int) < (a.length : Int)))) (by kernel_rfl) rfl trivial ?_ ?_
   ·intro h14
    refine W.skip (thenQ_normal ?_)
    refine W.seq ?_
    refine W.block ?_
    refine W.KA cok tab40 hnt [] [0,1,5,26] (⟨[(0,.sl (.marks a)),(1,.sl (.marks b)),(5,.i ((i : Nat) : Int)),(26,.b (!(decide ((a.getD i default) = (b.getD i default)))))],[],[999]⟩)
     (True ∧ True ∧ (True ∧ True ∧ (0 ≤ ((i : Nat) : Int)) ∧ (((i : Nat) : Int) < (a.length : Int))) ∧ True ∧ True ∧ True ∧ (True ∧ True ∧ (0 ≤ ((i : Nat) : Int)) ∧ (((i : Nat) : Int) < (b.length : Int))) ∧ True ∧ (True ∧ (True ∧ True ∧ True) ∧ True) ∧ True ∧ True) (by kernel_rfl) (by kernel_rfl)
     ⟨tt,tt,⟨tt,tt,(by omega),(by omega)⟩,tt,tt,tt,⟨tt,tt,(by omega),(by omega)⟩,tt,⟨tt,⟨tt,tt,tt⟩,tt⟩,tt,tt⟩ ?_
    refine W.if' (!(decide ((a.getD i default) = (b.getD i default)))) (.b (!(decide ((a.getD i default) = (b.getD i default))))) (by kernel_rfl) rfl trivial ?_ ?_
    ·intro h26
     refine Kk cok tab40 hnt [] [4] (⟨[(4,.b false)],[],[999]⟩)
      (True ∧ True)
      ⟨tt,tt⟩ ?_
     refine W.ret (blockQ_ret (thenQ_ret (thenQ_ret (blockQ_ret (thenQ_ret ?_)))))
     exact endQ_ret (.b false) (by kernel_rfl) (@cast ((.bool false : Value) = .bool (decide (a = b))) _ (by kernel_rfl) (congrArg Value.bool (by symm; exact decide_eq_false (fun e => by rw [e] at h26; simp at h26))))
    ·intro n26
     refine W.skip (blockQ_normal (thenQ_normal ?_))
     refine Lk cok tab40 hnt [] (⟨[(0,.sl (.marks a)),(1,.sl (.marks b)),(5,.i (((i + 1) : Nat) : Int)),(15,.i ((i : Nat) : Int)),(16,.i (((i + 1) : Nat) : Int)),(26,.b (!(decide ((a.getD i default) = (b.getD i default)))))],[],[999]⟩)
      (True ∧ (True ∧ True ∧ (Fits .i64 (((i + 1) : Nat) : Int))) ∧ True ∧ True)
      ⟨tt,⟨tt,tt,(by exact fits_i64 (by omega) (by omega))⟩,tt,tt⟩ ?_
     refine thenQ_normal ?_
     refine ⟨((i + 1)),(show ((i + 1) ≤ a.length) ∧ (∀ j,j < (i + 1) → a.getD j default = b.getD j default) from ⟨(by first | assumption | omega | rfl | (intro _ hjj; omega) | (simp; done) | (simp; omega)),(by exact upto_succ hA (by simpa using n26))⟩),(show a.length - (i + 1) < a.length - i from (by first | omega | (simp_all; omega))),?_⟩
     exact Sub.of [] (@cast (((Sd (.marks a)) ∧ (Sd (.marks b)) ∧ (Si (((i + 1) : Nat) : Int)) ∧ True) ∧ True ∧ (true = true) ∧ (true = true)) _ (by kernel_rfl) ⟨⟨rfl,rfl,rfl,tt⟩,tt,rfl,rfl⟩)
   ·intro n14
    refine W.exit (thenQ_exit (thenQ_exit (blockQ_hit ?_)))
    refine thenQ_normal ?_
    refine Kk cok tab40 hnt [] [4] (⟨[(4,.b true)],[],[999]⟩)
     (True ∧ True)
     ⟨tt,tt⟩ ?_
    refine W.ret ?_
    exact endQ_ret (.b true) (by kernel_rfl) (@cast ((.bool true : Value) = .bool (decide (a = b))) _ (by kernel_rfl) (congrArg Value.bool (by symm; exact decide_eq_true (marks_ext (by omega) (fun j hj => hA j (by omega))))))
theorem ent40 : Entr prog 40 := ⟨_,func40,rfl,by decide⟩
end Go.Proofs.Try

set_option linter.unusedSimpArgs false
set_option linter.unusedVariables false
namespace Go.Proofs.Try
open Go.Ab Go.RowKit
def fs14 : FnS := fnS [.a [some .ints,some .ints,none,none,none,some .marks],.a [some .ints,some .ints,none,none,none,some .marks]] [.copy,.copy] (fun _ (a,b,_) => (.b (sameC a b),[],True))
abbrev T14 : Tab := lk [(29,fs29),(40,fs40)]
theorem tab14 : TabOK prog T14 := (TabOK.cons ok29 ent29 (TabOK.cons ok40 ent40 TabOK.nil))
set_option maxRecDepth 100000 in
set_option maxHeartbeats 1000000 in
theorem ok14 : FnOK prog 14 fs14 := by
 refine FnOK.mk cok func14 rfl rfl rfl ?_
 rintro fl ⟨(a : CopyD),(b : CopyD),_⟩ hpre F hnt0 _
 have hnt : F.nt = 38 := hnt0.trans ntmps14
 clear hpre
 refine W.to (⟨[(0,.agg (cC a)),(1,.agg (cC b))],[],[999]⟩) rfl ?_
 refine W.lenA 0 0 (cC a) (.ints a.up) (by kernel_rfl) (by kernel_rfl) ?_
 intro hl_a_up; replace hl_a_up : List.length a.up ≤ 9223372036854775807 := hl_a_up
 refine W.lenA 0 1 (cC a) (.ints a.down) (by kernel_rfl) (by kernel_rfl) ?_
 intro hl_a_down; replace hl_a_down : List.length a.down ≤ 9223372036854775807 := hl_a_down
 refine W.lenA 0 5 (cC a) (.marks a.marks) (by kernel_rfl) (by kernel_rfl) ?_
 intro hl_a_marks; replace hl_a_marks : List.length a.marks ≤ 9223372036854775807 := hl_a_marks
 refine W.lenA 1 0 (cC b) (.ints b.up) (by kernel_rfl) (by kernel_rfl) ?_
 intro hl_b_up; replace hl_b_up : List.length b.up ≤ 9223372036854775807 := hl_b_up
 refine W.lenA 1 1 (cC b) (.ints b.down) (by kernel_rfl) (by kernel_rfl) ?_
 intro hl_b_down; replace hl_b_down : List.length b.down ≤ 9223372036854775807 := hl_b_down
 refine W.lenA 1 5 (cC b) (.marks b.marks) (by kernel_rfl) (by kernel_rfl) ?_
 intro hl_b_marks; replace hl_b_marks : List.length b.marks ≤ 9223372036854775807 := hl_b_marks
 refine Kk cok tab14 hnt [] [2,3] (⟨[(2,.ptr 2 0),(3,.ptr 3 0)],[(2,⟨29,.fix (cC a)⟩),(3,⟨29,.fix (cC b)⟩)],[3,2,999]⟩)
  (True ∧ True ∧ True ∧ True)
  ⟨tt,tt,tt,tt⟩ ?_
 refine W.seq ?_
 refine Kk cok tab14 hnt [] [2,3,10] (⟨[(2,.ptr 2 0),(3,.ptr 3 0),(10,.b (!(decide (a.up = b.up))))],[(2,⟨29,.fix (cC a)⟩),(3,⟨29,.fix (cC b)⟩)],[3,2,999]⟩)
  (True ∧ True ∧ True ∧ True ∧ (True ∧ (True ∧ True ∧ True) ∧ True) ∧ True ∧ True)
  ⟨tt,tt,tt,tt,⟨tt,⟨tt,tt,tt⟩,tt⟩,tt,tt⟩ ?_
 refine W.if' (!(decide (a.up = b.up))) (.b (!(decide (a.up = b.up)))) (by kernel_rfl) rfl trivial ?_ ?_
 ·intro h10
  refine Kk cok tab14 hnt [] [4] (⟨[(4,.b false)],[(2,⟨29,.fix (cC a)⟩),(3,⟨29,.fix (cC b)⟩)],[3,2,999]⟩)
   (True ∧ True)
   ⟨tt,tt⟩ ?_
  refine W.ret (thenQ_ret ?_)
  exact endQ_ret (.b false) (by kernel_rfl) (@cast ((.bool false : Value) = .bool (sameC a b)) _ (by kernel_rfl) (congrArg Value.bool (by first | (symm; exact same_iff.2 (copy_ext (by simpa using n10) (by simpa using n16) (by omega) (by omega) (by omega) (by simpa using n37))) | exact same_false (fun e => by subst e; simp_all))))
 ·intro n10
  refine W.skip (thenQ_normal ?_)
  refine W.seq ?_
  refine Kk cok tab14 hnt [] [2,3,16] (⟨[(2,.ptr 2 0),(3,.ptr 3 0),(16,.b (!(decide (a.down = b.down))))],[(2,⟨29,.fix (cC a)⟩),(3,⟨29,.fix (cC b)⟩)],[3,2,999]⟩)
   (True ∧ True ∧ True ∧ True ∧ (True ∧ (True ∧ True ∧ True) ∧ True) ∧ True ∧ True)
   ⟨tt,tt,tt,tt,⟨tt,⟨tt,tt,tt⟩,tt⟩,tt,tt⟩ ?_
  refine W.if' (!(decide (a.down = b.down))) (.b (!(decide (a.down = b.down)))) (by kernel_rfl) rfl trivial ?_ ?_
  ·intro h16
   refine Kk cok tab14 hnt [] [4] (⟨[(4,.b false)],[(2,⟨29,.fix (cC a)⟩),(3,⟨29,.fix (cC b)⟩)],[3,2,999]⟩)
    (True ∧ True)
    ⟨tt,tt⟩ ?_
   refine W.ret (thenQ_ret ?_)
   exact endQ_ret (.b false) (by kernel_rfl) (@cast ((.bool false : Value) = .bool (sameC a b)) _ (by kernel_rfl) (congrArg Value.bool (by first | (symm; exact same_iff.2 (copy_ext (by simpa using n10) (by simpa using n16) (by omega) (by omega) (by omega) (by simpa using n37))) | exact same_false (fun e => by subst e; simp_all))))
  ·intro n16
   refine W.skip (thenQ_normal ?_)
   refine W.seq ?_
   refine Kk cok tab14 hnt [] [2,3,21] (⟨[(2,.ptr 2 0),(3,.ptr 3 0),(21,.b (decide (a.value ≠ b.value)))],[(2,⟨29,.fix (cC a)⟩),(3,⟨29,.fix (cC b)⟩)],[3,2,999]⟩)
    (True ∧ True ∧ True ∧ True ∧ (True ∧ True ∧ True) ∧ True)
    ⟨tt,tt,tt,tt,⟨tt,tt,tt⟩,tt⟩ ?_
   refine W.ifP (a.value ≠ b.value) (.b (decide (a.value ≠ b.value))) (by kernel_rfl) rfl trivial ?_ ?_
   ·intro h21
    refine Kk cok tab14 hnt [] [4] (⟨[(4,.b false)],[(2,⟨29,.fix (cC a)⟩),(3,⟨29,.fix (cC b)⟩)],[3,2,999]⟩)
     (True ∧ True)
     ⟨tt,tt⟩ ?_
    refine W.ret (thenQ_ret ?_)
    exact endQ_ret (.b false) (by kernel_rfl) (@cast ((.bool false : Value) = .bool (sameC a b)) _ (by kernel_rfl) (congrArg Value.bool (by first | (symm; exact same_iff.2 (copy_ext (by simpa using n10) (by simpa using n16) (by omega) (by omega) (by omega) (by simpa using n37))) | exact same_false (fun e => by subst e; simp_all))))
   ·intro n21
    refine W.skip (thenQ_normal ?_)
    refine W.seq ?_
    refine Kk cok tab14 hnt [] [2,3,26] (⟨[(2,.ptr 2 0),(3,.ptr 3 0),(26,.b (decide (a.time ≠ b.time)))],[(2,⟨29,.fix (cC a)⟩),(3,⟨29,.fix (cC b)⟩)],[3,2,999]⟩)
     (True ∧ True ∧ True ∧ True ∧ (True ∧ True ∧ True) ∧ True)
     ⟨tt,tt,tt,tt,⟨tt,tt,tt⟩,tt⟩ ?_
    refine W.ifP (a.time ≠ b.time) (.b (decide (a.time ≠ b.time))) (by kernel_rfl) rfl trivial ?_ ?_
    ·intro h26
     refine Kk cok tab14 hnt [] [4] (⟨[(4,.b false)],[(2,⟨29,.fix (cC a)⟩),(3,⟨29,.fix (cC b)⟩)],[3,2,999]⟩)
      (True ∧ True)
      ⟨tt,tt⟩ ?_
     refine W.ret (thenQ_ret ?_)
     exact endQ_ret (.b false) (by kernel_rfl) (@cast ((.bool false : Value) = .bool (sameC a b)) _ (by kernel_rfl) (congrArg Value.bool (by first | (symm; exact same_iff.2 (copy_ext (by simpa using n10) (by simpa using n16) (by omega) (by omega) (by omega) (by simpa using n37))) | exact same_false (fun e => by subst e; simp_all))))
    ·intro n26
     refine W.skip (thenQ_normal ?_)
     refine W.seq ?_
     refine Kk cok tab14 hnt [] [2,3,31] (⟨[(2,.ptr 2 0),(3,.ptr 3 0),(31,.b (decide (a.proc ≠ b.proc)))],[(2,⟨29,.fix (cC a)⟩),(3,⟨29,.fix (cC b)⟩)],[3,2,999]⟩)
      (True ∧ True ∧ True ∧ True ∧ (True ∧ True ∧ True) ∧ True)
      ⟨tt,tt,tt,tt,⟨tt,tt,tt⟩,tt⟩ ?_
     refine W.ifP (a.proc ≠ b.proc) (.b (decide (a.proc ≠ b.proc))) (by kernel_rfl) rfl trivial ?_ ?_
     ·intro h31
      refine Kk cok tab14 hnt [] [4] (⟨[(4,.b false)],[(2,⟨29,.fix (cC a)⟩),(3,⟨29,.fix (cC b)⟩)],[3,2,999]⟩)
       (True ∧ True)
       ⟨tt,tt⟩ ?_
      refine W.ret (thenQ_ret ?_)
      exact endQ_ret (.b false) (by kernel_rfl) (@cast ((.bool false : Value) = .bool (sameC a b)) _ (by kernel_rfl) (congrArg Value.bool (by first | (symm; exact same_iff.2 (copy_ext (by simpa using n10) (by simpa using n16) (by omega) (by omega) (by omega) (by simpa using n37))) | exact same_false (fun e => by subst e; simp_all))))
     ·intro n31
      refine W.skip (thenQ_normal ?_)
      refine W.seq ?_
      refine Kk cok tab14 hnt [] [37] (⟨[(37,.b (!(decide (a.marks = b.marks))))],[(2,⟨29,.fix (cC a)⟩),(3,⟨29,.fix (cC b)⟩)],[3,2,999]⟩)
       (True ∧ True ∧ True ∧ True ∧ (True ∧ (True ∧ True ∧ True) ∧ True) ∧ True ∧ True)
       ⟨tt,tt,tt,tt,⟨tt,⟨tt,tt,tt⟩,tt⟩,tt,tt⟩ ?_
      refine W.if' (!(decide (a.marks = b.marks))) (.b (!(decide (a.marks = b.marks)))) (by kernel_rfl) rfl trivial ?_ ?_
      ·intro h37
       refine Kk cok tab14 hnt [] [4] (⟨[(4,.b false)],[(2,⟨29,.fix (cC a)⟩),(3,⟨29,.fix (cC b)⟩)],[3,2,999]⟩)
        (True ∧ True)
        ⟨tt,tt⟩ ?_
       refine W.ret (thenQ_ret ?_)
       exact endQ_ret (.b false) (by kernel_rfl) (@cast ((.bool false : Value) = .bool (sameC a b)) _ (by kernel_rfl) (congrArg Value.bool (by first | (symm; exact same_iff.2 (copy_ext (by simpa using n10) (by simpa using n16) (by omega) (by omega) (by omega) (by simpa using n37))) | exact same_false (fun e => by subst e; simp_all))))
      ·intro n37
       refine W.skip (thenQ_normal ?_)
       refine Kk cok tab14 hnt [] [4] (⟨[(4,.b true)],[(2,⟨29,.fix (cC a)⟩),(3,⟨29,.fix (cC b)⟩)],[3,2,999]⟩)
        (True ∧ True)
        ⟨tt,tt⟩ ?_
       refine W.ret ?_
       exact endQ_ret (.b true) (by kernel_rfl) (@cast ((.bool true : Value) = .bool (sameC a b)) _ (by kernel_rfl) (congrArg Value.bool (by first | (symm; exact same_iff.2 (copy_ext (by simpa using n10) (by simpa using n16) (by omega) (by omega) (by omega) (by simpa using n37))) | exact same_false (fun e => by subst e; simp_all))))
theorem ent14 : Entr prog 14 := ⟨_,func14,rfl,by decide⟩
end Go.Proofs.Try

set_option linter.unusedSimpArgs false
set_option linter.unusedVariables false
namespace Go.Proofs.Try
open Go.Ab Go.RowKit
def fs31 : FnS := fnS [.s .ints,.o] [.ints,.int] (fun _ (l,k,_) => (.i (heldI l k),[],(l.length ≤ 2000000) ∧ (0 ≤ k ∧ k ≤ 1000000000)))
abbrev T31 : Tab := lk []
theorem tab31 : TabOK prog T31 := TabOK.nil
set_option maxRecDepth 100000 in
set_option maxHeartbeats 1000000 in
theorem ok31 : FnOK prog 31 fs31 := by
 refine FnOK.mk cok func31 rfl rfl rfl ?_
 rintro fl ⟨(l : List Int),(k : Int),_⟩ hpre F hnt0 _
 have hnt : F.nt = 21 := hnt0.trans ntmps31
 replace hpre : (l.length ≤ 2000000) ∧ (0 ≤ k ∧ k ≤ 1000000000) := hpre
 obtain ⟨hn,hk⟩ := hpre
 refine W.to (⟨[(0,.sl (.ints l)),(1,.i k)],[],[999]⟩) rfl ?_
 refine W.lenOf 0 (.ints l) (by kernel_rfl) ?_
 intro hl_l; replace hl_l : List.length l ≤ 9223372036854775807 := hl_l
 refine Kk cok tab31 hnt [] [0,1] (⟨[(0,.sl (.ints l)),(1,.i k)],[],[999]⟩)
  (True ∧ True)
  ⟨tt,tt⟩ ?_
 refine W.seq ?_
 refine Kk cok tab31 hnt [] [0,1,5] (⟨[(0,.sl (.ints l)),(1,.i k),(5,.i (0 : Int))],[],[999]⟩)
  (True ∧ True)
  ⟨tt,tt⟩ ?_
 refine W.block ?_
 refine W.loop (ι := Nat × Int) (fun (x : Nat × Int) => match x with | (i,kk) => (⟨[(0,.sl (.ints l)),(1,.i kk),(5,.i ((i : Nat) : Int))],[],[999]⟩ : St))
  (fun (x : Nat × Int) => match x with | (i,kk) => (i ≤ l.length) ∧ (∀ j,j < i → heldAt l k j = true) ∧ (kk = k + ((i : Nat) : Int)))
  (fun (x : Nat × Int) => match x with | (i,kk) => (l.length - i : Nat)) (0,k) ?_ ?_ ?_
 ·exact (show (0 ≤ l.length) ∧ (∀ j,j < 0 → heldAt l k j = true) ∧ (k = k + ((0 : Nat) : Int)) from ⟨(by first | assumption | omega | rfl | (intro _ hjj; omega) | (simp; done) | (simp; omega)),(by exact upto_zero),(by first | assumption | omega | rfl | (intro _ hjj; omega) | (simp; done) | (simp; omega))⟩)
 ·exact Sub.of [] (@cast (((Sd (.ints l)) ∧ (Si k) ∧ ((.int .i64 (0 : Int) : Value) = .int .i64 ((0 : Nat) : Int)) ∧ True) ∧ True ∧ (true = true) ∧ (true = true)) _ (by kernel_rfl) ⟨⟨rfl,rfl,(congrArg (Value.int .i64) (by first | rfl | omega | assumption | simp | simp_all)),tt⟩,tt,rfl,rfl⟩)
 ·rintro ⟨i,kk⟩ hC0
  have hC : (i ≤ l.length) ∧ (∀ j,j < i → heldAt l k j = true) ∧ (kk = k + ((i : Nat) : Int)) := hC0
  clear hC0
  obtain ⟨hi,hA,hk2⟩ := hC
  refine W.to (⟨[(0,.sl (.ints l)),(1,.i kk),(5,.i ((i : Nat) : Int))],[],[999]⟩) rfl ?_
  refine W.seq ?_
  refine Kk cok tab31 hnt [] [0,1,5,9] (⟨[(0,.sl (.ints l)),(1,.i kk),(5,.i ((i : Nat) : Int)),(9,.b (decide (((i : Nat) : Int) < (l.length : Int))))],[],[999]⟩)
   (True ∧ True ∧ True ∧ (True ∧ True ∧ True) ∧ True)
   ⟨tt,tt,tt,⟨tt,tt,tt⟩,tt⟩ ?_
  refine W.ifP (((i : Nat) : Int) < (l.length : Int)) (.b (decide (((i : Nat) : Int) < (l.length : Int)))) (by kernel_rfl) rfl trivial ?_ ?_
  ·intro h9
   refine W.skip (thenQ_normal ?_)
   refine W.seq ?_
   refine W.block ?_
   refine W.seq ?_
   refine Kk cok tab31 hnt [] [0,1,5,17] (⟨[(0,.sl (.ints l)),(1,.i kk),(5,.i ((i : Nat) : Int)),(17,.b (decide ((l.getD i 0) ≠ kk)))],[],[999]⟩)
    (True ∧ True ∧ (True ∧ True ∧ (0 ≤ ((i : Nat) : Int)) ∧ (((i : Nat) : Int) < (l.length : Int))) ∧ True ∧ True ∧ (True ∧ True ∧ True) ∧ True)
    ⟨tt,tt,⟨tt,tt,(by omega),(by omega)⟩,tt,tt,⟨tt,tt,tt⟩,tt⟩ ?_
   refine W.ifP ((l.getD i 0) ≠ kk) (.b (decide ((l.getD i 0) ≠ kk))) (by kernel_rfl) rfl trivial ?_ ?_
   ·intro h17
    refine Kk cok tab31 hnt [] [4] (⟨[(4,.i (-1 : Int))],[],[999]⟩)
     (True ∧ True)
     ⟨tt,tt⟩ ?_
    refine W.ret (thenQ_ret (blockQ_ret (thenQ_ret (thenQ_ret (blockQ_ret (thenQ_ret ?_))))))
    exact endQ_ret (.i (-1 : Int)) (by kernel_rfl) (@cast ((.int .i64 (-1 : Int) : Value) = .int .i64 (heldI l k)) _ (by kernel_rfl) (congrArg (Value.int .i64) (by exact (heldI_no (i := i) (by omega) hk2 h17).symm)))
   ·intro n17
    refine W.skip (thenQ_normal ?_)
    refine Lk cok tab31 hnt [] (⟨[(0,.sl (.ints l)),(1,.i (kk + (1 : Int))),(5,.i ((i : Nat) : Int)),(17,.b (decide ((l.getD i 0) ≠ kk))),(18,.i kk),(19,.i (kk + (1 : Int)))],[],[999]⟩)
     (True ∧ (True ∧ True ∧ (Fits .i64 (kk + (1 : Int)))) ∧ True ∧ True)
     ⟨tt,⟨tt,tt,(by exact fits_i64 (by omega) (by omega))⟩,tt,tt⟩ ?_
    refine blockQ_normal (thenQ_normal ?_)
    refine Lk cok tab31 hnt [] (⟨[(0,.sl (.ints l)),(1,.i (kk + (1 : Int))),(5,.i (((i + 1) : Nat) : Int)),(10,.i ((i : Nat) : Int)),(11,.i (((i + 1) : Nat) : Int)),(17,.b (decide ((l.getD i 0) ≠ kk))),(18,.i kk),(19,.i (kk + (1 : Int)))],[],[999]⟩)
     (True ∧ (True ∧ True ∧ (Fits .i64 (((i + 1) : Nat) : Int))) ∧ True ∧ True)
     ⟨tt,⟨tt,tt,(by exact fits_i64 (by omega) (by omega))⟩,tt,tt⟩ ?_
    refine thenQ_normal ?_
    refine ⟨((i + 1),(kk + (1 : Int))),(show ((i + 1) ≤ l.length) ∧ (∀ j,j < (i + 1) → heldAt l k j = true) ∧ ((kk + (1 : Int)) = k + (((i + 1) : Nat) : Int)) from ⟨(by first | assumption | omega | rfl | (intro _ hjj; omega) | (simp; done) | (simp; omega)),(by exact upto_succ hA (decide_eq_true (by rw [← hk2]; exact Decidable.not_not.1 n17))),(by first | assumption | omega | rfl | (intro _ hjj; omega) | (simp; done) | (simp; omega))⟩),(show l.length - (i + 1) < l.length - i from (by first | omega | (simp_all; omega))),?_⟩
    exact Sub.of [] (@cast (((Sd (.ints l)) ∧ (Si (kk + (1 : Int))) ∧ (Si (((i + 1) : Nat) : Int)) ∧ True) ∧ True ∧ (true = true) ∧ (true = true)) _ (by kernel_rfl) ⟨⟨rfl,rfl,rfl,tt⟩,tt,rfl,rfl⟩)
  ·intro n9
   refine W.exit (thenQ_exit (thenQ_exit (blockQ_hit ?_)))
   refine thenQ_normal ?_
   refine Kk cok tab31 hnt [] [4] (⟨[(4,.i kk)],[],[999]⟩)
    (True ∧ True ∧ True)
    ⟨tt,tt,tt⟩ ?_
   refine W.ret ?_
   exact endQ_ret (.i kk) (by kernel_rfl) (@cast ((.int .i64 kk : Value) = .int .i64 (heldI l k)) _ (by kernel_rfl) (congrArg (Value.int .i64) (by exact (heldI_yes hA hi hk2 n9).symm)))
theorem ent31 : Entr prog 31 := ⟨_,func31,rfl,by decide⟩
end Go.Proofs.Try

set_option linter.unusedSimpArgs false
set_option linter.unusedVariables false
namespace Go.Proofs.Try
open Go.Ab Go.RowKit
abbrev T30 : Tab := lk []
theorem tab30 : TabOK prog T30 := TabOK.nil
theorem ent30 : Entr prog 30 := ⟨_,func30,rfl,by decide⟩
set_option maxRecDepth 100000 in
set_option maxHeartbeats 1000000 in
theorem hok30 : ∀ (l : List Int) (k : Int),((l.length ≤ 2000000) ∧ (0 ≤ k ∧ k ≤ 1000000000)) → HOK prog 30 [911] [.own 911 l.length,.i k] [(911,⟨3,.row (.ints l)⟩)] [911] (fun r s1 u1 => r = (.i (k + (l.length : Int))) ∧ s1 = ([(911,⟨3,.row (.ints (markI l.length k))⟩)]) ∧ u1 = ([911])) := by
 intro l k hpre
 obtain ⟨hn,hk⟩ := hpre
 refine HOK.of cok func30 rfl rfl rfl ?_
 intro F hnt0
 have hnt : F.nt = 19 := hnt0.trans ntmps30
 refine W.to (⟨[(0,.own 911 l.length),(1,.i k)],[(911,⟨3,.row (.ints l)⟩)],[911]⟩) rfl ?_
 refine Kk cok tab30 hnt [] [0,1] (⟨[(0,.own 911 l.length),(1,.i k)],[(911,⟨3,.row (.ints l)⟩)],[911]⟩)
  (True ∧ True)
  ⟨tt,tt⟩ ?_
 refine W.seq ?_
 refine Kk cok tab30 hnt [] [0,1,5] (⟨[(0,.own 911 l.length),(1,.i k),(5,.i (0 : Int))],[(911,⟨3,.row (.ints l)⟩)],[911]⟩)
  (True ∧ True)
  ⟨tt,tt⟩ ?_
 refine W.block ?_
 refine W.loop (ι := Nat × Int × (List Int)) (fun (x : Nat × Int × (List Int)) => match x with | (i,kk,xs) => (⟨[(0,.own 911 l.length),(1,.i kk),(5,.i ((i : Nat) : Int))],[(911,⟨3,.row (.ints xs)⟩)],[911]⟩ : St))
  (fun (x : Nat × Int × (List Int)) => match x with | (i,kk,xs) => (i ≤ l.length) ∧ (xs = markIUp l k i) ∧ (kk = k + ((i : Nat) : Int)))
  (fun (x : Nat × Int × (List Int)) => match x with | (i,kk,xs) => (l.length - i : Nat)) (0,k,l) ?_ ?_ ?_
 ·exact (show (0 ≤ l.length) ∧ (l = markIUp l k 0) ∧ (k = k + ((0 : Nat) : Int)) from ⟨(by first | assumption | omega | rfl | (intro _ hjj; omega) | (simp; done) | (simp; omega)),(by exact markIUp_zero _ _),(by first | assumption | omega | rfl | (intro _ hjj; omega) | (simp; done) | (simp; omega))⟩)
 ·exact Sub.of [] (@cast (((((911 : Nat) = 911) ∧ (l.length = l.length) ∧ ((911 : Nat) ∈ ([911] : List Nat))) ∧ (Si k) ∧ ((.int .i64 (0 : Int) : Value) = .int .i64 ((0 : Nat) : Int)) ∧ True) ∧ ((((3 : Nat) = 3) ∧ (Sd (.ints l)) ∧ ((911 : Nat) ∈ ([911] : List Nat))) ∧ True) ∧ (true = true) ∧ (true = true)) _ (by kernel_rfl) ⟨⟨⟨rfl,rfl,(by decide)⟩,rfl,(congrArg (Value.int .i64) (by first | rfl | omega | assumption | simp | simp_all)),tt⟩,⟨⟨rfl,rfl,(by decide)⟩,tt⟩,rfl,rfl⟩)
 ·rintro ⟨i,kk,xs⟩ hC0
  have hC : (i ≤ l.length) ∧ (xs = markIUp l k i) ∧ (kk = k + ((i : Nat) : Int)) := hC0
  clear hC0
  obtain ⟨hi,hx,hk2⟩ := hC
  refine W.to (⟨[(0,.own 911 l.length),(1,.i kk),(5,.i ((i : Nat) : Int))],[(911,⟨3,.row (.ints xs)⟩)],[911]⟩) rfl ?_
  have hxl : xs.length = l.length := by rw [hx]; exact markIUp_len l k hi
  refine W.seq ?_
  refine Kk cok tab30 hnt [] [0,1,5,9] (⟨[(0,.own 911 l.length),(1,.i kk),(5,.i ((i : Nat) : Int)),(9,.b (decide (((i : Nat) : Int) < (l.length : Int))))],[(911,⟨3,.row (.ints xs)⟩)],[911]⟩)
   (True ∧ True ∧ True ∧ (True ∧ True ∧ True) ∧ True)
   ⟨tt,tt,tt,⟨tt,tt,tt⟩,tt⟩ ?_
  refine W.ifP (((i : Nat) : Int) < (l.length : Int)) (.b (decide (((i : Nat) : Int) < (l.length : Int)))) (by kernel_rfl) rfl trivial ?_ ?_
  ·intro h9
   refine W.skip (thenQ_normal ?_)
   refine W.seq ?_
   refine W.block ?_
   refine Kk cok tab30 hnt [] [0,1,5] (⟨[(0,.own 911 l.length),(1,.i kk),(5,.i ((i : Nat) : Int))],[(911,⟨3,.row (.ints (List.set xs i kk))⟩)],[911]⟩)
    (True ∧ True ∧ True ∧ (True ∧ True ∧ (0 ≤ ((i : Nat) : Int)) ∧ (((i : Nat) : Int) < (l.length : Int))) ∧ (True ∧ True ∧ (i < xs.length)) ∧ True)
    ⟨tt,tt,tt,⟨tt,tt,(by omega),(by omega)⟩,⟨tt,tt,(by omega)⟩,tt⟩ ?_
   refine Lk cok tab30 hnt [] (⟨[(0,.own 911 l.length),(1,.i (kk + (1 : Int))),(5,.i ((i : Nat) : Int)),(16,.i kk),(17,.i (kk + (1 : Int)))],[(911,⟨3,.row (.ints (List.set xs i kk))⟩)],[911]⟩)
    (True ∧ (True ∧ True ∧ (Fits .i64 (kk + (1 : Int)))) ∧ True ∧ True)
    ⟨tt,⟨tt,tt,(by exact fits_i64 (by omega) (by omega))⟩,tt,tt⟩ ?_
   refine blockQ_normal (thenQ_normal ?_)
   refine Lk cok tab30 hnt [] (⟨[(0,.own 911 l.length),(1,.i (kk + (1 : Int))),(5,.i (((i + 1) : Nat) : Int)),(10,.i ((i : Nat) : Int)),(11,.i (((i + 1) : Nat) : Int)),(16,.i kk),(17,.i (kk + (1 : Int)))],[(911,⟨3,.row (.ints (List.set xs i kk))⟩)],[911]⟩)
    (True ∧ (True ∧ True ∧ (Fits .i64 (((i + 1) : Nat) : Int))) ∧ True ∧ True)
    ⟨tt,⟨tt,tt,(by exact fits_i64 (by omega) (by omega))⟩,tt,tt⟩ ?_
   refine thenQ_normal ?_
   refine ⟨((i + 1),(kk + (1 : Int)),(List.set xs i kk)),(show ((i + 1) ≤ l.length) ∧ ((List.set xs i kk) = markIUp l k (i + 1)) ∧ ((kk + (1 : Int)) = k + (((i + 1) : Nat) : Int)) from ⟨(by first | assumption | omega | rfl | (intro _ hjj; omega) | (simp; done) | (simp; omega)),(by exact markIUp_step hx (by omega) hk2),(by first | assumption | omega | rfl | (intro _ hjj; omega) | (simp; done) | (simp; omega))⟩),(show l.length - (i + 1) < l.length - i from (by first | omega | (simp_all; omega))),?_⟩
   exact Sub.of [] (@cast (((((911 : Nat) = 911) ∧ (l.length = l.length) ∧ ((911 : Nat) ∈ ([911] : List Nat))) ∧ (Si (kk + (1 : Int))) ∧ (Si (((i + 1) : Nat) : Int)) ∧ True) ∧ ((((3 : Nat) = 3) ∧ (Sd (.ints (List.set xs i kk))) ∧ ((911 : Nat) ∈ ([911] : List Nat))) ∧ True) ∧ (true = true) ∧ (true = true)) _ (by kernel_rfl) ⟨⟨⟨rfl,rfl,(by decide)⟩,rfl,rfl,tt⟩,⟨⟨rfl,rfl,(by decide)⟩,tt⟩,rfl,rfl⟩)
  ·intro n9
   refine W.exit (thenQ_exit (thenQ_exit (blockQ_hit ?_)))
   refine thenQ_normal ?_
   refine Kk cok tab30 hnt [] [4] (⟨[(4,.i kk)],[(911,⟨3,.row (.ints xs)⟩)],[911]⟩)
    (True ∧ True ∧ True)
    ⟨tt,tt,tt⟩ ?_
   refine W.ret ?_
   exact endH_ret (.i (k + (l.length : Int))) [(911,⟨3,.row (.ints (markI l.length k))⟩)] [911] ⟨rfl,rfl,rfl⟩ [(911,911)] (.i kk) (by kernel_rfl) (@cast (((.int .i64 kk : Value) = .int .i64 (k + (l.length : Int))) ∧ ((((3 : Nat) = 3) ∧ ((.ints xs : Dat) = .ints (markI l.length k)) ∧ ((911 : Nat) ∈ ([911] : List Nat))) ∧ True) ∧ (true = true) ∧ (true = true)) _ (by kernel_rfl) ⟨(congrArg (Value.int .i64) (by first | exact markIUp_all hx hi (by assumption) | omega)),⟨⟨rfl,(congrArg Dat.ints (by first | exact markIUp_all hx hi (by assumption) | omega)),(by decide)⟩,tt⟩,rfl,rfl⟩)
end Go.Proofs.Try
