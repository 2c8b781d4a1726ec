import Derived.Test.YtggcajkjoaichaaIF8S0
import Derived.Test.YtggcajkjoaichaaIF8S2
import Derived.Test.YtggcajkjoaichaaIF8S1
import Derived.Test.YtggcajkjoaichaaIF8S4
set_option linter.unusedSimpArgs false
set_option linter.unusedVariables false
namespace Go.Proofs.Try
open Go.Ab Go.RowKit
def fs82 : FnS := fnS [.s .calls,.o] [.calls,.int] (fun _ (h,time,_) => (.i (openAt h time),[],True))
abbrev T82 : Tab := lk []
theorem tab82 : TabOK prog T82 := TabOK.nil
set_option maxRecDepth 100000 in
set_option maxHeartbeats 1000000 in
theorem ok82 : FnOK prog 82 fs82 := by
 refine FnOK.mk cok func82 rfl rfl rfl ?_
 rintro fl ⟨(h : List CallD),(time : Int),_⟩ hpre F hnt0 _
 have hnt : F.nt = 28 := hnt0.trans ntmps82
 clear hpre
 refine W.to (⟨[(0,.sl (.calls h)),(1,.i time)],[],[999]⟩) rfl ?_
 refine W.lenOf 0 (.calls h) (by kernel_rfl) ?_
 intro hl_h; replace hl_h : List.length h ≤ 9223372036854775807 := hl_h
 refine W.K cok tab82 hnt [] [0,1] (⟨[(0,.sl (.calls h)),(1,.i time)],[],[999]⟩)
  (True ∧ True) (by kernel_rfl)
  ⟨tt,tt⟩ ?_
 refine W.K cok tab82 hnt [] [0,1,5] (⟨[(0,.sl (.calls h)),(1,.i time),(5,.i (0 : Int))],[],[999]⟩)
  (True ∧ True) (by kernel_rfl)
  ⟨tt,tt⟩ ?_
 refine W.seq ?_
 refine W.K cok tab82 hnt [] [1,5,8,9,10] (⟨[(1,.i time),(5,.i (0 : Int)),(8,.sl (.calls h)),(9,.i (h.length : Int)),(10,.i (0 : Int))],[],[999]⟩)
  (True ∧ True ∧ True ∧ True) (by kernel_rfl)
  ⟨tt,tt,tt,tt⟩ ?_
 refine W.block ?_
 refine W.loop (ι := Int × Nat) (fun (x : Int × Nat) => match x with | (cnt,k) => (⟨[(1,.i time),(5,.i cnt),(8,.sl (.calls h)),(9,.i (h.length : Int)),(10,.i ((k : Nat) : Int))],[],[999]⟩ : St))
  (fun (x : Int × Nat) => match x with | (cnt,k) => (k ≤ h.length) ∧ (cnt = (((h.take k).countP (openP time) : Nat) : Int)))
  (fun (x : Int × Nat) => match x with | (cnt,k) => (h.length - k : Nat)) ((0 : Int),0) ?_ ?_ ?_
 ·exact (show (0 ≤ h.length) ∧ ((0 : Int) = (((h.take 0).countP (openP time) : Nat) : Int)) from ⟨(by first | assumption | omega | rfl | (intro _ hjj; omega) | (simp; done) | (simp; omega)),(by rfl)⟩)
 ·exact Sub.of [] (@cast ((((.int .i64 time : Value) = .int .i64 time) ∧ (((.int .i64 (0 : Int) : Value) = .int .i64 (0 : Int)) ∧ (((.calls h : Dat) = .calls h) ∧ (((.int .i64 (h.length : Int) : Value) = .int .i64 (h.length : Int)) ∧ (((.int .i64 (0 : Int) : Value) = .int .i64 ((0 : Nat) : Int)) ∧ True))))) ∧ (True ∧ ((true = true) ∧ (true = true)))) _ (by kernel_rfl) ⟨⟨rfl,rfl,rfl,rfl,(congrArg (Value.int .i64) (by first | rfl | omega | assumption | simp | simp_all)),tt⟩,tt,rfl,rfl⟩)
 ·rintro ⟨cnt,k⟩ hC0
  have hC : (k ≤ h.length) ∧ (cnt = (((h.take k).countP (openP time) : Nat) : Int)) := hC0
  clear hC0
  obtain ⟨hk,hc⟩ := hC
  refine W.to (⟨[(1,.i time),(5,.i cnt),(8,.sl (.calls h)),(9,.i (h.length : Int)),(10,.i ((k : Nat) : Int))],[],[999]⟩) rfl ?_
  have hcb := take_count_le h k (openP time)
  refine W.K cok tab82 hnt [] [1,5,8,9,10,11] (⟨[(1,.i time),(5,.i cnt),(8,.sl (.calls h)),(9,.i (h.length : Int)),(10,.i ((k : Nat) : Int)),(11,.b (decide (((k : Nat) : Int) < (h.length : Int))))],[],[999]⟩)
   ((True ∧ True ∧ True) ∧ True) (by kernel_rfl)
   ⟨⟨tt,tt,tt⟩,tt⟩ ?_
  refine W.seq ?_
  refine W.ifP (((k : Nat) : Int) < (h.length : Int)) (.b (decide (((k : Nat) : Int) < (h.length : Int)))) (by kernel_rfl) rfl trivial ?_ ?_
  ·intro h11
   refine W.skip (thenQ_normal ?_)
   refine W.seq ?_
   refine W.block ?_
   refine W.K cok tab82 hnt [] [1,5,7,8,9,10] (⟨[(1,.i time),(5,.i cnt),(7,.ptr 7 0),(8,.sl (.calls h)),(9,.i (h.length : Int)),(10,.i ((k : Nat) : Int))],[(7,⟨36,.fix [.i ((h.getD k default).proc),.i ((h.getD k default).obj),.i ((h.getD k default).kind),.i ((h.getD k default).arg),.i ((h.getD k default).ret),.i ((h.getD k default).frm),.i ((h.getD k default).to)]⟩)],[7,999]⟩)
    ((True ∧ True ∧ (0 ≤ ((k : Nat) : Int)) ∧ (((k : Nat) : Int) < (h.length : Int))) ∧ True ∧ True ∧ (True ∧ True) ∧ True) (by kernel_rfl)
    ⟨⟨tt,tt,(by omega),(by omega)⟩,tt,tt,⟨tt,tt⟩,tt⟩ ?_
   refine W.K cok tab82 hnt [] [1,5,8,9,10,23] (⟨[(1,.i time),(5,.i cnt),(8,.sl (.calls h)),(9,.i (h.length : Int)),(10,.i ((k : Nat) : Int)),(23,.b ((decide (((h.getD k default).frm) ≤ time)) && (decide (time < ((h.getD k default).to)))))],[(7,⟨36,.fix [.i ((h.getD k default).proc),.i ((h.getD k default).obj),.i ((h.getD k default).kind),.i ((h.getD k default).arg),.i ((h.getD k default).ret),.i ((h.getD k default).frm),.i ((h.getD k default).to)]⟩)],[7,999]⟩)
    (True ∧ True ∧ True ∧ (True ∧ True ∧ True) ∧ True ∧ ((decide (((h.getD k default).frm) ≤ time)) = true → True) ∧ ((decide (((h.getD k default).frm) ≤ time)) = true → True) ∧ ((decide (((h.getD k default).frm) ≤ time)) = true → (((decide (((h.getD k default).frm) ≤ time)) = true) ∧ True)) ∧ ((decide (((h.getD k default).frm) ≤ time)) = true → ((((decide (((h.getD k default).frm) ≤ time)) = true) ∧ True) ∧ (((decide (((h.getD k default).frm) ≤ time)) = true) ∧ True) ∧ True)) ∧ (True ∧ ((decide (((h.getD k default).frm) ≤ time)) = true → ((decide (((h.getD k default).frm) ≤ time)) = true) ∧ True) ∧ ((decide (((h.getD k default).frm) ≤ time)) = false → True)) ∧ True) (by kernel_rfl)
    ⟨tt,tt,tt,⟨tt,tt,tt⟩,tt,(fun _ => trivial),(fun _ => trivial),(fun hG => ⟨hG,tt⟩),(fun hG => ⟨⟨hG,tt⟩,⟨hG,tt⟩,tt⟩),⟨tt,(fun hp => ⟨hp,tt⟩),(fun _ => trivial)⟩,tt⟩ ?_
   refine W.if' ((decide (((h.getD k default).frm) ≤ time)) && (decide (time < ((h.getD k default).to)))) (.b ((decide (((h.getD k default).frm) ≤ time)) && (decide (time < ((h.getD k default).to))))) (by kernel_rfl) rfl trivial ?_ ?_
   ·intro h23
    have h23_0 : ((h.getD k default).frm) ≤ time := of_decide_eq_true (and_l h23)
    have h23_1 : time < ((h.getD k default).to) := of_decide_eq_true (and_r h23)
    refine W.L cok tab82 hnt [] (⟨[(1,.i time),(5,.i (cnt + (1 : Int))),(8,.sl (.calls h)),(9,.i (h.length : Int)),(10,.i ((k : Nat) : Int)),(23,.b ((decide (((h.getD k default).frm) ≤ time)) && (decide (time < ((h.getD k default).to))))),(24,.i cnt),(25,.i (cnt + (1 : Int)))],[(7,⟨36,.fix [.i ((h.getD k default).proc),.i ((h.getD k default).obj),.i ((h.getD k default).kind),.i ((h.getD k default).arg),.i ((h.getD k default).ret),.i ((h.getD k default).frm),.i ((h.getD k default).to)]⟩)],[7,999]⟩)
     (True ∧ (True ∧ True ∧ (Fits .i64 (cnt + (1 : Int)))) ∧ True ∧ True) (by kernel_rfl)
     ⟨tt,⟨tt,tt,(by exact fits_i64 (by omega) (by omega))⟩,tt,tt⟩ ?_
    refine blockQ_normal (thenQ_normal ?_)
    refine W.L cok tab82 hnt [] (⟨[(1,.i time),(5,.i (cnt + (1 : Int))),(8,.sl (.calls h)),(9,.i (h.length : Int)),(10,.i (((k + 1) : Nat) : Int)),(23,.b ((decide (((h.getD k default).frm) ≤ time)) && (decide (time < ((h.getD k default).to))))),(24,.i cnt),(25,.i (cnt + (1 : Int))),(26,.i (((k + 1) : Nat) : Int))],[(7,⟨36,.fix [.i ((h.getD k default).proc),.i ((h.getD k default).obj),.i ((h.getD k default).kind),.i ((h.getD k default).arg),.i ((h.getD k default).ret),.i ((h.getD k default).frm),.i ((h.getD k default).to)]⟩)],[7,999]⟩)
     ((True ∧ True ∧ (Fits .i64 (((k + 1) : Nat) : Int))) ∧ True ∧ True) (by kernel_rfl)
     ⟨⟨tt,tt,(by exact fits_i64 (by omega) (by omega))⟩,tt,tt⟩ ?_
    refine thenQ_normal ?_
    refine ⟨((cnt + (1 : Int)),(k + 1)),(show ((k + 1) ≤ h.length) ∧ ((cnt + (1 : Int)) = (((h.take (k + 1)).countP (openP time) : Nat) : Int)) from ⟨(by first | assumption | omega | rfl | (intro _ hjj; omega) | (simp; done) | (simp; omega)),(by rw [take_count (openP time) (by omega),hc]; first | (rw [if_pos (show openP time (h.getD k default) = true from h23)]) | (rw [if_neg (by rw [show openP time (h.getD k default) = false from n23]; simp)]; omega))⟩),(show h.length - (k + 1) < h.length - k from (by first | omega | (simp_all; omega))),?_⟩
    exact Sub.of [] (@cast ((((.int .i64 time : Value) = .int .i64 time) ∧ (((.int .i64 (cnt + (1 : Int)) : Value) = .int .i64 (cnt + (1 : Int))) ∧ (((.calls h : Dat) = .calls h) ∧ (((.int .i64 (h.length : Int) : Value) = .int .i64 (h.length : Int)) ∧ (((.int .i64 (((k + 1) : Nat) : Int) : Value) = .int .i64 (((k + 1) : Nat) : Int)) ∧ True))))) ∧ (True ∧ ((true = true) ∧ (true = true)))) _ (by kernel_rfl) ⟨⟨rfl,rfl,rfl,rfl,rfl,tt⟩,tt,rfl,rfl⟩)
   ·intro n23
    refine W.skip (blockQ_normal (thenQ_normal ?_))
    refine W.L cok tab82 hnt [] (⟨[(1,.i time),(5,.i cnt),(8,.sl (.calls h)),(9,.i (h.length : Int)),(10,.i (((k + 1) : Nat) : Int)),(23,.b ((decide (((h.getD k default).frm) ≤ time)) && (decide (time < ((h.getD k default).to))))),(26,.i (((k + 1) : Nat) : Int))],[(7,⟨36,.fix [.i ((h.getD k default).proc),.i ((h.getD k default).obj),.i ((h.getD k default).kind),.i ((h.getD k default).arg),.i ((h.getD k default).ret),.i ((h.getD k default).frm),.i ((h.getD k default).to)]⟩)],[7,999]⟩)
     ((True ∧ True ∧ (Fits .i64 (((k + 1) : Nat) : Int))) ∧ True ∧ True) (by kernel_rfl)
     ⟨⟨tt,tt,(by exact fits_i64 (by omega) (by omega))⟩,tt,tt⟩ ?_
    refine thenQ_normal ?_
    refine ⟨(cnt,(k + 1)),(show ((k + 1) ≤ h.length) ∧ (cnt = (((h.take (k + 1)).countP (openP time) : Nat) : Int)) from ⟨(by first | assumption | omega | rfl | (intro _ hjj; omega) | (simp; done) | (simp; omega)),(by rw [take_count (openP time) (by omega),hc]; first | (rw [if_pos (show openP time (h.getD k default) = true from h23)]) | (rw [if_neg (by rw [show openP time (h.getD k default) = false from n23]; simp)]; omega))⟩),(show h.length - (k + 1) < h.length - k from (by first | omega | (simp_all; omega))),?_⟩
    exact Sub.of [] (@cast ((((.int .i64 time : Value) = .int .i64 time) ∧ (((.int .i64 cnt : Value) = .int .i64 cnt) ∧ (((.calls h : Dat) = .calls h) ∧ (((.int .i64 (h.length : Int) : Value) = .int .i64 (h.length : Int)) ∧ (((.int .i64 (((k + 1) : Nat) : Int) : Value) = .int .i64 (((k + 1) : Nat) : Int)) ∧ True))))) ∧ (True ∧ ((true = true) ∧ (true = true)))) _ (by kernel_rfl) ⟨⟨rfl,rfl,rfl,rfl,rfl,tt⟩,tt,rfl,rfl⟩)
  ·intro n11
   refine W.exit (thenQ_exit (thenQ_exit (blockQ_hit ?_)))
   refine thenQ_normal ?_
   refine W.K cok tab82 hnt [] [4] (⟨[(4,.i cnt)],[],[999]⟩)
    (True ∧ True ∧ True) (by kernel_rfl)
    ⟨tt,tt,tt⟩ ?_
   refine W.ret ?_
   exact endQ_ret (.i cnt) (by kernel_rfl) (@cast ((.int .i64 cnt : Value) = .int .i64 (openAt h time)) _ (by kernel_rfl) (congrArg (Value.int .i64) (by rw [hc,show k = h.length by omega,List.take_length]; rfl)))
theorem ent82 : Entr prog 82 := ⟨_,func82,rfl,by decide⟩
end Go.Proofs.Try

set_option linter.unusedSimpArgs false
set_option linter.unusedVariables false
namespace Go.Proofs.Try
open Go.Ab Go.RowKit
def fs81 : FnS := fnS [.o,.o,.o] [.int,.int,(.ep .calls)] (fun _ (i,k,h,_) => (.b (quietF h i.toNat k.toNat),[],(0 ≤ i ∧ i < h.length) ∧ (0 ≤ k ∧ k < h.length) ∧ (validHistory h = true)))
abbrev T81 : Tab := lk [(82,fs82)]
theorem tab81 : TabOK prog T81 := (TabOK.cons ok82 ent82 TabOK.nil)
set_option maxRecDepth 100000 in
set_option maxHeartbeats 1000000 in
theorem ok81 : FnOK prog 81 fs81 := by
 refine FnOK.mk cok func81 rfl rfl rfl ?_
 rintro fl ⟨(i : Int),(k : Int),(h : List CallD),_⟩ hpre F hnt0 _
 have hnt : F.nt = 25 := hnt0.trans ntmps81
 replace hpre : (0 ≤ i ∧ i < h.length) ∧ (0 ≤ k ∧ k < h.length) ∧ (validHistory h = true) := hpre
 obtain ⟨hi,hk,hv⟩ := hpre
 refine W.to (⟨[(0,.i i),(1,.i k),(2,.ep [.sl (.calls h)])],[],[999]⟩) rfl ?_
 have hci := call_ok hv (i := i.toNat) (by omega)
 have hck := call_ok hv (i := k.toNat) (by omega)
 unfold callAt at hci hck
 refine W.K cok tab81 hnt [] [0,1,2] (⟨[(0,.i i),(1,.i k),(2,.ep [.sl (.calls h)])],[],[999]⟩)
  (True ∧ True) (by kernel_rfl)
  ⟨tt,tt⟩ ?_
 refine W.seq ?_
 refine W.K cok tab81 hnt [] [0,2,6] (⟨[(0,.i i),(2,.ep [.sl (.calls h)]),(6,.i ((h.getD (Int.toNat k) default).to))],[],[999]⟩)
  (True ∧ True ∧ (True ∧ True ∧ (0 ≤ k) ∧ (k < (h.length : Int))) ∧ True ∧ True ∧ True ∧ True) (by kernel_rfl)
  ⟨tt,tt,⟨tt,tt,(by omega),(by omega)⟩,tt,tt,tt,tt⟩ ?_
 refine W.block ?_
 refine W.loop (ι := Int) (fun (t : Int) => (⟨[(0,.i i),(2,.ep [.sl (.calls h)]),(6,.i t)],[],[999]⟩ : St))
  (fun (t : Int) => ((h.getD k.toNat default).to ≤ t) ∧ (0 ≤ t) ∧ (∀ j : Int,(h.getD k.toNat default).to ≤ j → j < t → ¬ openAt h j = 0))
  (fun (t : Int) => ((31 - t).toNat : Nat)) (((h.getD (Int.toNat k) default).to)) ?_ ?_ ?_
 ·exact (show ((h.getD k.toNat default).to ≤ ((h.getD (Int.toNat k) default).to)) ∧ (0 ≤ ((h.getD (Int.toNat k) default).to)) ∧ (∀ j : Int,(h.getD k.toNat default).to ≤ j → j < ((h.getD (Int.toNat k) default).to) → ¬ openAt h j = 0) from ⟨(by first | assumption | omega | rfl | (intro _ hjj; omega) | (simp; done) | (simp; omega)),(by first | assumption | omega | rfl | (intro _ hjj; omega) | (simp; done) | (simp; omega)),(by intro j h1 h2; omega)⟩)
 ·exact Sub.of [] (@cast ((((.int .i64 i : Value) = .int .i64 i) ∧ ((((.ep [.sl (.calls h)] : AV) = .ep [.sl (.calls h)]) ∧ (([] : List Nat) = [])) ∧ (((.int .i64 ((h.getD (Int.toNat k) default).to) : Value) = .int .i64 ((h.getD (Int.toNat k) default).to)) ∧ True))) ∧ (True ∧ ((true = true) ∧ (true = true)))) _ (by kernel_rfl) ⟨⟨rfl,⟨rfl,rfl⟩,rfl,tt⟩,tt,rfl,rfl⟩)
 ·rintro t hC0
  have hC : ((h.getD k.toNat default).to ≤ t) ∧ (0 ≤ t) ∧ (∀ j : Int,(h.getD k.toNat default).to ≤ j → j < t → ¬ openAt h j = 0) := hC0
  clear hC0
  obtain ⟨ht,ht0,hA⟩ := hC
  refine W.to (⟨[(0,.i i),(2,.ep [.sl (.calls h)]),(6,.i t)],[],[999]⟩) rfl ?_
  refine W.seq ?_
  refine W.K cok tab81 hnt [] [0,2,6,18] (⟨[(0,.i i),(2,.ep [.sl (.calls h)]),(6,.i t),(18,.b (decide (t < ((h.getD (Int.toNat i) default).frm))))],[],[999]⟩)
   (True ∧ True ∧ True ∧ (True ∧ True ∧ (0 ≤ i) ∧ (i < (h.length : Int))) ∧ True ∧ True ∧ (True ∧ True ∧ True) ∧ True) (by kernel_rfl)
   ⟨tt,tt,tt,⟨tt,tt,(by omega),(by omega)⟩,tt,tt,⟨tt,tt,tt⟩,tt⟩ ?_
  refine W.ifP (t < ((h.getD (Int.toNat i) default).frm)) (.b (decide (t < ((h.getD (Int.toNat i) default).frm)))) (by kernel_rfl) rfl trivial ?_ ?_
  ·intro h18
   refine W.skip (thenQ_normal ?_)
   refine W.seq ?_
   refine W.block ?_
   refine W.K cok tab81 hnt [] [0,2,6,24] (⟨[(0,.i i),(2,.ep [.sl (.calls h)]),(6,.i t),(24,.b (decide ((openAt h t) = (0 : Int))))],[],[999]⟩)
    (True ∧ True ∧ (True ∧ (True ∧ True ∧ True) ∧ True) ∧ (True ∧ True ∧ True) ∧ True) (by kernel_rfl)
    ⟨tt,tt,⟨tt,⟨tt,tt,tt⟩,tt⟩,⟨tt,tt,tt⟩,tt⟩ ?_
   refine W.ifP ((openAt h t) = (0 : Int)) (.b (decide ((openAt h t) = (0 : Int)))) (by kernel_rfl) rfl trivial ?_ ?_
   ·intro h24
    refine W.K cok tab81 hnt [] [5] (⟨[(5,.b true)],[],[999]⟩)
     (True ∧ True) (by kernel_rfl)
     ⟨tt,tt⟩ ?_
    refine W.ret (blockQ_ret (thenQ_ret (thenQ_ret (blockQ_ret (thenQ_ret ?_)))))
    exact endQ_ret (.b true) (by kernel_rfl) (@cast ((.bool true : Value) = .bool (quietF h i.toNat k.toNat)) _ (by kernel_rfl) (congrArg Value.bool (by exact (quiet_yes ht0 (by omega) ht (by assumption) h24).symm)))
   ·intro n24
    refine W.skip (blockQ_normal (thenQ_normal ?_))
    refine W.L cok tab81 hnt [] (⟨[(0,.i i),(2,.ep [.sl (.calls h)]),(6,.i (t + (1 : Int))),(19,.i t),(20,.i (t + (1 : Int))),(24,.b (decide ((openAt h t) = (0 : Int))))],[],[999]⟩)
     (True ∧ (True ∧ True ∧ (Fits .i64 (t + (1 : Int)))) ∧ True ∧ True) (by kernel_rfl)
     ⟨tt,⟨tt,tt,(by exact fits_i64 (by omega) (by omega))⟩,tt,tt⟩ ?_
    refine thenQ_normal ?_
    refine ⟨((t + (1 : Int))),(show ((h.getD k.toNat default).to ≤ (t + (1 : Int))) ∧ (0 ≤ (t + (1 : Int))) ∧ (∀ j : Int,(h.getD k.toNat default).to ≤ j → j < (t + (1 : Int)) → ¬ openAt h j = 0) from ⟨(by first | assumption | omega | rfl | (intro _ hjj; omega) | (simp; done) | (simp; omega)),(by first | assumption | omega | rfl | (intro _ hjj; omega) | (simp; done) | (simp; omega)),(by intro j h1 h2; by_cases hj : j = t; (subst hj; exact n24); exact hA j h1 (by omega))⟩),(show (31 - (t + (1 : Int))).toNat < (31 - t).toNat from (by first | omega | (simp_all; omega))),?_⟩
    exact Sub.of [] (@cast ((((.int .i64 i : Value) = .int .i64 i) ∧ ((((.ep [.sl (.calls h)] : AV) = .ep [.sl (.calls h)]) ∧ (([] : List Nat) = [])) ∧ (((.int .i64 (t + (1 : Int)) : Value) = .int .i64 (t + (1 : Int))) ∧ True))) ∧ (True ∧ ((true = true) ∧ (true = true)))) _ (by kernel_rfl) ⟨⟨rfl,⟨rfl,rfl⟩,rfl,tt⟩,tt,rfl,rfl⟩)
  ·intro n18
   refine W.exit (thenQ_exit (thenQ_exit (blockQ_hit ?_)))
   refine thenQ_normal ?_
   refine W.K cok tab81 hnt [] [5] (⟨[(5,.b false)],[],[999]⟩)
    (True ∧ True) (by kernel_rfl)
    ⟨tt,tt⟩ ?_
   refine W.ret ?_
   exact endQ_ret (.b false) (by kernel_rfl) (@cast ((.bool false : Value) = .bool (quietF h i.toNat k.toNat)) _ (by kernel_rfl) (congrArg Value.bool (by exact (quiet_no n18 hA).symm)))
theorem ent81 : Entr prog 81 := ⟨_,func81,rfl,by decide⟩
end Go.Proofs.Try

set_option linter.unusedSimpArgs false
set_option linter.unusedVariables false
namespace Go.Proofs.Try
open Go.Ab Go.RowKit
def fs60QuietAhead : FnS := fnS [.o,.o] [.int,(.fn1 81 (.ep .calls))] (fun _ (n,h,_) => (.sl (.ints (rowsOf n.toNat (quietF h))),[],(0 ≤ n ∧ n ≤ 60 ∧ n = h.length) ∧ (validHistory h = true)))
abbrev T60QuietAhead : Tab := lk [(81,fs81)]
theorem tab60QuietAhead : TabOK prog T60QuietAhead := (TabOK.cons ok81 ent81 TabOK.nil)
set_option maxRecDepth 100000 in
set_option maxHeartbeats 1000000 in
theorem ok60QuietAhead : FnOK prog 60 fs60QuietAhead := by
 refine FnOK.mk cok func60 rfl rfl rfl ?_
 rintro fl ⟨(n : Int),(h : List CallD),_⟩ hpre F hnt0 _
 have hnt : F.nt = 35 := hnt0.trans ntmps60
 replace hpre : (0 ≤ n ∧ n ≤ 60 ∧ n = h.length) ∧ (validHistory h = true) := hpre
 obtain ⟨hn,hv⟩ := hpre
 refine W.to (⟨[(0,.i n),(1,.fn 81 [.ep [.sl (.calls h)]])],[],[999]⟩) rfl ?_
 refine W.K cok tab60QuietAhead hnt [] [0,1] (⟨[(0,.i n),(1,.fn 81 [.ep [.sl (.calls h)]])],[],[999]⟩)
  (True ∧ True) (by kernel_rfl)
  ⟨tt,tt⟩ ?_
 refine W.K cok tab60QuietAhead hnt [9] [0,1,5] (⟨[(0,.i n),(1,.fn 81 [.ep [.sl (.calls h)]]),(5,.own 9 (List.length (List.replicate (Int.toNat n) (0 : Int))))],[(9,⟨3,.row (.ints (List.replicate (Int.toNat n) (0 : Int)))⟩)],[9,999]⟩)
  (True ∧ (True ∧ True ∧ (n = n) ∧ (0 ≤ n) ∧ (n * 8 ≤ 281474976710656)) ∧ True ∧ True) (by kernel_rfl)
  ⟨tt,⟨tt,tt,rfl,(by omega),(by omega)⟩,tt,tt⟩ ?_
 refine W.seq ?_
 refine W.K cok tab60QuietAhead hnt [] [0,1,5,11,12] (⟨[(0,.i n),(1,.fn 81 [.ep [.sl (.calls h)]]),(5,.own 9 (List.length (List.replicate (Int.toNat n) (0 : Int)))),(11,.i (((List.length (List.replicate (Int.toNat n) (0 : Int))) : Nat) : Int)),(12,.i (0 : Int))],[(9,⟨3,.row (.ints (List.replicate (Int.toNat n) (0 : Int)))⟩)],[9,999]⟩)
  (True ∧ True ∧ True ∧ True) (by kernel_rfl)
  ⟨tt,tt,tt,tt⟩ ?_
 refine W.block ?_
 refine W.loop (ι := Nat × (List Int)) (fun (x : Nat × (List Int)) => match x with | (i,o) => (⟨[(0,.i n),(1,.fn 81 [.ep [.sl (.calls h)]]),(5,.own 9 o.length),(11,.i (((List.length (List.replicate (Int.toNat n) (0 : Int))) : Nat) : Int)),(12,.i ((i : Nat) : Int))],[(9,⟨3,.row (.ints o)⟩)],[9,999]⟩ : St))
  (fun (x : Nat × (List Int)) => match x with | (i,o) => (i ≤ n.toNat) ∧ (o = partRows n.toNat (quietF h) i 0))
  (fun (x : Nat × (List Int)) => match x with | (i,o) => (n.toNat - i : Nat)) (0,(List.replicate (Int.toNat n) (0 : Int))) ?_ ?_ ?_
 ·exact (show (0 ≤ n.toNat) ∧ ((List.replicate (Int.toNat n) (0 : Int)) = partRows n.toNat (quietF h) 0 0) from ⟨(by first | assumption | omega | rfl | (intro _ hjj; omega) | (simp; done) | (simp; omega)),(by exact partRows_zero _ _)⟩)
 ·exact Sub.of [] (@cast ((((.int .i64 n : Value) = .int .i64 n) ∧ ((((81 : Nat) = 81) ∧ ((((.ep [.sl (.calls h)] : AV) = .ep [.sl (.calls h)]) ∧ (([] : List Nat) = [])) ∧ True)) ∧ ((((9 : Nat) = 9) ∧ (((List.length (List.replicate (Int.toNat n) (0 : Int))) = (List.length (List.replicate (Int.toNat n) (0 : Int)))) ∧ ((9 : Nat) ∈ ([9,999] : List Nat)))) ∧ (((.int .i64 (((List.length (List.replicate (Int.toNat n) (0 : Int))) : Nat) : Int) : Value) = .int .i64 (((List.length (List.replicate (Int.toNat n) (0 : Int))) : Nat) : Int)) ∧ (((.int .i64 (0 : Int) : Value) = .int .i64 ((0 : Nat) : Int)) ∧ True))))) ∧ (((((3 : Nat) = 3) ∧ (((.ints (List.replicate (Int.toNat n) (0 : Int)) : Dat) = .ints (List.replicate (Int.toNat n) (0 : Int))) ∧ ((9 : Nat) ∈ ([9,999] : List Nat)))) ∧ True) ∧ ((true = true) ∧ (true = true)))) _ (by kernel_rfl) ⟨⟨rfl,⟨rfl,⟨rfl,rfl⟩,tt⟩,⟨rfl,rfl,(by decide)⟩,rfl,(congrArg (Value.int .i64) (by first | rfl | omega | assumption | simp | simp_all)),tt⟩,⟨⟨rfl,rfl,(by decide)⟩,tt⟩,rfl,rfl⟩)
 ·rintro ⟨i,o⟩ hC0
  have hC : (i ≤ n.toNat) ∧ (o = partRows n.toNat (quietF h) i 0) := hC0
  clear hC0
  obtain ⟨hi,ho⟩ := hC
  refine W.to (⟨[(0,.i n),(1,.fn 81 [.ep [.sl (.calls h)]]),(5,.own 9 o.length),(11,.i (((List.length (List.replicate (Int.toNat n) (0 : Int))) : Nat) : Int)),(12,.i ((i : Nat) : Int))],[(9,⟨3,.row (.ints o)⟩)],[9,999]⟩) rfl ?_
  have hol : o.length = n.toNat := by rw [ho]; exact partRows_len _ _ _ _
  refine W.K cok tab60QuietAhead hnt [] [0,1,5,11,12,13] (⟨[(0,.i n),(1,.fn 81 [.ep [.sl (.calls h)]]),(5,.own 9 o.length),(11,.i (((List.length (List.replicate (Int.toNat n) (0 : Int))) : Nat) : Int)),(12,.i ((i : Nat) : Int)),(13,.b (decide (((i : Nat) : Int) < (((List.length (List.replicate (Int.toNat n) (0 : Int))) : Nat) : Int))))],[(9,⟨3,.row (.ints o)⟩)],[9,999]⟩)
   ((True ∧ True ∧ True) ∧ True) (by kernel_rfl)
   ⟨⟨tt,tt,tt⟩,tt⟩ ?_
  refine W.seq ?_
  refine W.ifP (((i : Nat) : Int) < (((List.length (List.replicate (Int.toNat n) (0 : Int))) : Nat) : Int)) (.b (decide (((i : Nat) : Int) < (((List.length (List.replicate (Int.toNat n) (0 : Int))) : Nat) : Int)))) (by kernel_rfl) rfl trivial ?_ ?_
  ·intro h13
   have h13' := h13
   simp only [List.length_append,List.length_cons,List.length_nil,List.length_take,List.length_drop,List.length_set,List.length_replicate,List.length_map] at h13'
   refine W.skip (thenQ_normal ?_)
   refine W.seq ?_
   refine W.block ?_
   refine W.K cok tab60QuietAhead hnt [] [0,1,5,6,11,12] (⟨[(0,.i n),(1,.fn 81 [.ep [.sl (.calls h)]]),(5,.own 9 o.length),(6,.i ((i : Nat) : Int)),(11,.i (((List.length (List.replicate (Int.toNat n) (0 : Int))) : Nat) : Int)),(12,.i ((i : Nat) : Int))],[(9,⟨3,.row (.ints o)⟩)],[9,999]⟩)
    (True ∧ True ∧ True) (by kernel_rfl)
    ⟨tt,tt,tt⟩ ?_
   refine W.K cok tab60QuietAhead hnt [] [0,1,5,6,11,12,15,16] (⟨[(0,.i n),(1,.fn 81 [.ep [.sl (.calls h)]]),(5,.own 9 o.length),(6,.i ((i : Nat) : Int)),(11,.i (((List.length (List.replicate (Int.toNat n) (0 : Int))) : Nat) : Int)),(12,.i ((i : Nat) : Int)),(15,.i n),(16,.i (0 : Int))],[(9,⟨3,.row (.ints o)⟩)],[9,999]⟩)
    (True ∧ True ∧ True) (by kernel_rfl)
    ⟨tt,tt,tt⟩ ?_
   refine W.block ?_
   refine W.loop (ι := Nat × (List Int)) (fun (x : Nat × (List Int)) => match x with | (k,x) => (⟨[(0,.i n),(1,.fn 81 [.ep [.sl (.calls h)]]),(5,.own 9 o.length),(6,.i ((i : Nat) : Int)),(11,.i (((List.length (List.replicate (Int.toNat n) (0 : Int))) : Nat) : Int)),(12,.i ((i : Nat) : Int)),(15,.i n),(16,.i ((k : Nat) : Int))],[(9,⟨3,.row (.ints x)⟩)],[9,999]⟩ : St))
    (fun (x : Nat × (List Int)) => match x with | (k,x) => (k ≤ n.toNat) ∧ (x = partRows n.toNat (quietF h) i k))
    (fun (x : Nat × (List Int)) => match x with | (k,x) => (n.toNat - k : Nat)) (0,o) ?_ ?_ ?_
   ·exact (show (0 ≤ n.toNat) ∧ (o = partRows n.toNat (quietF h) i 0) from ⟨(by first | assumption | omega | rfl | (intro _ hjj; omega) | (simp; done) | (simp; omega)),(by exact ho)⟩)
   ·exact Sub.of [] (@cast ((((.int .i64 n : Value) = .int .i64 n) ∧ ((((81 : Nat) = 81) ∧ ((((.ep [.sl (.calls h)] : AV) = .ep [.sl (.calls h)]) ∧ (([] : List Nat) = [])) ∧ True)) ∧ ((((9 : Nat) = 9) ∧ ((o.length = o.length) ∧ ((9 : Nat) ∈ ([9,999] : List Nat)))) ∧ (((.int .i64 ((i : Nat) : Int) : Value) = .int .i64 ((i : Nat) : Int)) ∧ (((.int .i64 (((List.length (List.replicate (Int.toNat n) (0 : Int))) : Nat) : Int) : Value) = .int .i64 (((List.length (List.replicate (Int.toNat n) (0 : Int))) : Nat) : Int)) ∧ (((.int .i64 ((i : Nat) : Int) : Value) = .int .i64 ((i : Nat) : Int)) ∧ (((.int .i64 n : Value) = .int .i64 n) ∧ (((.int .i64 (0 : Int) : Value) = .int .i64 ((0 : Nat) : Int)) ∧ True)))))))) ∧ (((((3 : Nat) = 3) ∧ (((.ints o : Dat) = .ints o) ∧ ((9 : Nat) ∈ ([9,999] : List Nat)))) ∧ True) ∧ ((true = true) ∧ (true = true)))) _ (by kernel_rfl) ⟨⟨rfl,⟨rfl,⟨rfl,rfl⟩,tt⟩,⟨rfl,rfl,(by decide)⟩,rfl,rfl,rfl,rfl,(congrArg (Value.int .i64) (by first | rfl | omega | assumption | simp | simp_all)),tt⟩,⟨⟨rfl,rfl,(by decide)⟩,tt⟩,rfl,rfl⟩)
   ·rintro ⟨k,x⟩ hC0
    have hC : (k ≤ n.toNat) ∧ (x = partRows n.toNat (quietF h) i k) := hC0
    clear hC0
    obtain ⟨hk,hx⟩ := hC
    refine W.to (⟨[(0,.i n),(1,.fn 81 [.ep [.sl (.calls h)]]),(5,.own 9 o.length),(6,.i ((i : Nat) : Int)),(11,.i (((List.length (List.replicate (Int.toNat n) (0 : Int))) : Nat) : Int)),(12,.i ((i : Nat) : Int)),(15,.i n),(16,.i ((k : Nat) : Int))],[(9,⟨3,.row (.ints x)⟩)],[9,999]⟩) rfl ?_
    have hxl : x.length = n.toNat := by rw [hx]; exact partRows_len _ _ _ _
    refine W.K cok tab60QuietAhead hnt [] [0,1,5,6,11,12,15,16,17] (⟨[(0,.i n),(1,.fn 81 [.ep [.sl (.calls h)]]),(5,.own 9 o.length),(6,.i ((i : Nat) : Int)),(11,.i (((List.length (List.replicate (Int.toNat n) (0 : Int))) : Nat) : Int)),(12,.i ((i : Nat) : Int)),(15,.i n),(16,.i ((k : Nat) : Int)),(17,.b (decide (((k : Nat) : Int) < n)))],[(9,⟨3,.row (.ints x)⟩)],[9,999]⟩)
     ((True ∧ True ∧ True) ∧ True) (by kernel_rfl)
     ⟨⟨tt,tt,tt⟩,tt⟩ ?_
    refine W.seq ?_
    refine W.ifP (((k : Nat) : Int) < n) (.b (decide (((k : Nat) : Int) < n))) (by kernel_rfl) rfl trivial ?_ ?_
    ·intro h17
     refine W.skip (thenQ_normal ?_)
     refine W.seq ?_
     refine W.block ?_
     refine W.K cok tab60QuietAhead hnt [] [0,1,5,6,7,11,12,15,16] (⟨[(0,.i n),(1,.fn 81 [.ep [.sl (.calls h)]]),(5,.own 9 o.length),(6,.i ((i : Nat) : Int)),(7,.i ((k : Nat) : Int)),(11,.i (((List.length (List.replicate (Int.toNat n) (0 : Int))) : Nat) : Int)),(12,.i ((i : Nat) : Int)),(15,.i n),(16,.i ((k : Nat) : Int))],[(9,⟨3,.row (.ints x)⟩)],[9,999]⟩)
      (True ∧ True ∧ True) (by kernel_rfl)
      ⟨tt,tt,tt⟩ ?_
     refine W.K cok tab60QuietAhead hnt [] [0,1,5,6,7,11,12,15,16,22] (⟨[(0,.i n),(1,.fn 81 [.ep [.sl (.calls h)]]),(5,.own 9 o.length),(6,.i ((i : Nat) : Int)),(7,.i ((k : Nat) : Int)),(11,.i (((List.length (List.replicate (Int.toNat n) (0 : Int))) : Nat) : Int)),(12,.i ((i : Nat) : Int)),(15,.i n),(16,.i ((k : Nat) : Int)),(22,.b (quietF h ((i : Nat) : Int).toNat ((k : Nat) : Int).toNat))],[(9,⟨3,.row (.ints x)⟩)],[9,999]⟩)
      (True ∧ True ∧ True ∧ (True ∧ (True ∧ True ∧ True ∧ True) ∧ (0 ≤ ((i : Nat) : Int) ∧ ((i : Nat) : Int) < h.length) ∧ (0 ≤ ((k : Nat) : Int) ∧ ((k : Nat) : Int) < h.length) ∧ (validHistory h = true)) ∧ True) (by kernel_rfl)
      ⟨tt,tt,tt,⟨tt,⟨tt,tt,tt,tt⟩,(by omega),(by omega),(by omega)⟩,tt⟩ ?_
     refine W.if' (quietF h ((i : Nat) : Int).toNat ((k : Nat) : Int).toNat) (.b (quietF h ((i : Nat) : Int).toNat ((k : Nat) : Int).toNat)) (by kernel_rfl) rfl trivial ?_ ?_
     ·intro h22
      refine W.L cok tab60QuietAhead hnt [] (⟨[(0,.i n),(1,.fn 81 [.ep [.sl (.calls h)]]),(5,.own 9 o.length),(6,.i ((i : Nat) : Int)),(7,.i ((k : Nat) : Int)),(11,.i (((List.length (List.replicate (Int.toNat n) (0 : Int))) : Nat) : Int)),(12,.i ((i : Nat) : Int)),(15,.i n),(16,.i ((k : Nat) : Int)),(22,.b (quietF h ((i : Nat) : Int).toNat ((k : Nat) : Int).toNat)),(23,.own 9 o.length),(24,.i ((i : Nat) : Int)),(25,.pel 9 1 i 0),(26,.i (x.getD i 0)),(27,.i ((k : Nat) : Int)),(28,.v (.int .u64 ((k : Nat) : Int))),(29,.i (shlI .i64 (1 : Int) ((k : Nat) : Int))),(30,.i (bitsI .or .i64 (x.getD i 0) (shlI .i64 (1 : Int) ((k : Nat) : Int)))),(31,.pel 9 1 i 0)],[(9,⟨3,.row (.ints (List.set x i (bitsI .or .i64 (x.getD i 0) (shlI .i64 (1 : Int) ((k : Nat) : Int)))))⟩)],[9,999]⟩)
       (True ∧ True ∧ (True ∧ True ∧ (0 ≤ ((i : Nat) : Int)) ∧ (((i : Nat) : Int) < (o.length : Int))) ∧ (True ∧ (i < x.length)) ∧ True ∧ (True ∧ (Fits .u64 ((k : Nat) : Int))) ∧ (True ∧ True ∧ (0 ≤ ((k : Nat) : Int)) ∧ (Fits .i64 (shlI .i64 (1 : Int) ((k : Nat) : Int)))) ∧ (True ∧ True ∧ True) ∧ (True ∧ True ∧ (0 ≤ ((i : Nat) : Int)) ∧ (((i : Nat) : Int) < (o.length : Int))) ∧ (True ∧ True ∧ (i < x.length)) ∧ True) (by kernel_rfl)
       ⟨tt,tt,⟨tt,tt,(by omega),(by omega)⟩,⟨tt,(by omega)⟩,tt,⟨tt,(by exact fits_u64 (by omega) (by omega))⟩,⟨tt,tt,(by omega),(by exact fits_shl (by omega))⟩,⟨tt,tt,tt⟩,⟨tt,tt,(by omega),(by omega)⟩,⟨tt,tt,(by omega)⟩,tt⟩ ?_
      refine blockQ_normal (thenQ_normal ?_)
      refine W.L cok tab60QuietAhead hnt [] (⟨[(0,.i n),(1,.fn 81 [.ep [.sl (.calls h)]]),(5,.own 9 o.length),(6,.i ((i : Nat) : Int)),(7,.i ((k : Nat) : Int)),(11,.i (((List.length (List.replicate (Int.toNat n) (0 : Int))) : Nat) : Int)),(12,.i ((i : Nat) : Int)),(15,.i n),(16,.i (((k + 1) : Nat) : Int)),(22,.b (quietF h ((i : Nat) : Int).toNat ((k : Nat) : Int).toNat)),(23,.own 9 o.length),(24,.i ((i : Nat) : Int)),(25,.pel 9 1 i 0),(26,.i (x.getD i 0)),(27,.i ((k : Nat) : Int)),(28,.v (.int .u64 ((k : Nat) : Int))),(29,.i (shlI .i64 (1 : Int) ((k : Nat) : Int))),(30,.i (bitsI .or .i64 (x.getD i 0) (shlI .i64 (1 : Int) ((k : Nat) : Int)))),(31,.pel 9 1 i 0),(32,.i (((k + 1) : Nat) : Int))],[(9,⟨3,.row (.ints (List.set x i (bitsI .or .i64 (x.getD i 0) (shlI .i64 (1 : Int) ((k : Nat) : Int)))))⟩)],[9,999]⟩)
       ((True ∧ True ∧ (Fits .i64 (((k + 1) : Nat) : Int))) ∧ True ∧ True) (by kernel_rfl)
       ⟨⟨tt,tt,(by exact fits_i64 (by omega) (by omega))⟩,tt,tt⟩ ?_
      refine thenQ_normal ?_
      refine ⟨((k + 1),(List.set x i (bitsI .or .i64 (x.getD i 0) (shlI .i64 (1 : Int) ((k : Nat) : Int))))),(show ((k + 1) ≤ n.toNat) ∧ ((List.set x i (bitsI .or .i64 (x.getD i 0) (shlI .i64 (1 : Int) ((k : Nat) : Int)))) = partRows n.toNat (quietF h) i (k + 1)) from ⟨(by first | assumption | omega | rfl | (intro _ hjj; omega) | (simp; done) | (simp; omega)),(by first | (rw [hx]; exact partRows_skip n22) | (rw [hx]; exact partRows_set (by omega) (by rw [partRows_get _ (by omega)]; exact mask_or _ (by omega) h22)))⟩),(show n.toNat - (k + 1) < n.toNat - k from (by first | omega | (simp_all; omega))),?_⟩
      exact Sub.of [] (@cast ((((.int .i64 n : Value) = .int .i64 n) ∧ ((((81 : Nat) = 81) ∧ ((((.ep [.sl (.calls h)] : AV) = .ep [.sl (.calls h)]) ∧ (([] : List Nat) = [])) ∧ True)) ∧ ((((9 : Nat) = 9) ∧ ((o.length = o.length) ∧ ((9 : Nat) ∈ ([9,999] : List Nat)))) ∧ (((.int .i64 ((i : Nat) : Int) : Value) = .int .i64 ((i : Nat) : Int)) ∧ (((.int .i64 (((List.length (List.replicate (Int.toNat n) (0 : Int))) : Nat) : Int) : Value) = .int .i64 (((List.length (List.replicate (Int.toNat n) (0 : Int))) : Nat) : Int)) ∧ (((.int .i64 ((i : Nat) : Int) : Value) = .int .i64 ((i : Nat) : Int)) ∧ (((.int .i64 n : Value) = .int .i64 n) ∧ (((.int .i64 (((k + 1) : Nat) : Int) : Value) = .int .i64 (((k + 1) : Nat) : Int)) ∧ True)))))))) ∧ (((((3 : Nat) = 3) ∧ (((.ints (List.set x i (bitsI .or .i64 (x.getD i 0) (shlI .i64 (1 : Int) ((k : Nat) : Int)))) : Dat) = .ints (List.set x i (bitsI .or .i64 (x.getD i 0) (shlI .i64 (1 : Int) ((k : Nat) : Int))))) ∧ ((9 : Nat) ∈ ([9,999] : List Nat)))) ∧ True) ∧ ((true = true) ∧ (true = true)))) _ (by kernel_rfl) ⟨⟨rfl,⟨rfl,⟨rfl,rfl⟩,tt⟩,⟨rfl,rfl,(by decide)⟩,rfl,rfl,rfl,rfl,rfl,tt⟩,⟨⟨rfl,rfl,(by decide)⟩,tt⟩,rfl,rfl⟩)
     ·intro n22
      refine W.skip (blockQ_normal (thenQ_normal ?_))
      refine W.L cok tab60QuietAhead hnt [] (⟨[(0,.i n),(1,.fn 81 [.ep [.sl (.calls h)]]),(5,.own 9 o.length),(6,.i ((i : Nat) : Int)),(7,.i ((k : Nat) : Int)),(11,.i (((List.length (List.replicate (Int.toNat n) (0 : Int))) : Nat) : Int)),(12,.i ((i : Nat) : Int)),(15,.i n),(16,.i (((k + 1) : Nat) : Int)),(22,.b (quietF h ((i : Nat) : Int).toNat ((k : Nat) : Int).toNat)),(32,.i (((k + 1) : Nat) : Int))],[(9,⟨3,.row (.ints x)⟩)],[9,999]⟩)
       ((True ∧ True ∧ (Fits .i64 (((k + 1) : Nat) : Int))) ∧ True ∧ True) (by kernel_rfl)
       ⟨⟨tt,tt,(by exact fits_i64 (by omega) (by omega))⟩,tt,tt⟩ ?_
      refine thenQ_normal ?_
      refine ⟨((k + 1),x),(show ((k + 1) ≤ n.toNat) ∧ (x = partRows n.toNat (quietF h) i (k + 1)) from ⟨(by first | assumption | omega | rfl | (intro _ hjj; omega) | (simp; done) | (simp; omega)),(by first | (rw [hx]; exact partRows_skip n22) | (rw [hx]; exact partRows_set (by omega) (by rw [partRows_get _ (by omega)]; exact mask_or _ (by omega) h22)))⟩),(show n.toNat - (k + 1) < n.toNat - k from (by first | omega | (simp_all; omega))),?_⟩
      exact Sub.of [] (@cast ((((.int .i64 n : Value) = .int .i64 n) ∧ ((((81 : Nat) = 81) ∧ ((((.ep [.sl (.calls h)] : AV) = .ep [.sl (.calls h)]) ∧ (([] : List Nat) = [])) ∧ True)) ∧ ((((9 : Nat) = 9) ∧ ((o.length = o.length) ∧ ((9 : Nat) ∈ ([9,999] : List Nat)))) ∧ (((.int .i64 ((i : Nat) : Int) : Value) = .int .i64 ((i : Nat) : Int)) ∧ (((.int .i64 (((List.length (List.replicate (Int.toNat n) (0 : Int))) : Nat) : Int) : Value) = .int .i64 (((List.length (List.replicate (Int.toNat n) (0 : Int))) : Nat) : Int)) ∧ (((.int .i64 ((i : Nat) : Int) : Value) = .int .i64 ((i : Nat) : Int)) ∧ (((.int .i64 n : Value) = .int .i64 n) ∧ (((.int .i64 (((k + 1) : Nat) : Int) : Value) = .int .i64 (((k + 1) : Nat) : Int)) ∧ True)))))))) ∧ (((((3 : Nat) = 3) ∧ (((.ints x : Dat) = .ints x) ∧ ((9 : Nat) ∈ ([9,999] : List Nat)))) ∧ True) ∧ ((true = true) ∧ (true = true)))) _ (by kernel_rfl) ⟨⟨rfl,⟨rfl,⟨rfl,rfl⟩,tt⟩,⟨rfl,rfl,(by decide)⟩,rfl,rfl,rfl,rfl,rfl,tt⟩,⟨⟨rfl,rfl,(by decide)⟩,tt⟩,rfl,rfl⟩)
    ·intro n17
     refine W.exit (thenQ_exit (thenQ_exit (blockQ_hit ?_)))
     refine blockQ_normal (thenQ_normal ?_)
     refine W.L cok tab60QuietAhead hnt [] (⟨[(0,.i n),(1,.fn 81 [.ep [.sl (.calls h)]]),(5,.own 9 o.length),(6,.i ((i : Nat) : Int)),(11,.i (((List.length (List.replicate (Int.toNat n) (0 : Int))) : Nat) : Int)),(12,.i (((i + 1) : Nat) : Int)),(15,.i n),(16,.i ((k : Nat) : Int)),(17,.b (decide (((k : Nat) : Int) < n))),(33,.i (((i + 1) : Nat) : Int))],[(9,⟨3,.row (.ints x)⟩)],[9,999]⟩)
      ((True ∧ True ∧ (Fits .i64 (((i + 1) : Nat) : Int))) ∧ True ∧ True) (by kernel_rfl)
      ⟨⟨tt,tt,(by exact fits_i64 (by omega) (by omega))⟩,tt,tt⟩ ?_
     refine thenQ_normal ?_
     refine ⟨((i + 1),x),(show ((i + 1) ≤ n.toNat) ∧ (x = partRows n.toNat (quietF h) (i + 1) 0) from ⟨(by first | assumption | omega | rfl | (intro _ hjj; omega) | (simp; done) | (simp; omega)),(by rw [hx,← partRows_next]; congr 1; omega)⟩),(show n.toNat - (i + 1) < n.toNat - i from (by first | omega | (simp_all; omega))),?_⟩
     exact Sub.of [] (@cast ((((.int .i64 n : Value) = .int .i64 n) ∧ ((((81 : Nat) = 81) ∧ ((((.ep [.sl (.calls h)] : AV) = .ep [.sl (.calls h)]) ∧ (([] : List Nat) = [])) ∧ True)) ∧ ((((9 : Nat) = 9) ∧ ((o.length = x.length) ∧ ((9 : Nat) ∈ ([9,999] : List Nat)))) ∧ (((.int .i64 (((List.length (List.replicate (Int.toNat n) (0 : Int))) : Nat) : Int) : Value) = .int .i64 (((List.length (List.replicate (Int.toNat n) (0 : Int))) : Nat) : Int)) ∧ (((.int .i64 (((i + 1) : Nat) : Int) : Value) = .int .i64 (((i + 1) : Nat) : Int)) ∧ True))))) ∧ (((((3 : Nat) = 3) ∧ (((.ints x : Dat) = .ints x) ∧ ((9 : Nat) ∈ ([9,999] : List Nat)))) ∧ True) ∧ ((true = true) ∧ (true = true)))) _ (by kernel_rfl) ⟨⟨rfl,⟨rfl,⟨rfl,rfl⟩,tt⟩,⟨rfl,(by first | rfl | omega | assumption | (symm; assumption) | simp | simp_all),(by decide)⟩,rfl,rfl,tt⟩,⟨⟨rfl,rfl,(by decide)⟩,tt⟩,rfl,rfl⟩)
  ·intro n13
   have n13' := n13
   simp only [List.length_append,List.length_cons,List.length_nil,List.length_take,List.length_drop,List.length_set,List.length_replicate,List.length_map] at n13'
   refine W.exit (thenQ_exit (thenQ_exit (blockQ_hit ?_)))
   refine thenQ_normal ?_
   refine W.K cok tab60QuietAhead hnt [] [4] (⟨[(4,.own 9 o.length)],[(9,⟨3,.row (.ints o)⟩)],[9,999]⟩)
    (True ∧ True ∧ True) (by kernel_rfl)
    ⟨tt,tt,tt⟩ ?_
   refine W.subS [] (⟨[(4,.sl (.ints o))],[],[999]⟩) (@cast ((((o.length = o.length) ∧ (((.ints o : Dat) = .ints o) ∧ ((9 : Nat) ∉ ([] : List Nat)))) ∧ True) ∧ (True ∧ ((true = true) ∧ (true = true)))) _ (by kernel_rfl) ⟨⟨⟨rfl,rfl,(by decide)⟩,tt⟩,tt,rfl,rfl⟩) ?_
   refine W.ret ?_
   exact endQ_ret (.sl (.ints o)) (by kernel_rfl) (@cast ((.ints o : Dat) = .ints (rowsOf n.toNat (quietF h))) _ (by kernel_rfl) (congrArg Dat.ints (by rw [ho,← partRows_end]; congr 1; omega)))
theorem ent60QuietAhead : Entr prog 60 := ⟨_,func60,rfl,by decide⟩
end Go.Proofs.Try

set_option linter.unusedSimpArgs false
set_option linter.unusedVariables false
namespace Go.Proofs.Try
open Go.Ab Go.RowKit
def fs58 : FnS := fnS [.s .calls] [.calls] (fun _ (h,_) => (.sl (.ints (quietAhead h)),[],True))
abbrev T58 : Tab := lk [(12,fs12),(60,fs60QuietAhead)]
theorem tab58 : TabOK prog T58 := (TabOK.cons ok12 ent12 (TabOK.cons ok60QuietAhead ent60QuietAhead TabOK.nil))
set_option maxRecDepth 100000 in
set_option maxHeartbeats 1000000 in
theorem ok58 : FnOK prog 58 fs58 := by
 refine FnOK.mk cok func58 rfl rfl rfl ?_
 rintro fl ⟨(h : List CallD),_⟩ hpre F hnt0 _
 have hnt : F.nt = 10 := hnt0.trans ntmps58
 clear hpre
 refine W.to (⟨[(0,.sl (.calls h))],[],[999]⟩) rfl ?_
 refine W.lenOf 0 (.calls h) (by kernel_rfl) ?_
 intro hl_h; replace hl_h : List.length h ≤ 9223372036854775807 := hl_h
 refine W.K cok tab58 hnt [] [1] (⟨[(1,.ptr 1 0)],[(1,⟨23,.fix [.sl (.calls h)]⟩)],[1,999]⟩)
  (True ∧ True ∧ True) (by kernel_rfl)
  ⟨tt,tt,tt⟩ ?_
 refine W.subS [] (⟨[(1,.ep [.sl (.calls h)])],[],[999]⟩) (@cast ((((([.sl (.calls h)] : List AV) = [.sl (.calls h)]) ∧ ((([] : List Nat) = []) ∧ ((1 : Nat) ∉ ([] : List Nat)))) ∧ True) ∧ (True ∧ ((true = true) ∧ (true = true)))) _ (by kernel_rfl) ⟨⟨⟨rfl,rfl,(by decide)⟩,tt⟩,tt,rfl,rfl⟩) ?_
 refine W.seq ?_
 refine W.K cok tab58 hnt [] [1,5] (⟨[(1,.ep [.sl (.calls h)]),(5,.b (!(validHistory h)))],[],[999]⟩)
  (True ∧ (True ∧ (True ∧ True) ∧ True) ∧ True ∧ True) (by kernel_rfl)
  ⟨tt,⟨tt,⟨tt,tt⟩,tt⟩,tt,tt⟩ ?_
 refine W.if' (!(validHistory h)) (.b (!(validHistory h))) (by kernel_rfl) rfl trivial ?_ ?_
 ·intro h5
  refine W.K cok tab58 hnt [] [2] (⟨[(2,.v (.slice none 0 0))],[],[999]⟩)
   (True ∧ True) (by kernel_rfl)
   ⟨tt,tt⟩ ?_
  refine W.ret (thenQ_ret ?_)
  exact endQ_ret (.v (.slice none 0 0)) (by kernel_rfl) (@cast (((Value.slice none 0 0 : Value) = .slice none 0 0) ∧ ((Dat.ints (quietAhead h)).len = 0)) _ (by kernel_rfl) ⟨rfl,(by show List.length (quietAhead h) = 0; unfold quietAhead; rw [not_f h5]; rfl)⟩)
 ·intro n5
  refine W.skip (thenQ_normal ?_)
  refine W.K cok tab58 hnt [] [2] (⟨[(2,.sl (.ints (rowsOf (h.length : Int).toNat (quietF h))))],[],[999]⟩)
   (True ∧ True ∧ True ∧ (True ∧ (True ∧ True ∧ True) ∧ (0 ≤ (h.length : Int) ∧ (h.length : Int) ≤ 60 ∧ (h.length : Int) = h.length) ∧ (validHistory h = true)) ∧ True ∧ True) (by kernel_rfl)
   ⟨tt,tt,tt,⟨tt,⟨tt,tt,tt⟩,(by have hv := (valid_iff.1 (not_g n5)).1; omega),(by exact not_g n5)⟩,tt,tt⟩ ?_
  refine W.ret ?_
  exact endQ_ret (.sl (.ints (rowsOf (h.length : Int).toNat (quietF h)))) (by kernel_rfl) (@cast ((.ints (rowsOf (h.length : Int).toNat (quietF h)) : Dat) = .ints (quietAhead h)) _ (by kernel_rfl) (congrArg Dat.ints (by unfold quietAhead; rw [not_g n5]; rfl)))
theorem ent58 : Entr prog 58 := ⟨_,func58,rfl,by decide⟩
end Go.Proofs.Try

set_option linter.unusedSimpArgs false
set_option linter.unusedVariables false
namespace Go.Proofs.Try
open Go.Ab Go.RowKit
def fs24 : FnS := fnS [.o,.s .calls] [.str,.calls] (fun _ (s,h,_) => (.b (explains s h (quietF h)),[],True))
abbrev T24 : Tab := lk [(12,fs12),(39,fs39),(57,fs57),(58,fs58)]
theorem tab24 : TabOK prog T24 := (TabOK.cons ok12 ent12 (TabOK.cons ok39 ent39 (TabOK.cons ok57 ent57 (TabOK.cons ok58 ent58 TabOK.nil))))
set_option maxRecDepth 100000 in
set_option maxHeartbeats 1000000 in
theorem ok24 : FnOK prog 24 fs24 := by
 refine FnOK.mk cok func24 rfl rfl rfl ?_
 rintro fl ⟨(s : ByteArray),(h : List CallD),_⟩ hpre F hnt0 _
 have hnt : F.nt = 20 := hnt0.trans ntmps24
 clear hpre
 refine W.to (⟨[(0,.v (.string s)),(1,.sl (.calls h))],[],[999]⟩) rfl ?_
 refine W.lenOf 1 (.calls h) (by kernel_rfl) ?_
 intro hl_h; replace hl_h : List.length h ≤ 9223372036854775807 := hl_h
 refine W.K cok tab24 hnt [] [0,1] (⟨[(0,.v (.string s)),(1,.sl (.calls h))],[],[999]⟩)
  (True ∧ True) (by kernel_rfl)
  ⟨tt,tt⟩ ?_
 refine W.K cok tab24 hnt [] [4] (⟨[(4,.b (((isObject s) && (validHistory h)) && (decide ((0 : Int) < (((List.length (ordersF s h (bitF (quietAhead h)) h.length [])) : Nat) : Int)))))],[],[999]⟩)
  (True ∧ (True ∧ (True ∧ True) ∧ True) ∧ True ∧ ((isObject s) = true → True) ∧ ((isObject s) = true → (True ∧ ((((isObject s) = true) ∧ True) ∧ True) ∧ True)) ∧ (True ∧ ((isObject s) = true → ((isObject s) = true) ∧ True) ∧ ((isObject s) = false → True)) ∧ True ∧ (((isObject s) && (validHistory h)) = true → True) ∧ (((isObject s) && (validHistory h)) = true → True) ∧ (((isObject s) && (validHistory h)) = true → True) ∧ (((isObject s) && (validHistory h)) = true → (True ∧ (((((isObject s) && (validHistory h)) = true) ∧ True) ∧ True) ∧ True)) ∧ (((isObject s) && (validHistory h)) = true → (True ∧ (((((isObject s) && (validHistory h)) = true) ∧ True) ∧ ((((isObject s) && (validHistory h)) = true) ∧ True) ∧ ((((isObject s) && (validHistory h)) = true) ∧ True) ∧ True) ∧ (isObject s = true) ∧ (validHistory h = true) ∧ ((quietAhead h) = rowsOf h.length (bitF (quietAhead h))))) ∧ (((isObject s) && (validHistory h)) = true → ((((isObject s) && (validHistory h)) = true) ∧ True)) ∧ (((isObject s) && (validHistory h)) = true → (((((isObject s) && (validHistory h)) = true) ∧ True) ∧ True ∧ True)) ∧ (True ∧ (((isObject s) && (validHistory h)) = true → (((isObject s) && (validHistory h)) = true) ∧ True) ∧ (((isObject s) && (validHistory h)) = false → True)) ∧ True ∧ True) (by kernel_rfl)
  ⟨tt,⟨tt,⟨tt,tt⟩,tt⟩,tt,(fun _ => trivial),(fun hG => ⟨tt,⟨⟨hG,tt⟩,tt⟩,tt⟩),⟨tt,(fun hp => ⟨hp,tt⟩),(fun _ => trivial)⟩,tt,(fun _ => trivial),(fun _ => trivial),(fun _ => trivial),(fun hG => ⟨tt,⟨⟨hG,tt⟩,tt⟩,tt⟩),(fun hG => ⟨tt,⟨⟨hG,tt⟩,⟨hG,tt⟩,⟨hG,tt⟩,tt⟩,(by exact and_l hG),(by exact and_r hG),(by exact quiet_rows (and_r hG))⟩),(fun hG => ⟨hG,tt⟩),(fun hG => ⟨⟨hG,tt⟩,tt,tt⟩),⟨tt,(fun hp => ⟨hp,tt⟩),(fun _ => trivial)⟩,tt,tt⟩ ?_
 refine W.ret ?_
 exact endQ_ret (.b (((isObject s) && (validHistory h)) && (decide ((0 : Int) < (((List.length (ordersF s h (bitF (quietAhead h)) h.length [])) : Nat) : Int))))) (by kernel_rfl) (@cast ((.bool (((isObject s) && (validHistory h)) && (decide ((0 : Int) < (((List.length (ordersF s h (bitF (quietAhead h)) h.length [])) : Nat) : Int)))) : Value) = .bool (explains s h (quietF h))) _ (by kernel_rfl) (congrArg Value.bool (by exact by_gt quiet_eq)))
theorem ent24 : Entr prog 24 := ⟨_,func24,rfl,by decide⟩
end Go.Proofs.Try

set_option linter.unusedSimpArgs false
set_option linter.unusedVariables false
namespace Go.Proofs.Try
open Go.Ab Go.RowKit
def pre36 : List AV → List AV → Prop := preP [.bytes] [] (fun (code,_) _ => True)
def rel36 : RelS := relP [.bytes] [] (ι := (List UInt8)) (fun (code,_) _ l => True) (fun (code,_) _ l => (.ptr 0 0,[⟨69,.fix [.sl (.bytes l),.i (0 : Int)]⟩],[]))
abbrev T36 : Tab := lk []
theorem tab36 : TabOK prog T36 := TabOK.nil
set_option maxRecDepth 100000 in
set_option maxHeartbeats 1000000 in
theorem rok36 : RelOK prog 36 none [.s .bytes] pre36 rel36 := by
 refine RelOK.mk cok func36 rfl rfl rfl ?_
 rintro ⟨(code : List UInt8),_⟩ _ hpre F hnt0
 have hnt : F.nt = 11 := hnt0.trans ntmps36
 clear hpre
 refine W.to (⟨[(0,.sl (.bytes code))],[],[998,999]⟩) rfl ?_
 refine W.K cok tab36 hnt [] [0] (⟨[(0,.sl (.bytes code))],[],[998,999]⟩)
  (True ∧ True) (by kernel_rfl)
  ⟨tt,tt⟩ ?_
 refine W.seq ?_
 refine W.K cok tab36 hnt [] [0,5] (⟨[(0,.sl (.bytes code)),(5,.b (decide ((2000 : Int) < (code.length : Int))))],[],[998,999]⟩)
  (True ∧ True ∧ (True ∧ True ∧ True) ∧ True) (by kernel_rfl)
  ⟨tt,tt,⟨tt,tt,tt⟩,tt⟩ ?_
 refine W.ifP ((2000 : Int) < (code.length : Int)) (.b (decide ((2000 : Int) < (code.length : Int)))) (by kernel_rfl) rfl trivial ?_ ?_
 ·intro h5
  refine W.L cok tab36 hnt [] (⟨[(0,.sl (.bytes (List.take 2000 code))),(5,.b (decide ((2000 : Int) < (code.length : Int)))),(6,.sl (.bytes code)),(7,.sl (.bytes (List.take 2000 code)))],[],[998,999]⟩)
   (True ∧ (True ∧ True ∧ True ∧ (0 ≤ (0 : Int)) ∧ ((0 : Int) ≤ (2000 : Int)) ∧ ((2000 : Int) ≤ (code.length : Int))) ∧ True ∧ True) (by kernel_rfl)
   ⟨tt,⟨tt,tt,tt,(by omega),(by omega),(by omega)⟩,tt,tt⟩ ?_
  refine thenQ_normal ?_
  refine W.K cok tab36 hnt [] [2] (⟨[(2,.ptr 10 0)],[(10,⟨69,.fix [.sl (.bytes (List.take 2000 code)),.i (0 : Int)]⟩)],[10,998,999]⟩)
   (True ∧ (True ∧ True) ∧ True ∧ True ∧ True) (by kernel_rfl)
   ⟨tt,⟨tt,tt⟩,tt,tt,tt⟩ ?_
  refine W.ret ?_
  exact endP_ret ((List.take 2000 code)) (show True from trivial) [(0,10)] (.ptr 10 0) (by kernel_rfl) (@cast ((((10 : Nat) = 10) ∧ (((0 : Nat) = 0) ∧ ((0 : Nat) ∈ ([0] : List Nat)))) ∧ (((((69 : Nat) = 69) ∧ ((((.bytes (List.take 2000 code) : Dat) = .bytes (List.take 2000 code)) ∧ (((.int .i64 (0 : Int) : Value) = .int .i64 (0 : Int)) ∧ True)) ∧ ((0 : Nat) ∈ ([0] : List Nat)))) ∧ True) ∧ ((true = true) ∧ (((([] : List Nat) = []) ∧ True) ∧ (false = true → (10 : Nat) = 998))))) _ (by kernel_rfl) ⟨⟨rfl,rfl,(by decide)⟩,⟨⟨rfl,⟨rfl,rfl,tt⟩,(by decide)⟩,tt⟩,rfl,⟨rfl,tt⟩,(fun h => by cases h)⟩)
 ·intro n5
  refine W.skip (thenQ_normal ?_)
  refine W.K cok tab36 hnt [] [2] (⟨[(2,.ptr 10 0)],[(10,⟨69,.fix [.sl (.bytes code),.i (0 : Int)]⟩)],[10,998,999]⟩)
   (True ∧ (True ∧ True) ∧ True ∧ True ∧ True) (by kernel_rfl)
   ⟨tt,⟨tt,tt⟩,tt,tt,tt⟩ ?_
  refine W.ret ?_
  exact endP_ret (code) (show True from trivial) [(0,10)] (.ptr 10 0) (by kernel_rfl) (@cast ((((10 : Nat) = 10) ∧ (((0 : Nat) = 0) ∧ ((0 : Nat) ∈ ([0] : List Nat)))) ∧ (((((69 : Nat) = 69) ∧ ((((.bytes code : Dat) = .bytes code) ∧ (((.int .i64 (0 : Int) : Value) = .int .i64 (0 : Int)) ∧ True)) ∧ ((0 : Nat) ∈ ([0] : List Nat)))) ∧ True) ∧ ((true = true) ∧ (((([] : List Nat) = []) ∧ True) ∧ (false = true → (10 : Nat) = 998))))) _ (by kernel_rfl) ⟨⟨rfl,rfl,(by decide)⟩,⟨⟨rfl,⟨rfl,rfl,tt⟩,(by decide)⟩,tt⟩,rfl,⟨rfl,tt⟩,(fun h => by cases h)⟩)
theorem ent36 : Entr prog 36 := ⟨_,func36,rfl,by decide⟩
end Go.Proofs.Try

set_option linter.unusedSimpArgs false
set_option linter.unusedVariables false
namespace Go.Proofs.Try
open Go.Ab Go.RowKit
def pre68 : List AV → List AV → Prop := preP [.int] [.bytes,.int] (fun (n,_) (l,p,_) => (0 ≤ p ∧ p ≤ 1000000))
def rel68 : RelS := relP [.int] [.bytes,.int] (ι := Int × Int) (fun (n,_) (l,p,_) (v,q) => (0 ≤ v ∧ v < max n 1) ∧ (q = p + 1)) (fun (n,_) (l,p,_) (v,q) => (.i v,[],[.sl (.bytes l),.i q]))
abbrev T68 : Tab := lk []
theorem tab68 : TabOK prog T68 := TabOK.nil
set_option maxRecDepth 100000 in
set_option maxHeartbeats 1000000 in
theorem rok68 : RelOK prog 68 (some 69) [.o] pre68 rel68 := by
 refine RelOK.mk cok func68 rfl rfl rfl ?_
 rintro ⟨(n : Int),_⟩ ⟨(l : List UInt8),(p : Int),_⟩ hpre F hnt0
 have hnt : F.nt = 99 := hnt0.trans ntmps68
 replace hpre : (0 ≤ p ∧ p ≤ 1000000) := hpre
 have hp := hpre
 refine W.to (⟨[(0,.ptr 998 0),(1,.i n)],[(998,⟨69,.fix [.sl (.bytes l),.i p]⟩)],[998,999]⟩) rfl ?_
 have hu : ∀ i : Nat,((UInt8.toNat (l.getD i default) : Nat) : Int) ≤ 255 := fun i => by have := (l.getD i default).toNat_lt; omega
 refine W.K cok tab68 hnt [] [0,1] (⟨[(0,.ptr 998 0),(1,.i n)],[(998,⟨69,.fix [.sl (.bytes l),.i p]⟩)],[998,999]⟩)
  (True ∧ True) (by kernel_rfl)
  ⟨tt,tt⟩ ?_
 refine W.K cok tab68 hnt [] [0,1] (⟨[(0,.ptr 998 0),(1,.i n)],[(998,⟨69,.fix [.sl (.bytes l),.i (p + (1 : Int))]⟩)],[998,999]⟩)
  (True ∧ True ∧ True ∧ True ∧ True ∧ (True ∧ True ∧ (Fits .i64 (p + (1 : Int)))) ∧ True ∧ True ∧ (True ∧ True) ∧ True) (by kernel_rfl)
  ⟨tt,tt,tt,tt,tt,⟨tt,tt,(by exact fits_i64 (by omega) (by omega))⟩,tt,tt,⟨tt,tt⟩,tt⟩ ?_
 refine W.seq ?_
 refine W.K cok tab68 hnt [] [0,1,24] (⟨[(0,.ptr 998 0),(1,.i n),(24,.b ((decide (n < (1 : Int))) || (decide ((l.length : Int) = (0 : Int)))))],[(998,⟨69,.fix [.sl (.bytes l),.i (p + (1 : Int))]⟩)],[998,999]⟩)
  (True ∧ (True ∧ True ∧ True) ∧ True ∧ ((!(decide (n < (1 : Int)))) = true → True) ∧ ((!(decide (n < (1 : Int)))) = true → (((!(decide (n < (1 : Int)))) = true) ∧ True)) ∧ ((!(decide (n < (1 : Int)))) = true → (((!(decide (n < (1 : Int)))) = true) ∧ True)) ∧ ((!(decide (n < (1 : Int)))) = true → (((!(decide (n < (1 : Int)))) = true) ∧ True)) ∧ ((!(decide (n < (1 : Int)))) = true → (((!(decide (n < (1 : Int)))) = true) ∧ True)) ∧ ((!(decide (n < (1 : Int)))) = true → ((((!(decide (n < (1 : Int)))) = true) ∧ True) ∧ True ∧ True)) ∧ (True ∧ ((decide (n < (1 : Int))) = true → True) ∧ ((decide (n < (1 : Int))) = false → ((!(decide (n < (1 : Int)))) = true) ∧ True)) ∧ True) (by kernel_rfl)
  ⟨tt,⟨tt,tt,tt⟩,tt,(fun _ => trivial),(fun hG => ⟨hG,tt⟩),(fun hG => ⟨hG,tt⟩),(fun hG => ⟨hG,tt⟩),(fun hG => ⟨hG,tt⟩),(fun hG => ⟨⟨hG,tt⟩,tt,tt⟩),⟨tt,(fun _ => trivial),(fun hp => ⟨(not_t hp),tt⟩)⟩,tt⟩ ?_
 refine W.if' ((decide (n < (1 : Int))) || (decide ((l.length : Int) = (0 : Int)))) (.b ((decide (n < (1 : Int))) || (decide ((l.length : Int) = (0 : Int))))) (by kernel_rfl) rfl trivial ?_ ?_
 ·intro h24
  refine W.K cok tab68 hnt [] [4] (⟨[(4,.i (0 : Int))],[(998,⟨69,.fix [.sl (.bytes l),.i (p + (1 : Int))]⟩)],[998,999]⟩)
   (True ∧ True) (by kernel_rfl)
   ⟨tt,tt⟩ ?_
  refine W.ret (thenQ_ret ?_)
  exact endP_ret ((0 : Int),(p + (1 : Int))) (show (0 ≤ (0 : Int) ∧ (0 : Int) < max n 1) ∧ ((p + (1 : Int)) = p + 1) from ⟨(by omega),(by first | assumption | omega | rfl | (simp; done) | (simp; omega))⟩) [(0,998)] (.i (0 : Int)) (by kernel_rfl) (@cast (((.int .i64 (0 : Int) : Value) = .int .i64 (0 : Int)) ∧ (((((69 : Nat) = 69) ∧ ((((.bytes l : Dat) = .bytes l) ∧ (((.int .i64 (p + (1 : Int)) : Value) = .int .i64 (p + (1 : Int))) ∧ True)) ∧ ((0 : Nat) ∈ ([0] : List Nat)))) ∧ True) ∧ ((true = true) ∧ (((([] : List Nat) = []) ∧ True) ∧ (true = true → (998 : Nat) = 998))))) _ (by kernel_rfl) ⟨rfl,⟨⟨rfl,⟨rfl,rfl,tt⟩,(by decide)⟩,tt⟩,rfl,⟨rfl,tt⟩,(fun _ => rfl)⟩)
 ·intro n24
  have n24_0 : ¬ (n < (1 : Int)) := of_decide_eq_false (or_l n24)
  have n24_1 : ¬ ((l.length : Int) = (0 : Int)) := of_decide_eq_false (or_r n24)
  refine W.skip (thenQ_normal ?_)
  refine W.K cok tab68 hnt [] [0,1,5] (⟨[(0,.ptr 998 0),(1,.i n),(5,.i ((p + (1 : Int)) - (1 : Int)))],[(998,⟨69,.fix [.sl (.bytes l),.i (p + (1 : Int))]⟩)],[998,999]⟩)
   (True ∧ True ∧ True ∧ True ∧ (True ∧ True ∧ (Fits .i64 ((p + (1 : Int)) - (1 : Int)))) ∧ True ∧ True) (by kernel_rfl)
   ⟨tt,tt,tt,tt,⟨tt,tt,(by exact fits_i64 (by omega) (by omega))⟩,tt,tt⟩ ?_
  refine W.seq ?_
  refine W.K cok tab68 hnt [] [0,1,5,36] (⟨[(0,.ptr 998 0),(1,.i n),(5,.i ((p + (1 : Int)) - (1 : Int))),(36,.b (decide (((p + (1 : Int)) - (1 : Int)) < (l.length : Int))))],[(998,⟨69,.fix [.sl (.bytes l),.i (p + (1 : Int))]⟩)],[998,999]⟩)
   (True ∧ True ∧ True ∧ True ∧ True ∧ True ∧ (True ∧ True ∧ True) ∧ True) (by kernel_rfl)
   ⟨tt,tt,tt,tt,tt,tt,⟨tt,tt,tt⟩,tt⟩ ?_
  refine W.ifP (((p + (1 : Int)) - (1 : Int)) < (l.length : Int)) (.b (decide (((p + (1 : Int)) - (1 : Int)) < (l.length : Int)))) (by kernel_rfl) rfl trivial ?_ ?_
  ·intro h36
   have hu1 := hu (Int.toNat (p + 1 - 1))
   refine W.K cok tab68 hnt [] [4] (⟨[(4,.i (Int.tmod (((UInt8.toNat (l.getD (Int.toNat ((p + (1 : Int)) - (1 : Int))) default)) : Nat) : Int) n))],[(998,⟨69,.fix [.sl (.bytes l),.i (p + (1 : Int))]⟩)],[998,999]⟩)
    (True ∧ True ∧ True ∧ True ∧ True ∧ (True ∧ True ∧ (0 ≤ ((p + (1 : Int)) - (1 : Int))) ∧ (((p + (1 : Int)) - (1 : Int)) < (l.length : Int))) ∧ True ∧ (True ∧ (Fits .i64 (((UInt8.toNat (l.getD (Int.toNat ((p + (1 : Int)) - (1 : Int))) default)) : Nat) : Int))) ∧ True ∧ (True ∧ True ∧ (n ≠ 0)) ∧ True ∧ True) (by kernel_rfl)
    ⟨tt,tt,tt,tt,tt,⟨tt,tt,(by omega),(by omega)⟩,tt,⟨tt,(by exact fits_i64 (by (first | omega | (simp only [List.length_append,List.length_cons,List.length_nil,List.length_take,List.length_drop,List.length_set,List.length_replicate,List.length_map] at *; omega) | assumption)) (by (first | omega | (simp only [List.length_append,List.length_cons,List.length_nil,List.length_take,List.length_drop,List.length_set,List.length_replicate,List.length_map] at *; omega) | assumption)))⟩,tt,⟨tt,tt,(by omega)⟩,tt,tt⟩ ?_
   refine W.ret (thenQ_ret ?_)
   exact endP_ret ((Int.tmod (((UInt8.toNat (l.getD (Int.toNat ((p + (1 : Int)) - (1 : Int))) default)) : Nat) : Int) n),(p + (1 : Int))) (show (0 ≤ (Int.tmod (((UInt8.toNat (l.getD (Int.toNat ((p + (1 : Int)) - (1 : Int))) default)) : Nat) : Int) n) ∧ (Int.tmod (((UInt8.toNat (l.getD (Int.toNat ((p + (1 : Int)) - (1 : Int))) default)) : Nat) : Int) n) < max n 1) ∧ ((p + (1 : Int)) = p + 1) from ⟨(by exact ⟨Int.tmod_nonneg _ (by omega),by have := Int.tmod_lt_of_pos ((UInt8.toNat (l.getD (Int.toNat (p + 1 - 1)) default) : Nat) : Int) (show 0 < n by omega); omega⟩),(by first | assumption | omega | rfl | (simp; done) | (simp; omega))⟩) [(0,998)] (.i (Int.tmod (((UInt8.toNat (l.getD (Int.toNat ((p + (1 : Int)) - (1 : Int))) default)) : Nat) : Int) n)) (by kernel_rfl) (@cast (((.int .i64 (Int.tmod (((UInt8.toNat (l.getD (Int.toNat ((p + (1 : Int)) - (1 : Int))) default)) : Nat) : Int) n) : Value) = .int .i64 (Int.tmod (((UInt8.toNat (l.getD (Int.toNat ((p + (1 : Int)) - (1 : Int))) default)) : Nat) : Int) n)) ∧ (((((69 : Nat) = 69) ∧ ((((.bytes l : Dat) = .bytes l) ∧ (((.int .i64 (p + (1 : Int)) : Value) = .int .i64 (p + (1 : Int))) ∧ True)) ∧ ((0 : Nat) ∈ ([0] : List Nat)))) ∧ True) ∧ ((true = true) ∧ (((([] : List Nat) = []) ∧ True) ∧ (true = true → (998 : Nat) = 998))))) _ (by kernel_rfl) ⟨rfl,⟨⟨rfl,⟨rfl,rfl,tt⟩,(by decide)⟩,tt⟩,rfl,⟨rfl,tt⟩,(fun _ => rfl)⟩)
  ·intro n36
   refine W.skip (thenQ_normal ?_)
   have hl0 : 0 < (List.length l : Int) := by omega
   have hm1 := Int.tmod_lt_of_pos (p + 1 - 1) hl0
   have hm2 := Int.tmod_nonneg (List.length l : Int) (show 0 ≤ p + 1 - 1 by omega)
   have hm3 := Int.tmod_lt_of_pos ((p + 1 - 1) * 7 + 3) hl0
   have hm4 := Int.tmod_nonneg (List.length l : Int) (show 0 ≤ (p + 1 - 1) * 7 + 3 by omega)
   have hd1 : 0 ≤ Int.tdiv (p + 1 - 1) (List.length l : Int) := Int.tdiv_nonneg (by omega) (by omega)
   have hd2 : Int.tdiv (p + 1 - 1) (List.length l : Int) ≤ p + 1 - 1 := Int.tdiv_le_self _ (by omega)
   have hu2 := hu (Int.toNat (Int.tmod (p + 1 - 1) (List.length l : Int)))
   have hu3 := hu (Int.toNat (Int.tmod ((p + 1 - 1) * 7 + 3) (List.length l : Int)))
   refine W.KA cok tab68 hnt [] [1,6] (⟨[(1,.i n),(6,.i (((((((UInt8.toNat (l.getD (Int.toNat (Int.tmod ((p + (1 : Int)) - (1 : Int)) (l.length : Int))) default)) : Nat) : Int) * (131 : Int)) + ((((UInt8.toNat (l.getD (Int.toNat (Int.tmod ((((p + (1 : Int)) - (1 : Int)) * (7 : Int)) + (3 : Int)) (l.length : Int))) default)) : Nat) : Int) * (1117 : Int))) + (((p + (1 : Int)) - (1 : Int)) * (29 : Int))) + ((Int.tdiv ((p + (1 : Int)) - (1 : Int)) (l.length : Int)) * (53 : Int))))],[(998,⟨69,.fix [.sl (.bytes l),.i (p + (1 : Int))]⟩)],[998,999]⟩)
    (True ∧ True ∧ True ∧ True ∧ True ∧ True ∧ True ∧ True ∧ True ∧ True ∧ (True ∧ True ∧ ((l.length : Int) ≠ 0)) ∧ (True ∧ True ∧ (0 ≤ (Int.tmod ((p + (1 : Int)) - (1 : Int)) (l.length : Int))) ∧ ((Int.tmod ((p + (1 : Int)) - (1 : Int)) (l.length : Int)) < (l.length : Int))) ∧ True ∧ (True ∧ (Fits .i64 (((UInt8.toNat (l.getD (Int.toNat (Int.tmod ((p + (1 : Int)) - (1 : Int)) (l.length : Int))) default)) : Nat) : Int))) ∧ (True ∧ True ∧ (Fits .i64 ((((UInt8.toNat (l.getD (Int.toNat (Int.tmod ((p + (1 : Int)) - (1 : Int)) (l.length : Int))) default)) : Nat) : Int) * (131 : Int)))) ∧ True ∧ True ∧ True ∧ True ∧ True ∧ (True ∧ True ∧ (Fits .i64 (((p + (1 : Int)) - (1 : Int)) * (7 : Int)))) ∧ (True ∧ True ∧ (Fits .i64 ((((p + (1 : Int)) - (1 : Int)) * (7 : Int)) + (3 : Int)))) ∧ True ∧ True ∧ True ∧ True ∧ True ∧ (True ∧ True ∧ ((l.length : Int) ≠ 0)) ∧ (True ∧ True ∧ (0 ≤ (Int.tmod ((((p + (1 : Int)) - (1 : Int)) * (7 : Int)) + (3 : Int)) (l.length : Int))) ∧ ((Int.tmod ((((p + (1 : Int)) - (1 : Int)) * (7 : Int)) + (3 : Int)) (l.length : Int)) < (l.length : Int))) ∧ True ∧ (True ∧ (Fits .i64 (((UInt8.toNat (l.getD (Int.toNat (Int.tmod ((((p + (1 : Int)) - (1 : Int)) * (7 : Int)) + (3 : Int)) (l.length : Int))) default)) : Nat) : Int))) ∧ (True ∧ True ∧ (Fits .i64 ((((UInt8.toNat (l.getD (Int.toNat (Int.tmod ((((p + (1 : Int)) - (1 : Int)) * (7 : Int)) + (3 : Int)) (l.length : Int))) default)) : Nat) : Int) * (1117 : Int)))) ∧ (True ∧ True ∧ (Fits .i64 (((((UInt8.toNat (l.getD (Int.toNat (Int.tmod ((p + (1 : Int)) - (1 : Int)) (l.length : Int))) default)) : Nat) : Int) * (131 : Int)) + ((((UInt8.toNat (l.getD (Int.toNat (Int.tmod ((((p + (1 : Int)) - (1 : Int)) * (7 : Int)) + (3 : Int)) (l.length : Int))) default)) : Nat) : Int) * (1117 : Int))))) ∧ True ∧ (True ∧ True ∧ (Fits .i64 (((p + (1 : Int)) - (1 : Int)) * (29 : Int)))) ∧ (True ∧ True ∧ (Fits .i64 ((((((UInt8.toNat (l.getD (Int.toNat (Int.tmod ((p + (1 : Int)) - (1 : Int)) (l.length : Int))) default)) : Nat) : Int) * (131 : Int)) + ((((UInt8.toNat (l.getD (Int.toNat (Int.tmod ((((p + (1 : Int)) - (1 : Int)) * (7 : Int)) + (3 : Int)) (l.length : Int))) default)) : Nat) : Int) * (1117 : Int))) + (((p + (1 : Int)) - (1 : Int)) * (29 : Int))))) ∧ True ∧ True ∧ True ∧ True ∧ True ∧ True ∧ (True ∧ True ∧ ((l.length : Int) ≠ 0) ∧ (Fits .i64 (Int.tdiv ((p + (1 : Int)) - (1 : Int)) (l.length : Int)))) ∧ (True ∧ True ∧ (Fits .i64 ((Int.tdiv ((p + (1 : Int)) - (1 : Int)) (l.length : Int)) * (53 : Int)))) ∧ (True ∧ True ∧ (Fits .i64 (((((((UInt8.toNat (l.getD (Int.toNat (Int.tmod ((p + (1 : Int)) - (1 : Int)) (l.length : Int))) default)) : Nat) : Int) * (131 : Int)) + ((((UInt8.toNat (l.getD (Int.toNat (Int.tmod ((((p + (1 : Int)) - (1 : Int)) * (7 : Int)) + (3 : Int)) (l.length : Int))) default)) : Nat) : Int) * (1117 : Int))) + (((p + (1 : Int)) - (1 : Int)) * (29 : Int))) + ((Int.tdiv ((p + (1 : Int)) - (1 : Int)) (l.length : Int)) * (53 : Int))))) ∧ True ∧ True) (by kernel_rfl) (by kernel_rfl)
    ⟨tt,tt,tt,tt,tt,tt,tt,tt,tt,tt,⟨tt,tt,(by omega)⟩,⟨tt,tt,(by omega),(by omega)⟩,tt,⟨tt,(by exact fits_i64 (by (first | omega | (simp only [List.length_append,List.length_cons,List.length_nil,List.length_take,List.length_drop,List.length_set,List.length_replicate,List.length_map] at *; omega) | assumption)) (by (first | omega | (simp only [List.length_append,List.length_cons,List.length_nil,List.length_take,List.length_drop,List.length_set,List.length_replicate,List.length_map] at *; omega) | assumption)))⟩,⟨tt,tt,(by exact fits_i64 (by (first | omega | (simp only [List.length_append,List.length_cons,List.length_nil,List.length_take,List.length_drop,List.length_set,List.length_replicate,List.length_map] at *; omega) | assumption)) (by (first | omega | (simp only [List.length_append,List.length_cons,List.length_nil,List.length_take,List.length_drop,List.length_set,List.length_replicate,List.length_map] at *; omega) | assumption)))⟩,tt,tt,tt,tt,tt,⟨tt,tt,(by exact fits_i64 (by omega) (by omega))⟩,⟨tt,tt,(by exact fits_i64 (by omega) (by omega))⟩,tt,tt,tt,tt,tt,⟨tt,tt,(by omega)⟩,⟨tt,tt,(by omega),(by omega)⟩,tt,⟨tt,(by exact fits_i64 (by (first | omega | (simp only [List.length_append,List.length_cons,List.length_nil,List.length_take,List.length_drop,List.length_set,List.length_replicate,List.length_map] at *; omega) | assumption)) (by (first | omega | (simp only [List.length_append,List.length_cons,List.length_nil,List.length_take,List.length_drop,List.length_set,List.length_replicate,List.length_map] at *; omega) | assumption)))⟩,⟨tt,tt,(by exact fits_i64 (by (first | omega | (simp only [List.length_append,List.length_cons,List.length_nil,List.length_take,List.length_drop,List.length_set,List.length_replicate,List.length_map] at *; omega) | assumption)) (by (first | omega | (simp only [List.length_append,List.length_cons,List.length_nil,List.length_take,List.length_drop,List.length_set,List.length_replicate,List.length_map] at *; omega) | assumption)))⟩,⟨tt,tt,(by exact fits_i64 (by (first | omega | (simp only [List.length_append,List.length_cons,List.length_nil,List.length_take,List.length_drop,List.length_set,List.length_replicate,List.length_map] at *; omega) | assumption)) (by (first | omega | (simp only [List.length_append,List.length_cons,List.length_nil,List.length_take,List.length_drop,List.length_set,List.length_replicate,List.length_map] at *; omega) | assumption)))⟩,tt,⟨tt,tt,(by exact fits_i64 (by omega) (by omega))⟩,⟨tt,tt,(by exact fits_i64 (by (first | omega | (simp only [List.length_append,List.length_cons,List.length_nil,List.length_take,List.length_drop,List.length_set,List.length_replicate,List.length_map] at *; omega) | assumption)) (by (first | omega | (simp only [List.length_append,List.length_cons,List.length_nil,List.length_take,List.length_drop,List.length_set,List.length_replicate,List.length_map] at *; omega) | assumption)))⟩,tt,tt,tt,tt,tt,tt,⟨tt,tt,(by omega),(by exact fits_i64 (by omega) (by omega))⟩,⟨tt,tt,(by exact fits_i64 (by omega) (by omega))⟩,⟨tt,tt,(by exact fits_i64 (by (first | omega | (simp only [List.length_append,List.length_cons,List.length_nil,List.length_take,List.length_drop,List.length_set,List.length_replicate,List.length_map] at *; omega) | assumption)) (by (first | omega | (simp only [List.length_append,List.length_cons,List.length_nil,List.length_take,List.length_drop,List.length_set,List.length_replicate,List.length_map] at *; omega) | assumption)))⟩,tt,tt⟩ ?_
   refine W.K cok tab68 hnt [] [1,6] (⟨[(1,.i n),(6,.i (bitsI .xor .i64 (((((((UInt8.toNat (l.getD (Int.toNat (Int.tmod ((p + (1 : Int)) - (1 : Int)) (l.length : Int))) default)) : Nat) : Int) * (131 : Int)) + ((((UInt8.toNat (l.getD (Int.toNat (Int.tmod ((((p + (1 : Int)) - (1 : Int)) * (7 : Int)) + (3 : Int)) (l.length : Int))) default)) : Nat) : Int) * (1117 : Int))) + (((p + (1 : Int)) - (1 : Int)) * (29 : Int))) + ((Int.tdiv ((p + (1 : Int)) - (1 : Int)) (l.length : Int)) * (53 : Int))) (Int.tdiv (((((((UInt8.toNat (l.getD (Int.toNat (Int.tmod ((p + (1 : Int)) - (1 : Int)) (l.length : Int))) default)) : Nat) : Int) * (131 : Int)) + ((((UInt8.toNat (l.getD (Int.toNat (Int.tmod ((((p + (1 : Int)) - (1 : Int)) * (7 : Int)) + (3 : Int)) (l.length : Int))) default)) : Nat) : Int) * (1117 : Int))) + (((p + (1 : Int)) - (1 : Int)) * (29 : Int))) + ((Int.tdiv ((p + (1 : Int)) - (1 : Int)) (l.length : Int)) * (53 : Int))) (64 : Int))))],[(998,⟨69,.fix [.sl (.bytes l),.i (p + (1 : Int))]⟩)],[998,999]⟩)
    (True ∧ True ∧ (True ∧ True ∧ ((64 : Int) ≠ 0) ∧ (Fits .i64 (Int.tdiv (((((((UInt8.toNat (l.getD (Int.toNat (Int.tmod ((p + (1 : Int)) - (1 : Int)) (l.length : Int))) default)) : Nat) : Int) * (131 : Int)) + ((((UInt8.toNat (l.getD (Int.toNat (Int.tmod ((((p + (1 : Int)) - (1 : Int)) * (7 : Int)) + (3 : Int)) (l.length : Int))) default)) : Nat) : Int) * (1117 : Int))) + (((p + (1 : Int)) - (1 : Int)) * (29 : Int))) + ((Int.tdiv ((p + (1 : Int)) - (1 : Int)) (l.length : Int)) * (53 : Int))) (64 : Int)))) ∧ (True ∧ True ∧ True) ∧ True ∧ True) (by kernel_rfl)
    ⟨tt,tt,⟨tt,tt,(by decide),(by exact fits_i64 (Int.le_trans (by omega) (Int.tdiv_nonneg (by omega) (by omega))) (Int.le_trans (Int.tdiv_le_self _ (by omega)) (by omega)))⟩,⟨tt,tt,tt⟩,tt,tt⟩ ?_
   refine W.K cok tab68 hnt [] [4] (⟨[(4,.i (Int.tmod (bitsI .xor .i64 (((((((UInt8.toNat (l.getD (Int.toNat (Int.tmod ((p + (1 : Int)) - (1 : Int)) (l.length : Int))) default)) : Nat) : Int) * (131 : Int)) + ((((UInt8.toNat (l.getD (Int.toNat (Int.tmod ((((p + (1 : Int)) - (1 : Int)) * (7 : Int)) + (3 : Int)) (l.length : Int))) default)) : Nat) : Int) * (1117 : Int))) + (((p + (1 : Int)) - (1 : Int)) * (29 : Int))) + ((Int.tdiv ((p + (1 : Int)) - (1 : Int)) (l.length : Int)) * (53 : Int))) (Int.tdiv (((((((UInt8.toNat (l.getD (Int.toNat (Int.tmod ((p + (1 : Int)) - (1 : Int)) (l.length : Int))) default)) : Nat) : Int) * (131 : Int)) + ((((UInt8.toNat (l.getD (Int.toNat (Int.tmod ((((p + (1 : Int)) - (1 : Int)) * (7 : Int)) + (3 : Int)) (l.length : Int))) default)) : Nat) : Int) * (1117 : Int))) + (((p + (1 : Int)) - (1 : Int)) * (29 : Int))) + ((Int.tdiv ((p + (1 : Int)) - (1 : Int)) (l.length : Int)) * (53 : Int))) (64 : Int))) n))],[(998,⟨69,.fix [.sl (.bytes l),.i (p + (1 : Int))]⟩)],[998,999]⟩)
    (True ∧ True ∧ (True ∧ True ∧ (n ≠ 0)) ∧ True ∧ True) (by kernel_rfl)
    ⟨tt,tt,⟨tt,tt,(by omega)⟩,tt,tt⟩ ?_
   refine W.ret ?_
   exact endP_ret ((Int.tmod (bitsI .xor .i64 (((((((UInt8.toNat (l.getD (Int.toNat (Int.tmod ((p + (1 : Int)) - (1 : Int)) (l.length : Int))) default)) : Nat) : Int) * (131 : Int)) + ((((UInt8.toNat (l.getD (Int.toNat (Int.tmod ((((p + (1 : Int)) - (1 : Int)) * (7 : Int)) + (3 : Int)) (l.length : Int))) default)) : Nat) : Int) * (1117 : Int))) + (((p + (1 : Int)) - (1 : Int)) * (29 : Int))) + ((Int.tdiv ((p + (1 : Int)) - (1 : Int)) (l.length : Int)) * (53 : Int))) (Int.tdiv (((((((UInt8.toNat (l.getD (Int.toNat (Int.tmod ((p + (1 : Int)) - (1 : Int)) (l.length : Int))) default)) : Nat) : Int) * (131 : Int)) + ((((UInt8.toNat (l.getD (Int.toNat (Int.tmod ((((p + (1 : Int)) - (1 : Int)) * (7 : Int)) + (3 : Int)) (l.length : Int))) default)) : Nat) : Int) * (1117 : Int))) + (((p + (1 : Int)) - (1 : Int)) * (29 : Int))) + ((Int.tdiv ((p + (1 : Int)) - (1 : Int)) (l.length : Int)) * (53 : Int))) (64 : Int))) n),(p + (1 : Int))) (show (0 ≤ (Int.tmod (bitsI .xor .i64 (((((((UInt8.toNat (l.getD (Int.toNat (Int.tmod ((p + (1 : Int)) - (1 : Int)) (l.length : Int))) default)) : Nat) : Int) * (131 : Int)) + ((((UInt8.toNat (l.getD (Int.toNat (Int.tmod ((((p + (1 : Int)) - (1 : Int)) * (7 : Int)) + (3 : Int)) (l.length : Int))) default)) : Nat) : Int) * (1117 : Int))) + (((p + (1 : Int)) - (1 : Int)) * (29 : Int))) + ((Int.tdiv ((p + (1 : Int)) - (1 : Int)) (l.length : Int)) * (53 : Int))) (Int.tdiv (((((((UInt8.toNat (l.getD (Int.toNat (Int.tmod ((p + (1 : Int)) - (1 : Int)) (l.length : Int))) default)) : Nat) : Int) * (131 : Int)) + ((((UInt8.toNat (l.getD (Int.toNat (Int.tmod ((((p + (1 : Int)) - (1 : Int)) * (7 : Int)) + (3 : Int)) (l.length : Int))) default)) : Nat) : Int) * (1117 : Int))) + (((p + (1 : Int)) - (1 : Int)) * (29 : Int))) + ((Int.tdiv ((p + (1 : Int)) - (1 : Int)) (l.length : Int)) * (53 : Int))) (64 : Int))) n) ∧ (Int.tmod (bitsI .xor .i64 (((((((UInt8.toNat (l.getD (Int.toNat (Int.tmod ((p + (1 : Int)) - (1 : Int)) (l.length : Int))) default)) : Nat) : Int) * (131 : Int)) + ((((UInt8.toNat (l.getD (Int.toNat (Int.tmod ((((p + (1 : Int)) - (1 : Int)) * (7 : Int)) + (3 : Int)) (l.length : Int))) default)) : Nat) : Int) * (1117 : Int))) + (((p + (1 : Int)) - (1 : Int)) * (29 : Int))) + ((Int.tdiv ((p + (1 : Int)) - (1 : Int)) (l.length : Int)) * (53 : Int))) (Int.tdiv (((((((UInt8.toNat (l.getD (Int.toNat (Int.tmod ((p + (1 : Int)) - (1 : Int)) (l.length : Int))) default)) : Nat) : Int) * (131 : Int)) + ((((UInt8.toNat (l.getD (Int.toNat (Int.tmod ((((p + (1 : Int)) - (1 : Int)) * (7 : Int)) + (3 : Int)) (l.length : Int))) default)) : Nat) : Int) * (1117 : Int))) + (((p + (1 : Int)) - (1 : Int)) * (29 : Int))) + ((Int.tdiv ((p + (1 : Int)) - (1 : Int)) (l.length : Int)) * (53 : Int))) (64 : Int))) n) < max n 1) ∧ ((p + (1 : Int)) = p + 1) from ⟨(by exact ⟨Int.tmod_nonneg _ (xor_nonneg (by omega) (Int.tdiv_nonneg (by omega) (by omega)) (by omega) (Int.le_trans (Int.tdiv_le_self _ (by omega)) (by omega))),by refine Int.lt_of_lt_of_le (Int.tmod_lt_of_pos _ (show 0 < n by omega)) (by omega)⟩),(by first | assumption | omega | rfl | (simp; done) | (simp; omega))⟩) [(0,998)] (.i (Int.tmod (bitsI .xor .i64 (((((((UInt8.toNat (l.getD (Int.toNat (Int.tmod ((p + (1 : Int)) - (1 : Int)) (l.length : Int))) default)) : Nat) : Int) * (131 : Int)) + ((((UInt8.toNat (l.getD (Int.toNat (Int.tmod ((((p + (1 : Int)) - (1 : Int)) * (7 : Int)) + (3 : Int)) (l.length : Int))) default)) : Nat) : Int) * (1117 : Int))) + (((p + (1 : Int)) - (1 : Int)) * (29 : Int))) + ((Int.tdiv ((p + (1 : Int)) - (1 : Int)) (l.length : Int)) * (53 : Int))) (Int.tdiv (((((((UInt8.toNat (l.getD (Int.toNat (Int.tmod ((p + (1 : Int)) - (1 : Int)) (l.length : Int))) default)) : Nat) : Int) * (131 : Int)) + ((((UInt8.toNat (l.getD (Int.toNat (Int.tmod ((((p + (1 : Int)) - (1 : Int)) * (7 : Int)) + (3 : Int)) (l.length : Int))) default)) : Nat) : Int) * (1117 : Int))) + (((p + (1 : Int)) - (1 : Int)) * (29 : Int))) + ((Int.tdiv ((p + (1 : Int)) - (1 : Int)) (l.length : Int)) * (53 : Int))) (64 : Int))) n)) (by kernel_rfl) (@cast (((.int .i64 (Int.tmod (bitsI .xor .i64 (((((((UInt8.toNat (l.getD (Int.toNat (Int.tmod ((p + (1 : Int)) - (1 : Int)) (l.length : Int))) default)) : Nat) : Int) * (131 : Int)) + ((((UInt8.toNat (l.getD (Int.toNat (Int.tmod ((((p + (1 : Int)) - (1 : Int)) * (7 : Int)) + (3 : Int)) (l.length : Int))) default)) : Nat) : Int) * (1117 : Int))) + (((p + (1 : Int)) - (1 : Int)) * (29 : Int))) + ((Int.tdiv ((p + (1 : Int)) - (1 : Int)) (l.length : Int)) * (53 : Int))) (Int.tdiv (((((((UInt8.toNat (l.getD (Int.toNat (Int.tmod ((p + (1 : Int)) - (1 : Int)) (l.length : Int))) default)) : Nat) : Int) * (131 : Int)) + ((((UInt8.toNat (l.getD (Int.toNat (Int.tmod ((((p + (1 : Int)) - (1 : Int)) * (7 : Int)) + (3 : Int)) (l.length : Int))) default)) : Nat) : Int) * (1117 : Int))) + (((p + (1 : Int)) - (1 : Int)) * (29 : Int))) + ((Int.tdiv ((p + (1 : Int)) - (1 : Int)) (l.length : Int)) * (53 : Int))) (64 : Int))) n) : Value) = .int .i64 (Int.tmod (bitsI .xor .i64 (((((((UInt8.toNat (l.getD (Int.toNat (Int.tmod ((p + (1 : Int)) - (1 : Int)) (l.length : Int))) default)) : Nat) : Int) * (131 : Int)) + ((((UInt8.toNat (l.getD (Int.toNat (Int.tmod ((((p + (1 : Int)) - (1 : Int)) * (7 : Int)) + (3 : Int)) (l.length : Int))) default)) : Nat) : Int) * (1117 : Int))) + (((p + (1 : Int)) - (1 : Int)) * (29 : Int))) + ((Int.tdiv ((p + (1 : Int)) - (1 : Int)) (l.length : Int)) * (53 : Int))) (Int.tdiv (((((((UInt8.toNat (l.getD (Int.toNat (Int.tmod ((p + (1 : Int)) - (1 : Int)) (l.length : Int))) default)) : Nat) : Int) * (131 : Int)) + ((((UInt8.toNat (l.getD (Int.toNat (Int.tmod ((((p + (1 : Int)) - (1 : Int)) * (7 : Int)) + (3 : Int)) (l.length : Int))) default)) : Nat) : Int) * (1117 : Int))) + (((p + (1 : Int)) - (1 : Int)) * (29 : Int))) + ((Int.tdiv ((p + (1 : Int)) - (1 : Int)) (l.length : Int)) * (53 : Int))) (64 : Int))) n)) ∧ (((((69 : Nat) = 69) ∧ ((((.bytes l : Dat) = .bytes l) ∧ (((.int .i64 (p + (1 : Int)) : Value) = .int .i64 (p + (1 : Int))) ∧ True)) ∧ ((0 : Nat) ∈ ([0] : List Nat)))) ∧ True) ∧ ((true = true) ∧ (((([] : List Nat) = []) ∧ True) ∧ (true = true → (998 : Nat) = 998))))) _ (by kernel_rfl) ⟨rfl,⟨⟨rfl,⟨rfl,rfl,tt⟩,(by decide)⟩,tt⟩,rfl,⟨rfl,tt⟩,(fun _ => rfl)⟩)
theorem ent68 : Entr prog 68 := ⟨_,func68,rfl,by decide⟩
end Go.Proofs.Try

set_option linter.unusedSimpArgs false
set_option linter.unusedVariables false
namespace Go.Proofs.Try
open Go.Ab Go.RowKit
def pre84 : List AV → List AV → Prop := preP [.strs] [.bytes,.int] (fun (xs,_) (l,p,_) => (0 ≤ p ∧ p ≤ 1000000) ∧ (0 < xs.length) ∧ (xs.length ≤ 1000))
def rel84 : RelS := relP [.strs] [.bytes,.int] (ι := ByteArray × Int) (fun (xs,_) (l,p,_) (v,q) => (v ∈ xs) ∧ (q = p + 1)) (fun (xs,_) (l,p,_) (v,q) => (.v (.string v),[],[.sl (.bytes l),.i q]))
abbrev T84 : Tab := lk []
theorem tab84 : TabOK prog T84 := TabOK.nil
set_option maxRecDepth 100000 in
set_option maxHeartbeats 1000000 in
theorem rok84 : RelOK prog 84 (some 69) [.s .strs] pre84 rel84 := by
 refine RelOK.mk cok func84 rfl rfl rfl ?_
 rintro ⟨(xs : List ByteArray),_⟩ ⟨(l : List UInt8),(p : Int),_⟩ hpre F hnt0
 have hnt : F.nt = 12 := hnt0.trans ntmps84
 replace hpre : (0 ≤ p ∧ p ≤ 1000000) ∧ (0 < xs.length) ∧ (xs.length ≤ 1000) := hpre
 obtain ⟨hp,hx,hx2⟩ := hpre
 refine W.to (⟨[(0,.ptr 998 0),(1,.sl (.strs xs))],[(998,⟨69,.fix [.sl (.bytes l),.i p]⟩)],[998,999]⟩) rfl ?_
 refine W.K cok tab84 hnt [] [0,1] (⟨[(0,.ptr 998 0),(1,.sl (.strs xs))],[(998,⟨69,.fix [.sl (.bytes l),.i p]⟩)],[998,999]⟩)
  (True ∧ True) (by kernel_rfl)
  ⟨tt,tt⟩ ?_
 refine W.seq (W.wi ?_)
 refine WI.runT cok tab84 hnt [] 4 4 (⟨[(0,.ptr 998 0),(1,.sl (.strs xs)),(5,.sl (.strs xs)),(6,.ptr 998 0),(7,.sl (.strs xs)),(8,.i (xs.length : Int))],[(998,⟨69,.fix [.sl (.bytes l),.i p]⟩)],[998,999]⟩)
  (True ∧ True ∧ True ∧ True ∧ True) (by kernel_rfl) rfl
  ⟨tt,tt,tt,tt,tt⟩ ?_
 refine WI.call [.ptr 998 0,.i (xs.length : Int)] [.sl (.bytes l),.i p] [.i (xs.length : Int)] [.i (xs.length : Int)] (some (69,998)) (True) (True ∧ True) none rok68 ent68 hnt rfl rfl (wanted_none rfl) (by kernel_rfl) (by kernel_rfl) (by kernel_rfl) ⟨tt,tt,tt⟩
  (@cast (0 ≤ p ∧ p ≤ 1000000) _ (by kernel_rfl) (by omega)) (Or.inl rfl) rfl ?_
 rintro r bl fx2 hR
 obtain ⟨⟨v9,q9⟩,hq9,rfl,rfl,rfl⟩ := (@cast _ (∃ x : Int × Int,((0 ≤ x.1 ∧ x.1 < max (xs.length : Int) 1) ∧ (x.2 = p + 1)) ∧ r = (.i x.1) ∧ bl = ([]) ∧ fx2 = ([.sl (.bytes l),.i x.2])) (by kernel_rfl) hR)
 clear hR
 replace hq9 : (0 ≤ v9 ∧ v9 < max (xs.length : Int) 1) ∧ (q9 = p + 1) := hq9
 obtain ⟨hv9,hq19⟩ := hq9
 refine ⟨by kernel_rfl,WI.to (⟨[(0,.ptr 998 0),(1,.sl (.strs xs)),(5,.sl (.strs xs)),(6,.ptr 998 0),(7,.sl (.strs xs)),(8,.i (xs.length : Int)),(9,.i v9)],[(998,⟨69,.fix [.sl (.bytes l),.i q9]⟩)],[9,998,999]⟩) 5 (by kernel_rfl) rfl ?_⟩
 refine WI.runT cok tab84 hnt [] 3 8 (⟨[(0,.ptr 998 0),(1,.sl (.strs xs)),(4,.v (.string (xs.getD (Int.toNat v9) default))),(5,.sl (.strs xs)),(6,.ptr 998 0),(7,.sl (.strs xs)),(8,.i (xs.length : Int)),(9,.i v9),(10,.ep [.v (.string (xs.getD (Int.toNat v9) default))]),(11,.v (.string (xs.getD (Int.toNat v9) default)))],[(998,⟨69,.fix [.sl (.bytes l),.i q9]⟩)],[9,998,999]⟩)
  ((True ∧ True ∧ (0 ≤ v9) ∧ (v9 < (xs.length : Int))) ∧ True ∧ True ∧ True) (by kernel_rfl) rfl
  ⟨⟨tt,tt,(by omega),(by omega)⟩,tt,tt,tt⟩ ?_
 refine WI.nil rfl (thenQ_normal ?_)
 refine W.keepE [4] [(4,.v (.string (xs.getD (Int.toNat v9) default)))] (by kernel_rfl) ?_
 refine W.to (⟨[(4,.v (.string (xs.getD (Int.toNat v9) default)))],[(998,⟨69,.fix [.sl (.bytes l),.i q9]⟩)],[9,998,999]⟩) rfl ?_
 refine W.ret ?_
 exact endP_ret ((xs.getD (Int.toNat v9) default),q9) (show ((xs.getD (Int.toNat v9) default) ∈ xs) ∧ (q9 = p + 1) from ⟨(by exact getD_mem xs default (by omega)),(by first | assumption | omega | rfl | (simp; done) | (simp; omega))⟩) [(0,998)] (.v (.string (xs.getD (Int.toNat v9) default))) (by kernel_rfl) (@cast ((((.string (xs.getD (Int.toNat v9) default)) : Value) = (.string (xs.getD (Int.toNat v9) default))) ∧ (((((69 : Nat) = 69) ∧ ((((.bytes l : Dat) = .bytes l) ∧ (((.int .i64 q9 : Value) = .int .i64 q9) ∧ True)) ∧ ((0 : Nat) ∈ ([0] : List Nat)))) ∧ True) ∧ ((true = true) ∧ (((([] : List Nat) = []) ∧ True) ∧ (true = true → (998 : Nat) = 998))))) _ (by kernel_rfl) ⟨rfl,⟨⟨rfl,⟨rfl,rfl,tt⟩,(by decide)⟩,tt⟩,rfl,⟨rfl,tt⟩,(fun _ => rfl)⟩)
theorem ent84 : Entr prog 84 := ⟨_,func84,rfl,by decide⟩
end Go.Proofs.Try

set_option linter.unusedSimpArgs false
set_option linter.unusedVariables false
namespace Go.Proofs.Try
open Go.Ab Go.RowKit
def pre65 : List AV → List AV → Prop := preP [] [.bytes,.int] (fun _ (l,p,_) => (0 ≤ p ∧ p ≤ 1000000))
def rel65 : RelS := relP [] [.bytes,.int] (ι := ByteArray × Int) (fun _ (l,p,_) (v,q) => (q = p + 1)) (fun _ (l,p,_) (v,q) => (.v (.string v),[],[.sl (.bytes l),.i q]))
abbrev T65 : Tab := lk []
theorem tab65 : TabOK prog T65 := TabOK.nil
set_option maxRecDepth 100000 in
set_option maxHeartbeats 1000000 in
theorem rok65 : RelOK prog 65 (some 69) [] pre65 rel65 := by
 refine RelOK.mk cok func65 rfl rfl rfl ?_
 rintro _ ⟨(l : List UInt8),(p : Int),_⟩ hpre F hnt0
 have hnt : F.nt = 6 := hnt0.trans ntmps65
 replace hpre : (0 ≤ p ∧ p ≤ 1000000) := hpre
 have hp := hpre
 refine W.to (⟨[(0,.ptr 998 0)],[(998,⟨69,.fix [.sl (.bytes l),.i p]⟩)],[998,999]⟩) rfl ?_
 refine W.K cok tab65 hnt [] [0] (⟨[(0,.ptr 998 0)],[(998,⟨69,.fix [.sl (.bytes l),.i p]⟩)],[998,999]⟩)
  (True ∧ True) (by kernel_rfl)
  ⟨tt,tt⟩ ?_
 refine W.seq (W.wi ?_)
 refine WI.runT cok tab65 hnt [] 2 2 (⟨[(0,.ptr 998 0),(3,.ptr 998 0),(4,.sl (.strs ([nRegister,nQueue,nStack,nCounter,nSet,nMost,nRegister,nQueue,nStack,nCounter,nSet,nEmpty])))],[(998,⟨69,.fix [.sl (.bytes l),.i p]⟩)],[4,998,999]⟩)
  (True ∧ (True ∧ True ∧ True ∧ True ∧ True ∧ True ∧ True ∧ True ∧ True ∧ True ∧ True ∧ True ∧ True) ∧ True) (by kernel_rfl) rfl
  ⟨tt,⟨tt,tt,tt,tt,tt,tt,tt,tt,tt,tt,tt,tt,tt⟩,tt⟩ ?_
 refine WI.call [.ptr 998 0,.sl (.strs ([nRegister,nQueue,nStack,nCounter,nSet,nMost,nRegister,nQueue,nStack,nCounter,nSet,nEmpty]))] [.sl (.bytes l),.i p] [.sl (.strs ([nRegister,nQueue,nStack,nCounter,nSet,nMost,nRegister,nQueue,nStack,nCounter,nSet,nEmpty]))] [.sl (.strs ([nRegister,nQueue,nStack,nCounter,nSet,nMost,nRegister,nQueue,nStack,nCounter,nSet,nEmpty]))] (some (69,998)) (True) (True ∧ True) none rok84 ent84 hnt rfl rfl (wanted_none rfl) (by kernel_rfl) (by kernel_rfl) (by kernel_rfl) ⟨tt,tt,tt⟩
  (@cast ((0 ≤ p ∧ p ≤ 1000000) ∧ ((0 < ([nRegister,nQueue,nStack,nCounter,nSet,nMost,nRegister,nQueue,nStack,nCounter,nSet,nEmpty]).length) ∧ (([nRegister,nQueue,nStack,nCounter,nSet,nMost,nRegister,nQueue,nStack,nCounter,nSet,nEmpty]).length ≤ 1000))) _ (by kernel_rfl) ⟨(by omega),⟨(by (first | omega | (simp only [List.length_append,List.length_cons,List.length_nil,List.length_take,List.length_drop,List.length_set,List.length_replicate,List.length_map] at *; omega) | assumption)),(by (first | omega | (simp only [List.length_append,List.length_cons,List.length_nil,List.length_take,List.length_drop,List.length_set,List.length_replicate,List.length_map] at *; omega) | assumption))⟩⟩) (Or.inl rfl) rfl ?_
 rintro r bl fx2 hR
 obtain ⟨⟨v5,q5⟩,hq5,rfl,rfl,rfl⟩ := (@cast _ (∃ x : ByteArray × Int,((x.1 ∈ ([nRegister,nQueue,nStack,nCounter,nSet,nMost,nRegister,nQueue,nStack,nCounter,nSet,nEmpty])) ∧ (x.2 = p + 1)) ∧ r = (.v (.string x.1)) ∧ bl = ([]) ∧ fx2 = ([.sl (.bytes l),.i x.2])) (by kernel_rfl) hR)
 clear hR
 replace hq5 : (v5 ∈ ([nRegister,nQueue,nStack,nCounter,nSet,nMost,nRegister,nQueue,nStack,nCounter,nSet,nEmpty])) ∧ (q5 = p + 1) := hq5
 obtain ⟨hv5,hq15⟩ := hq5
 simp only [List.mem_cons,List.not_mem_nil,or_false] at hv5
 refine ⟨by kernel_rfl,WI.to (⟨[(0,.ptr 998 0),(3,.ptr 998 0),(4,.sl (.strs ([nRegister,nQueue,nStack,nCounter,nSet,nMost,nRegister,nQueue,nStack,nCounter,nSet,nEmpty]))),(5,.v (.string v5))],[(998,⟨69,.fix [.sl (.bytes l),.i q5]⟩)],[5,4,998,999]⟩) 3 (by kernel_rfl) rfl ?_⟩
 refine WI.runT cok tab65 hnt [] 1 4 (⟨[(0,.ptr 998 0),(2,.v (.string v5)),(3,.ptr 998 0),(4,.sl (.strs ([nRegister,nQueue,nStack,nCounter,nSet,nMost,nRegister,nQueue,nStack,nCounter,nSet,nEmpty]))),(5,.v (.string v5))],[(998,⟨69,.fix [.sl (.bytes l),.i q5]⟩)],[5,4,998,999]⟩)
  (True ∧ True) (by kernel_rfl) rfl
  ⟨tt,tt⟩ ?_
 refine WI.nil rfl (thenQ_normal ?_)
 refine W.keepE [2] [(2,.v (.string v5))] (by kernel_rfl) ?_
 refine W.to (⟨[(2,.v (.string v5))],[(998,⟨69,.fix [.sl (.bytes l),.i q5]⟩)],[5,4,998,999]⟩) rfl ?_
 refine W.ret ?_
 exact endP_ret (v5,q5) (show (q5 = p + 1) from (by first | assumption | omega | rfl | (simp; done) | (simp; omega))) [(0,998)] (.v (.string v5)) (by kernel_rfl) (@cast ((((.string v5) : Value) = (.string v5)) ∧ (((((69 : Nat) = 69) ∧ ((((.bytes l : Dat) = .bytes l) ∧ (((.int .i64 q5 : Value) = .int .i64 q5) ∧ True)) ∧ ((0 : Nat) ∈ ([0] : List Nat)))) ∧ True) ∧ ((true = true) ∧ (((([] : List Nat) = []) ∧ True) ∧ (true = true → (998 : Nat) = 998))))) _ (by kernel_rfl) ⟨rfl,⟨⟨rfl,⟨rfl,rfl,tt⟩,(by decide)⟩,tt⟩,rfl,⟨rfl,tt⟩,(fun _ => rfl)⟩)
theorem ent65 : Entr prog 65 := ⟨_,func65,rfl,by decide⟩
end Go.Proofs.Try

set_option linter.unusedSimpArgs false
set_option linter.unusedVariables false
namespace Go.Proofs.Try
open Go.Ab Go.RowKit
def pre49 : List AV → List AV → Prop := preP [.ints] [.bytes,.int] (fun (xs,_) (l,p,_) => (0 ≤ p ∧ p ≤ 1000000) ∧ (0 < xs.length) ∧ (xs.length ≤ 1000))
def rel49 : RelS := relP [.ints] [.bytes,.int] (ι := Int × Int) (fun (xs,_) (l,p,_) (v,q) => (v ∈ xs) ∧ (q = p + 1)) (fun (xs,_) (l,p,_) (v,q) => (.i v,[],[.sl (.bytes l),.i q]))
abbrev T49 : Tab := lk []
theorem tab49 : TabOK prog T49 := TabOK.nil
set_option maxRecDepth 100000 in
set_option maxHeartbeats 1000000 in
theorem rok49 : RelOK prog 49 (some 69) [.s .ints] pre49 rel49 := by
 refine RelOK.mk cok func49 rfl rfl rfl ?_
 rintro ⟨(xs : List Int),_⟩ ⟨(l : List UInt8),(p : Int),_⟩ hpre F hnt0
 have hnt : F.nt = 12 := hnt0.trans ntmps49
 replace hpre : (0 ≤ p ∧ p ≤ 1000000) ∧ (0 < xs.length) ∧ (xs.length ≤ 1000) := hpre
 obtain ⟨hp,hx,hx2⟩ := hpre
 refine W.to (⟨[(0,.ptr 998 0),(1,.sl (.ints xs))],[(998,⟨69,.fix [.sl (.bytes l),.i p]⟩)],[998,999]⟩) rfl ?_
 refine W.K cok tab49 hnt [] [0,1] (⟨[(0,.ptr 998 0),(1,.sl (.ints xs))],[(998,⟨69,.fix [.sl (.bytes l),.i p]⟩)],[998,999]⟩)
  (True ∧ True) (by kernel_rfl)
  ⟨tt,tt⟩ ?_
 refine W.seq (W.wi ?_)
 refine WI.runT cok tab49 hnt [] 4 4 (⟨[(0,.ptr 998 0),(1,.sl (.ints xs)),(5,.sl (.ints xs)),(6,.ptr 998 0),(7,.sl (.ints xs)),(8,.i (xs.length : Int))],[(998,⟨69,.fix [.sl (.bytes l),.i p]⟩)],[998,999]⟩)
  (True ∧ True ∧ True ∧ True ∧ True) (by kernel_rfl) rfl
  ⟨tt,tt,tt,tt,tt⟩ ?_
 refine WI.call [.ptr 998 0,.i (xs.length : Int)] [.sl (.bytes l),.i p] [.i (xs.length : Int)] [.i (xs.length : Int)] (some (69,998)) (True) (True ∧ True) none rok68 ent68 hnt rfl rfl (wanted_none rfl) (by kernel_rfl) (by kernel_rfl) (by kernel_rfl) ⟨tt,tt,tt⟩
  (@cast (0 ≤ p ∧ p ≤ 1000000) _ (by kernel_rfl) (by omega)) (Or.inl rfl) rfl ?_
 rintro r bl fx2 hR
 obtain ⟨⟨v9,q9⟩,hq9,rfl,rfl,rfl⟩ := (@cast _ (∃ x : Int × Int,((0 ≤ x.1 ∧ x.1 < max (xs.length : Int) 1) ∧ (x.2 = p + 1)) ∧ r = (.i x.1) ∧ bl = ([]) ∧ fx2 = ([.sl (.bytes l),.i x.2])) (by kernel_rfl) hR)
 clear hR
 replace hq9 : (0 ≤ v9 ∧ v9 < max (xs.length : Int) 1) ∧ (q9 = p + 1) := hq9
 obtain ⟨hv9,hq19⟩ := hq9
 refine ⟨by kernel_rfl,WI.to (⟨[(0,.ptr 998 0),(1,.sl (.ints xs)),(5,.sl (.ints xs)),(6,.ptr 998 0),(7,.sl (.ints xs)),(8,.i (xs.length : Int)),(9,.i v9)],[(998,⟨69,.fix [.sl (.bytes l),.i q9]⟩)],[9,998,999]⟩) 5 (by kernel_rfl) rfl ?_⟩
 refine WI.runT cok tab49 hnt [] 3 8 (⟨[(0,.ptr 998 0),(1,.sl (.ints xs)),(4,.i (xs.getD (Int.toNat v9) 0)),(5,.sl (.ints xs)),(6,.ptr 998 0),(7,.sl (.ints xs)),(8,.i (xs.length : Int)),(9,.i v9),(10,.ep [.i (xs.getD (Int.toNat v9) 0)]),(11,.i (xs.getD (Int.toNat v9) 0))],[(998,⟨69,.fix [.sl (.bytes l),.i q9]⟩)],[9,998,999]⟩)
  ((True ∧ True ∧ (0 ≤ v9) ∧ (v9 < (xs.length : Int))) ∧ True ∧ True ∧ True) (by kernel_rfl) rfl
  ⟨⟨tt,tt,(by omega),(by omega)⟩,tt,tt,tt⟩ ?_
 refine WI.nil rfl (thenQ_normal ?_)
 refine W.keepE [4] [(4,.i (xs.getD (Int.toNat v9) 0))] (by kernel_rfl) ?_
 refine W.to (⟨[(4,.i (xs.getD (Int.toNat v9) 0))],[(998,⟨69,.fix [.sl (.bytes l),.i q9]⟩)],[9,998,999]⟩) rfl ?_
 refine W.ret ?_
 exact endP_ret ((xs.getD (Int.toNat v9) 0),q9) (show ((xs.getD (Int.toNat v9) 0) ∈ xs) ∧ (q9 = p + 1) from ⟨(by exact getD_mem xs 0 (by omega)),(by first | assumption | omega | rfl | (simp; done) | (simp; omega))⟩) [(0,998)] (.i (xs.getD (Int.toNat v9) 0)) (by kernel_rfl) (@cast (((.int .i64 (xs.getD (Int.toNat v9) 0) : Value) = .int .i64 (xs.getD (Int.toNat v9) 0)) ∧ (((((69 : Nat) = 69) ∧ ((((.bytes l : Dat) = .bytes l) ∧ (((.int .i64 q9 : Value) = .int .i64 q9) ∧ True)) ∧ ((0 : Nat) ∈ ([0] : List Nat)))) ∧ True) ∧ ((true = true) ∧ (((([] : List Nat) = []) ∧ True) ∧ (true = true → (998 : Nat) = 998))))) _ (by kernel_rfl) ⟨rfl,⟨⟨rfl,⟨rfl,rfl,tt⟩,(by decide)⟩,tt⟩,rfl,⟨rfl,tt⟩,(fun _ => rfl)⟩)
theorem ent49 : Entr prog 49 := ⟨_,func49,rfl,by decide⟩
end Go.Proofs.Try
