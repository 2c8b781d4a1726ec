import Derived.Test.YtilnnaoaefphcaaRF6S0
import Derived.Test.YtilnnaoaefphcaaRF6S4
set_option linter.unusedSimpArgs false
set_option linter.unusedVariables false
namespace Go.Proofs.Try
open Go.Ab Go.RowKit
def fs14 : FnS := fnS [.a [some .ints,some .ints,none,none,none,some .marks],.a [some .ints,some .ints,none,none,none,some .marks]] [.copy,.copy] (fun _ (a,b,_) => (.b (sameC a b),[],True))
abbrev T14 : Tab := lk [(29,fs29),(40,fs40)]
theorem tab14 : TabOK prog T14 := (TabOK.cons ok29 ent29 (TabOK.cons ok40 ent40 TabOK.nil))
set_option maxRecDepth 100000 in
set_option maxHeartbeats 1000000 in
theorem ok14 : FnOK prog 14 fs14 := by
 refine FnOK.mk cok func14 rfl rfl rfl ?_
 rintro fl ⟨(a : CopyD),(b : CopyD),_⟩ hpre F hnt0 _
 have hnt : F.nt = 38 := hnt0.trans ntmps14
 clear hpre
 refine W.to (⟨[(0,.agg (cC a)),(1,.agg (cC b))],[],[999]⟩) rfl ?_
 refine W.lenA 0 0 (cC a) (.ints a.up) (by kernel_rfl) (by kernel_rfl) ?_
 intro hl_a_up; replace hl_a_up : List.length a.up ≤ 9223372036854775807 := hl_a_up
 refine W.lenA 0 1 (cC a) (.ints a.down) (by kernel_rfl) (by kernel_rfl) ?_
 intro hl_a_down; replace hl_a_down : List.length a.down ≤ 9223372036854775807 := hl_a_down
 refine W.lenA 0 5 (cC a) (.marks a.marks) (by kernel_rfl) (by kernel_rfl) ?_
 intro hl_a_marks; replace hl_a_marks : List.length a.marks ≤ 9223372036854775807 := hl_a_marks
 refine W.lenA 1 0 (cC b) (.ints b.up) (by kernel_rfl) (by kernel_rfl) ?_
 intro hl_b_up; replace hl_b_up : List.length b.up ≤ 9223372036854775807 := hl_b_up
 refine W.lenA 1 1 (cC b) (.ints b.down) (by kernel_rfl) (by kernel_rfl) ?_
 intro hl_b_down; replace hl_b_down : List.length b.down ≤ 9223372036854775807 := hl_b_down
 refine W.lenA 1 5 (cC b) (.marks b.marks) (by kernel_rfl) (by kernel_rfl) ?_
 intro hl_b_marks; replace hl_b_marks : List.length b.marks ≤ 9223372036854775807 := hl_b_marks
 refine Kk cok tab14 hnt [] [2,3] (⟨[(2,.ptr 2 0),(3,.ptr 3 0)],[(2,⟨29,.fix (cC a)⟩),(3,⟨29,.fix (cC b)⟩)],[3,2,999]⟩)
  (True ∧ True ∧ True ∧ True)
  ⟨tt,tt,tt,tt⟩ ?_
 refine W.seq ?_
 refine Kk cok tab14 hnt [] [2,3,10] (⟨[(2,.ptr 2 0),(3,.ptr 3 0),(10,.b (!(decide (a.up = b.up))))],[(2,⟨29,.fix (cC a)⟩),(3,⟨29,.fix (cC b)⟩)],[3,2,999]⟩)
  (True ∧ True ∧ True ∧ True ∧ (True ∧ (True ∧ True ∧ True) ∧ True) ∧ True ∧ True)
  ⟨tt,tt,tt,tt,⟨tt,⟨tt,tt,tt⟩,tt⟩,tt,tt⟩ ?_
 refine W.if' (!(decide (a.up = b.up))) (.b (!(decide (a.up = b.up)))) (by kernel_rfl) rfl trivial ?_ ?_
 ·intro h10
  refine Kk cok tab14 hnt [] [4] (⟨[(4,.b false)],[(2,⟨29,.fix (cC a)⟩),(3,⟨29,.fix (cC b)⟩)],[3,2,999]⟩)
   (True ∧ True)
   ⟨tt,tt⟩ ?_
  refine W.ret (thenQ_ret ?_)
  exact endQ_ret (.b false) (by kernel_rfl) (@cast ((.bool false : Value) = .bool (sameC a b)) _ (by kernel_rfl) (congrArg Value.bool (by first | (symm; exact same_iff.2 (copy_ext (by simpa using n10) (by simpa using n16) (by omega) (by omega) (by omega) (by simpa using n37))) | exact same_false (fun e => by subst e; simp_all))))
 ·intro n10
  refine W.skip (thenQ_normal ?_)
  refine W.seq ?_
  refine Kk cok tab14 hnt [] [2,3,16] (⟨[(2,.ptr 2 0),(3,.ptr 3 0),(16,.b (!(decide (a.down = b.down))))],[(2,⟨29,.fix (cC a)⟩),(3,⟨29,.fix (cC b)⟩)],[3,2,999]⟩)
   (True ∧ True ∧ True ∧ True ∧ (True ∧ (True ∧ True ∧ True) ∧ True) ∧ True ∧ True)
   ⟨tt,tt,tt,tt,⟨tt,⟨tt,tt,tt⟩,tt⟩,tt,tt⟩ ?_
  refine W.if' (!(decide (a.down = b.down))) (.b (!(decide (a.down = b.down)))) (by kernel_rfl) rfl trivial ?_ ?_
  ·intro h16
   refine Kk cok tab14 hnt [] [4] (⟨[(4,.b false)],[(2,⟨29,.fix (cC a)⟩),(3,⟨29,.fix (cC b)⟩)],[3,2,999]⟩)
    (True ∧ True)
    ⟨tt,tt⟩ ?_
   refine W.ret (thenQ_ret ?_)
   exact endQ_ret (.b false) (by kernel_rfl) (@cast ((.bool false : Value) = .bool (sameC a b)) _ (by kernel_rfl) (congrArg Value.bool (by first | (symm; exact same_iff.2 (copy_ext (by simpa using n10) (by simpa using n16) (by omega) (by omega) (by omega) (by simpa using n37))) | exact same_false (fun e => by subst e; simp_all))))
  ·intro n16
   refine W.skip (thenQ_normal ?_)
   refine W.seq ?_
   refine Kk cok tab14 hnt [] [2,3,21] (⟨[(2,.ptr 2 0),(3,.ptr 3 0),(21,.b (decide (a.value ≠ b.value)))],[(2,⟨29,.fix (cC a)⟩),(3,⟨29,.fix (cC b)⟩)],[3,2,999]⟩)
    (True ∧ True ∧ True ∧ True ∧ (True ∧ True ∧ True) ∧ True)
    ⟨tt,tt,tt,tt,⟨tt,tt,tt⟩,tt⟩ ?_
   refine W.ifP (a.value ≠ b.value) (.b (decide (a.value ≠ b.value))) (by kernel_rfl) rfl trivial ?_ ?_
   ·intro h21
    refine Kk cok tab14 hnt [] [4] (⟨[(4,.b false)],[(2,⟨29,.fix (cC a)⟩),(3,⟨29,.fix (cC b)⟩)],[3,2,999]⟩)
     (True ∧ True)
     ⟨tt,tt⟩ ?_
    refine W.ret (thenQ_ret ?_)
    exact endQ_ret (.b false) (by kernel_rfl) (@cast ((.bool false : Value) = .bool (sameC a b)) _ (by kernel_rfl) (congrArg Value.bool (by first | (symm; exact same_iff.2 (copy_ext (by simpa using n10) (by simpa using n16) (by omega) (by omega) (by omega) (by simpa using n37))) | exact same_false (fun e => by subst e; simp_all))))
   ·intro n21
    refine W.skip (thenQ_normal ?_)
    refine W.seq ?_
    refine Kk cok tab14 hnt [] [2,3,26] (⟨[(2,.ptr 2 0),(3,.ptr 3 0),(26,.b (decide (a.time ≠ b.time)))],[(2,⟨29,.fix (cC a)⟩),(3,⟨29,.fix (cC b)⟩)],[3,2,999]⟩)
     (True ∧ True ∧ True ∧ True ∧ (True ∧ True ∧ True) ∧ True)
     ⟨tt,tt,tt,tt,⟨tt,tt,tt⟩,tt⟩ ?_
    refine W.ifP (a.time ≠ b.time) (.b (decide (a.time ≠ b.time))) (by kernel_rfl) rfl trivial ?_ ?_
    ·intro h26
     refine Kk cok tab14 hnt [] [4] (⟨[(4,.b false)],[(2,⟨29,.fix (cC a)⟩),(3,⟨29,.fix (cC b)⟩)],[3,2,999]⟩)
      (True ∧ True)
      ⟨tt,tt⟩ ?_
     refine W.ret (thenQ_ret ?_)
     exact endQ_ret (.b false) (by kernel_rfl) (@cast ((.bool false : Value) = .bool (sameC a b)) _ (by kernel_rfl) (congrArg Value.bool (by first | (symm; exact same_iff.2 (copy_ext (by simpa using n10) (by simpa using n16) (by omega) (by omega) (by omega) (by simpa using n37))) | exact same_false (fun e => by subst e; simp_all))))
    ·intro n26
     refine W.skip (thenQ_normal ?_)
     refine W.seq ?_
     refine Kk cok tab14 hnt [] [2,3,31] (⟨[(2,.ptr 2 0),(3,.ptr 3 0),(31,.b (decide (a.proc ≠ b.proc)))],[(2,⟨29,.fix (cC a)⟩),(3,⟨29,.fix (cC b)⟩)],[3,2,999]⟩)
      (True ∧ True ∧ True ∧ True ∧ (True ∧ True ∧ True) ∧ True)
      ⟨tt,tt,tt,tt,⟨tt,tt,tt⟩,tt⟩ ?_
     refine W.ifP (a.proc ≠ b.proc) (.b (decide (a.proc ≠ b.proc))) (by kernel_rfl) rfl trivial ?_ ?_
     ·intro h31
      refine Kk cok tab14 hnt [] [4] (⟨[(4,.b false)],[(2,⟨29,.fix (cC a)⟩),(3,⟨29,.fix (cC b)⟩)],[3,2,999]⟩)
       (True ∧ True)
       ⟨tt,tt⟩ ?_
      refine W.ret (thenQ_ret ?_)
      exact endQ_ret (.b false) (by kernel_rfl) (@cast ((.bool false : Value) = .bool (sameC a b)) _ (by kernel_rfl) (congrArg Value.bool (by first | (symm; exact same_iff.2 (copy_ext (by simpa using n10) (by simpa using n16) (by omega) (by omega) (by omega) (by simpa using n37))) | exact same_false (fun e => by subst e; simp_all))))
     ·intro n31
      refine W.skip (thenQ_normal ?_)
      refine W.seq ?_
      refine Kk cok tab14 hnt [] [37] (⟨[(37,.b (!(decide (a.marks = b.marks))))],[(2,⟨29,.fix (cC a)⟩),(3,⟨29,.fix (cC b)⟩)],[3,2,999]⟩)
       (True ∧ True ∧ True ∧ True ∧ (True ∧ (True ∧ True ∧ True) ∧ True) ∧ True ∧ True)
       ⟨tt,tt,tt,tt,⟨tt,⟨tt,tt,tt⟩,tt⟩,tt,tt⟩ ?_
      refine W.if' (!(decide (a.marks = b.marks))) (.b (!(decide (a.marks = b.marks)))) (by kernel_rfl) rfl trivial ?_ ?_
      ·intro h37
       refine Kk cok tab14 hnt [] [4] (⟨[(4,.b false)],[(2,⟨29,.fix (cC a)⟩),(3,⟨29,.fix (cC b)⟩)],[3,2,999]⟩)
        (True ∧ True)
        ⟨tt,tt⟩ ?_
       refine W.ret (thenQ_ret ?_)
       exact endQ_ret (.b false) (by kernel_rfl) (@cast ((.bool false : Value) = .bool (sameC a b)) _ (by kernel_rfl) (congrArg Value.bool (by first | (symm; exact same_iff.2 (copy_ext (by simpa using n10) (by simpa using n16) (by omega) (by omega) (by omega) (by simpa using n37))) | exact same_false (fun e => by subst e; simp_all))))
      ·intro n37
       refine W.skip (thenQ_normal ?_)
       refine Kk cok tab14 hnt [] [4] (⟨[(4,.b true)],[(2,⟨29,.fix (cC a)⟩),(3,⟨29,.fix (cC b)⟩)],[3,2,999]⟩)
        (True ∧ True)
        ⟨tt,tt⟩ ?_
       refine W.ret ?_
       exact endQ_ret (.b true) (by kernel_rfl) (@cast ((.bool true : Value) = .bool (sameC a b)) _ (by kernel_rfl) (congrArg Value.bool (by first | (symm; exact same_iff.2 (copy_ext (by simpa using n10) (by simpa using n16) (by omega) (by omega) (by omega) (by simpa using n37))) | exact same_false (fun e => by subst e; simp_all))))
theorem ent14 : Entr prog 14 := ⟨_,func14,rfl,by decide⟩
end Go.Proofs.Try

set_option linter.unusedSimpArgs false
set_option linter.unusedVariables false
namespace Go.Proofs.Try
open Go.Ab Go.RowKit
def fs31 : FnS := fnS [.s .ints,.o] [.ints,.int] (fun _ (l,k,_) => (.i (heldI l k),[],(l.length ≤ 2000000) ∧ (0 ≤ k ∧ k ≤ 1000000000)))
abbrev T31 : Tab := lk []
theorem tab31 : TabOK prog T31 := TabOK.nil
set_option maxRecDepth 100000 in
set_option maxHeartbeats 1000000 in
theorem ok31 : FnOK prog 31 fs31 := by
 refine FnOK.mk cok func31 rfl rfl rfl ?_
 rintro fl ⟨(l : List Int),(k : Int),_⟩ hpre F hnt0 _
 have hnt : F.nt = 21 := hnt0.trans ntmps31
 replace hpre : (l.length ≤ 2000000) ∧ (0 ≤ k ∧ k ≤ 1000000000) := hpre
 obtain ⟨hn,hk⟩ := hpre
 refine W.to (⟨[(0,.sl (.ints l)),(1,.i k)],[],[999]⟩) rfl ?_
 refine W.lenOf 0 (.ints l) (by kernel_rfl) ?_
 intro hl_l; replace hl_l : List.length l ≤ 9223372036854775807 := hl_l
 refine Kk cok tab31 hnt [] [0,1] (⟨[(0,.sl (.ints l)),(1,.i k)],[],[999]⟩)
  (True ∧ True)
  ⟨tt,tt⟩ ?_
 refine W.seq ?_
 refine Kk cok tab31 hnt [] [0,1,5] (⟨[(0,.sl (.ints l)),(1,.i k),(5,.i (0 : Int))],[],[999]⟩)
  (True ∧ True)
  ⟨tt,tt⟩ ?_
 refine W.block ?_
 refine W.loop (ι := Nat × Int) (fun (x : Nat × Int) => match x with | (i,kk) => (⟨[(0,.sl (.ints l)),(1,.i kk),(5,.i ((i : Nat) : Int))],[],[999]⟩ : St))
  (fun (x : Nat × Int) => match x with | (i,kk) => (i ≤ l.length) ∧ (∀ j,j < i → heldAt l k j = true) ∧ (kk = k + ((i : Nat) : Int)))
  (fun (x : Nat × Int) => match x with | (i,kk) => (l.length - i : Nat)) (0,k) ?_ ?_ ?_
 ·exact (show (0 ≤ l.length) ∧ (∀ j,j < 0 → heldAt l k j = true) ∧ (k = k + ((0 : Nat) : Int)) from ⟨(by first | assumption | omega | rfl | (intro _ hjj; omega) | (simp; done) | (simp; omega)),(by exact upto_zero),(by first | assumption | omega | rfl | (intro _ hjj; omega) | (simp; done) | (simp; omega))⟩)
 ·exact Sub.of [] (@cast (((Sd (.ints l)) ∧ (Si k) ∧ ((.int .i64 (0 : Int) : Value) = .int .i64 ((0 : Nat) : Int)) ∧ True) ∧ True ∧ (true = true) ∧ (true = true)) _ (by kernel_rfl) ⟨⟨rfl,rfl,(congrArg (Value.int .i64) (by first | rfl | omega | assumption | simp | simp_all)),tt⟩,tt,rfl,rfl⟩)
 ·rintro ⟨i,kk⟩ hC0
  have hC : (i ≤ l.length) ∧ (∀ j,j < i → heldAt l k j = true) ∧ (kk = k + ((i : Nat) : Int)) := hC0
  clear hC0
  obtain ⟨hi,hA,hk2⟩ := hC
  refine W.to (⟨[(0,.sl (.ints l)),(1,.i kk),(5,.i ((i : Nat) : Int))],[],[999]⟩) rfl ?_
  refine W.seq ?_
  refine Kk cok tab31 hnt [] [0,1,5,9] (⟨[(0,.sl (.ints l)),(1,.i kk),(5,.i ((i : Nat) : Int)),(9,.b (decide (((i : Nat) : Int) < (l.length : Int))))],[],[999]⟩)
   (True ∧ True ∧ True ∧ (True ∧ True ∧ True) ∧ True)
   ⟨tt,tt,tt,⟨tt,tt,tt⟩,tt⟩ ?_
  refine W.ifP (((i : Nat) : Int) < (l.length : Int)) (.b (decide (((i : Nat) : Int) < (l.length : Int)))) (by kernel_rfl) rfl trivial ?_ ?_
  ·intro h9
   refine W.skip (thenQ_normal ?_)
   refine W.seq ?_
   refine W.block ?_
   refine W.seq ?_
   refine Kk cok tab31 hnt [] [0,1,5,17] (⟨[(0,.sl (.ints l)),(1,.i kk),(5,.i ((i : Nat) : Int)),(17,.b (decide ((l.getD i 0) ≠ kk)))],[],[999]⟩)
    (True ∧ True ∧ (True ∧ True ∧ (0 ≤ ((i : Nat) : Int)) ∧ (((i : Nat) : Int) < (l.length : Int))) ∧ True ∧ True ∧ (True ∧ True ∧ True) ∧ True)
    ⟨tt,tt,⟨tt,tt,(by omega),(by omega)⟩,tt,tt,⟨tt,tt,tt⟩,tt⟩ ?_
   refine W.ifP ((l.getD i 0) ≠ kk) (.b (decide ((l.getD i 0) ≠ kk))) (by kernel_rfl) rfl trivial ?_ ?_
   ·intro h17
    refine Kk cok tab31 hnt [] [4] (⟨[(4,.i (-1 : Int))],[],[999]⟩)
     (True ∧ True)
     ⟨tt,tt⟩ ?_
    refine W.ret (thenQ_ret (blockQ_ret (thenQ_ret (thenQ_ret (blockQ_ret (thenQ_ret ?_))))))
    exact endQ_ret (.i (-1 : Int)) (by kernel_rfl) (@cast ((.int .i64 (-1 : Int) : Value) = .int .i64 (heldI l k)) _ (by kernel_rfl) (congrArg (Value.int .i64) (by exact (heldI_no (i := i) (by omega) hk2 h17).symm)))
   ·intro n17
    refine W.skip (thenQ_normal ?_)
    refine Lk cok tab31 hnt [] (⟨[(0,.sl (.ints l)),(1,.i (kk + (1 : Int))),(5,.i ((i : Nat) : Int)),(17,.b (decide ((l.getD i 0) ≠ kk))),(18,.i kk),(19,.i (kk + (1 : Int)))],[],[999]⟩)
     (True ∧ (True ∧ True ∧ (Fits .i64 (kk + (1 : Int)))) ∧ True ∧ True)
     ⟨tt,⟨tt,tt,(by exact fits_i64 (by omega) (by omega))⟩,tt,tt⟩ ?_
    refine blockQ_normal (thenQ_normal ?_)
    refine Lk cok tab31 hnt [] (⟨[(0,.sl (.ints l)),(1,.i (kk + (1 : Int))),(5,.i (((i + 1) : Nat) : Int)),(10,.i ((i : Nat) : Int)),(11,.i (((i + 1) : Nat) : Int)),(17,.b (decide ((l.getD i 0) ≠ kk))),(18,.i kk),(19,.i (kk + (1 : Int)))],[],[999]⟩)
     (True ∧ (True ∧ True ∧ (Fits .i64 (((i + 1) : Nat) : Int))) ∧ True ∧ True)
     ⟨tt,⟨tt,tt,(by exact fits_i64 (by omega) (by omega))⟩,tt,tt⟩ ?_
    refine thenQ_normal ?_
    refine ⟨((i + 1),(kk + (1 : Int))),(show ((i + 1) ≤ l.length) ∧ (∀ j,j < (i + 1) → heldAt l k j = true) ∧ ((kk + (1 : Int)) = k + (((i + 1) : Nat) : Int)) from ⟨(by first | assumption | omega | rfl | (intro _ hjj; omega) | (simp; done) | (simp; omega)),(by exact upto_succ hA (decide_eq_true (by rw [← hk2]; exact Decidable.not_not.1 n17))),(by first | assumption | omega | rfl | (intro _ hjj; omega) | (simp; done) | (simp; omega))⟩),(show l.length - (i + 1) < l.length - i from (by first | omega | (simp_all; omega))),?_⟩
    exact Sub.of [] (@cast (((Sd (.ints l)) ∧ (Si (kk + (1 : Int))) ∧ (Si (((i + 1) : Nat) : Int)) ∧ True) ∧ True ∧ (true = true) ∧ (true = true)) _ (by kernel_rfl) ⟨⟨rfl,rfl,rfl,tt⟩,tt,rfl,rfl⟩)
  ·intro n9
   refine W.exit (thenQ_exit (thenQ_exit (blockQ_hit ?_)))
   refine thenQ_normal ?_
   refine Kk cok tab31 hnt [] [4] (⟨[(4,.i kk)],[],[999]⟩)
    (True ∧ True ∧ True)
    ⟨tt,tt,tt⟩ ?_
   refine W.ret ?_
   exact endQ_ret (.i kk) (by kernel_rfl) (@cast ((.int .i64 kk : Value) = .int .i64 (heldI l k)) _ (by kernel_rfl) (congrArg (Value.int .i64) (by exact (heldI_yes hA hi hk2 n9).symm)))
theorem ent31 : Entr prog 31 := ⟨_,func31,rfl,by decide⟩
end Go.Proofs.Try

set_option linter.unusedSimpArgs false
set_option linter.unusedVariables false
namespace Go.Proofs.Try
open Go.Ab Go.RowKit
def fs42 : FnS := fnS [.s .marks,.o] [.marks,.int] (fun _ (l,k,_) => (.i (heldM l k),[],(l.length ≤ 2000000) ∧ (0 ≤ k ∧ k ≤ 1000000000)))
abbrev T42 : Tab := lk []
theorem tab42 : TabOK prog T42 := TabOK.nil
set_option maxRecDepth 100000 in
set_option maxHeartbeats 1000000 in
theorem ok42 : FnOK prog 42 fs42 := by
 refine FnOK.mk cok func42 rfl rfl rfl ?_
 rintro fl ⟨(l : List MarkD),(k : Int),_⟩ hpre F hnt0 _
 have hnt : F.nt = 51 := hnt0.trans ntmps42
 replace hpre : (l.length ≤ 2000000) ∧ (0 ≤ k ∧ k ≤ 1000000000) := hpre
 obtain ⟨hn,hk⟩ := hpre
 refine W.to (⟨[(0,.sl (.marks l)),(1,.i k)],[],[999]⟩) rfl ?_
 refine W.lenOf 0 (.marks l) (by kernel_rfl) ?_
 intro hl_l; replace hl_l : List.length l ≤ 9223372036854775807 := hl_l
 refine Kk cok tab42 hnt [] [0,1] (⟨[(0,.sl (.marks l)),(1,.i k)],[],[999]⟩)
  (True ∧ True)
  ⟨tt,tt⟩ ?_
 refine W.seq ?_
 refine Kk cok tab42 hnt [] [0,1,5] (⟨[(0,.sl (.marks l)),(1,.i k),(5,.i (0 : Int))],[],[999]⟩)
  (True ∧ True)
  ⟨tt,tt⟩ ?_
 refine W.block ?_
 refine W.loop (ι := Nat × Int) (fun (x : Nat × Int) => match x with | (i,kk) => (⟨[(0,.sl (.marks l)),(1,.i kk),(5,.i ((i : Nat) : Int))],[],[999]⟩ : St))
  (fun (x : Nat × Int) => match x with | (i,kk) => (i ≤ l.length) ∧ (∀ j,j < i → heldMAt l k j = true) ∧ (kk = k + 4 * ((i : Nat) : Int)))
  (fun (x : Nat × Int) => match x with | (i,kk) => (l.length - i : Nat)) (0,k) ?_ ?_ ?_
 ·exact (show (0 ≤ l.length) ∧ (∀ j,j < 0 → heldMAt l k j = true) ∧ (k = k + 4 * ((0 : Nat) : Int)) from ⟨(by first | assumption | omega | rfl | (intro _ hjj; omega) | (simp; done) | (simp; omega)),(by exact upto_zero),(by first | assumption | omega | rfl | (intro _ hjj; omega) | (simp; done) | (simp; omega))⟩)
 ·exact Sub.of [] (@cast (((Sd (.marks l)) ∧ (Si k) ∧ ((.int .i64 (0 : Int) : Value) = .int .i64 ((0 : Nat) : Int)) ∧ True) ∧ True ∧ (true = true) ∧ (true = true)) _ (by kernel_rfl) ⟨⟨rfl,rfl,(congrArg (Value.int .i64) (by first | rfl | omega | assumption | simp | simp_all)),tt⟩,tt,rfl,rfl⟩)
 ·rintro ⟨i,kk⟩ hC0
  have hC : (i ≤ l.length) ∧ (∀ j,j < i → heldMAt l k j = true) ∧ (kk = k + 4 * ((i : Nat) : Int)) := hC0
  clear hC0
  obtain ⟨hi,hA,hk2⟩ := hC
  refine W.to (⟨[(0,.sl (.marks l)),(1,.i kk),(5,.i ((i : Nat) : Int))],[],[999]⟩) rfl ?_
  refine W.seq ?_
  refine Kk cok tab42 hnt [] [0,1,5,9] (⟨[(0,.sl (.marks l)),(1,.i kk),(5,.i ((i : Nat) : Int)),(9,.b (decide (((i : Nat) : Int) < (l.length : Int))))],[],[999]⟩)
   (True ∧ True ∧ True ∧ (True ∧ True ∧ True) ∧ True)
   ⟨tt,tt,tt,⟨tt,tt,tt⟩,tt⟩ ?_
  refine W.ifP (((i : Nat) : Int) < (l.length : Int)) (.b (decide (((i : Nat) : Int) < (l.length : Int)))) (by kernel_rfl) rfl trivial ?_ ?_
  ·intro h9
   refine W.skip (thenQ_normal ?_)
   refine W.seq ?_
   refine W.block ?_
   refine W.seq ?_
   refine Kk cok tab42 hnt [] [0,1,5,18] (⟨[(0,.sl (.marks l)),(1,.i kk),(5,.i ((i : Nat) : Int)),(18,.b (decide (((l.getD i default).value) ≠ kk)))],[],[999]⟩)
    (True ∧ True ∧ (True ∧ True ∧ (0 ≤ ((i : Nat) : Int)) ∧ (((i : Nat) : Int) < (l.length : Int))) ∧ True ∧ True ∧ True ∧ (True ∧ True ∧ True) ∧ True)
    ⟨tt,tt,⟨tt,tt,(by omega),(by omega)⟩,tt,tt,tt,⟨tt,tt,tt⟩,tt⟩ ?_
   refine W.ifP (((l.getD i default).value) ≠ kk) (.b (decide (((l.getD i default).value) ≠ kk))) (by kernel_rfl) rfl trivial ?_ ?_
   ·intro h18
    refine Kk cok tab42 hnt [] [4] (⟨[(4,.i (-1 : Int))],[],[999]⟩)
     (True ∧ True)
     ⟨tt,tt⟩ ?_
    refine W.ret (thenQ_ret (blockQ_ret (thenQ_ret (thenQ_ret (blockQ_ret (thenQ_ret ?_))))))
    exact endQ_ret (.i (-1 : Int)) (by kernel_rfl) (@cast ((.int .i64 (-1 : Int) : Value) = .int .i64 (heldM l k)) _ (by kernel_rfl) (congrArg (Value.int .i64) (by exact heldM_no (i := i) (by omega) (held_1 hk2 h18))))
   ·intro n18
    refine W.skip (thenQ_normal ?_)
    refine Kk cok tab42 hnt [] [0,1,5] (⟨[(0,.sl (.marks l)),(1,.i (kk + (1 : Int))),(5,.i ((i : Nat) : Int))],[],[999]⟩)
     (True ∧ (True ∧ True ∧ (Fits .i64 (kk + (1 : Int)))) ∧ True ∧ True)
     ⟨tt,⟨tt,tt,(by exact fits_i64 (by omega) (by omega))⟩,tt,tt⟩ ?_
    refine W.seq ?_
    refine Kk cok tab42 hnt [] [0,1,5,27] (⟨[(0,.sl (.marks l)),(1,.i (kk + (1 : Int))),(5,.i ((i : Nat) : Int)),(27,.b (decide (((l.getD i default).proc) ≠ (kk + (1 : Int)))))],[],[999]⟩)
     (True ∧ True ∧ (True ∧ True ∧ (0 ≤ ((i : Nat) : Int)) ∧ (((i : Nat) : Int) < (l.length : Int))) ∧ True ∧ True ∧ True ∧ (True ∧ True ∧ True) ∧ True)
     ⟨tt,tt,⟨tt,tt,(by omega),(by omega)⟩,tt,tt,tt,⟨tt,tt,tt⟩,tt⟩ ?_
    refine W.ifP (((l.getD i default).proc) ≠ (kk + (1 : Int))) (.b (decide (((l.getD i default).proc) ≠ (kk + (1 : Int))))) (by kernel_rfl) rfl trivial ?_ ?_
    ·intro h27
     refine Kk cok tab42 hnt [] [4] (⟨[(4,.i (-1 : Int))],[],[999]⟩)
      (True ∧ True)
      ⟨tt,tt⟩ ?_
     refine W.ret (thenQ_ret (blockQ_ret (thenQ_ret (thenQ_ret (blockQ_ret (thenQ_ret ?_))))))
     exact endQ_ret (.i (-1 : Int)) (by kernel_rfl) (@cast ((.int .i64 (-1 : Int) : Value) = .int .i64 (heldM l k)) _ (by kernel_rfl) (congrArg (Value.int .i64) (by exact heldM_no (i := i) (by omega) (held_2 hk2 h27))))
    ·intro n27
     refine W.skip (thenQ_normal ?_)
     refine Kk cok tab42 hnt [] [0,1,5] (⟨[(0,.sl (.marks l)),(1,.i ((kk + (1 : Int)) + (1 : Int))),(5,.i ((i : Nat) : Int))],[],[999]⟩)
      (True ∧ (True ∧ True ∧ (Fits .i64 ((kk + (1 : Int)) + (1 : Int)))) ∧ True ∧ True)
      ⟨tt,⟨tt,tt,(by exact fits_i64 (by omega) (by omega))⟩,tt,tt⟩ ?_
     refine W.seq ?_
     refine Kk cok tab42 hnt [] [0,1,5,36] (⟨[(0,.sl (.marks l)),(1,.i ((kk + (1 : Int)) + (1 : Int))),(5,.i ((i : Nat) : Int)),(36,.b (decide (((l.getD i default).number) ≠ ((kk + (1 : Int)) + (1 : Int)))))],[],[999]⟩)
      (True ∧ True ∧ (True ∧ True ∧ (0 ≤ ((i : Nat) : Int)) ∧ (((i : Nat) : Int) < (l.length : Int))) ∧ True ∧ True ∧ True ∧ (True ∧ True ∧ True) ∧ True)
      ⟨tt,tt,⟨tt,tt,(by omega),(by omega)⟩,tt,tt,tt,⟨tt,tt,tt⟩,tt⟩ ?_
     refine W.ifP (((l.getD i default).number) ≠ ((kk + (1 : Int)) + (1 : Int))) (.b (decide (((l.getD i default).number) ≠ ((kk + (1 : Int)) + (1 : Int))))) (by kernel_rfl) rfl trivial ?_ ?_
     ·intro h36
      refine Kk cok tab42 hnt [] [4] (⟨[(4,.i (-1 : Int))],[],[999]⟩)
       (True ∧ True)
       ⟨tt,tt⟩ ?_
      refine W.ret (thenQ_ret (blockQ_ret (thenQ_ret (thenQ_ret (blockQ_ret (thenQ_ret ?_))))))
      exact endQ_ret (.i (-1 : Int)) (by kernel_rfl) (@cast ((.int .i64 (-1 : Int) : Value) = .int .i64 (heldM l k)) _ (by kernel_rfl) (congrArg (Value.int .i64) (by exact heldM_no (i := i) (by omega) (held_3 hk2 h36))))
     ·intro n36
      refine W.skip (thenQ_normal ?_)
      refine Kk cok tab42 hnt [] [0,1,5] (⟨[(0,.sl (.marks l)),(1,.i (((kk + (1 : Int)) + (1 : Int)) + (1 : Int))),(5,.i ((i : Nat) : Int))],[],[999]⟩)
       (True ∧ (True ∧ True ∧ (Fits .i64 (((kk + (1 : Int)) + (1 : Int)) + (1 : Int)))) ∧ True ∧ True)
       ⟨tt,⟨tt,tt,(by exact fits_i64 (by omega) (by omega))⟩,tt,tt⟩ ?_
      refine W.seq ?_
      refine Kk cok tab42 hnt [] [0,1,5,47] (⟨[(0,.sl (.marks l)),(1,.i (((kk + (1 : Int)) + (1 : Int)) + (1 : Int))),(5,.i ((i : Nat) : Int)),(47,.b (((l.getD i default).gone) != (decide ((Int.tmod (((kk + (1 : Int)) + (1 : Int)) + (1 : Int)) (3 : Int)) = (0 : Int)))))],[],[999]⟩)
       (True ∧ True ∧ (True ∧ True ∧ (0 ≤ ((i : Nat) : Int)) ∧ (((i : Nat) : Int) < (l.length : Int))) ∧ True ∧ True ∧ True ∧ (True ∧ True ∧ ((3 : Int) ≠ 0)) ∧ (True ∧ True ∧ True) ∧ (True ∧ True) ∧ True)
       ⟨tt,tt,⟨tt,tt,(by omega),(by omega)⟩,tt,tt,tt,⟨tt,tt,(by decide)⟩,⟨tt,tt,tt⟩,⟨tt,tt⟩,tt⟩ ?_
      refine W.if' (((l.getD i default).gone) != (decide ((Int.tmod (((kk + (1 : Int)) + (1 : Int)) + (1 : Int)) (3 : Int)) = (0 : Int)))) (.b (((l.getD i default).gone) != (decide ((Int.tmod (((kk + (1 : Int)) + (1 : Int)) + (1 : Int)) (3 : Int)) = (0 : Int))))) (by kernel_rfl) rfl trivial ?_ ?_
      ·intro h47
       refine Kk cok tab42 hnt [] [4] (⟨[(4,.i (-1 : Int))],[],[999]⟩)
        (True ∧ True)
        ⟨tt,tt⟩ ?_
       refine W.ret (thenQ_ret (blockQ_ret (thenQ_ret (thenQ_ret (blockQ_ret (thenQ_ret ?_))))))
       exact endQ_ret (.i (-1 : Int)) (by kernel_rfl) (@cast ((.int .i64 (-1 : Int) : Value) = .int .i64 (heldM l k)) _ (by kernel_rfl) (congrArg (Value.int .i64) (by exact heldM_no (i := i) (by omega) (held_4 hk2 h47))))
      ·intro n47
       refine W.skip (thenQ_normal ?_)
       refine Lk cok tab42 hnt [] (⟨[(0,.sl (.marks l)),(1,.i ((((kk + (1 : Int)) + (1 : Int)) + (1 : Int)) + (1 : Int))),(5,.i ((i : Nat) : Int)),(47,.b (((l.getD i default).gone) != (decide ((Int.tmod (((kk + (1 : Int)) + (1 : Int)) + (1 : Int)) (3 : Int)) = (0 : Int))))),(48,.i (((kk + (1 : Int)) + (1 : Int)) + (1 : Int))),(49,.i ((((kk + (1 : Int)) + (1 : Int)) + (1 : Int)) + (1 : Int)))],[],[999]⟩)
        (True ∧ (True ∧ True ∧ (Fits .i64 ((((kk + (1 : Int)) + (1 : Int)) + (1 : Int)) + (1 : Int)))) ∧ True ∧ True)
        ⟨tt,⟨tt,tt,(by exact fits_i64 (by omega) (by omega))⟩,tt,tt⟩ ?_
       refine blockQ_normal (thenQ_normal ?_)
       refine Lk cok tab42 hnt [] (⟨[(0,.sl (.marks l)),(1,.i ((((kk + (1 : Int)) + (1 : Int)) + (1 : Int)) + (1 : Int))),(5,.i (((i + 1) : Nat) : Int)),(10,.i ((i : Nat) : Int)),(11,.i (((i + 1) : Nat) : Int)),(47,.b (((l.getD i default).gone) != (decide ((Int.tmod (((kk + (1 : Int)) + (1 : Int)) + (1 : Int)) (3 : Int)) = (0 : Int))))),(48,.i (((kk + (1 : Int)) + (1 : Int)) + (1 : Int))),(49,.i ((((kk + (1 : Int)) + (1 : Int)) + (1 : Int)) + (1 : Int)))],[],[999]⟩)
        (True ∧ (True ∧ True ∧ (Fits .i64 (((i + 1) : Nat) : Int))) ∧ True ∧ True)
        ⟨tt,⟨tt,tt,(by exact fits_i64 (by omega) (by omega))⟩,tt,tt⟩ ?_
       refine thenQ_normal ?_
       refine ⟨((i + 1),((((kk + (1 : Int)) + (1 : Int)) + (1 : Int)) + (1 : Int))),(show ((i + 1) ≤ l.length) ∧ (∀ j,j < (i + 1) → heldMAt l k j = true) ∧ (((((kk + (1 : Int)) + (1 : Int)) + (1 : Int)) + (1 : Int)) = k + 4 * (((i + 1) : Nat) : Int)) from ⟨(by first | assumption | omega | rfl | (intro _ hjj; omega) | (simp; done) | (simp; omega)),(by exact upto_succ hA (held_5 hk2 n18 n27 n36 n47)),(by first | assumption | omega | rfl | (intro _ hjj; omega) | (simp; done) | (simp; omega))⟩),(show l.length - (i + 1) < l.length - i from (by first | omega | (simp_all; omega))),?_⟩
       exact Sub.of [] (@cast (((Sd (.marks l)) ∧ (Si ((((kk + (1 : Int)) + (1 : Int)) + (1 : Int)) + (1 : Int))) ∧ (Si (((i + 1) : Nat) : Int)) ∧ True) ∧ True ∧ (true = true) ∧ (true = true)) _ (by kernel_rfl) ⟨⟨rfl,rfl,rfl,tt⟩,tt,rfl,rfl⟩)
  ·intro n9
   refine W.exit (thenQ_exit (thenQ_exit (blockQ_hit ?_)))
   refine thenQ_normal ?_
   refine Kk cok tab42 hnt [] [4] (⟨[(4,.i kk)],[],[999]⟩)
    (True ∧ True ∧ True)
    ⟨tt,tt,tt⟩ ?_
   refine W.ret ?_
   exact endQ_ret (.i kk) (by kernel_rfl) (@cast ((.int .i64 kk : Value) = .int .i64 (heldM l k)) _ (by kernel_rfl) (congrArg (Value.int .i64) (by exact heldM_yes hA hi hk2 n9)))
theorem ent42 : Entr prog 42 := ⟨_,func42,rfl,by decide⟩
end Go.Proofs.Try

set_option linter.unusedSimpArgs false
set_option linter.unusedVariables false
namespace Go.Proofs.Try
open Go.Ab Go.RowKit
def fs16 : FnS := fnS [.a [some .ints,some .ints,none,none,none,some .marks],.o] [.copy,.int] (fun _ (c,k,_) => (.i (heldCp c k),[],((CopyD.up c).length ≤ 1048576 ∧ (CopyD.down c).length ≤ 1048576 ∧ (CopyD.marks c).length ≤ 1048576) ∧ (0 ≤ k ∧ k ≤ 100000000)))
abbrev T16 : Tab := lk [(31,fs31),(42,fs42)]
theorem tab16 : TabOK prog T16 := (TabOK.cons ok31 ent31 (TabOK.cons ok42 ent42 TabOK.nil))
set_option maxRecDepth 100000 in
set_option maxHeartbeats 1000000 in
theorem ok16 : FnOK prog 16 fs16 := by
 refine FnOK.mk cok func16 rfl rfl rfl ?_
 rintro fl ⟨(c : CopyD),(k : Int),_⟩ hpre F hnt0 _
 have hnt : F.nt = 24 := hnt0.trans ntmps16
 replace hpre : ((CopyD.up c).length ≤ 1048576 ∧ (CopyD.down c).length ≤ 1048576 ∧ (CopyD.marks c).length ≤ 1048576) ∧ (0 ≤ k ∧ k ≤ 100000000) := hpre
 obtain ⟨hs,hk⟩ := hpre
 refine W.to (⟨[(0,.agg (cC c)),(1,.i k)],[],[999]⟩) rfl ?_
 refine W.lenA 0 0 (cC c) (.ints c.up) (by kernel_rfl) (by kernel_rfl) ?_
 intro hl_c_up; replace hl_c_up : List.length c.up ≤ 9223372036854775807 := hl_c_up
 refine W.lenA 0 1 (cC c) (.ints c.down) (by kernel_rfl) (by kernel_rfl) ?_
 intro hl_c_down; replace hl_c_down : List.length c.down ≤ 9223372036854775807 := hl_c_down
 refine W.lenA 0 5 (cC c) (.marks c.marks) (by kernel_rfl) (by kernel_rfl) ?_
 intro hl_c_marks; replace hl_c_marks : List.length c.marks ≤ 9223372036854775807 := hl_c_marks
 refine Kk cok tab16 hnt [] [1,2] (⟨[(1,.i k),(2,.ptr 2 0)],[(2,⟨29,.fix (cC c)⟩)],[2,999]⟩)
  (True ∧ True ∧ True)
  ⟨tt,tt,tt⟩ ?_
 refine Kk cok tab16 hnt [] [1,2] (⟨[(1,.i (heldI c.up k)),(2,.ptr 2 0)],[(2,⟨29,.fix (cC c)⟩)],[2,999]⟩)
  (True ∧ True ∧ True ∧ (True ∧ (True ∧ True ∧ True) ∧ (c.up.length ≤ 2000000) ∧ 0 ≤ k ∧ k ≤ 1000000000) ∧ True ∧ True)
  ⟨tt,tt,tt,⟨tt,⟨tt,tt,tt⟩,(by omega),(by omega)⟩,tt,tt⟩ ?_
 refine W.seq ?_
 refine Kk cok tab16 hnt [] [1,2,10] (⟨[(1,.i (heldI c.up k)),(2,.ptr 2 0),(10,.b (decide ((heldI c.up k) < (0 : Int))))],[(2,⟨29,.fix (cC c)⟩)],[2,999]⟩)
  (True ∧ (True ∧ True ∧ True) ∧ True)
  ⟨tt,⟨tt,tt,tt⟩,tt⟩ ?_
 refine W.ifP ((heldI c.up k) < (0 : Int)) (.b (decide ((heldI c.up k) < (0 : Int)))) (by kernel_rfl) rfl trivial ?_ ?_
 ·intro h10
  refine Kk cok tab16 hnt [] [4] (⟨[(4,.i (-1 : Int))],[(2,⟨29,.fix (cC c)⟩)],[2,999]⟩)
   (True ∧ True)
   ⟨tt,tt⟩ ?_
  refine W.ret (thenQ_ret ?_)
  exact endQ_ret (.i (-1 : Int)) (by kernel_rfl) (@cast ((.int .i64 (-1 : Int) : Value) = .int .i64 (heldCp c k)) _ (by kernel_rfl) (congrArg (Value.int .i64) (by exact hdC_h1 h10)))
 ·intro n10
  have hb1 := heldI_bnd c.up (k := k) (by omega)
  refine W.skip (thenQ_normal ?_)
  refine Kk cok tab16 hnt [] [1,2] (⟨[(1,.i (heldI c.down (heldI c.up k))),(2,.ptr 2 0)],[(2,⟨29,.fix (cC c)⟩)],[2,999]⟩)
   (True ∧ True ∧ True ∧ (True ∧ (True ∧ True ∧ True) ∧ (c.down.length ≤ 2000000) ∧ 0 ≤ (heldI c.up k) ∧ (heldI c.up k) ≤ 1000000000) ∧ True ∧ True)
   ⟨tt,tt,tt,⟨tt,⟨tt,tt,tt⟩,(by omega),(by omega)⟩,tt,tt⟩ ?_
  refine W.seq ?_
  refine Kk cok tab16 hnt [] [1,2,16] (⟨[(1,.i (heldI c.down (heldI c.up k))),(2,.ptr 2 0),(16,.b (decide ((heldI c.down (heldI c.up k)) < (0 : Int))))],[(2,⟨29,.fix (cC c)⟩)],[2,999]⟩)
   (True ∧ (True ∧ True ∧ True) ∧ True)
   ⟨tt,⟨tt,tt,tt⟩,tt⟩ ?_
  refine W.ifP ((heldI c.down (heldI c.up k)) < (0 : Int)) (.b (decide ((heldI c.down (heldI c.up k)) < (0 : Int)))) (by kernel_rfl) rfl trivial ?_ ?_
  ·intro h16
   refine Kk cok tab16 hnt [] [4] (⟨[(4,.i (-1 : Int))],[(2,⟨29,.fix (cC c)⟩)],[2,999]⟩)
    (True ∧ True)
    ⟨tt,tt⟩ ?_
   refine W.ret (thenQ_ret ?_)
   exact endQ_ret (.i (-1 : Int)) (by kernel_rfl) (@cast ((.int .i64 (-1 : Int) : Value) = .int .i64 (heldCp c k)) _ (by kernel_rfl) (congrArg (Value.int .i64) (by exact hdC_h2 n10 h16)))
  ·intro n16
   have hb2 := heldI_bnd c.down (k := heldI c.up k) (by omega)
   refine W.skip (thenQ_normal ?_)
   refine Kk cok tab16 hnt [] [1] (⟨[(1,.i (heldM c.marks (heldI c.down (heldI c.up k))))],[(2,⟨29,.fix (cC c)⟩)],[2,999]⟩)
    (True ∧ True ∧ True ∧ (True ∧ (True ∧ True ∧ True) ∧ (c.marks.length ≤ 2000000) ∧ 0 ≤ (heldI c.down (heldI c.up k)) ∧ (heldI c.down (heldI c.up k)) ≤ 1000000000) ∧ True ∧ True)
    ⟨tt,tt,tt,⟨tt,⟨tt,tt,tt⟩,(by omega),(by omega)⟩,tt,tt⟩ ?_
   refine W.seq ?_
   refine Kk cok tab16 hnt [] [1,22] (⟨[(1,.i (heldM c.marks (heldI c.down (heldI c.up k)))),(22,.b (decide ((heldM c.marks (heldI c.down (heldI c.up k))) < (0 : Int))))],[(2,⟨29,.fix (cC c)⟩)],[2,999]⟩)
    (True ∧ (True ∧ True ∧ True) ∧ True)
    ⟨tt,⟨tt,tt,tt⟩,tt⟩ ?_
   refine W.ifP ((heldM c.marks (heldI c.down (heldI c.up k))) < (0 : Int)) (.b (decide ((heldM c.marks (heldI c.down (heldI c.up k))) < (0 : Int)))) (by kernel_rfl) rfl trivial ?_ ?_
   ·intro h22
    refine Kk cok tab16 hnt [] [4] (⟨[(4,.i (-1 : Int))],[(2,⟨29,.fix (cC c)⟩)],[2,999]⟩)
     (True ∧ True)
     ⟨tt,tt⟩ ?_
    refine W.ret (thenQ_ret ?_)
    exact endQ_ret (.i (-1 : Int)) (by kernel_rfl) (@cast ((.int .i64 (-1 : Int) : Value) = .int .i64 (heldCp c k)) _ (by kernel_rfl) (congrArg (Value.int .i64) (by exact hdC_h3 n10 n16 h22)))
   ·intro n22
    refine W.skip (thenQ_normal ?_)
    refine Kk cok tab16 hnt [] [4] (⟨[(4,.i (heldM c.marks (heldI c.down (heldI c.up k))))],[(2,⟨29,.fix (cC c)⟩)],[2,999]⟩)
     (True ∧ True ∧ True)
     ⟨tt,tt,tt⟩ ?_
    refine W.ret ?_
    exact endQ_ret (.i (heldM c.marks (heldI c.down (heldI c.up k)))) (by kernel_rfl) (@cast ((.int .i64 (heldM c.marks (heldI c.down (heldI c.up k))) : Value) = .int .i64 (heldCp c k)) _ (by kernel_rfl) (congrArg (Value.int .i64) (by exact hdC_n3 n10 n16 n22)))
theorem ent16 : Entr prog 16 := ⟨_,func16,rfl,by decide⟩
end Go.Proofs.Try

set_option linter.unusedSimpArgs false
set_option linter.unusedVariables false
namespace Go.Proofs.Try
open Go.Ab Go.RowKit
abbrev T30 : Tab := lk []
theorem tab30 : TabOK prog T30 := TabOK.nil
theorem ent30 : Entr prog 30 := ⟨_,func30,rfl,by decide⟩
set_option maxRecDepth 100000 in
set_option maxHeartbeats 1000000 in
theorem hok30 : ∀ (l : List Int) (k : Int),((l.length ≤ 2000000) ∧ (0 ≤ k ∧ k ≤ 1000000000)) → HOK prog 30 [911] [.own 911 l.length,.i k] [(911,⟨3,.row (.ints l)⟩)] [911] (fun r s1 u1 => r = (.i (k + (l.length : Int))) ∧ s1 = ([(911,⟨3,.row (.ints (markI l.length k))⟩)]) ∧ u1 = ([911])) := by
 intro l k hpre
 obtain ⟨hn,hk⟩ := hpre
 refine HOK.of cok func30 rfl rfl rfl ?_
 intro F hnt0
 have hnt : F.nt = 19 := hnt0.trans ntmps30
 refine W.to (⟨[(0,.own 911 l.length),(1,.i k)],[(911,⟨3,.row (.ints l)⟩)],[911]⟩) rfl ?_
 refine Kk cok tab30 hnt [] [0,1] (⟨[(0,.own 911 l.length),(1,.i k)],[(911,⟨3,.row (.ints l)⟩)],[911]⟩)
  (True ∧ True)
  ⟨tt,tt⟩ ?_
 refine W.seq ?_
 refine Kk cok tab30 hnt [] [0,1,5] (⟨[(0,.own 911 l.length),(1,.i k),(5,.i (0 : Int))],[(911,⟨3,.row (.ints l)⟩)],[911]⟩)
  (True ∧ True)
  ⟨tt,tt⟩ ?_
 refine W.block ?_
 refine W.loop (ι := Nat × Int × (List Int)) (fun (x : Nat × Int × (List Int)) => match x with | (i,kk,xs) => (⟨[(0,.own 911 l.length),(1,.i kk),(5,.i ((i : Nat) : Int))],[(911,⟨3,.row (.ints xs)⟩)],[911]⟩ : St))
  (fun (x : Nat × Int × (List Int)) => match x with | (i,kk,xs) => (i ≤ l.length) ∧ (xs = markIUp l k i) ∧ (kk = k + ((i : Nat) : Int)))
  (fun (x : Nat × Int × (List Int)) => match x with | (i,kk,xs) => (l.length - i : Nat)) (0,k,l) ?_ ?_ ?_
 ·exact (show (0 ≤ l.length) ∧ (l = markIUp l k 0) ∧ (k = k + ((0 : Nat) : Int)) from ⟨(by first | assumption | omega | rfl | (intro _ hjj; omega) | (simp; done) | (simp; omega)),(by exact markIUp_zero _ _),(by first | assumption | omega | rfl | (intro _ hjj; omega) | (simp; done) | (simp; omega))⟩)
 ·exact Sub.of [] (@cast (((((911 : Nat) = 911) ∧ (l.length = l.length) ∧ ((911 : Nat) ∈ ([911] : List Nat))) ∧ (Si k) ∧ ((.int .i64 (0 : Int) : Value) = .int .i64 ((0 : Nat) : Int)) ∧ True) ∧ ((((3 : Nat) = 3) ∧ (Sd (.ints l)) ∧ ((911 : Nat) ∈ ([911] : List Nat))) ∧ True) ∧ (true = true) ∧ (true = true)) _ (by kernel_rfl) ⟨⟨⟨rfl,rfl,(by decide)⟩,rfl,(congrArg (Value.int .i64) (by first | rfl | omega | assumption | simp | simp_all)),tt⟩,⟨⟨rfl,rfl,(by decide)⟩,tt⟩,rfl,rfl⟩)
 ·rintro ⟨i,kk,xs⟩ hC0
  have hC : (i ≤ l.length) ∧ (xs = markIUp l k i) ∧ (kk = k + ((i : Nat) : Int)) := hC0
  clear hC0
  obtain ⟨hi,hx,hk2⟩ := hC
  refine W.to (⟨[(0,.own 911 l.length),(1,.i kk),(5,.i ((i : Nat) : Int))],[(911,⟨3,.row (.ints xs)⟩)],[911]⟩) rfl ?_
  have hxl : xs.length = l.length := by rw [hx]; exact markIUp_len l k hi
  refine W.seq ?_
  refine Kk cok tab30 hnt [] [0,1,5,9] (⟨[(0,.own 911 l.length),(1,.i kk),(5,.i ((i : Nat) : Int)),(9,.b (decide (((i : Nat) : Int) < (l.length : Int))))],[(911,⟨3,.row (.ints xs)⟩)],[911]⟩)
   (True ∧ True ∧ True ∧ (True ∧ True ∧ True) ∧ True)
   ⟨tt,tt,tt,⟨tt,tt,tt⟩,tt⟩ ?_
  refine W.ifP (((i : Nat) : Int) < (l.length : Int)) (.b (decide (((i : Nat) : Int) < (l.length : Int)))) (by kernel_rfl) rfl trivial ?_ ?_
  ·intro h9
   refine W.skip (thenQ_normal ?_)
   refine W.seq ?_
   refine W.block ?_
   refine Kk cok tab30 hnt [] [0,1,5] (⟨[(0,.own 911 l.length),(1,.i kk),(5,.i ((i : Nat) : Int))],[(911,⟨3,.row (.ints (List.set xs i kk))⟩)],[911]⟩)
    (True ∧ True ∧ True ∧ (True ∧ True ∧ (0 ≤ ((i : Nat) : Int)) ∧ (((i : Nat) : Int) < (l.length : Int))) ∧ (True ∧ True ∧ (i < xs.length)) ∧ True)
    ⟨tt,tt,tt,⟨tt,tt,(by omega),(by omega)⟩,⟨tt,tt,(by omega)⟩,tt⟩ ?_
   refine Lk cok tab30 hnt [] (⟨[(0,.own 911 l.length),(1,.i (kk + (1 : Int))),(5,.i ((i : Nat) : Int)),(16,.i kk),(17,.i (kk + (1 : Int)))],[(911,⟨3,.row (.ints (List.set xs i kk))⟩)],[911]⟩)
    (True ∧ (True ∧ True ∧ (Fits .i64 (kk + (1 : Int)))) ∧ True ∧ True)
    ⟨tt,⟨tt,tt,(by exact fits_i64 (by omega) (by omega))⟩,tt,tt⟩ ?_
   refine blockQ_normal (thenQ_normal ?_)
   refine Lk cok tab30 hnt [] (⟨[(0,.own 911 l.length),(1,.i (kk + (1 : Int))),(5,.i (((i + 1) : Nat) : Int)),(10,.i ((i : Nat) : Int)),(11,.i (((i + 1) : Nat) : Int)),(16,.i kk),(17,.i (kk + (1 : Int)))],[(911,⟨3,.row (.ints (List.set xs i kk))⟩)],[911]⟩)
    (True ∧ (True ∧ True ∧ (Fits .i64 (((i + 1) : Nat) : Int))) ∧ True ∧ True)
    ⟨tt,⟨tt,tt,(by exact fits_i64 (by omega) (by omega))⟩,tt,tt⟩ ?_
   refine thenQ_normal ?_
   refine ⟨((i + 1),(kk + (1 : Int)),(List.set xs i kk)),(show ((i + 1) ≤ l.length) ∧ ((List.set xs i kk) = markIUp l k (i + 1)) ∧ ((kk + (1 : Int)) = k + (((i + 1) : Nat) : Int)) from ⟨(by first | assumption | omega | rfl | (intro _ hjj; omega) | (simp; done) | (simp; omega)),(by exact markIUp_step hx (by omega) hk2),(by first | assumption | omega | rfl | (intro _ hjj; omega) | (simp; done) | (simp; omega))⟩),(show l.length - (i + 1) < l.length - i from (by first | omega | (simp_all; omega))),?_⟩
   exact Sub.of [] (@cast (((((911 : Nat) = 911) ∧ (l.length = l.length) ∧ ((911 : Nat) ∈ ([911] : List Nat))) ∧ (Si (kk + (1 : Int))) ∧ (Si (((i + 1) : Nat) : Int)) ∧ True) ∧ ((((3 : Nat) = 3) ∧ (Sd (.ints (List.set xs i kk))) ∧ ((911 : Nat) ∈ ([911] : List Nat))) ∧ True) ∧ (true = true) ∧ (true = true)) _ (by kernel_rfl) ⟨⟨⟨rfl,rfl,(by decide)⟩,rfl,rfl,tt⟩,⟨⟨rfl,rfl,(by decide)⟩,tt⟩,rfl,rfl⟩)
  ·intro n9
   refine W.exit (thenQ_exit (thenQ_exit (blockQ_hit ?_)))
   refine thenQ_normal ?_
   refine Kk cok tab30 hnt [] [4] (⟨[(4,.i kk)],[(911,⟨3,.row (.ints xs)⟩)],[911]⟩)
    (True ∧ True ∧ True)
    ⟨tt,tt,tt⟩ ?_
   refine W.ret ?_
   exact endH_ret (.i (k + (l.length : Int))) [(911,⟨3,.row (.ints (markI l.length k))⟩)] [911] ⟨rfl,rfl,rfl⟩ [(911,911)] (.i kk) (by kernel_rfl) (@cast (((.int .i64 kk : Value) = .int .i64 (k + (l.length : Int))) ∧ ((((3 : Nat) = 3) ∧ ((.ints xs : Dat) = .ints (markI l.length k)) ∧ ((911 : Nat) ∈ ([911] : List Nat))) ∧ True) ∧ (true = true) ∧ (true = true)) _ (by kernel_rfl) ⟨(congrArg (Value.int .i64) (by first | exact markIUp_all hx hi (by assumption) | omega)),⟨⟨rfl,(congrArg Dat.ints (by first | exact markIUp_all hx hi (by assumption) | omega)),(by decide)⟩,tt⟩,rfl,rfl⟩)
end Go.Proofs.Try

set_option linter.unusedSimpArgs false
set_option linter.unusedVariables false
namespace Go.Proofs.Try
open Go.Ab Go.RowKit
abbrev T41 : Tab := lk []
theorem tab41 : TabOK prog T41 := TabOK.nil
theorem ent41 : Entr prog 41 := ⟨_,func41,rfl,by decide⟩
set_option maxRecDepth 100000 in
set_option maxHeartbeats 1000000 in
theorem hok41 : ∀ (l : List MarkD) (k : Int),((l.length ≤ 2000000) ∧ (0 ≤ k ∧ k ≤ 1000000000)) → HOK prog 41 [911] [.own 911 l.length,.i k] [(911,⟨50,.row (.marks l)⟩)] [911] (fun r s1 u1 => r = (.i (k + 4 * (l.length : Int))) ∧ s1 = ([(911,⟨50,.row (.marks (markM l k))⟩)]) ∧ u1 = ([911])) := by
 intro l k hpre
 obtain ⟨hn,hk⟩ := hpre
 refine HOK.of cok func41 rfl rfl rfl ?_
 intro F hnt0
 have hnt : F.nt = 43 := hnt0.trans ntmps41
 refine W.to (⟨[(0,.own 911 l.length),(1,.i k)],[(911,⟨50,.row (.marks l)⟩)],[911]⟩) rfl ?_
 refine Kk cok tab41 hnt [] [0,1] (⟨[(0,.own 911 l.length),(1,.i k)],[(911,⟨50,.row (.marks l)⟩)],[911]⟩)
  (True ∧ True)
  ⟨tt,tt⟩ ?_
 refine W.seq ?_
 refine Kk cok tab41 hnt [] [0,1,5] (⟨[(0,.own 911 l.length),(1,.i k),(5,.i (0 : Int))],[(911,⟨50,.row (.marks l)⟩)],[911]⟩)
  (True ∧ True)
  ⟨tt,tt⟩ ?_
 refine W.block ?_
 refine W.loop (ι := Nat × Int × (List MarkD)) (fun (x : Nat × Int × (List MarkD)) => match x with | (i,kk,xs) => (⟨[(0,.own 911 l.length),(1,.i kk),(5,.i ((i : Nat) : Int))],[(911,⟨50,.row (.marks xs)⟩)],[911]⟩ : St))
  (fun (x : Nat × Int × (List MarkD)) => match x with | (i,kk,xs) => (i ≤ l.length) ∧ (xs = markMUp l k i) ∧ (kk = k + 4 * ((i : Nat) : Int)))
  (fun (x : Nat × Int × (List MarkD)) => match x with | (i,kk,xs) => (l.length - i : Nat)) (0,k,l) ?_ ?_ ?_
 ·exact (show (0 ≤ l.length) ∧ (l = markMUp l k 0) ∧ (k = k + 4 * ((0 : Nat) : Int)) from ⟨(by first | assumption | omega | rfl | (intro _ hjj; omega) | (simp; done) | (simp; omega)),(by rfl),(by first | assumption | omega | rfl | (intro _ hjj; omega) | (simp; done) | (simp; omega))⟩)
 ·exact Sub.of [] (@cast (((((911 : Nat) = 911) ∧ (l.length = l.length) ∧ ((911 : Nat) ∈ ([911] : List Nat))) ∧ (Si k) ∧ ((.int .i64 (0 : Int) : Value) = .int .i64 ((0 : Nat) : Int)) ∧ True) ∧ ((((50 : Nat) = 50) ∧ (Sd (.marks l)) ∧ ((911 : Nat) ∈ ([911] : List Nat))) ∧ True) ∧ (true = true) ∧ (true = true)) _ (by kernel_rfl) ⟨⟨⟨rfl,rfl,(by decide)⟩,rfl,(congrArg (Value.int .i64) (by first | rfl | omega | assumption | simp | simp_all)),tt⟩,⟨⟨rfl,rfl,(by decide)⟩,tt⟩,rfl,rfl⟩)
 ·rintro ⟨i,kk,xs⟩ hC0
  have hC : (i ≤ l.length) ∧ (xs = markMUp l k i) ∧ (kk = k + 4 * ((i : Nat) : Int)) := hC0
  clear hC0
  obtain ⟨hi,hx,hk2⟩ := hC
  refine W.to (⟨[(0,.own 911 l.length),(1,.i kk),(5,.i ((i : Nat) : Int))],[(911,⟨50,.row (.marks xs)⟩)],[911]⟩) rfl ?_
  have hxl : xs.length = l.length := by rw [hx]; exact markMUp_len l k i
  refine W.seq ?_
  refine Kk cok tab41 hnt [] [0,1,5,9] (⟨[(0,.own 911 l.length),(1,.i kk),(5,.i ((i : Nat) : Int)),(9,.b (decide (((i : Nat) : Int) < (l.length : Int))))],[(911,⟨50,.row (.marks xs)⟩)],[911]⟩)
   (True ∧ True ∧ True ∧ (True ∧ True ∧ True) ∧ True)
   ⟨tt,tt,tt,⟨tt,tt,tt⟩,tt⟩ ?_
  refine W.ifP (((i : Nat) : Int) < (l.length : Int)) (.b (decide (((i : Nat) : Int) < (l.length : Int)))) (by kernel_rfl) rfl trivial ?_ ?_
  ·intro h9
   refine W.skip (thenQ_normal ?_)
   refine W.seq ?_
   refine W.block ?_
   refine Kk cok tab41 hnt [] [0,1,5] (⟨[(0,.own 911 l.length),(1,.i kk),(5,.i ((i : Nat) : Int))],[(911,⟨50,.row (.marks (List.set xs i ({ xs.getD i default with value := kk })))⟩)],[911]⟩)
    (True ∧ True ∧ True ∧ (True ∧ True ∧ (0 ≤ ((i : Nat) : Int)) ∧ (((i : Nat) : Int) < (l.length : Int))) ∧ True ∧ (True ∧ True ∧ (i < xs.length)) ∧ True)
    ⟨tt,tt,tt,⟨tt,tt,(by omega),(by omega)⟩,tt,⟨tt,tt,(by omega)⟩,tt⟩ ?_
   refine Kk cok tab41 hnt [] [0,1,5] (⟨[(0,.own 911 l.length),(1,.i (kk + (1 : Int))),(5,.i ((i : Nat) : Int))],[(911,⟨50,.row (.marks (List.set xs i ({ xs.getD i default with value := kk })))⟩)],[911]⟩)
    (True ∧ (True ∧ True ∧ (Fits .i64 (kk + (1 : Int)))) ∧ True ∧ True)
    ⟨tt,⟨tt,tt,(by exact fits_i64 (by omega) (by omega))⟩,tt,tt⟩ ?_
   refine Kk cok tab41 hnt [] [0,1,5] (⟨[(0,.own 911 l.length),(1,.i (kk + (1 : Int))),(5,.i ((i : Nat) : Int))],[(911,⟨50,.row (.marks (List.set (List.set xs i ({ xs.getD i default with value := kk })) i ({ List.getD (List.set xs i ({ xs.getD i default with value := kk })) i default with proc := (kk + (1 : Int)) })))⟩)],[911]⟩)
    (True ∧ True ∧ True ∧ (True ∧ True ∧ (0 ≤ ((i : Nat) : Int)) ∧ (((i : Nat) : Int) < (l.length : Int))) ∧ True ∧ (True ∧ True ∧ (i < (List.length (List.set xs i ({ xs.getD i default with value := kk }))))) ∧ True)
    ⟨tt,tt,tt,⟨tt,tt,(by omega),(by omega)⟩,tt,⟨tt,tt,(by (first | omega | (simp only [List.length_set]; done) | (simp only [List.length_append,List.length_cons,List.length_nil,List.length_take,List.length_drop,List.length_set,List.length_replicate,List.length_map] at *; omega) | assumption))⟩,tt⟩ ?_
   refine Kk cok tab41 hnt [] [0,1,5] (⟨[(0,.own 911 l.length),(1,.i ((kk + (1 : Int)) + (1 : Int))),(5,.i ((i : Nat) : Int))],[(911,⟨50,.row (.marks (List.set (List.set xs i ({ xs.getD i default with value := kk })) i ({ List.getD (List.set xs i ({ xs.getD i default with value := kk })) i default with proc := (kk + (1 : Int)) })))⟩)],[911]⟩)
    (True ∧ (True ∧ True ∧ (Fits .i64 ((kk + (1 : Int)) + (1 : Int)))) ∧ True ∧ True)
    ⟨tt,⟨tt,tt,(by exact fits_i64 (by omega) (by omega))⟩,tt,tt⟩ ?_
   refine Kk cok tab41 hnt [] [0,1,5] (⟨[(0,.own 911 l.length),(1,.i ((kk + (1 : Int)) + (1 : Int))),(5,.i ((i : Nat) : Int))],[(911,⟨50,.row (.marks (List.set (List.set (List.set xs i ({ xs.getD i default with value := kk })) i ({ List.getD (List.set xs i ({ xs.getD i default with value := kk })) i default with proc := (kk + (1 : Int)) })) i ({ List.getD (List.set (List.set xs i ({ xs.getD i default with value := kk })) i ({ List.getD (List.set xs i ({ xs.getD i default with value := kk })) i default with proc := (kk + (1 : Int)) })) i default with number := ((kk + (1 : Int)) + (1 : Int)) })))⟩)],[911]⟩)
    (True ∧ True ∧ True ∧ (True ∧ True ∧ (0 ≤ ((i : Nat) : Int)) ∧ (((i : Nat) : Int) < (l.length : Int))) ∧ True ∧ (True ∧ True ∧ (i < (List.length (List.set (List.set xs i ({ xs.getD i default with value := kk })) i ({ List.getD (List.set xs i ({ xs.getD i default with value := kk })) i default with proc := (kk + (1 : Int)) }))))) ∧ True)
    ⟨tt,tt,tt,⟨tt,tt,(by omega),(by omega)⟩,tt,⟨tt,tt,(by (first | omega | (simp only [List.length_set]; done) | (simp only [List.length_append,List.length_cons,List.length_nil,List.length_take,List.length_drop,List.length_set,List.length_replicate,List.length_map] at *; omega) | assumption))⟩,tt⟩ ?_
   refine Kk cok tab41 hnt [] [0,1,5] (⟨[(0,.own 911 l.length),(1,.i (((kk + (1 : Int)) + (1 : Int)) + (1 : Int))),(5,.i ((i : Nat) : Int))],[(911,⟨50,.row (.marks (List.set (List.set (List.set xs i ({ xs.getD i default with value := kk })) i ({ List.getD (List.set xs i ({ xs.getD i default with value := kk })) i default with proc := (kk + (1 : Int)) })) i ({ List.getD (List.set (List.set xs i ({ xs.getD i default with value := kk })) i ({ List.getD (List.set xs i ({ xs.getD i default with value := kk })) i default with proc := (kk + (1 : Int)) })) i default with number := ((kk + (1 : Int)) + (1 : Int)) })))⟩)],[911]⟩)
    (True ∧ (True ∧ True ∧ (Fits .i64 (((kk + (1 : Int)) + (1 : Int)) + (1 : Int)))) ∧ True ∧ True)
    ⟨tt,⟨tt,tt,(by exact fits_i64 (by omega) (by omega))⟩,tt,tt⟩ ?_
   refine Kk cok tab41 hnt [] [0,1,5] (⟨[(0,.own 911 l.length),(1,.i (((kk + (1 : Int)) + (1 : Int)) + (1 : Int))),(5,.i ((i : Nat) : Int))],[(911,⟨50,.row (.marks (List.set (List.set (List.set (List.set xs i ({ xs.getD i default with value := kk })) i ({ List.getD (List.set xs i ({ xs.getD i default with value := kk })) i default with proc := (kk + (1 : Int)) })) i ({ List.getD (List.set (List.set xs i ({ xs.getD i default with value := kk })) i ({ List.getD (List.set xs i ({ xs.getD i default with value := kk })) i default with proc := (kk + (1 : Int)) })) i default with number := ((kk + (1 : Int)) + (1 : Int)) })) i ({ List.getD (List.set (List.set (List.set xs i ({ xs.getD i default with value := kk })) i ({ List.getD (List.set xs i ({ xs.getD i default with value := kk })) i default with proc := (kk + (1 : Int)) })) i ({ List.getD (List.set (List.set xs i ({ xs.getD i default with value := kk })) i ({ List.getD (List.set xs i ({ xs.getD i default with value := kk })) i default with proc := (kk + (1 : Int)) })) i default with number := ((kk + (1 : Int)) + (1 : Int)) })) i default with gone := (decide ((Int.tmod (((kk + (1 : Int)) + (1 : Int)) + (1 : Int)) (3 : Int)) = (0 : Int))) })))⟩)],[911]⟩)
    (True ∧ True ∧ True ∧ (True ∧ True ∧ ((3 : Int) ≠ 0)) ∧ (True ∧ True ∧ True) ∧ (True ∧ True ∧ (0 ≤ ((i : Nat) : Int)) ∧ (((i : Nat) : Int) < (l.length : Int))) ∧ True ∧ (True ∧ True ∧ (i < (List.length (List.set (List.set (List.set xs i ({ xs.getD i default with value := kk })) i ({ List.getD (List.set xs i ({ xs.getD i default with value := kk })) i default with proc := (kk + (1 : Int)) })) i ({ List.getD (List.set (List.set xs i ({ xs.getD i default with value := kk })) i ({ List.getD (List.set xs i ({ xs.getD i default with value := kk })) i default with proc := (kk + (1 : Int)) })) i default with number := ((kk + (1 : Int)) + (1 : Int)) }))))) ∧ True)
    ⟨tt,tt,tt,⟨tt,tt,(by decide)⟩,⟨tt,tt,tt⟩,⟨tt,tt,(by omega),(by omega)⟩,tt,⟨tt,tt,(by (first | omega | (simp only [List.length_set]; done) | (simp only [List.length_append,List.length_cons,List.length_nil,List.length_take,List.length_drop,List.length_set,List.length_replicate,List.length_map] at *; omega) | assumption))⟩,tt⟩ ?_
   refine Lk cok tab41 hnt [] (⟨[(0,.own 911 l.length),(1,.i ((((kk + (1 : Int)) + (1 : Int)) + (1 : Int)) + (1 : Int))),(5,.i ((i : Nat) : Int)),(40,.i (((kk + (1 : Int)) + (1 : Int)) + (1 : Int))),(41,.i ((((kk + (1 : Int)) + (1 : Int)) + (1 : Int)) + (1 : Int)))],[(911,⟨50,.row (.marks (List.set (List.set (List.set (List.set xs i ({ xs.getD i default with value := kk })) i ({ List.getD (List.set xs i ({ xs.getD i default with value := kk })) i default with proc := (kk + (1 : Int)) })) i ({ List.getD (List.set (List.set xs i ({ xs.getD i default with value := kk })) i ({ List.getD (List.set xs i ({ xs.getD i default with value := kk })) i default with proc := (kk + (1 : Int)) })) i default with number := ((kk + (1 : Int)) + (1 : Int)) })) i ({ List.getD (List.set (List.set (List.set xs i ({ xs.getD i default with value := kk })) i ({ List.getD (List.set xs i ({ xs.getD i default with value := kk })) i default with proc := (kk + (1 : Int)) })) i ({ List.getD (List.set (List.set xs i ({ xs.getD i default with value := kk })) i ({ List.getD (List.set xs i ({ xs.getD i default with value := kk })) i default with proc := (kk + (1 : Int)) })) i default with number := ((kk + (1 : Int)) + (1 : Int)) })) i default with gone := (decide ((Int.tmod (((kk + (1 : Int)) + (1 : Int)) + (1 : Int)) (3 : Int)) = (0 : Int))) })))⟩)],[911]⟩)
    (True ∧ (True ∧ True ∧ (Fits .i64 ((((kk + (1 : Int)) + (1 : Int)) + (1 : Int)) + (1 : Int)))) ∧ True ∧ True)
    ⟨tt,⟨tt,tt,(by exact fits_i64 (by omega) (by omega))⟩,tt,tt⟩ ?_
   refine blockQ_normal (thenQ_normal ?_)
   refine Lk cok tab41 hnt [] (⟨[(0,.own 911 l.length),(1,.i ((((kk + (1 : Int)) + (1 : Int)) + (1 : Int)) + (1 : Int))),(5,.i (((i + 1) : Nat) : Int)),(10,.i ((i : Nat) : Int)),(11,.i (((i + 1) : Nat) : Int)),(40,.i (((kk + (1 : Int)) + (1 : Int)) + (1 : Int))),(41,.i ((((kk + (1 : Int)) + (1 : Int)) + (1 : Int)) + (1 : Int)))],[(911,⟨50,.row (.marks (List.set (List.set (List.set (List.set xs i ({ xs.getD i default with value := kk })) i ({ List.getD (List.set xs i ({ xs.getD i default with value := kk })) i default with proc := (kk + (1 : Int)) })) i ({ List.getD (List.set (List.set xs i ({ xs.getD i default with value := kk })) i ({ List.getD (List.set xs i ({ xs.getD i default with value := kk })) i default with proc := (kk + (1 : Int)) })) i default with number := ((kk + (1 : Int)) + (1 : Int)) })) i ({ List.getD (List.set (List.set (List.set xs i ({ xs.getD i default with value := kk })) i ({ List.getD (List.set xs i ({ xs.getD i default with value := kk })) i default with proc := (kk + (1 : Int)) })) i ({ List.getD (List.set (List.set xs i ({ xs.getD i default with value := kk })) i ({ List.getD (List.set xs i ({ xs.getD i default with value := kk })) i default with proc := (kk + (1 : Int)) })) i default with number := ((kk + (1 : Int)) + (1 : Int)) })) i default with gone := (decide ((Int.tmod (((kk + (1 : Int)) + (1 : Int)) + (1 : Int)) (3 : Int)) = (0 : Int))) })))⟩)],[911]⟩)
    (True ∧ (True ∧ True ∧ (Fits .i64 (((i + 1) : Nat) : Int))) ∧ True ∧ True)
    ⟨tt,⟨tt,tt,(by exact fits_i64 (by omega) (by omega))⟩,tt,tt⟩ ?_
   refine thenQ_normal ?_
   refine ⟨((i + 1),((((kk + (1 : Int)) + (1 : Int)) + (1 : Int)) + (1 : Int)),(List.set (List.set (List.set (List.set xs i ({ xs.getD i default with value := kk })) i ({ List.getD (List.set xs i ({ xs.getD i default with value := kk })) i default with proc := (kk + (1 : Int)) })) i ({ List.getD (List.set (List.set xs i ({ xs.getD i default with value := kk })) i ({ List.getD (List.set xs i ({ xs.getD i default with value := kk })) i default with proc := (kk + (1 : Int)) })) i default with number := ((kk + (1 : Int)) + (1 : Int)) })) i ({ List.getD (List.set (List.set (List.set xs i ({ xs.getD i default with value := kk })) i ({ List.getD (List.set xs i ({ xs.getD i default with value := kk })) i default with proc := (kk + (1 : Int)) })) i ({ List.getD (List.set (List.set xs i ({ xs.getD i default with value := kk })) i ({ List.getD (List.set xs i ({ xs.getD i default with value := kk })) i default with proc := (kk + (1 : Int)) })) i default with number := ((kk + (1 : Int)) + (1 : Int)) })) i default with gone := (decide ((Int.tmod (((kk + (1 : Int)) + (1 : Int)) + (1 : Int)) (3 : Int)) = (0 : Int))) }))),(show ((i + 1) ≤ l.length) ∧ ((List.set (List.set (List.set (List.set xs i ({ xs.getD i default with value := kk })) i ({ List.getD (List.set xs i ({ xs.getD i default with value := kk })) i default with proc := (kk + (1 : Int)) })) i ({ List.getD (List.set (List.set xs i ({ xs.getD i default with value := kk })) i ({ List.getD (List.set xs i ({ xs.getD i default with value := kk })) i default with proc := (kk + (1 : Int)) })) i default with number := ((kk + (1 : Int)) + (1 : Int)) })) i ({ List.getD (List.set (List.set (List.set xs i ({ xs.getD i default with value := kk })) i ({ List.getD (List.set xs i ({ xs.getD i default with value := kk })) i default with proc := (kk + (1 : Int)) })) i ({ List.getD (List.set (List.set xs i ({ xs.getD i default with value := kk })) i ({ List.getD (List.set xs i ({ xs.getD i default with value := kk })) i default with proc := (kk + (1 : Int)) })) i default with number := ((kk + (1 : Int)) + (1 : Int)) })) i default with gone := (decide ((Int.tmod (((kk + (1 : Int)) + (1 : Int)) + (1 : Int)) (3 : Int)) = (0 : Int))) })) = markMUp l k (i + 1)) ∧ (((((kk + (1 : Int)) + (1 : Int)) + (1 : Int)) + (1 : Int)) = k + 4 * (((i + 1) : Nat) : Int)) from ⟨(by first | assumption | omega | rfl | (intro _ hjj; omega) | (simp; done) | (simp; omega)),(by exact (set4 (by omega) _ _ _ _).trans (markM_step hx (by omega) hk2)),(by first | assumption | omega | rfl | (intro _ hjj; omega) | (simp; done) | (simp; omega))⟩),(show l.length - (i + 1) < l.length - i from (by first | omega | (simp_all; omega))),?_⟩
   exact Sub.of [] (@cast (((((911 : Nat) = 911) ∧ (l.length = l.length) ∧ ((911 : Nat) ∈ ([911] : List Nat))) ∧ (Si ((((kk + (1 : Int)) + (1 : Int)) + (1 : Int)) + (1 : Int))) ∧ (Si (((i + 1) : Nat) : Int)) ∧ True) ∧ ((((50 : Nat) = 50) ∧ (Sd (.marks (List.set (List.set (List.set (List.set xs i ({ xs.getD i default with value := kk })) i ({ List.getD (List.set xs i ({ xs.getD i default with value := kk })) i default with proc := (kk + (1 : Int)) })) i ({ List.getD (List.set (List.set xs i ({ xs.getD i default with value := kk })) i ({ List.getD (List.set xs i ({ xs.getD i default with value := kk })) i default with proc := (kk + (1 : Int)) })) i default with number := ((kk + (1 : Int)) + (1 : Int)) })) i ({ List.getD (List.set (List.set (List.set xs i ({ xs.getD i default with value := kk })) i ({ List.getD (List.set xs i ({ xs.getD i default with value := kk })) i default with proc := (kk + (1 : Int)) })) i ({ List.getD (List.set (List.set xs i ({ xs.getD i default with value := kk })) i ({ List.getD (List.set xs i ({ xs.getD i default with value := kk })) i default with proc := (kk + (1 : Int)) })) i default with number := ((kk + (1 : Int)) + (1 : Int)) })) i default with gone := (decide ((Int.tmod (((kk + (1 : Int)) + (1 : Int)) + (1 : Int)) (3 : Int)) = (0 : Int))) })))) ∧ ((911 : Nat) ∈ ([911] : List Nat))) ∧ True) ∧ (true = true) ∧ (true = true)) _ (by kernel_rfl) ⟨⟨⟨rfl,rfl,(by decide)⟩,rfl,rfl,tt⟩,⟨⟨rfl,rfl,(by decide)⟩,tt⟩,rfl,rfl⟩)
  ·intro n9
   refine W.exit (thenQ_exit (thenQ_exit (blockQ_hit ?_)))
   refine thenQ_normal ?_
   refine Kk cok tab41 hnt [] [4] (⟨[(4,.i kk)],[(911,⟨50,.row (.marks xs)⟩)],[911]⟩)
    (True ∧ True ∧ True)
    ⟨tt,tt,tt⟩ ?_
   refine W.ret ?_
   exact endH_ret (.i (k + 4 * (l.length : Int))) [(911,⟨50,.row (.marks (markM l k))⟩)] [911] ⟨rfl,rfl,rfl⟩ [(911,911)] (.i kk) (by kernel_rfl) (@cast (((.int .i64 kk : Value) = .int .i64 (k + 4 * (l.length : Int))) ∧ ((((50 : Nat) = 50) ∧ ((.marks xs : Dat) = .marks (markM l k)) ∧ ((911 : Nat) ∈ ([911] : List Nat))) ∧ True) ∧ (true = true) ∧ (true = true)) _ (by kernel_rfl) ⟨(congrArg (Value.int .i64) (by first | exact markM_all hx hi (by assumption) | omega)),⟨⟨rfl,(congrArg Dat.marks (by first | exact markM_all hx hi (by assumption) | omega)),(by decide)⟩,tt⟩,rfl,rfl⟩)
end Go.Proofs.Try

set_option linter.unusedSimpArgs false
set_option linter.unusedVariables false
namespace Go.Proofs.Try
open Go.Ab Go.RowKit
abbrev T15 : Tab := lk []
theorem tab15 : TabOK prog T15 := TabOK.nil
theorem ent15 : Entr prog 15 := ⟨_,func15,rfl,by decide⟩
set_option maxRecDepth 100000 in
set_option maxHeartbeats 1000000 in
theorem hok15 : ∀ (cu : List Int) (cd : List Int) (cv : Int) (ct : Int) (cp : Int) (cm : List MarkD) (k : Int),((((List.length cu ≤ 1048576 ∧ List.length cd ≤ 1048576 ∧ List.length cm ≤ 1048576) ∧ 0 ≤ k ∧ k ≤ 100000000))) → HOK prog 15 [911,912,913] [.agg [.own 911 cu.length,.own 912 cd.length,.i cv,.i ct,.i cp,.own 913 cm.length],.i k] [(911,⟨3,.row (.ints cu)⟩),(912,⟨3,.row (.ints cd)⟩),(913,⟨50,.row (.marks cm)⟩)] [911,912,913] (fun r s1 u1 => r = (.i (k + ((List.length cu : Nat) : Int) + ((List.length cd : Nat) : Int) + 4 * ((List.length cm : Nat) : Int))) ∧ s1 = ([(911,⟨3,.row (.ints (markI cu.length k))⟩),(912,⟨3,.row (.ints (markI cd.length (k + ((List.length cu : Nat) : Int))))⟩),(913,⟨50,.row (.marks (markM cm (k + ((List.length cu : Nat) : Int) + ((List.length cd : Nat) : Int))))⟩)]) ∧ u1 = ([911,912,913])) := by
 intro cu cd cv ct cp cm k hpre
 have hs := hpre
 refine HOK.of cok func15 rfl rfl rfl ?_
 intro F hnt0
 have hnt : F.nt = 18 := hnt0.trans ntmps15
 refine W.to (⟨[(0,.agg [.own 911 cu.length,.own 912 cd.length,.i cv,.i ct,.i cp,.own 913 cm.length]),(1,.i k)],[(911,⟨3,.row (.ints cu)⟩),(912,⟨3,.row (.ints cd)⟩),(913,⟨50,.row (.marks cm)⟩)],[911,912,913]⟩) rfl ?_
 refine Kk cok tab15 hnt [] [1,2] (⟨[(1,.i k),(2,.ptr 2 0)],[(2,⟨29,.fix [.own 911 cu.length,.own 912 cd.length,.i cv,.i ct,.i cp,.own 913 cm.length]⟩),(911,⟨3,.row (.ints cu)⟩),(912,⟨3,.row (.ints cd)⟩),(913,⟨50,.row (.marks cm)⟩)],[2,911,912,913]⟩)
  (True ∧ True ∧ True)
  ⟨tt,tt,tt⟩ ?_
 refine W.seq (W.wi ?_)
 refine WI.runT cok tab15 hnt [] 3 3 (⟨[(1,.i k),(2,.ptr 2 0),(5,.ptr 2 0),(6,.own 911 cu.length),(7,.i k)],[(2,⟨29,.fix [.own 911 cu.length,.own 912 cd.length,.i cv,.i ct,.i cp,.own 913 cm.length]⟩),(911,⟨3,.row (.ints cu)⟩),(912,⟨3,.row (.ints cd)⟩),(913,⟨50,.row (.marks cm)⟩)],[2,911,912,913]⟩)
  (True ∧ True ∧ True ∧ True) (by kernel_rfl) rfl
  ⟨tt,tt,tt,tt⟩ ?_
 refine WI.callH _ [.own 911 cu.length,.i k] [] (.fn 30 []) _ _ [(911,911)] (hok30 cu k ⟨(by omega),(by omega)⟩) ent30 hnt rfl rfl (wanted_none rfl) (by kernel_rfl) (by kernel_rfl) trivial (by kernel_rfl) (by kernel_rfl) (by kernel_rfl) (@cast (((some ⟨3,.row (.ints cu)⟩ : Option LB) = some ⟨3,.row (.ints cu)⟩) ∧ (true = true) ∧ (True)) _ (by kernel_rfl) ⟨rfl,rfl,tt⟩) (by kernel_rfl) rfl ?_
 rintro r s1 u1 ⟨rfl,rfl,rfl⟩
 refine ⟨[(911,911)],by kernel_rfl,WI.to (⟨[(1,.i k),(2,.ptr 2 0),(5,.ptr 2 0),(6,.own 911 cu.length),(7,.i k),(8,.i (k + (cu.length : Int)))],[(2,⟨29,.fix [.own 911 cu.length,.own 912 cd.length,.i cv,.i ct,.i cp,.own 913 cm.length]⟩),(911,⟨3,.row (.ints (markI cu.length k))⟩),(912,⟨3,.row (.ints cd)⟩),(913,⟨50,.row (.marks cm)⟩)],[2,911,912,913]⟩) 4 (by kernel_rfl) rfl ?_⟩
 refine WI.runT cok tab15 hnt [] 1 5 (⟨[(1,.i (k + (cu.length : Int))),(2,.ptr 2 0),(5,.ptr 2 0),(6,.own 911 cu.length),(7,.i k),(8,.i (k + (cu.length : Int)))],[(2,⟨29,.fix [.own 911 cu.length,.own 912 cd.length,.i cv,.i ct,.i cp,.own 913 cm.length]⟩),(911,⟨3,.row (.ints (markI cu.length k))⟩),(912,⟨3,.row (.ints cd)⟩),(913,⟨50,.row (.marks cm)⟩)],[2,911,912,913]⟩)
  (True ∧ True) (by kernel_rfl) rfl
  ⟨tt,tt⟩ ?_
 refine WI.nil rfl (thenQ_normal ?_)
 refine W.keepE [1,2] [(1,.i (k + (cu.length : Int))),(2,.ptr 2 0)] (by kernel_rfl) ?_
 refine W.to (⟨[(1,.i (k + (cu.length : Int))),(2,.ptr 2 0)],[(2,⟨29,.fix [.own 911 cu.length,.own 912 cd.length,.i cv,.i ct,.i cp,.own 913 cm.length]⟩),(911,⟨3,.row (.ints (markI cu.length k))⟩),(912,⟨3,.row (.ints cd)⟩),(913,⟨50,.row (.marks cm)⟩)],[2,911,912,913]⟩) rfl ?_
 refine W.seq (W.wi ?_)
 refine WI.runT cok tab15 hnt [] 3 3 (⟨[(1,.i (k + (cu.length : Int))),(2,.ptr 2 0),(9,.ptr 2 1),(10,.own 912 cd.length),(11,.i (k + (cu.length : Int)))],[(2,⟨29,.fix [.own 911 cu.length,.own 912 cd.length,.i cv,.i ct,.i cp,.own 913 cm.length]⟩),(911,⟨3,.row (.ints (markI cu.length k))⟩),(912,⟨3,.row (.ints cd)⟩),(913,⟨50,.row (.marks cm)⟩)],[2,911,912,913]⟩)
  (True ∧ True ∧ True ∧ True) (by kernel_rfl) rfl
  ⟨tt,tt,tt,tt⟩ ?_
 refine WI.callH _ [.own 912 cd.length,.i (k + (cu.length : Int))] [] (.fn 30 []) _ _ [(911,912)] (hok30 cd (k + (cu.length : Int)) ⟨(by omega),(by omega)⟩) ent30 hnt rfl rfl (wanted_none rfl) (by kernel_rfl) (by kernel_rfl) trivial (by kernel_rfl) (by kernel_rfl) (by kernel_rfl) (@cast (((some ⟨3,.row (.ints cd)⟩ : Option LB) = some ⟨3,.row (.ints cd)⟩) ∧ (true = true) ∧ (True)) _ (by kernel_rfl) ⟨rfl,rfl,tt⟩) (by kernel_rfl) rfl ?_
 rintro r s1 u1 ⟨rfl,rfl,rfl⟩
 refine ⟨[(911,912)],by kernel_rfl,WI.to (⟨[(1,.i (k + (cu.length : Int))),(2,.ptr 2 0),(9,.ptr 2 1),(10,.own 912 cd.length),(11,.i (k + (cu.length : Int))),(12,.i ((k + (cu.length : Int)) + (cd.length : Int)))],[(2,⟨29,.fix [.own 911 cu.length,.own 912 cd.length,.i cv,.i ct,.i cp,.own 913 cm.length]⟩),(911,⟨3,.row (.ints (markI cu.length k))⟩),(912,⟨3,.row (.ints (markI cd.length (k + (cu.length : Int))))⟩),(913,⟨50,.row (.marks cm)⟩)],[2,911,912,913]⟩) 4 (by kernel_rfl) rfl ?_⟩
 refine WI.runT cok tab15 hnt [] 1 5 (⟨[(1,.i ((k + (cu.length : Int)) + (cd.length : Int))),(2,.ptr 2 0),(9,.ptr 2 1),(10,.own 912 cd.length),(11,.i (k + (cu.length : Int))),(12,.i ((k + (cu.length : Int)) + (cd.length : Int)))],[(2,⟨29,.fix [.own 911 cu.length,.own 912 cd.length,.i cv,.i ct,.i cp,.own 913 cm.length]⟩),(911,⟨3,.row (.ints (markI cu.length k))⟩),(912,⟨3,.row (.ints (markI cd.length (k + (cu.length : Int))))⟩),(913,⟨50,.row (.marks cm)⟩)],[2,911,912,913]⟩)
  (True ∧ True) (by kernel_rfl) rfl
  ⟨tt,tt⟩ ?_
 refine WI.nil rfl (thenQ_normal ?_)
 refine W.keepE [1,2] [(1,.i ((k + (cu.length : Int)) + (cd.length : Int))),(2,.ptr 2 0)] (by kernel_rfl) ?_
 refine W.to (⟨[(1,.i ((k + (cu.length : Int)) + (cd.length : Int))),(2,.ptr 2 0)],[(2,⟨29,.fix [.own 911 cu.length,.own 912 cd.length,.i cv,.i ct,.i cp,.own 913 cm.length]⟩),(911,⟨3,.row (.ints (markI cu.length k))⟩),(912,⟨3,.row (.ints (markI cd.length (k + (cu.length : Int))))⟩),(913,⟨50,.row (.marks cm)⟩)],[2,911,912,913]⟩) rfl ?_
 refine W.seq (W.wi ?_)
 refine WI.runT cok tab15 hnt [] 3 3 (⟨[(1,.i ((k + (cu.length : Int)) + (cd.length : Int))),(2,.ptr 2 0),(13,.ptr 2 5),(14,.own 913 cm.length),(15,.i ((k + (cu.length : Int)) + (cd.length : Int)))],[(2,⟨29,.fix [.own 911 cu.length,.own 912 cd.length,.i cv,.i ct,.i cp,.own 913 cm.length]⟩),(911,⟨3,.row (.ints (markI cu.length k))⟩),(912,⟨3,.row (.ints (markI cd.length (k + (cu.length : Int))))⟩),(913,⟨50,.row (.marks cm)⟩)],[2,911,912,913]⟩)
  (True ∧ True ∧ True ∧ True) (by kernel_rfl) rfl
  ⟨tt,tt,tt,tt⟩ ?_
 refine WI.callH _ [.own 913 cm.length,.i ((k + (cu.length : Int)) + (cd.length : Int))] [] (.fn 41 []) _ _ [(911,913)] (hok41 cm ((k + (cu.length : Int)) + (cd.length : Int)) ⟨(by omega),(by omega)⟩) ent41 hnt rfl rfl (wanted_none rfl) (by kernel_rfl) (by kernel_rfl) trivial (by kernel_rfl) (by kernel_rfl) (by kernel_rfl) (@cast (((some ⟨50,.row (.marks cm)⟩ : Option LB) = some ⟨50,.row (.marks cm)⟩) ∧ (true = true) ∧ (True)) _ (by kernel_rfl) ⟨rfl,rfl,tt⟩) (by kernel_rfl) rfl ?_
 rintro r s1 u1 ⟨rfl,rfl,rfl⟩
 refine ⟨[(911,913)],by kernel_rfl,WI.to (⟨[(1,.i ((k + (cu.length : Int)) + (cd.length : Int))),(2,.ptr 2 0),(13,.ptr 2 5),(14,.own 913 cm.length),(15,.i ((k + (cu.length : Int)) + (cd.length : Int))),(16,.i (((k + (cu.length : Int)) + (cd.length : Int)) + 4 * (cm.length : Int)))],[(2,⟨29,.fix [.own 911 cu.length,.own 912 cd.length,.i cv,.i ct,.i cp,.own 913 cm.length]⟩),(911,⟨3,.row (.ints (markI cu.length k))⟩),(912,⟨3,.row (.ints (markI cd.length (k + (cu.length : Int))))⟩),(913,⟨50,.row (.marks (markM cm ((k + (cu.length : Int)) + (cd.length : Int))))⟩)],[2,911,912,913]⟩) 4 (by kernel_rfl) rfl ?_⟩
 refine WI.runT cok tab15 hnt [] 1 5 (⟨[(1,.i (((k + (cu.length : Int)) + (cd.length : Int)) + 4 * (cm.length : Int))),(2,.ptr 2 0),(13,.ptr 2 5),(14,.own 913 cm.length),(15,.i ((k + (cu.length : Int)) + (cd.length : Int))),(16,.i (((k + (cu.length : Int)) + (cd.length : Int)) + 4 * (cm.length : Int)))],[(2,⟨29,.fix [.own 911 cu.length,.own 912 cd.length,.i cv,.i ct,.i cp,.own 913 cm.length]⟩),(911,⟨3,.row (.ints (markI cu.length k))⟩),(912,⟨3,.row (.ints (markI cd.length (k + (cu.length : Int))))⟩),(913,⟨50,.row (.marks (markM cm ((k + (cu.length : Int)) + (cd.length : Int))))⟩)],[2,911,912,913]⟩)
  (True ∧ True) (by kernel_rfl) rfl
  ⟨tt,tt⟩ ?_
 refine WI.nil rfl (thenQ_normal ?_)
 refine W.keepE [1] [(1,.i (((k + (cu.length : Int)) + (cd.length : Int)) + 4 * (cm.length : Int)))] (by kernel_rfl) ?_
 refine W.to (⟨[(1,.i (((k + (cu.length : Int)) + (cd.length : Int)) + 4 * (cm.length : Int)))],[(2,⟨29,.fix [.own 911 cu.length,.own 912 cd.length,.i cv,.i ct,.i cp,.own 913 cm.length]⟩),(911,⟨3,.row (.ints (markI cu.length k))⟩),(912,⟨3,.row (.ints (markI cd.length (k + (cu.length : Int))))⟩),(913,⟨50,.row (.marks (markM cm ((k + (cu.length : Int)) + (cd.length : Int))))⟩)],[2,911,912,913]⟩) rfl ?_
 refine Kk cok tab15 hnt [] [4] (⟨[(4,.i (((k + (cu.length : Int)) + (cd.length : Int)) + 4 * (cm.length : Int)))],[(2,⟨29,.fix [.own 911 cu.length,.own 912 cd.length,.i cv,.i ct,.i cp,.own 913 cm.length]⟩),(911,⟨3,.row (.ints (markI cu.length k))⟩),(912,⟨3,.row (.ints (markI cd.length (k + (cu.length : Int))))⟩),(913,⟨50,.row (.marks (markM cm ((k + (cu.length : Int)) + (cd.length : Int))))⟩)],[2,911,912,913]⟩)
  (True ∧ True ∧ True)
  ⟨tt,tt,tt⟩ ?_
 refine W.ret ?_
 exact endH_ret (.i (k + ((List.length cu : Nat) : Int) + ((List.length cd : Nat) : Int) + 4 * ((List.length cm : Nat) : Int))) [(911,⟨3,.row (.ints (markI cu.length k))⟩),(912,⟨3,.row (.ints (markI cd.length (k + ((List.length cu : Nat) : Int))))⟩),(913,⟨50,.row (.marks (markM cm (k + ((List.length cu : Nat) : Int) + ((List.length cd : Nat) : Int))))⟩)] [911,912,913] ⟨rfl,rfl,rfl⟩ [(911,911),(912,912),(913,913)] (.i (((k + (cu.length : Int)) + (cd.length : Int)) + 4 * (cm.length : Int))) (by kernel_rfl) (@cast (((.int .i64 (((k + (cu.length : Int)) + (cd.length : Int)) + 4 * (cm.length : Int)) : Value) = .int .i64 (k + ((List.length cu : Nat) : Int) + ((List.length cd : Nat) : Int) + 4 * ((List.length cm : Nat) : Int))) ∧ ((((3 : Nat) = 3) ∧ ((.ints (markI cu.length k) : Dat) = .ints (markI cu.length k)) ∧ ((911 : Nat) ∈ ([911,912,913] : List Nat))) ∧ (((3 : Nat) = 3) ∧ ((.ints (markI cd.length (k + (cu.length : Int))) : Dat) = .ints (markI cd.length (k + ((List.length cu : Nat) : Int)))) ∧ ((912 : Nat) ∈ ([911,912,913] : List Nat))) ∧ (((50 : Nat) = 50) ∧ ((.marks (markM cm ((k + (cu.length : Int)) + (cd.length : Int))) : Dat) = .marks (markM cm (k + ((List.length cu : Nat) : Int) + ((List.length cd : Nat) : Int)))) ∧ ((913 : Nat) ∈ ([911,912,913] : List Nat))) ∧ True) ∧ (true = true) ∧ (true = true)) _ (by kernel_rfl) ⟨(congrArg (Value.int .i64) (by first | rfl | omega)),⟨⟨rfl,(congrArg Dat.ints (by first | rfl | omega)),(by decide)⟩,⟨rfl,(congrArg Dat.ints (by first | rfl | omega)),(by decide)⟩,⟨rfl,(congrArg Dat.marks (by first | rfl | omega)),(by decide)⟩,tt⟩,rfl,rfl⟩)
end Go.Proofs.Try
