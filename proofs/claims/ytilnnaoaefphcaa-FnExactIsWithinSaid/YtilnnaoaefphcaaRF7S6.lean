import Derived.Test.YtilnnaoaefphcaaRF7S0
import Derived.Test.YtilnnaoaefphcaaRF7S5
import Derived.Test.YtilnnaoaefphcaaRF7S1
import Derived.Test.YtilnnaoaefphcaaRF7S3
set_option linter.unusedSimpArgs false
set_option linter.unusedVariables false
namespace Go.Proofs.Try
open Go.Ab Go.RowKit
def fs70 : FnS := fnS [.s .ints,.s .ints] [.ints,.ints] (fun _ (a,b,_) => (.b (decide (a = b)),[],True))
abbrev T70 : Tab := lk []
theorem tab70 : TabOK prog T70 := TabOK.nil
set_option maxRecDepth 100000 in
set_option maxHeartbeats 1000000 in
theorem ok70 : FnOK prog 70 fs70 := by
 refine FnOK.mk cok func70 rfl rfl rfl ?_
 rintro fl ⟨(a : List Int),(b : List Int),_⟩ hpre F hnt0 _
 have hnt : F.nt = 26 := hnt0.trans ntmps70
 clear hpre
 refine W.to (⟨[(0,.sl (.ints a)),(1,.sl (.ints b))],[],[999]⟩) rfl ?_
 refine W.lenOf 0 (.ints a) (by kernel_rfl) ?_
 intro hl_a; replace hl_a : List.length a ≤ 9223372036854775807 := hl_a
 refine W.lenOf 1 (.ints b) (by kernel_rfl) ?_
 intro hl_b; replace hl_b : List.length b ≤ 9223372036854775807 := hl_b
 refine Kk cok tab70 hnt [] [0,1] (⟨[(0,.sl (.ints a)),(1,.sl (.ints b))],[],[999]⟩)
  (True ∧ True)
  ⟨tt,tt⟩ ?_
 refine W.seq ?_
 refine Kk cok tab70 hnt [] [0,1,10] (⟨[(0,.sl (.ints a)),(1,.sl (.ints b)),(10,.b (decide ((a.length : Int) ≠ (b.length : Int))))],[],[999]⟩)
  (True ∧ True ∧ True ∧ True ∧ (True ∧ True ∧ True) ∧ True)
  ⟨tt,tt,tt,tt,⟨tt,tt,tt⟩,tt⟩ ?_
 refine W.ifP ((a.length : Int) ≠ (b.length : Int)) (.b (decide ((a.length : Int) ≠ (b.length : Int)))) (by kernel_rfl) rfl trivial ?_ ?_
 ·intro h10
  refine Kk cok tab70 hnt [] [4] (⟨[(4,.b false)],[],[999]⟩)
   (True ∧ True)
   ⟨tt,tt⟩ ?_
  refine W.ret (thenQ_ret ?_)
  exact endQ_ret (.b false) (by kernel_rfl) (@cast ((.bool false : Value) = .bool (decide (a = b))) _ (by kernel_rfl) (congrArg Value.bool (by symm; exact decide_eq_false (fun e => h10 (by rw [e])))))
 ·intro n10
  refine W.skip (thenQ_normal ?_)
  refine W.seq ?_
  refine Kk cok tab70 hnt [] [0,1,12,13] (⟨[(0,.sl (.ints a)),(1,.sl (.ints b)),(12,.i (a.length : Int)),(13,.i (0 : Int))],[],[999]⟩)
   (True ∧ True ∧ True ∧ True)
   ⟨tt,tt,tt,tt⟩ ?_
  refine W.block ?_
  refine W.loop (ι := Nat) (fun (i : Nat) => (⟨[(0,.sl (.ints a)),(1,.sl (.ints b)),(12,.i (a.length : Int)),(13,.i ((i : Nat) : Int))],[],[999]⟩ : St))
   (fun (i : Nat) => (i ≤ a.length) ∧ (∀ j,j < i → a.getD j 0 = b.getD j 0))
   (fun (i : Nat) => (a.length - i : Nat)) (0) ?_ ?_ ?_
  ·exact (show (0 ≤ a.length) ∧ (∀ j,j < 0 → a.getD j 0 = b.getD j 0) from ⟨(by first | assumption | omega | rfl | (intro _ hjj; omega) | (simp; done) | (simp; omega)),(by exact upto_zero)⟩)
  ·exact Sub.of [] (@cast (((Sd (.ints a)) ∧ (Sd (.ints b)) ∧ (Si (a.length : Int)) ∧ ((.int .i64 (0 : Int) : Value) = .int .i64 ((0 : Nat) : Int)) ∧ True) ∧ True ∧ (true = true) ∧ (true = true)) _ (by kernel_rfl) ⟨⟨rfl,rfl,rfl,(congrArg (Value.int .i64) (by first | rfl | omega | assumption | simp | simp_all)),tt⟩,tt,rfl,rfl⟩)
  ·rintro i hC0
   have hC : (i ≤ a.length) ∧ (∀ j,j < i → a.getD j 0 = b.getD j 0) := hC0
   clear hC0
   obtain ⟨hi,hA⟩ := hC
   refine W.to (⟨[(0,.sl (.ints a)),(1,.sl (.ints b)),(12,.i (a.length : Int)),(13,.i ((i : Nat) : Int))],[],[999]⟩) rfl ?_
   refine Kk cok tab70 hnt [] [0,1,12,13,14] (⟨[(0,.sl (.ints a)),(1,.sl (.ints b)),(12,.i (a.length : Int)),(13,.i ((i : Nat) : Int)),(14,.b (decide (((i : Nat) : Int) < (a.length : Int))))],[],[999]⟩)
    ((True ∧ True ∧ True) ∧ True)
    ⟨⟨tt,tt,tt⟩,tt⟩ ?_
   refine W.seq ?_
   refine W.ifP (((i : Nat) : Int) < (a.length : Int)) (.b (decide (((i : Nat) : Int) < (a.length : Int)))) (by kernel_rfl) rfl trivial ?_ ?_
   ·intro h14
    refine W.skip (thenQ_normal ?_)
    refine W.seq ?_
    refine W.block ?_
    refine Kk cok tab70 hnt [] [0,1,5,12,13] (⟨[(0,.sl (.ints a)),(1,.sl (.ints b)),(5,.i ((i : Nat) : Int)),(12,.i (a.length : Int)),(13,.i ((i : Nat) : Int))],[],[999]⟩)
     (True ∧ True ∧ True)
     ⟨tt,tt,tt⟩ ?_
    refine W.KA cok tab70 hnt [] [0,1,12,13,24] (⟨[(0,.sl (.ints a)),(1,.sl (.ints b)),(12,.i (a.length : Int)),(13,.i ((i : Nat) : Int)),(24,.b (decide ((a.getD i 0) ≠ (b.getD i 0))))],[],[999]⟩)
     (True ∧ True ∧ (True ∧ True ∧ (0 ≤ ((i : Nat) : Int)) ∧ (((i : Nat) : Int) < (a.length : Int))) ∧ True ∧ True ∧ True ∧ (True ∧ True ∧ (0 ≤ ((i : Nat) : Int)) ∧ (((i : Nat) : Int) < (b.length : Int))) ∧ True ∧ (True ∧ True ∧ True) ∧ True) (by kernel_rfl) (by kernel_rfl)
     ⟨tt,tt,⟨tt,tt,(by omega),(by omega)⟩,tt,tt,tt,⟨tt,tt,(by omega),(by omega)⟩,tt,⟨tt,tt,tt⟩,tt⟩ ?_
    refine W.ifP ((a.getD i 0) ≠ (b.getD i 0)) (.b (decide ((a.getD i 0) ≠ (b.getD i 0)))) (by kernel_rfl) rfl trivial ?_ ?_
    ·intro h24
     refine Kk cok tab70 hnt [] [4] (⟨[(4,.b false)],[],[999]⟩)
      (True ∧ True)
      ⟨tt,tt⟩ ?_
     refine W.ret (blockQ_ret (thenQ_ret (thenQ_ret (blockQ_ret (thenQ_ret ?_)))))
     exact endQ_ret (.b false) (by kernel_rfl) (@cast ((.bool false : Value) = .bool (decide (a = b))) _ (by kernel_rfl) (congrArg Value.bool (by symm; exact decide_eq_false (fun e => h24 (by rw [e])))))
    ·intro n24
     refine W.skip (blockQ_normal (thenQ_normal ?_))
     refine Lk cok tab70 hnt [] (⟨[(0,.sl (.ints a)),(1,.sl (.ints b)),(12,.i (a.length : Int)),(13,.i (((i + 1) : Nat) : Int)),(24,.b (decide ((a.getD i 0) ≠ (b.getD i 0)))),(25,.i (((i + 1) : Nat) : Int))],[],[999]⟩)
      ((True ∧ True ∧ (Fits .i64 (((i + 1) : Nat) : Int))) ∧ True ∧ True)
      ⟨⟨tt,tt,(by exact fits_i64 (by omega) (by omega))⟩,tt,tt⟩ ?_
     refine thenQ_normal ?_
     refine ⟨((i + 1)),(show ((i + 1) ≤ a.length) ∧ (∀ j,j < (i + 1) → a.getD j 0 = b.getD j 0) from ⟨(by first | assumption | omega | rfl | (intro _ hjj; omega) | (simp; done) | (simp; omega)),(by exact upto_succ hA (Decidable.not_not.1 n24))⟩),(show a.length - (i + 1) < a.length - i from (by first | omega | (simp_all; omega))),?_⟩
     exact Sub.of [] (@cast (((Sd (.ints a)) ∧ (Sd (.ints b)) ∧ (Si (a.length : Int)) ∧ (Si (((i + 1) : Nat) : Int)) ∧ True) ∧ True ∧ (true = true) ∧ (true = true)) _ (by kernel_rfl) ⟨⟨rfl,rfl,rfl,rfl,tt⟩,tt,rfl,rfl⟩)
   ·intro n14
    refine W.exit (thenQ_exit (thenQ_exit (blockQ_hit ?_)))
    refine thenQ_normal ?_
    refine Kk cok tab70 hnt [] [4] (⟨[(4,.b true)],[],[999]⟩)
     (True ∧ True)
     ⟨tt,tt⟩ ?_
    refine W.ret ?_
    exact endQ_ret (.b true) (by kernel_rfl) (@cast ((.bool true : Value) = .bool (decide (a = b))) _ (by kernel_rfl) (congrArg Value.bool (by symm; exact decide_eq_true (ints_ext (by omega) (fun j hj => hA j (by omega))))))
theorem ent70 : Entr prog 70 := ⟨_,func70,rfl,by decide⟩
end Go.Proofs.Try

set_option linter.unusedSimpArgs false
set_option linter.unusedVariables false
namespace Go.Proofs.Try
open Go.Ab Go.RowKit
def fs71 : FnS := fnS [.s .marks,.s .marks] [.marks,.marks] (fun _ (a,b,_) => (.b (decide (a = b)),[],True))
abbrev T71 : Tab := lk []
theorem tab71 : TabOK prog T71 := TabOK.nil
set_option maxRecDepth 100000 in
set_option maxHeartbeats 1000000 in
theorem ok71 : FnOK prog 71 fs71 := by
 refine FnOK.mk cok func71 rfl rfl rfl ?_
 rintro fl ⟨(a : List MarkD),(b : List MarkD),_⟩ hpre F hnt0 _
 have hnt : F.nt = 26 := hnt0.trans ntmps71
 clear hpre
 refine W.to (⟨[(0,.sl (.marks a)),(1,.sl (.marks b))],[],[999]⟩) rfl ?_
 refine W.lenOf 0 (.marks a) (by kernel_rfl) ?_
 intro hl_a; replace hl_a : List.length a ≤ 9223372036854775807 := hl_a
 refine W.lenOf 1 (.marks b) (by kernel_rfl) ?_
 intro hl_b; replace hl_b : List.length b ≤ 9223372036854775807 := hl_b
 refine Kk cok tab71 hnt [] [0,1] (⟨[(0,.sl (.marks a)),(1,.sl (.marks b))],[],[999]⟩)
  (True ∧ True)
  ⟨tt,tt⟩ ?_
 refine W.seq ?_
 refine Kk cok tab71 hnt [] [0,1,10] (⟨[(0,.sl (.marks a)),(1,.sl (.marks b)),(10,.b (decide ((a.length : Int) ≠ (b.length : Int))))],[],[999]⟩)
  (True ∧ True ∧ True ∧ True ∧ (True ∧ True ∧ True) ∧ True)
  ⟨tt,tt,tt,tt,⟨tt,tt,tt⟩,tt⟩ ?_
 refine W.ifP ((a.length : Int) ≠ (b.length : Int)) (.b (decide ((a.length : Int) ≠ (b.length : Int)))) (by kernel_rfl) rfl trivial ?_ ?_
 ·intro h10
  refine Kk cok tab71 hnt [] [4] (⟨[(4,.b false)],[],[999]⟩)
   (True ∧ True)
   ⟨tt,tt⟩ ?_
  refine W.ret (thenQ_ret ?_)
  exact endQ_ret (.b false) (by kernel_rfl) (@cast ((.bool false : Value) = .bool (decide (a = b))) _ (by kernel_rfl) (congrArg Value.bool (by symm; exact decide_eq_false (fun e => h10 (by rw [e])))))
 ·intro n10
  refine W.skip (thenQ_normal ?_)
  refine W.seq ?_
  refine Kk cok tab71 hnt [] [0,1,12,13] (⟨[(0,.sl (.marks a)),(1,.sl (.marks b)),(12,.i (a.length : Int)),(13,.i (0 : Int))],[],[999]⟩)
   (True ∧ True ∧ True ∧ True)
   ⟨tt,tt,tt,tt⟩ ?_
  refine W.block ?_
  refine W.loop (ι := Nat) (fun (i : Nat) => (⟨[(0,.sl (.marks a)),(1,.sl (.marks b)),(12,.i (a.length : Int)),(13,.i ((i : Nat) : Int))],[],[999]⟩ : St))
   (fun (i : Nat) => (i ≤ a.length) ∧ (∀ j,j < i → a.getD j default = b.getD j default))
   (fun (i : Nat) => (a.length - i : Nat)) (0) ?_ ?_ ?_
  ·exact (show (0 ≤ a.length) ∧ (∀ j,j < 0 → a.getD j default = b.getD j default) from ⟨(by first | assumption | omega | rfl | (intro _ hjj; omega) | (simp; done) | (simp; omega)),(by exact upto_zero)⟩)
  ·exact Sub.of [] (@cast (((Sd (.marks a)) ∧ (Sd (.marks b)) ∧ (Si (a.length : Int)) ∧ ((.int .i64 (0 : Int) : Value) = .int .i64 ((0 : Nat) : Int)) ∧ True) ∧ True ∧ (true = true) ∧ (true = true)) _ (by kernel_rfl) ⟨⟨rfl,rfl,rfl,(congrArg (Value.int .i64) (by first | rfl | omega | assumption | simp | simp_all)),tt⟩,tt,rfl,rfl⟩)
  ·rintro i hC0
   have hC : (i ≤ a.length) ∧ (∀ j,j < i → a.getD j default = b.getD j default) := hC0
   clear hC0
   obtain ⟨hi,hA⟩ := hC
   refine W.to (⟨[(0,.sl (.marks a)),(1,.sl (.marks b)),(12,.i (a.length : Int)),(13,.i ((i : Nat) : Int))],[],[999]⟩) rfl ?_
   refine Kk cok tab71 hnt [] [0,1,12,13,14] (⟨[(0,.sl (.marks a)),(1,.sl (.marks b)),(12,.i (a.length : Int)),(13,.i ((i : Nat) : Int)),(14,.b (decide (((i : Nat) : Int) < (a.length : Int))))],[],[999]⟩)
    ((True ∧ True ∧ True) ∧ True)
    ⟨⟨tt,tt,tt⟩,tt⟩ ?_
   refine W.seq ?_
   refine W.ifP (((i : Nat) : Int) < (a.length : Int)) (.b (decide (((i : Nat) : Int) < (a.length : Int)))) (by kernel_rfl) rfl trivial ?_ ?_
   ·intro h14
    refine W.skip (thenQ_normal ?_)
    refine W.seq ?_
    refine W.block ?_
    refine Kk cok tab71 hnt [] [0,1,5,12,13] (⟨[(0,.sl (.marks a)),(1,.sl (.marks b)),(5,.i ((i : Nat) : Int)),(12,.i (a.length : Int)),(13,.i ((i : Nat) : Int))],[],[999]⟩)
     (True ∧ True ∧ True)
     ⟨tt,tt,tt⟩ ?_
    refine W.KA cok tab71 hnt [] [0,1,12,13,24] (⟨[(0,.sl (.marks a)),(1,.sl (.marks b)),(12,.i (a.length : Int)),(13,.i ((i : Nat) : Int)),(24,.b (!((decide (((a.getD i default).value) = ((b.getD i default).value))) && ((decide (((a.getD i default).proc) = ((b.getD i default).proc))) && ((decide (((a.getD i default).number) = ((b.getD i default).number))) && ((((a.getD i default).gone) == ((b.getD i default).gone)) && true))))))],[],[999]⟩)
     (True ∧ True ∧ (True ∧ True ∧ (0 ≤ ((i : Nat) : Int)) ∧ (((i : Nat) : Int) < (a.length : Int))) ∧ True ∧ True ∧ True ∧ (True ∧ True ∧ (0 ≤ ((i : Nat) : Int)) ∧ (((i : Nat) : Int) < (b.length : Int))) ∧ True ∧ (True ∧ True) ∧ True) (by kernel_rfl) (by kernel_rfl)
     ⟨tt,tt,⟨tt,tt,(by omega),(by omega)⟩,tt,tt,tt,⟨tt,tt,(by omega),(by omega)⟩,tt,⟨tt,tt⟩,tt⟩ ?_
    refine W.if' (!((decide (((a.getD i default).value) = ((b.getD i default).value))) && ((decide (((a.getD i default).proc) = ((b.getD i default).proc))) && ((decide (((a.getD i default).number) = ((b.getD i default).number))) && ((((a.getD i default).gone) == ((b.getD i default).gone)) && true))))) (.b (!((decide (((a.getD i default).value) = ((b.getD i default).value))) && ((decide (((a.getD i default).proc) = ((b.getD i default).proc))) && ((decide (((a.getD i default).number) = ((b.getD i default).number))) && ((((a.getD i default).gone) == ((b.getD i default).gone)) && true)))))) (by kernel_rfl) rfl trivial ?_ ?_
    ·intro h24
     refine Kk cok tab71 hnt [] [4] (⟨[(4,.b false)],[],[999]⟩)
      (True ∧ True)
      ⟨tt,tt⟩ ?_
     refine W.ret (blockQ_ret (thenQ_ret (thenQ_ret (blockQ_ret (thenQ_ret ?_)))))
     exact endQ_ret (.b false) (by kernel_rfl) (@cast ((.bool false : Value) = .bool (decide (a = b))) _ (by kernel_rfl) (congrArg Value.bool (by symm; exact decide_eq_false (fun e => by rw [e] at h24; exact mark_self h24))))
    ·intro n24
     have n24_0 : ((a.getD i default).value) = ((b.getD i default).value) := of_decide_eq_true (and_l (not_g n24))
     have n24_1 : ((a.getD i default).proc) = ((b.getD i default).proc) := of_decide_eq_true (and_l (and_r (not_g n24)))
     have n24_2 : ((a.getD i default).number) = ((b.getD i default).number) := of_decide_eq_true (and_l (and_r (and_r (not_g n24))))
     refine W.skip (blockQ_normal (thenQ_normal ?_))
     refine Lk cok tab71 hnt [] (⟨[(0,.sl (.marks a)),(1,.sl (.marks b)),(12,.i (a.length : Int)),(13,.i (((i + 1) : Nat) : Int)),(24,.b (!((decide (((a.getD i default).value) = ((b.getD i default).value))) && ((decide (((a.getD i default).proc) = ((b.getD i default).proc))) && ((decide (((a.getD i default).number) = ((b.getD i default).number))) && ((((a.getD i default).gone) == ((b.getD i default).gone)) && true)))))),(25,.i (((i + 1) : Nat) : Int))],[],[999]⟩)
      ((True ∧ True ∧ (Fits .i64 (((i + 1) : Nat) : Int))) ∧ True ∧ True)
      ⟨⟨tt,tt,(by exact fits_i64 (by omega) (by omega))⟩,tt,tt⟩ ?_
     refine thenQ_normal ?_
     refine ⟨((i + 1)),(show ((i + 1) ≤ a.length) ∧ (∀ j,j < (i + 1) → a.getD j default = b.getD j default) from ⟨(by first | assumption | omega | rfl | (intro _ hjj; omega) | (simp; done) | (simp; omega)),(by exact upto_succ hA (mark_same n24))⟩),(show a.length - (i + 1) < a.length - i from (by first | omega | (simp_all; omega))),?_⟩
     exact Sub.of [] (@cast (((Sd (.marks a)) ∧ (Sd (.marks b)) ∧ (Si (a.length : Int)) ∧ (Si (((i + 1) : Nat) : Int)) ∧ True) ∧ True ∧ (true = true) ∧ (true = true)) _ (by kernel_rfl) ⟨⟨rfl,rfl,rfl,rfl,tt⟩,tt,rfl,rfl⟩)
   ·intro n14
    refine W.exit (thenQ_exit (thenQ_exit (blockQ_hit ?_)))
    refine thenQ_normal ?_
    refine Kk cok tab71 hnt [] [4] (⟨[(4,.b true)],[],[999]⟩)
     (True ∧ True)
     ⟨tt,tt⟩ ?_
    refine W.ret ?_
    exact endQ_ret (.b true) (by kernel_rfl) (@cast ((.bool true : Value) = .bool (decide (a = b))) _ (by kernel_rfl) (congrArg Value.bool (by symm; exact decide_eq_true (marks_ext (by omega) (fun j hj => hA j (by omega))))))
theorem ent71 : Entr prog 71 := ⟨_,func71,rfl,by decide⟩
end Go.Proofs.Try

set_option linter.unusedSimpArgs false
set_option linter.unusedVariables false
namespace Go.Proofs.Try
open Go.Ab Go.RowKit
def fs53 : FnS := fnS [.a [some .ints,some .ints,none,none,none,some .marks],.a [some .ints,some .ints,none,none,none,some .marks]] [.copy,.copy] (fun _ (a,b,_) => (.b (sameC a b),[],True))
abbrev T53 : Tab := lk [(70,fs70),(71,fs71)]
theorem tab53 : TabOK prog T53 := (TabOK.cons ok70 ent70 (TabOK.cons ok71 ent71 TabOK.nil))
set_option maxRecDepth 100000 in
set_option maxHeartbeats 1000000 in
theorem ok53 : FnOK prog 53 fs53 := by
 refine FnOK.mk cok func53 rfl rfl rfl ?_
 rintro fl ⟨(a : CopyD),(b : CopyD),_⟩ hpre F hnt0 _
 have hnt : F.nt = 45 := hnt0.trans ntmps53
 clear hpre
 refine W.to (⟨[(0,.agg (cC a)),(1,.agg (cC b))],[],[999]⟩) rfl ?_
 refine W.lenA 0 0 (cC a) (.ints a.up) (by kernel_rfl) (by kernel_rfl) ?_
 intro hl_a_up; replace hl_a_up : List.length a.up ≤ 9223372036854775807 := hl_a_up
 refine W.lenA 0 1 (cC a) (.ints a.down) (by kernel_rfl) (by kernel_rfl) ?_
 intro hl_a_down; replace hl_a_down : List.length a.down ≤ 9223372036854775807 := hl_a_down
 refine W.lenA 0 5 (cC a) (.marks a.marks) (by kernel_rfl) (by kernel_rfl) ?_
 intro hl_a_marks; replace hl_a_marks : List.length a.marks ≤ 9223372036854775807 := hl_a_marks
 refine W.lenA 1 0 (cC b) (.ints b.up) (by kernel_rfl) (by kernel_rfl) ?_
 intro hl_b_up; replace hl_b_up : List.length b.up ≤ 9223372036854775807 := hl_b_up
 refine W.lenA 1 1 (cC b) (.ints b.down) (by kernel_rfl) (by kernel_rfl) ?_
 intro hl_b_down; replace hl_b_down : List.length b.down ≤ 9223372036854775807 := hl_b_down
 refine W.lenA 1 5 (cC b) (.marks b.marks) (by kernel_rfl) (by kernel_rfl) ?_
 intro hl_b_marks; replace hl_b_marks : List.length b.marks ≤ 9223372036854775807 := hl_b_marks
 refine Kk cok tab53 hnt [] [2,3] (⟨[(2,.ptr 2 0),(3,.ptr 3 0)],[(2,⟨29,.fix (cC a)⟩),(3,⟨29,.fix (cC b)⟩)],[3,2,999]⟩)
  (True ∧ True ∧ True ∧ True)
  ⟨tt,tt,tt,tt⟩ ?_
 refine Kk cok tab53 hnt [] [4] (⟨[(4,.b ((((((decide (a.up = b.up)) && (decide (a.down = b.down))) && (decide (a.value = b.value))) && (decide (a.time = b.time))) && (decide (a.proc = b.proc))) && (decide (a.marks = b.marks))))],[(2,⟨29,.fix (cC a)⟩),(3,⟨29,.fix (cC b)⟩)],[3,2,999]⟩)
  ((fun (Z1:Bool)=>((fun (Z2:Bool)=>((fun (Z3:Bool)=>((fun (Z4:Bool)=>((fun (Z5:Bool)=>(True ∧ (True ∧ (True ∧ (True ∧ ((True ∧ ((True ∧ (True ∧ True)) ∧ True)) ∧ (True ∧ ((Z1 = true → True) ∧ ((Z1 = true → ((Z1 = true) ∧ True)) ∧ ((Z1 = true → True) ∧ ((Z1 = true → ((Z1 = true) ∧ True)) ∧ ((Z1 = true → (True ∧ ((((Z1 = true) ∧ True) ∧ (((Z1 = true) ∧ True) ∧ True)) ∧ True))) ∧ ((True ∧ ((Z1 = true → (Z1 = true) ∧ True) ∧ (Z1 = false → True))) ∧ (True ∧ ((Z2 = true → True) ∧ ((Z2 = true → ((Z2 = true) ∧ True)) ∧ ((Z2 = true → True) ∧ ((Z2 = true → ((Z2 = true) ∧ True)) ∧ ((Z2 = true → (((Z2 = true) ∧ True) ∧ (((Z2 = true) ∧ True) ∧ True))) ∧ ((True ∧ ((Z2 = true → (Z2 = true) ∧ True) ∧ (Z2 = false → True))) ∧ (True ∧ ((Z3 = true → True) ∧ ((Z3 = true → ((Z3 = true) ∧ True)) ∧ ((Z3 = true → True) ∧ ((Z3 = true → ((Z3 = true) ∧ True)) ∧ ((Z3 = true → (((Z3 = true) ∧ True) ∧ (((Z3 = true) ∧ True) ∧ True))) ∧ ((True ∧ ((Z3 = true → (Z3 = true) ∧ True) ∧ (Z3 = false → True))) ∧ (True ∧ ((Z4 = true → True) ∧ ((Z4 = true → ((Z4 = true) ∧ True)) ∧ ((Z4 = true → True) ∧ ((Z4 = true → ((Z4 = true) ∧ True)) ∧ ((Z4 = true → (((Z4 = true) ∧ True) ∧ (((Z4 = true) ∧ True) ∧ True))) ∧ ((True ∧ ((Z4 = true → (Z4 = true) ∧ True) ∧ (Z4 = false → True))) ∧ (True ∧ ((Z5 = true → True) ∧ ((Z5 = true → ((Z5 = true) ∧ True)) ∧ ((Z5 = true → True) ∧ ((Z5 = true → ((Z5 = true) ∧ True)) ∧ ((Z5 = true → (True ∧ ((((Z5 = true) ∧ True) ∧ (((Z5 = true) ∧ True) ∧ True)) ∧ True))) ∧ ((True ∧ ((Z5 = true → (Z5 = true) ∧ True) ∧ (Z5 = false → True))) ∧ (True ∧ True)))))))))))))))))))))))))))))))))))))))))) (Z4 && (decide (a.proc = b.proc))))) (Z3 && (decide (a.time = b.time))))) (Z2 && (decide (a.value = b.value))))) (Z1 && (decide (a.down = b.down))))) (decide (a.up = b.up)))
  ⟨tt,tt,tt,tt,⟨tt,⟨tt,tt,tt⟩,tt⟩,tt,(fun _ => trivial),(fun hG => ⟨hG,tt⟩),(fun _ => trivial),(fun hG => ⟨hG,tt⟩),(fun hG => ⟨tt,⟨⟨hG,tt⟩,⟨hG,tt⟩,tt⟩,tt⟩),⟨tt,(fun hp => ⟨hp,tt⟩),(fun _ => trivial)⟩,tt,(fun _ => trivial),(fun hG => ⟨hG,tt⟩),(fun _ => trivial),(fun hG => ⟨hG,tt⟩),(fun hG => ⟨⟨hG,tt⟩,⟨hG,tt⟩,tt⟩),⟨tt,(fun hp => ⟨hp,tt⟩),(fun _ => trivial)⟩,tt,(fun _ => trivial),(fun hG => ⟨hG,tt⟩),(fun _ => trivial),(fun hG => ⟨hG,tt⟩),(fun hG => ⟨⟨hG,tt⟩,⟨hG,tt⟩,tt⟩),⟨tt,(fun hp => ⟨hp,tt⟩),(fun _ => trivial)⟩,tt,(fun _ => trivial),(fun hG => ⟨hG,tt⟩),(fun _ => trivial),(fun hG => ⟨hG,tt⟩),(fun hG => ⟨⟨hG,tt⟩,⟨hG,tt⟩,tt⟩),⟨tt,(fun hp => ⟨hp,tt⟩),(fun _ => trivial)⟩,tt,(fun _ => trivial),(fun hG => ⟨hG,tt⟩),(fun _ => trivial),(fun hG => ⟨hG,tt⟩),(fun hG => ⟨tt,⟨⟨hG,tt⟩,⟨hG,tt⟩,tt⟩,tt⟩),⟨tt,(fun hp => ⟨hp,tt⟩),(fun _ => trivial)⟩,tt,tt⟩ ?_
 refine W.ret ?_
 exact endQ_ret (.b ((((((decide (a.up = b.up)) && (decide (a.down = b.down))) && (decide (a.value = b.value))) && (decide (a.time = b.time))) && (decide (a.proc = b.proc))) && (decide (a.marks = b.marks)))) (by kernel_rfl) (@cast ((.bool ((((((decide (a.up = b.up)) && (decide (a.down = b.down))) && (decide (a.value = b.value))) && (decide (a.time = b.time))) && (decide (a.proc = b.proc))) && (decide (a.marks = b.marks))) : Value) = .bool (sameC a b)) _ (by kernel_rfl) (congrArg Value.bool (by rfl)))
theorem ent53 : Entr prog 53 := ⟨_,func53,rfl,by decide⟩
end Go.Proofs.Try

set_option linter.unusedSimpArgs false
set_option linter.unusedVariables false
namespace Go.Proofs.Try
open Go.Ab Go.RowKit
def fs24 : FnS := fnS [.a [some .ints,some .ints,none,none,none,some .marks],.a [some .ints,some .ints,none,none,none,some .marks]] [.copy,.copy] (fun _ (a,b,_) => (.b (withinC a b),[],True))
abbrev T24 : Tab := lk [(26,fs26),(53,fs53)]
theorem tab24 : TabOK prog T24 := (TabOK.cons ok26 ent26 (TabOK.cons ok53 ent53 TabOK.nil))
set_option maxRecDepth 100000 in
set_option maxHeartbeats 1000000 in
theorem ok24 : FnOK prog 24 fs24 := by
 refine FnOK.mk cok func24 rfl rfl rfl ?_
 rintro fl ⟨(a : CopyD),(b : CopyD),_⟩ hpre F hnt0 _
 have hnt : F.nt = 19 := hnt0.trans ntmps24
 clear hpre
 refine W.to (⟨[(0,.agg (cC a)),(1,.agg (cC b))],[],[999]⟩) rfl ?_
 refine W.lenA 0 0 (cC a) (.ints a.up) (by kernel_rfl) (by kernel_rfl) ?_
 intro hl_a_up; replace hl_a_up : List.length a.up ≤ 9223372036854775807 := hl_a_up
 refine W.lenA 0 1 (cC a) (.ints a.down) (by kernel_rfl) (by kernel_rfl) ?_
 intro hl_a_down; replace hl_a_down : List.length a.down ≤ 9223372036854775807 := hl_a_down
 refine W.lenA 0 5 (cC a) (.marks a.marks) (by kernel_rfl) (by kernel_rfl) ?_
 intro hl_a_marks; replace hl_a_marks : List.length a.marks ≤ 9223372036854775807 := hl_a_marks
 refine W.lenA 1 0 (cC b) (.ints b.up) (by kernel_rfl) (by kernel_rfl) ?_
 intro hl_b_up; replace hl_b_up : List.length b.up ≤ 9223372036854775807 := hl_b_up
 refine W.lenA 1 1 (cC b) (.ints b.down) (by kernel_rfl) (by kernel_rfl) ?_
 intro hl_b_down; replace hl_b_down : List.length b.down ≤ 9223372036854775807 := hl_b_down
 refine W.lenA 1 5 (cC b) (.marks b.marks) (by kernel_rfl) (by kernel_rfl) ?_
 intro hl_b_marks; replace hl_b_marks : List.length b.marks ≤ 9223372036854775807 := hl_b_marks
 refine Kk cok tab24 hnt [] [2,3] (⟨[(2,.ptr 2 0),(3,.ptr 3 0)],[(2,⟨29,.fix (cC a)⟩),(3,⟨29,.fix (cC b)⟩)],[3,2,999]⟩)
  (True ∧ True ∧ True ∧ True)
  ⟨tt,tt,tt,tt⟩ ?_
 refine Kk cok tab24 hnt [] [3,5,6] (⟨[(3,.ptr 3 0),(5,.ptr 5 0),(6,.b ((mergeC a b).2))],[(2,⟨29,.fix (cC a)⟩),(3,⟨29,.fix (cC b)⟩),(5,⟨29,.fix [.own 10 (List.length ((mergeC a b).1.up)),.own 1010 (List.length ((mergeC a b).1.down)),.i ((mergeC a b).1.value),.i ((mergeC a b).1.time),.i ((mergeC a b).1.proc),.own 2010 (List.length ((mergeC a b).1.marks))]⟩),(10,⟨3,.row (.ints ((mergeC a b).1.up))⟩),(1010,⟨3,.row (.ints ((mergeC a b).1.down))⟩),(2010,⟨50,.row (.marks ((mergeC a b).1.marks))⟩)],[5,2010,1010,10,3,2,999]⟩)
  (True ∧ True ∧ (True ∧ ((True ∧ True ∧ True ∧ True ∧ True ∧ True ∧ True ∧ True) ∧ (True ∧ True ∧ True ∧ True ∧ True ∧ True ∧ True ∧ True) ∧ True) ∧ True) ∧ True ∧ True ∧ True ∧ True ∧ (True ∧ True) ∧ True ∧ True)
  ⟨tt,tt,⟨tt,⟨⟨tt,tt,tt,tt,tt,tt,tt,tt⟩,⟨tt,tt,tt,tt,tt,tt,tt,tt⟩,tt⟩,tt⟩,tt,tt,tt,tt,⟨tt,tt⟩,tt,tt⟩ ?_
 refine Kk cok tab24 hnt [] [4] (⟨[(4,.b (((mergeC a b).2) && (sameC (mergeC a b).1 b)))],[(2,⟨29,.fix (cC a)⟩),(3,⟨29,.fix (cC b)⟩),(5,⟨29,.fix [.own 10 (List.length ((mergeC a b).1.up)),.own 1010 (List.length ((mergeC a b).1.down)),.i ((mergeC a b).1.value),.i ((mergeC a b).1.time),.i ((mergeC a b).1.proc),.own 2010 (List.length ((mergeC a b).1.marks))]⟩),(10,⟨3,.row (.ints ((mergeC a b).1.up))⟩),(1010,⟨3,.row (.ints ((mergeC a b).1.down))⟩),(2010,⟨50,.row (.marks ((mergeC a b).1.marks))⟩)],[5,2010,1010,10,3,2,999]⟩)
  ((fun (Z1:Bool)=>(True ∧ (True ∧ ((Z1 = true → True) ∧ ((Z1 = true → True) ∧ ((Z1 = true → (True ∧ (((((Z1 = true) ∧ True) ∧ ((True ∧ ((List.length ((mergeC a b).1.up)) = (List.length ((mergeC a b).1.up)))) ∧ ((True ∧ ((List.length ((mergeC a b).1.down)) = (List.length ((mergeC a b).1.down)))) ∧ (True ∧ (True ∧ (True ∧ ((True ∧ ((List.length ((mergeC a b).1.marks)) = (List.length ((mergeC a b).1.marks)))) ∧ True))))))) ∧ ((((Z1 = true) ∧ True) ∧ (True ∧ (True ∧ (True ∧ (True ∧ (True ∧ (True ∧ True))))))) ∧ True)) ∧ True))) ∧ ((True ∧ ((Z1 = true → (Z1 = true) ∧ True) ∧ (Z1 = false → True))) ∧ (True ∧ True)))))))) ((mergeC a b).2))
  ⟨tt,tt,(fun _ => trivial),(fun _ => trivial),(fun hG => ⟨tt,⟨⟨⟨hG,tt⟩,⟨tt,rfl⟩,⟨tt,rfl⟩,tt,tt,tt,⟨tt,rfl⟩,tt⟩,⟨⟨hG,tt⟩,tt,tt,tt,tt,tt,tt,tt⟩,tt⟩,tt⟩),⟨tt,(fun hp => ⟨hp,tt⟩),(fun _ => trivial)⟩,tt,tt⟩ ?_
 refine W.ret ?_
 exact endQ_ret (.b (((mergeC a b).2) && (sameC (mergeC a b).1 b))) (by kernel_rfl) (@cast ((.bool (((mergeC a b).2) && (sameC (mergeC a b).1 b)) : Value) = .bool (withinC a b)) _ (by kernel_rfl) (congrArg Value.bool (by rfl)))
theorem ent24 : Entr prog 24 := ⟨_,func24,rfl,by decide⟩
end Go.Proofs.Try

set_option linter.unusedSimpArgs false
set_option linter.unusedVariables false
namespace Go.Proofs.Try
open Go.Ab Go.RowKit
def fs29 : FnS := fnS [.s .ints,.s .ints] [.ints,.ints] (fun _ (a,b,_) => (.b (decide (a = b)),[],True))
abbrev T29 : Tab := lk []
theorem tab29 : TabOK prog T29 := TabOK.nil
set_option maxRecDepth 100000 in
set_option maxHeartbeats 1000000 in
theorem ok29 : FnOK prog 29 fs29 := by
 refine FnOK.mk cok func29 rfl rfl rfl ?_
 rintro fl ⟨(a : List Int),(b : List Int),_⟩ hpre F hnt0 _
 have hnt : F.nt = 26 := hnt0.trans ntmps29
 clear hpre
 refine W.to (⟨[(0,.sl (.ints a)),(1,.sl (.ints b))],[],[999]⟩) rfl ?_
 refine W.lenOf 0 (.ints a) (by kernel_rfl) ?_
 intro hl_a; replace hl_a : List.length a ≤ 9223372036854775807 := hl_a
 refine W.lenOf 1 (.ints b) (by kernel_rfl) ?_
 intro hl_b; replace hl_b : List.length b ≤ 9223372036854775807 := hl_b
 refine Kk cok tab29 hnt [] [0,1] (⟨[(0,.sl (.ints a)),(1,.sl (.ints b))],[],[999]⟩)
  (True ∧ True)
  ⟨tt,tt⟩ ?_
 refine W.seq ?_
 refine Kk cok tab29 hnt [] [0,1,10] (⟨[(0,.sl (.ints a)),(1,.sl (.ints b)),(10,.b (decide ((a.length : Int) ≠ (b.length : Int))))],[],[999]⟩)
  (True ∧ True ∧ True ∧ True ∧ (True ∧ True ∧ True) ∧ True)
  ⟨tt,tt,tt,tt,⟨tt,tt,tt⟩,tt⟩ ?_
 refine W.ifP ((a.length : Int) ≠ (b.length : Int)) (.b (decide ((a.length : Int) ≠ (b.length : Int)))) (by kernel_rfl) rfl trivial ?_ ?_
 ·intro h10
  refine Kk cok tab29 hnt [] [4] (⟨[(4,.b false)],[],[999]⟩)
   (True ∧ True)
   ⟨tt,tt⟩ ?_
  refine W.ret (thenQ_ret ?_)
  exact endQ_ret (.b false) (by kernel_rfl) (@cast ((.bool false : Value) = .bool (decide (a = b))) _ (by kernel_rfl) (congrArg Value.bool (by symm; exact decide_eq_false (fun e => h10 (by rw [e])))))
 ·intro n10
  refine W.skip (thenQ_normal ?_)
  refine W.seq ?_
  refine Kk cok tab29 hnt [] [0,1,5] (⟨[(0,.sl (.ints a)),(1,.sl (.ints b)),(5,.i (0 : Int))],[],[999]⟩)
   (True ∧ True)
   ⟨tt,tt⟩ ?_
  refine W.block ?_
  refine W.loop (ι := Nat) (fun (i : Nat) => (⟨[(0,.sl (.ints a)),(1,.sl (.ints b)),(5,.i ((i : Nat) : Int))],[],[999]⟩ : St))
   (fun (i : Nat) => (i ≤ a.length) ∧ (∀ j,j < i → a.getD j 0 = b.getD j 0))
   (fun (i : Nat) => (a.length - i : Nat)) (0) ?_ ?_ ?_
  ·exact (show (0 ≤ a.length) ∧ (∀ j,j < 0 → a.getD j 0 = b.getD j 0) from ⟨(by first | assumption | omega | rfl | (intro _ hjj; omega) | (simp; done) | (simp; omega)),(by exact upto_zero)⟩)
  ·exact Sub.of [] (@cast (((Sd (.ints a)) ∧ (Sd (.ints b)) ∧ ((.int .i64 (0 : Int) : Value) = .int .i64 ((0 : Nat) : Int)) ∧ True) ∧ True ∧ (true = true) ∧ (true = true)) _ (by kernel_rfl) ⟨⟨rfl,rfl,(congrArg (Value.int .i64) (by first | rfl | omega | assumption | simp | simp_all)),tt⟩,tt,rfl,rfl⟩)
  ·rintro i hC0
   have hC : (i ≤ a.length) ∧ (∀ j,j < i → a.getD j 0 = b.getD j 0) := hC0
   clear hC0
   obtain ⟨hi,hA⟩ := hC
   refine W.to (⟨[(0,.sl (.ints a)),(1,.sl (.ints b)),(5,.i ((i : Nat) : Int))],[],[999]⟩) rfl ?_
   refine W.seq ?_
   refine Kk cok tab29 hnt [] [0,1,5,14] (⟨[(0,.sl (.ints a)),(1,.sl (.ints b)),(5,.i ((i : Nat) : Int)),(14,.b (decide (((i : Nat) : Int) < (a.length : Int))))],[],[999]⟩)
    (True ∧ True ∧ True ∧ (True ∧ True ∧ True) ∧ True)
    ⟨tt,tt,tt,⟨tt,tt,tt⟩,tt⟩ ?_
   refine W.ifP (((i : Nat) : Int) < (a.length : Int)) (.b (decide (((i : Nat) : Int) < (a.length : Int)))) (by kernel_rfl) rfl trivial ?_ ?_
   ·intro h14
    refine W.skip (thenQ_normal ?_)
    refine W.seq ?_
    refine W.block ?_
    refine W.KA cok tab29 hnt [] [0,1,5,25] (⟨[(0,.sl (.ints a)),(1,.sl (.ints b)),(5,.i ((i : Nat) : Int)),(25,.b (decide ((a.getD i 0) ≠ (b.getD i 0))))],[],[999]⟩)
     (True ∧ True ∧ (True ∧ True ∧ (0 ≤ ((i : Nat) : Int)) ∧ (((i : Nat) : Int) < (a.length : Int))) ∧ True ∧ True ∧ True ∧ (True ∧ True ∧ (0 ≤ ((i : Nat) : Int)) ∧ (((i : Nat) : Int) < (b.length : Int))) ∧ True ∧ (True ∧ True ∧ True) ∧ True) (by kernel_rfl) (by kernel_rfl)
     ⟨tt,tt,⟨tt,tt,(by omega),(by omega)⟩,tt,tt,tt,⟨tt,tt,(by omega),(by omega)⟩,tt,⟨tt,tt,tt⟩,tt⟩ ?_
    refine W.ifP ((a.getD i 0) ≠ (b.getD i 0)) (.b (decide ((a.getD i 0) ≠ (b.getD i 0)))) (by kernel_rfl) rfl trivial ?_ ?_
    ·intro h25
     refine Kk cok tab29 hnt [] [4] (⟨[(4,.b false)],[],[999]⟩)
      (True ∧ True)
      ⟨tt,tt⟩ ?_
     refine W.ret (blockQ_ret (thenQ_ret (thenQ_ret (blockQ_ret (thenQ_ret ?_)))))
     exact endQ_ret (.b false) (by kernel_rfl) (@cast ((.bool false : Value) = .bool (decide (a = b))) _ (by kernel_rfl) (congrArg Value.bool (by symm; exact decide_eq_false (fun e => h25 (by rw [e])))))
    ·intro n25
     refine W.skip (blockQ_normal (thenQ_normal ?_))
     refine Lk cok tab29 hnt [] (⟨[(0,.sl (.ints a)),(1,.sl (.ints b)),(5,.i (((i + 1) : Nat) : Int)),(15,.i ((i : Nat) : Int)),(16,.i (((i + 1) : Nat) : Int)),(25,.b (decide ((a.getD i 0) ≠ (b.getD i 0))))],[],[999]⟩)
      (True ∧ (True ∧ True ∧ (Fits .i64 (((i + 1) : Nat) : Int))) ∧ True ∧ True)
      ⟨tt,⟨tt,tt,(by exact fits_i64 (by omega) (by omega))⟩,tt,tt⟩ ?_
     refine thenQ_normal ?_
     refine ⟨((i + 1)),(show ((i + 1) ≤ a.length) ∧ (∀ j,j < (i + 1) → a.getD j 0 = b.getD j 0) from ⟨(by first | assumption | omega | rfl | (intro _ hjj; omega) | (simp; done) | (simp; omega)),(by exact upto_succ hA (Decidable.not_not.1 n25))⟩),(show a.length - (i + 1) < a.length - i from (by first | omega | (simp_all; omega))),?_⟩
     exact Sub.of [] (@cast (((Sd (.ints a)) ∧ (Sd (.ints b)) ∧ (Si (((i + 1) : Nat) : Int)) ∧ True) ∧ True ∧ (true = true) ∧ (true = true)) _ (by kernel_rfl) ⟨⟨rfl,rfl,rfl,tt⟩,tt,rfl,rfl⟩)
   ·intro n14
    refine W.exit (thenQ_exit (thenQ_exit (blockQ_hit ?_)))
    refine thenQ_normal ?_
    refine Kk cok tab29 hnt [] [4] (⟨[(4,.b true)],[],[999]⟩)
     (True ∧ True)
     ⟨tt,tt⟩ ?_
    refine W.ret ?_
    exact endQ_ret (.b true) (by kernel_rfl) (@cast ((.bool true : Value) = .bool (decide (a = b))) _ (by kernel_rfl) (congrArg Value.bool (by symm; exact decide_eq_true (ints_ext (by omega) (fun j hj => hA j (by omega))))))
theorem ent29 : Entr prog 29 := ⟨_,func29,rfl,by decide⟩
end Go.Proofs.Try

set_option linter.unusedSimpArgs false
set_option linter.unusedVariables false
namespace Go.Proofs.Try
open Go.Ab Go.RowKit
def fs65 : FnS := fnS [.o,.o] [.mark,.mark] (fun _ (a,b,_) => (.b (decide (a = b)),[],True))
abbrev T65 : Tab := lk []
theorem tab65 : TabOK prog T65 := TabOK.nil
set_option maxRecDepth 100000 in
set_option maxHeartbeats 1000000 in
theorem ok65 : FnOK prog 65 fs65 := by
 refine FnOK.mk cok func65 rfl rfl rfl ?_
 rintro fl ⟨(a : MarkD),(b : MarkD),_⟩ hpre F hnt0 _
 have hnt : F.nt = 25 := hnt0.trans ntmps65
 clear hpre
 refine W.to (⟨[(0,.agg [.i a.value,.i a.proc,.i a.number,.b a.gone]),(1,.agg [.i b.value,.i b.proc,.i b.number,.b b.gone])],[],[999]⟩) rfl ?_
 refine Kk cok tab65 hnt [] [2,3] (⟨[(2,.ptr 2 0),(3,.ptr 3 0)],[(2,⟨50,.fix [.i a.value,.i a.proc,.i a.number,.b a.gone]⟩),(3,⟨50,.fix [.i b.value,.i b.proc,.i b.number,.b b.gone]⟩)],[3,2,999]⟩)
  (True ∧ True ∧ True ∧ True)
  ⟨tt,tt,tt,tt⟩ ?_
 refine W.seq ?_
 refine Kk cok tab65 hnt [] [2,3,9] (⟨[(2,.ptr 2 0),(3,.ptr 3 0),(9,.b (decide (a.value ≠ b.value)))],[(2,⟨50,.fix [.i a.value,.i a.proc,.i a.number,.b a.gone]⟩),(3,⟨50,.fix [.i b.value,.i b.proc,.i b.number,.b b.gone]⟩)],[3,2,999]⟩)
  (True ∧ True ∧ True ∧ True ∧ (True ∧ True ∧ True) ∧ True)
  ⟨tt,tt,tt,tt,⟨tt,tt,tt⟩,tt⟩ ?_
 refine W.ifP (a.value ≠ b.value) (.b (decide (a.value ≠ b.value))) (by kernel_rfl) rfl trivial ?_ ?_
 ·intro h9
  refine Kk cok tab65 hnt [] [4] (⟨[(4,.b false)],[(2,⟨50,.fix [.i a.value,.i a.proc,.i a.number,.b a.gone]⟩),(3,⟨50,.fix [.i b.value,.i b.proc,.i b.number,.b b.gone]⟩)],[3,2,999]⟩)
   (True ∧ True)
   ⟨tt,tt⟩ ?_
  refine W.ret (thenQ_ret ?_)
  exact endQ_ret (.b false) (by kernel_rfl) (@cast ((.bool false : Value) = .bool (decide (a = b))) _ (by kernel_rfl) (congrArg Value.bool (by first | (symm; exact decide_eq_true (mark_ext (by omega) (by omega) (by omega) (by simp_all))) | (symm; exact decide_eq_false (fun e => by subst e; simp_all)))))
 ·intro n9
  refine W.skip (thenQ_normal ?_)
  refine W.seq ?_
  refine Kk cok tab65 hnt [] [2,3,14] (⟨[(2,.ptr 2 0),(3,.ptr 3 0),(14,.b (decide (a.proc ≠ b.proc)))],[(2,⟨50,.fix [.i a.value,.i a.proc,.i a.number,.b a.gone]⟩),(3,⟨50,.fix [.i b.value,.i b.proc,.i b.number,.b b.gone]⟩)],[3,2,999]⟩)
   (True ∧ True ∧ True ∧ True ∧ (True ∧ True ∧ True) ∧ True)
   ⟨tt,tt,tt,tt,⟨tt,tt,tt⟩,tt⟩ ?_
  refine W.ifP (a.proc ≠ b.proc) (.b (decide (a.proc ≠ b.proc))) (by kernel_rfl) rfl trivial ?_ ?_
  ·intro h14
   refine Kk cok tab65 hnt [] [4] (⟨[(4,.b false)],[(2,⟨50,.fix [.i a.value,.i a.proc,.i a.number,.b a.gone]⟩),(3,⟨50,.fix [.i b.value,.i b.proc,.i b.number,.b b.gone]⟩)],[3,2,999]⟩)
    (True ∧ True)
    ⟨tt,tt⟩ ?_
   refine W.ret (thenQ_ret ?_)
   exact endQ_ret (.b false) (by kernel_rfl) (@cast ((.bool false : Value) = .bool (decide (a = b))) _ (by kernel_rfl) (congrArg Value.bool (by first | (symm; exact decide_eq_true (mark_ext (by omega) (by omega) (by omega) (by simp_all))) | (symm; exact decide_eq_false (fun e => by subst e; simp_all)))))
  ·intro n14
   refine W.skip (thenQ_normal ?_)
   refine W.seq ?_
   refine Kk cok tab65 hnt [] [2,3,19] (⟨[(2,.ptr 2 0),(3,.ptr 3 0),(19,.b (decide (a.number ≠ b.number)))],[(2,⟨50,.fix [.i a.value,.i a.proc,.i a.number,.b a.gone]⟩),(3,⟨50,.fix [.i b.value,.i b.proc,.i b.number,.b b.gone]⟩)],[3,2,999]⟩)
    (True ∧ True ∧ True ∧ True ∧ (True ∧ True ∧ True) ∧ True)
    ⟨tt,tt,tt,tt,⟨tt,tt,tt⟩,tt⟩ ?_
   refine W.ifP (a.number ≠ b.number) (.b (decide (a.number ≠ b.number))) (by kernel_rfl) rfl trivial ?_ ?_
   ·intro h19
    refine Kk cok tab65 hnt [] [4] (⟨[(4,.b false)],[(2,⟨50,.fix [.i a.value,.i a.proc,.i a.number,.b a.gone]⟩),(3,⟨50,.fix [.i b.value,.i b.proc,.i b.number,.b b.gone]⟩)],[3,2,999]⟩)
     (True ∧ True)
     ⟨tt,tt⟩ ?_
    refine W.ret (thenQ_ret ?_)
    exact endQ_ret (.b false) (by kernel_rfl) (@cast ((.bool false : Value) = .bool (decide (a = b))) _ (by kernel_rfl) (congrArg Value.bool (by first | (symm; exact decide_eq_true (mark_ext (by omega) (by omega) (by omega) (by simp_all))) | (symm; exact decide_eq_false (fun e => by subst e; simp_all)))))
   ·intro n19
    refine W.skip (thenQ_normal ?_)
    refine W.seq ?_
    refine Kk cok tab65 hnt [] [24] (⟨[(24,.b (a.gone != b.gone))],[(2,⟨50,.fix [.i a.value,.i a.proc,.i a.number,.b a.gone]⟩),(3,⟨50,.fix [.i b.value,.i b.proc,.i b.number,.b b.gone]⟩)],[3,2,999]⟩)
     (True ∧ True ∧ True ∧ True ∧ (True ∧ True) ∧ True)
     ⟨tt,tt,tt,tt,⟨tt,tt⟩,tt⟩ ?_
    refine W.if' (a.gone != b.gone) (.b (a.gone != b.gone)) (by kernel_rfl) rfl trivial ?_ ?_
    ·intro h24
     refine Kk cok tab65 hnt [] [4] (⟨[(4,.b false)],[(2,⟨50,.fix [.i a.value,.i a.proc,.i a.number,.b a.gone]⟩),(3,⟨50,.fix [.i b.value,.i b.proc,.i b.number,.b b.gone]⟩)],[3,2,999]⟩)
      (True ∧ True)
      ⟨tt,tt⟩ ?_
     refine W.ret (thenQ_ret ?_)
     exact endQ_ret (.b false) (by kernel_rfl) (@cast ((.bool false : Value) = .bool (decide (a = b))) _ (by kernel_rfl) (congrArg Value.bool (by first | (symm; exact decide_eq_true (mark_ext (by omega) (by omega) (by omega) (by simp_all))) | (symm; exact decide_eq_false (fun e => by subst e; simp_all)))))
    ·intro n24
     refine W.skip (thenQ_normal ?_)
     refine Kk cok tab65 hnt [] [4] (⟨[(4,.b true)],[(2,⟨50,.fix [.i a.value,.i a.proc,.i a.number,.b a.gone]⟩),(3,⟨50,.fix [.i b.value,.i b.proc,.i b.number,.b b.gone]⟩)],[3,2,999]⟩)
      (True ∧ True)
      ⟨tt,tt⟩ ?_
     refine W.ret ?_
     exact endQ_ret (.b true) (by kernel_rfl) (@cast ((.bool true : Value) = .bool (decide (a = b))) _ (by kernel_rfl) (congrArg Value.bool (by first | (symm; exact decide_eq_true (mark_ext (by omega) (by omega) (by omega) (by simp_all))) | (symm; exact decide_eq_false (fun e => by subst e; simp_all)))))
theorem ent65 : Entr prog 65 := ⟨_,func65,rfl,by decide⟩
end Go.Proofs.Try

set_option linter.unusedSimpArgs false
set_option linter.unusedVariables false
namespace Go.Proofs.Try
open Go.Ab Go.RowKit
def fs40 : FnS := fnS [.s .marks,.s .marks] [.marks,.marks] (fun _ (a,b,_) => (.b (decide (a = b)),[],True))
abbrev T40 : Tab := lk [(65,fs65)]
theorem tab40 : TabOK prog T40 := (TabOK.cons ok65 ent65 TabOK.nil)
set_option maxRecDepth 100000 in
set_option maxHeartbeats 1000000 in
theorem ok40 : FnOK prog 40 fs40 := by
 refine FnOK.mk cok func40 rfl rfl rfl ?_
 rintro fl ⟨(a : List MarkD),(b : List MarkD),_⟩ hpre F hnt0 _
 have hnt : F.nt = 27 := hnt0.trans ntmps40
 clear hpre
 refine W.to (⟨[(0,.sl (.marks a)),(1,.sl (.marks b))],[],[999]⟩) rfl ?_
 refine W.lenOf 0 (.marks a) (by kernel_rfl) ?_
 intro hl_a; replace hl_a : List.length a ≤ 9223372036854775807 := hl_a
 refine W.lenOf 1 (.marks b) (by kernel_rfl) ?_
 intro hl_b; replace hl_b : List.length b ≤ 9223372036854775807 := hl_b
 refine Kk cok tab40 hnt [] [0,1] (⟨[(0,.sl (.marks a)),(1,.sl (.marks b))],[],[999]⟩)
  (True ∧ True)
  ⟨tt,tt⟩ ?_
 refine W.seq ?_
 refine Kk cok tab40 hnt [] [0,1,10] (⟨[(0,.sl (.marks a)),(1,.sl (.marks b)),(10,.b (decide ((a.length : Int) ≠ (b.length : Int))))],[],[999]⟩)
  (True ∧ True ∧ True ∧ True ∧ (True ∧ True ∧ True) ∧ True)
  ⟨tt,tt,tt,tt,⟨tt,tt,tt⟩,tt⟩ ?_
 refine W.ifP ((a.length : Int) ≠ (b.length : Int)) (.b (decide ((a.length : Int) ≠ (b.length : Int)))) (by kernel_rfl) rfl trivial ?_ ?_
 ·intro h10
  refine Kk cok tab40 hnt [] [4] (⟨[(4,.b false)],[],[999]⟩)
   (True ∧ True)
   ⟨tt,tt⟩ ?_
  refine W.ret (thenQ_ret ?_)
  exact endQ_ret (.b false) (by kernel_rfl) (@cast ((.bool false : Value) = .bool (decide (a = b))) _ (by kernel_rfl) (congrArg Value.bool (by symm; exact decide_eq_false (fun e => h10 (by rw [e])))))
 ·intro n10
  refine W.skip (thenQ_normal ?_)
  refine W.seq ?_
  refine Kk cok tab40 hnt [] [0,1,5] (⟨[(0,.sl (.marks a)),(1,.sl (.marks b)),(5,.i (0 : Int))],[],[999]⟩)
   (True ∧ True)
   ⟨tt,tt⟩ ?_
  refine W.block ?_
  refine W.loop (ι := Nat) (fun (i : Nat) => (⟨[(0,.sl (.marks a)),(1,.sl (.marks b)),(5,.i ((i : Nat) : Int))],[],[999]⟩ : St))
   (fun (i : Nat) => (i ≤ a.length) ∧ (∀ j,j < i → a.getD j default = b.getD j default))
   (fun (i : Nat) => (a.length - i : Nat)) (0) ?_ ?_ ?_
  ·exact (show (0 ≤ a.length) ∧ (∀ j,j < 0 → a.getD j default = b.getD j default) from ⟨(by first | assumption | omega | rfl | (intro _ hjj; omega) | (simp; done) | (simp; omega)),(by exact upto_zero)⟩)
  ·exact Sub.of [] (@cast (((Sd (.marks a)) ∧ (Sd (.marks b)) ∧ ((.int .i64 (0 : Int) : Value) = .int .i64 ((0 : Nat) : Int)) ∧ True) ∧ True ∧ (true = true) ∧ (true = true)) _ (by kernel_rfl) ⟨⟨rfl,rfl,(congrArg (Value.int .i64) (by first | rfl | omega | assumption | simp | simp_all)),tt⟩,tt,rfl,rfl⟩)
  ·rintro i hC0
   have hC : (i ≤ a.length) ∧ (∀ j,j < i → a.getD j default = b.getD j default) := hC0
   clear hC0
   obtain ⟨hi,hA⟩ := hC
   refine W.to (⟨[(0,.sl (.marks a)),(1,.sl (.marks b)),(5,.i ((i : Nat) : Int))],[],[999]⟩) rfl ?_
   refine W.seq ?_
   refine Kk cok tab40 hnt [] [0,1,5,14] (⟨[(0,.sl (.marks a)),(1,.sl (.marks b)),(5,.i ((i : Nat) : Int)),(14,.b (decide (((i : Nat) : Int) < (a.length : Int))))],[],[999]⟩)
    (True ∧ True ∧ True ∧ (True ∧ True ∧ True) ∧ True)
    ⟨tt,tt,tt,⟨tt,tt,tt⟩,tt⟩ ?_
   refine W.ifP (((i : Nat) : Int) < (a.length : Int)) (.b (decide (((i : Nat) : Int) < (a.length : Int)))) (by kernel_rfl) rfl trivial ?_ ?_
   ·intro h14
    refine W.skip (thenQ_normal ?_)
    refine W.seq ?_
    refine W.block ?_
    refine W.KA cok tab40 hnt [] [0,1,5,26] (⟨[(0,.sl (.marks a)),(1,.sl (.marks b)),(5,.i ((i : Nat) : Int)),(26,.b (!(decide ((a.getD i default) = (b.getD i default)))))],[],[999]⟩)
     (True ∧ True ∧ (True ∧ True ∧ (0 ≤ ((i : Nat) : Int)) ∧ (((i : Nat) : Int) < (a.length : Int))) ∧ True ∧ True ∧ True ∧ (True ∧ True ∧ (0 ≤ ((i : Nat) : Int)) ∧ (((i : Nat) : Int) < (b.length : Int))) ∧ True ∧ (True ∧ (True ∧ True ∧ True) ∧ True) ∧ True ∧ True) (by kernel_rfl) (by kernel_rfl)
     ⟨tt,tt,⟨tt,tt,(by omega),(by omega)⟩,tt,tt,tt,⟨tt,tt,(by omega),(by omega)⟩,tt,⟨tt,⟨tt,tt,tt⟩,tt⟩,tt,tt⟩ ?_
    refine W.if' (!(decide ((a.getD i default) = (b.getD i default)))) (.b (!(decide ((a.getD i default) = (b.getD i default))))) (by kernel_rfl) rfl trivial ?_ ?_
    ·intro h26
     refine Kk cok tab40 hnt [] [4] (⟨[(4,.b false)],[],[999]⟩)
      (True ∧ True)
      ⟨tt,tt⟩ ?_
     refine W.ret (blockQ_ret (thenQ_ret (thenQ_ret (blockQ_ret (thenQ_ret ?_)))))
     exact endQ_ret (.b false) (by kernel_rfl) (@cast ((.bool false : Value) = .bool (decide (a = b))) _ (by kernel_rfl) (congrArg Value.bool (by symm; exact decide_eq_false (fun e => by rw [e] at h26; simp at h26))))
    ·intro n26
     refine W.skip (blockQ_normal (thenQ_normal ?_))
     refine Lk cok tab40 hnt [] (⟨[(0,.sl (.marks a)),(1,.sl (.marks b)),(5,.i (((i + 1) : Nat) : Int)),(15,.i ((i : Nat) : Int)),(16,.i (((i + 1) : Nat) : Int)),(26,.b (!(decide ((a.getD i default) = (b.getD i default)))))],[],[999]⟩)
      (True ∧ (True ∧ True ∧ (Fits .i64 (((i + 1) : Nat) : Int))) ∧ True ∧ True)
      ⟨tt,⟨tt,tt,(by exact fits_i64 (by omega) (by omega))⟩,tt,tt⟩ ?_
     refine thenQ_normal ?_
     refine ⟨((i + 1)),(show ((i + 1) ≤ a.length) ∧ (∀ j,j < (i + 1) → a.getD j default = b.getD j default) from ⟨(by first | assumption | omega | rfl | (intro _ hjj; omega) | (simp; done) | (simp; omega)),(by exact upto_succ hA (by simpa using n26))⟩),(show a.length - (i + 1) < a.length - i from (by first | omega | (simp_all; omega))),?_⟩
     exact Sub.of [] (@cast (((Sd (.marks a)) ∧ (Sd (.marks b)) ∧ (Si (((i + 1) : Nat) : Int)) ∧ True) ∧ True ∧ (true = true) ∧ (true = true)) _ (by kernel_rfl) ⟨⟨rfl,rfl,rfl,tt⟩,tt,rfl,rfl⟩)
   ·intro n14
    refine W.exit (thenQ_exit (thenQ_exit (blockQ_hit ?_)))
    refine thenQ_normal ?_
    refine Kk cok tab40 hnt [] [4] (⟨[(4,.b true)],[],[999]⟩)
     (True ∧ True)
     ⟨tt,tt⟩ ?_
    refine W.ret ?_
    exact endQ_ret (.b true) (by kernel_rfl) (@cast ((.bool true : Value) = .bool (decide (a = b))) _ (by kernel_rfl) (congrArg Value.bool (by symm; exact decide_eq_true (marks_ext (by omega) (fun j hj => hA j (by omega))))))
theorem ent40 : Entr prog 40 := ⟨_,func40,rfl,by decide⟩
end Go.Proofs.Try

set_option linter.unusedSimpArgs false
set_option linter.unusedVariables false
namespace Go.Proofs.Try
open Go.Ab Go.RowKit
def fs14 : FnS := fnS [.a [some .ints,some .ints,none,none,none,some .marks],.a [some .ints,some .ints,none,none,none,some .marks]] [.copy,.copy] (fun _ (a,b,_) => (.b (sameC a b),[],True))
abbrev T14 : Tab := lk [(29,fs29),(40,fs40)]
theorem tab14 : TabOK prog T14 := (TabOK.cons ok29 ent29 (TabOK.cons ok40 ent40 TabOK.nil))
set_option maxRecDepth 100000 in
set_option maxHeartbeats 1000000 in
theorem ok14 : FnOK prog 14 fs14 := by
 refine FnOK.mk cok func14 rfl rfl rfl ?_
 rintro fl ⟨(a : CopyD),(b : CopyD),_⟩ hpre F hnt0 _
 have hnt : F.nt = 38 := hnt0.trans ntmps14
 clear hpre
 refine W.to (⟨[(0,.agg (cC a)),(1,.agg (cC b))],[],[999]⟩) rfl ?_
 refine W.lenA 0 0 (cC a) (.ints a.up) (by kernel_rfl) (by kernel_rfl) ?_
 intro hl_a_up; replace hl_a_up : List.length a.up ≤ 9223372036854775807 := hl_a_up
 refine W.lenA 0 1 (cC a) (.ints a.down) (by kernel_rfl) (by kernel_rfl) ?_
 intro hl_a_down; replace hl_a_down : List.length a.down ≤ 9223372036854775807 := hl_a_down
 refine W.lenA 0 5 (cC a) (.marks a.marks) (by kernel_rfl) (by kernel_rfl) ?_
 intro hl_a_marks; replace hl_a_marks : List.length a.marks ≤ 9223372036854775807 := hl_a_marks
 refine W.lenA 1 0 (cC b) (.ints b.up) (by kernel_rfl) (by kernel_rfl) ?_
 intro hl_b_up; replace hl_b_up : List.length b.up ≤ 9223372036854775807 := hl_b_up
 refine W.lenA 1 1 (cC b) (.ints b.down) (by kernel_rfl) (by kernel_rfl) ?_
 intro hl_b_down; replace hl_b_down : List.length b.down ≤ 9223372036854775807 := hl_b_down
 refine W.lenA 1 5 (cC b) (.marks b.marks) (by kernel_rfl) (by kernel_rfl) ?_
 intro hl_b_marks; replace hl_b_marks : List.length b.marks ≤ 9223372036854775807 := hl_b_marks
 refine Kk cok tab14 hnt [] [2,3] (⟨[(2,.ptr 2 0),(3,.ptr 3 0)],[(2,⟨29,.fix (cC a)⟩),(3,⟨29,.fix (cC b)⟩)],[3,2,999]⟩)
  (True ∧ True ∧ True ∧ True)
  ⟨tt,tt,tt,tt⟩ ?_
 refine W.seq ?_
 refine Kk cok tab14 hnt [] [2,3,10] (⟨[(2,.ptr 2 0),(3,.ptr 3 0),(10,.b (!(decide (a.up = b.up))))],[(2,⟨29,.fix (cC a)⟩),(3,⟨29,.fix (cC b)⟩)],[3,2,999]⟩)
  (True ∧ True ∧ True ∧ True ∧ (True ∧ (True ∧ True ∧ True) ∧ True) ∧ True ∧ True)
  ⟨tt,tt,tt,tt,⟨tt,⟨tt,tt,tt⟩,tt⟩,tt,tt⟩ ?_
 refine W.if' (!(decide (a.up = b.up))) (.b (!(decide (a.up = b.up)))) (by kernel_rfl) rfl trivial ?_ ?_
 ·intro h10
  refine Kk cok tab14 hnt [] [4] (⟨[(4,.b false)],[(2,⟨29,.fix (cC a)⟩),(3,⟨29,.fix (cC b)⟩)],[3,2,999]⟩)
   (True ∧ True)
   ⟨tt,tt⟩ ?_
  refine W.ret (thenQ_ret ?_)
  exact endQ_ret (.b false) (by kernel_rfl) (@cast ((.bool false : Value) = .bool (sameC a b)) _ (by kernel_rfl) (congrArg Value.bool (by first | (symm; exact same_iff.2 (copy_ext (by simpa using n10) (by simpa using n16) (by omega) (by omega) (by omega) (by simpa using n37))) | exact same_false (fun e => by subst e; simp_all))))
 ·intro n10
  refine W.skip (thenQ_normal ?_)
  refine W.seq ?_
  refine Kk cok tab14 hnt [] [2,3,16] (⟨[(2,.ptr 2 0),(3,.ptr 3 0),(16,.b (!(decide (a.down = b.down))))],[(2,⟨29,.fix (cC a)⟩),(3,⟨29,.fix (cC b)⟩)],[3,2,999]⟩)
   (True ∧ True ∧ True ∧ True ∧ (True ∧ (True ∧ True ∧ True) ∧ True) ∧ True ∧ True)
   ⟨tt,tt,tt,tt,⟨tt,⟨tt,tt,tt⟩,tt⟩,tt,tt⟩ ?_
  refine W.if' (!(decide (a.down = b.down))) (.b (!(decide (a.down = b.down)))) (by kernel_rfl) rfl trivial ?_ ?_
  ·intro h16
   refine Kk cok tab14 hnt [] [4] (⟨[(4,.b false)],[(2,⟨29,.fix (cC a)⟩),(3,⟨29,.fix (cC b)⟩)],[3,2,999]⟩)
    (True ∧ True)
    ⟨tt,tt⟩ ?_
   refine W.ret (thenQ_ret ?_)
   exact endQ_ret (.b false) (by kernel_rfl) (@cast ((.bool false : Value) = .bool (sameC a b)) _ (by kernel_rfl) (congrArg Value.bool (by first | (symm; exact same_iff.2 (copy_ext (by simpa using n10) (by simpa using n16) (by omega) (by omega) (by omega) (by simpa using n37))) | exact same_false (fun e => by subst e; simp_all))))
  ·intro n16
   refine W.skip (thenQ_normal ?_)
   refine W.seq ?_
   refine Kk cok tab14 hnt [] [2,3,21] (⟨[(2,.ptr 2 0),(3,.ptr 3 0),(21,.b (decide (a.value ≠ b.value)))],[(2,⟨29,.fix (cC a)⟩),(3,⟨29,.fix (cC b)⟩)],[3,2,999]⟩)
    (True ∧ True ∧ True ∧ True ∧ (True ∧ True ∧ True) ∧ True)
    ⟨tt,tt,tt,tt,⟨tt,tt,tt⟩,tt⟩ ?_
   refine W.ifP (a.value ≠ b.value) (.b (decide (a.value ≠ b.value))) (by kernel_rfl) rfl trivial ?_ ?_
   ·intro h21
    refine Kk cok tab14 hnt [] [4] (⟨[(4,.b false)],[(2,⟨29,.fix (cC a)⟩),(3,⟨29,.fix (cC b)⟩)],[3,2,999]⟩)
     (True ∧ True)
     ⟨tt,tt⟩ ?_
    refine W.ret (thenQ_ret ?_)
    exact endQ_ret (.b false) (by kernel_rfl) (@cast ((.bool false : Value) = .bool (sameC a b)) _ (by kernel_rfl) (congrArg Value.bool (by first | (symm; exact same_iff.2 (copy_ext (by simpa using n10) (by simpa using n16) (by omega) (by omega) (by omega) (by simpa using n37))) | exact same_false (fun e => by subst e; simp_all))))
   ·intro n21
    refine W.skip (thenQ_normal ?_)
    refine W.seq ?_
    refine Kk cok tab14 hnt [] [2,3,26] (⟨[(2,.ptr 2 0),(3,.ptr 3 0),(26,.b (decide (a.time ≠ b.time)))],[(2,⟨29,.fix (cC a)⟩),(3,⟨29,.fix (cC b)⟩)],[3,2,999]⟩)
     (True ∧ True ∧ True ∧ True ∧ (True ∧ True ∧ True) ∧ True)
     ⟨tt,tt,tt,tt,⟨tt,tt,tt⟩,tt⟩ ?_
    refine W.ifP (a.time ≠ b.time) (.b (decide (a.time ≠ b.time))) (by kernel_rfl) rfl trivial ?_ ?_
    ·intro h26
     refine Kk cok tab14 hnt [] [4] (⟨[(4,.b false)],[(2,⟨29,.fix (cC a)⟩),(3,⟨29,.fix (cC b)⟩)],[3,2,999]⟩)
      (True ∧ True)
      ⟨tt,tt⟩ ?_
     refine W.ret (thenQ_ret ?_)
     exact endQ_ret (.b false) (by kernel_rfl) (@cast ((.bool false : Value) = .bool (sameC a b)) _ (by kernel_rfl) (congrArg Value.bool (by first | (symm; exact same_iff.2 (copy_ext (by simpa using n10) (by simpa using n16) (by omega) (by omega) (by omega) (by simpa using n37))) | exact same_false (fun e => by subst e; simp_all))))
    ·intro n26
     refine W.skip (thenQ_normal ?_)
     refine W.seq ?_
     refine Kk cok tab14 hnt [] [2,3,31] (⟨[(2,.ptr 2 0),(3,.ptr 3 0),(31,.b (decide (a.proc ≠ b.proc)))],[(2,⟨29,.fix (cC a)⟩),(3,⟨29,.fix (cC b)⟩)],[3,2,999]⟩)
      (True ∧ True ∧ True ∧ True ∧ (True ∧ True ∧ True) ∧ True)
      ⟨tt,tt,tt,tt,⟨tt,tt,tt⟩,tt⟩ ?_
     refine W.ifP (a.proc ≠ b.proc) (.b (decide (a.proc ≠ b.proc))) (by kernel_rfl) rfl trivial ?_ ?_
     ·intro h31
      refine Kk cok tab14 hnt [] [4] (⟨[(4,.b false)],[(2,⟨29,.fix (cC a)⟩),(3,⟨29,.fix (cC b)⟩)],[3,2,999]⟩)
       (True ∧ True)
       ⟨tt,tt⟩ ?_
      refine W.ret (thenQ_ret ?_)
      exact endQ_ret (.b false) (by kernel_rfl) (@cast ((.bool false : Value) = .bool (sameC a b)) _ (by kernel_rfl) (congrArg Value.bool (by first | (symm; exact same_iff.2 (copy_ext (by simpa using n10) (by simpa using n16) (by omega) (by omega) (by omega) (by simpa using n37))) | exact same_false (fun e => by subst e; simp_all))))
     ·intro n31
      refine W.skip (thenQ_normal ?_)
      refine W.seq ?_
      refine Kk cok tab14 hnt [] [37] (⟨[(37,.b (!(decide (a.marks = b.marks))))],[(2,⟨29,.fix (cC a)⟩),(3,⟨29,.fix (cC b)⟩)],[3,2,999]⟩)
       (True ∧ True ∧ True ∧ True ∧ (True ∧ (True ∧ True ∧ True) ∧ True) ∧ True ∧ True)
       ⟨tt,tt,tt,tt,⟨tt,⟨tt,tt,tt⟩,tt⟩,tt,tt⟩ ?_
      refine W.if' (!(decide (a.marks = b.marks))) (.b (!(decide (a.marks = b.marks)))) (by kernel_rfl) rfl trivial ?_ ?_
      ·intro h37
       refine Kk cok tab14 hnt [] [4] (⟨[(4,.b false)],[(2,⟨29,.fix (cC a)⟩),(3,⟨29,.fix (cC b)⟩)],[3,2,999]⟩)
        (True ∧ True)
        ⟨tt,tt⟩ ?_
       refine W.ret (thenQ_ret ?_)
       exact endQ_ret (.b false) (by kernel_rfl) (@cast ((.bool false : Value) = .bool (sameC a b)) _ (by kernel_rfl) (congrArg Value.bool (by first | (symm; exact same_iff.2 (copy_ext (by simpa using n10) (by simpa using n16) (by omega) (by omega) (by omega) (by simpa using n37))) | exact same_false (fun e => by subst e; simp_all))))
      ·intro n37
       refine W.skip (thenQ_normal ?_)
       refine Kk cok tab14 hnt [] [4] (⟨[(4,.b true)],[(2,⟨29,.fix (cC a)⟩),(3,⟨29,.fix (cC b)⟩)],[3,2,999]⟩)
        (True ∧ True)
        ⟨tt,tt⟩ ?_
       refine W.ret ?_
       exact endQ_ret (.b true) (by kernel_rfl) (@cast ((.bool true : Value) = .bool (sameC a b)) _ (by kernel_rfl) (congrArg Value.bool (by first | (symm; exact same_iff.2 (copy_ext (by simpa using n10) (by simpa using n16) (by omega) (by omega) (by omega) (by simpa using n37))) | exact same_false (fun e => by subst e; simp_all))))
theorem ent14 : Entr prog 14 := ⟨_,func14,rfl,by decide⟩
end Go.Proofs.Try

set_option linter.unusedSimpArgs false
set_option linter.unusedVariables false
namespace Go.Proofs.Try
open Go.Ab Go.RowKit
def fs7 : FnS := fnS [.a [some .ints,some .ints,none,none,none,some .marks],.a [some .ints,some .ints,none,none,none,some .marks]] [.copy,.copy] (fun _ (a,b,_) => (.b true,[],True))
abbrev T7 : Tab := lk [(10,fs10),(12,fs12),(14,fs14),(23,fs23),(24,fs24)]
theorem tab7 : TabOK prog T7 := (TabOK.cons ok10 ent10 (TabOK.cons ok12 ent12 (TabOK.cons ok14 ent14 (TabOK.cons ok23 ent23 (TabOK.cons ok24 ent24 TabOK.nil)))))
set_option maxRecDepth 100000 in
set_option maxHeartbeats 1000000 in
theorem ok7 : FnOK prog 7 fs7 := by
 refine FnOK.mk cok func7 rfl rfl rfl ?_
 rintro fl ⟨(a : CopyD),(b : CopyD),_⟩ hpre F hnt0 _
 have hnt : F.nt = 45 := hnt0.trans ntmps7
 clear hpre
 refine W.to (⟨[(0,.agg (cC a)),(1,.agg (cC b))],[],[999]⟩) rfl ?_
 refine W.lenA 0 0 (cC a) (.ints a.up) (by kernel_rfl) (by kernel_rfl) ?_
 intro hl_a_up; replace hl_a_up : List.length a.up ≤ 9223372036854775807 := hl_a_up
 refine W.lenA 0 1 (cC a) (.ints a.down) (by kernel_rfl) (by kernel_rfl) ?_
 intro hl_a_down; replace hl_a_down : List.length a.down ≤ 9223372036854775807 := hl_a_down
 refine W.lenA 0 5 (cC a) (.marks a.marks) (by kernel_rfl) (by kernel_rfl) ?_
 intro hl_a_marks; replace hl_a_marks : List.length a.marks ≤ 9223372036854775807 := hl_a_marks
 refine W.lenA 1 0 (cC b) (.ints b.up) (by kernel_rfl) (by kernel_rfl) ?_
 intro hl_b_up; replace hl_b_up : List.length b.up ≤ 9223372036854775807 := hl_b_up
 refine W.lenA 1 1 (cC b) (.ints b.down) (by kernel_rfl) (by kernel_rfl) ?_
 intro hl_b_down; replace hl_b_down : List.length b.down ≤ 9223372036854775807 := hl_b_down
 refine W.lenA 1 5 (cC b) (.marks b.marks) (by kernel_rfl) (by kernel_rfl) ?_
 intro hl_b_marks; replace hl_b_marks : List.length b.marks ≤ 9223372036854775807 := hl_b_marks
 refine Kk cok tab7 hnt [] [2,3] (⟨[(2,.ptr 2 0),(3,.ptr 3 0)],[(2,⟨25,.fix (cC a)⟩),(3,⟨25,.fix (cC b)⟩)],[3,2,999]⟩)
  (True ∧ True ∧ True ∧ True)
  ⟨tt,tt,tt,tt⟩ ?_
 refine Kk cok tab7 hnt [] [2,3,5] (⟨[(2,.ptr 2 0),(3,.ptr 3 0),(5,.i (1048576 : Int))],[(2,⟨25,.fix (cC a)⟩),(3,⟨25,.fix (cC b)⟩)],[3,2,999]⟩)
  (True ∧ True)
  ⟨tt,tt⟩ ?_
 refine Kk cok tab7 hnt [] [2,3,5] (⟨[(2,.ptr 2 0),(3,.ptr 3 0),(5,.i (szCp a (1048576 : Int)))],[(2,⟨25,.fix (cC a)⟩),(3,⟨25,.fix (cC b)⟩)],[3,2,999]⟩)
  (True ∧ True ∧ (True ∧ ((True ∧ True ∧ True ∧ True ∧ True ∧ True ∧ True ∧ True) ∧ True ∧ True) ∧ 0 ≤ (1048576 : Int) ∧ (1048576 : Int) ≤ 1048576) ∧ True ∧ True)
  ⟨tt,tt,⟨tt,⟨⟨tt,tt,tt,tt,tt,tt,tt,tt⟩,tt,tt⟩,(by omega)⟩,tt,tt⟩ ?_
 refine W.seq ?_
 refine Kk cok tab7 hnt [] [2,3,5,14] (⟨[(2,.ptr 2 0),(3,.ptr 3 0),(5,.i (szCp a (1048576 : Int))),(14,.b (decide ((szCp a (1048576 : Int)) < (0 : Int))))],[(2,⟨25,.fix (cC a)⟩),(3,⟨25,.fix (cC b)⟩)],[3,2,999]⟩)
  (True ∧ (True ∧ True ∧ True) ∧ True)
  ⟨tt,⟨tt,tt,tt⟩,tt⟩ ?_
 refine W.ifP ((szCp a (1048576 : Int)) < (0 : Int)) (.b (decide ((szCp a (1048576 : Int)) < (0 : Int)))) (by kernel_rfl) rfl trivial ?_ ?_
 ·intro h14
  refine Kk cok tab7 hnt [] [4] (⟨[(4,.b true)],[(2,⟨25,.fix (cC a)⟩),(3,⟨25,.fix (cC b)⟩)],[3,2,999]⟩)
   (True ∧ True)
   ⟨tt,tt⟩ ?_
  refine W.ret (thenQ_ret ?_)
  exact endQ_ret (.b true) (by kernel_rfl) (@cast (Sv (.bool true)) _ (by kernel_rfl) rfl)
 ·intro n14
  have hz0 := szCp_ok n14
  refine W.skip (thenQ_normal ?_)
  refine Kk cok tab7 hnt [] [2,3,5] (⟨[(2,.ptr 2 0),(3,.ptr 3 0),(5,.i (szCp b (szCp a (1048576 : Int))))],[(2,⟨25,.fix (cC a)⟩),(3,⟨25,.fix (cC b)⟩)],[3,2,999]⟩)
   (True ∧ True ∧ (True ∧ ((True ∧ True ∧ True ∧ True ∧ True ∧ True ∧ True ∧ True) ∧ True ∧ True) ∧ 0 ≤ (szCp a (1048576 : Int)) ∧ (szCp a (1048576 : Int)) ≤ 1048576) ∧ True ∧ True)
   ⟨tt,tt,⟨tt,⟨⟨tt,tt,tt,tt,tt,tt,tt,tt⟩,tt,tt⟩,(by omega)⟩,tt,tt⟩ ?_
  refine W.seq ?_
  refine Kk cok tab7 hnt [] [2,3,19] (⟨[(2,.ptr 2 0),(3,.ptr 3 0),(19,.b (decide ((szCp b (szCp a (1048576 : Int))) < (0 : Int))))],[(2,⟨25,.fix (cC a)⟩),(3,⟨25,.fix (cC b)⟩)],[3,2,999]⟩)
   (True ∧ (True ∧ True ∧ True) ∧ True)
   ⟨tt,⟨tt,tt,tt⟩,tt⟩ ?_
  refine W.ifP ((szCp b (szCp a (1048576 : Int))) < (0 : Int)) (.b (decide ((szCp b (szCp a (1048576 : Int))) < (0 : Int)))) (by kernel_rfl) rfl trivial ?_ ?_
  ·intro h19
   refine Kk cok tab7 hnt [] [4] (⟨[(4,.b true)],[(2,⟨25,.fix (cC a)⟩),(3,⟨25,.fix (cC b)⟩)],[3,2,999]⟩)
    (True ∧ True)
    ⟨tt,tt⟩ ?_
   refine W.ret (thenQ_ret ?_)
   exact endQ_ret (.b true) (by kernel_rfl) (@cast (Sv (.bool true)) _ (by kernel_rfl) rfl)
  ·intro n19
   have hz1 := szCp_ok n19
   refine W.skip (thenQ_normal ?_)
   refine W.KA cok tab7 hnt [] [2,3,6] (⟨[(2,.ptr 2 0),(3,.ptr 3 0),(6,.b (withinC a b))],[(2,⟨25,.fix (cC a)⟩),(3,⟨25,.fix (cC b)⟩)],[3,2,999]⟩)
    (True ∧ (True ∧ ((True ∧ True ∧ True ∧ True ∧ True ∧ True ∧ True ∧ True) ∧ True) ∧ a.up.length ≤ 1048576 ∧ a.down.length ≤ 1048576 ∧ a.marks.length ≤ 1048576) ∧ True ∧ (True ∧ ((True ∧ True ∧ True ∧ True ∧ True ∧ True ∧ True ∧ True) ∧ True) ∧ b.up.length ≤ 1048576 ∧ b.down.length ≤ 1048576 ∧ b.marks.length ≤ 1048576) ∧ (True ∧ ((True ∧ True ∧ True ∧ True ∧ True ∧ True ∧ True ∧ True) ∧ (True ∧ True ∧ True ∧ True ∧ True ∧ True ∧ True ∧ True) ∧ True) ∧ True) ∧ True ∧ True) (by kernel_rfl) (by kernel_rfl)
    ⟨tt,⟨tt,⟨⟨tt,tt,tt,tt,tt,tt,tt,tt⟩,tt⟩,(by omega)⟩,tt,⟨tt,⟨⟨tt,tt,tt,tt,tt,tt,tt,tt⟩,tt⟩,(by omega)⟩,⟨tt,⟨⟨tt,tt,tt,tt,tt,tt,tt,tt⟩,⟨tt,tt,tt,tt,tt,tt,tt,tt⟩,tt⟩,tt⟩,tt,tt⟩ ?_
   refine Kk cok tab7 hnt [] [2,3,6,7] (⟨[(2,.ptr 2 0),(3,.ptr 3 0),(6,.b (withinC a b)),(7,.ptr 7 0)],[(2,⟨25,.fix (cC a)⟩),(3,⟨25,.fix (cC b)⟩),(7,⟨29,.fix (cC a)⟩)],[7,3,2,999]⟩)
    (True ∧ (True ∧ ((True ∧ True ∧ True ∧ True ∧ True ∧ True ∧ True ∧ True) ∧ True) ∧ a.up.length ≤ 1048576 ∧ a.down.length ≤ 1048576 ∧ a.marks.length ≤ 1048576) ∧ True ∧ (True ∧ True) ∧ True)
    ⟨tt,⟨tt,⟨⟨tt,tt,tt,tt,tt,tt,tt,tt⟩,tt⟩,(by omega)⟩,tt,⟨tt,tt⟩,tt⟩ ?_
   refine Kk cok tab7 hnt [] [2,3,6,7,8] (⟨[(2,.ptr 2 0),(3,.ptr 3 0),(6,.b (withinC a b)),(7,.ptr 7 0),(8,.ptr 8 0)],[(2,⟨25,.fix (cC a)⟩),(3,⟨25,.fix (cC b)⟩),(7,⟨29,.fix (cC a)⟩),(8,⟨29,.fix (cC b)⟩)],[8,7,3,2,999]⟩)
    (True ∧ (True ∧ ((True ∧ True ∧ True ∧ True ∧ True ∧ True ∧ True ∧ True) ∧ True) ∧ b.up.length ≤ 1048576 ∧ b.down.length ≤ 1048576 ∧ b.marks.length ≤ 1048576) ∧ True ∧ (True ∧ True) ∧ True)
    ⟨tt,⟨tt,⟨⟨tt,tt,tt,tt,tt,tt,tt,tt⟩,tt⟩,(by omega)⟩,tt,⟨tt,tt⟩,tt⟩ ?_
   refine Kk cok tab7 hnt [] [2,3,6,7,8,9] (⟨[(2,.ptr 2 0),(3,.ptr 3 0),(6,.b (withinC a b)),(7,.ptr 7 0),(8,.ptr 8 0),(9,.b (withinC a b))],[(2,⟨25,.fix (cC a)⟩),(3,⟨25,.fix (cC b)⟩),(7,⟨29,.fix (cC a)⟩),(8,⟨29,.fix (cC b)⟩)],[8,7,3,2,999]⟩)
    (True ∧ True ∧ (True ∧ ((True ∧ True ∧ True ∧ True ∧ True ∧ True ∧ True ∧ True) ∧ (True ∧ True ∧ True ∧ True ∧ True ∧ True ∧ True ∧ True) ∧ True) ∧ True) ∧ True ∧ True)
    ⟨tt,tt,⟨tt,⟨⟨tt,tt,tt,tt,tt,tt,tt,tt⟩,⟨tt,tt,tt,tt,tt,tt,tt,tt⟩,tt⟩,tt⟩,tt,tt⟩ ?_
   refine W.seq ?_
   refine Kk cok tab7 hnt [] [2,3,7,8,34] (⟨[(2,.ptr 2 0),(3,.ptr 3 0),(7,.ptr 7 0),(8,.ptr 8 0),(34,.b ((withinC a b) != (withinC a b)))],[(2,⟨25,.fix (cC a)⟩),(3,⟨25,.fix (cC b)⟩),(7,⟨29,.fix (cC a)⟩),(8,⟨29,.fix (cC b)⟩)],[8,7,3,2,999]⟩)
    (True ∧ True ∧ (True ∧ True) ∧ True)
    ⟨tt,tt,⟨tt,tt⟩,tt⟩ ?_
   refine W.if' ((withinC a b) != (withinC a b)) (.b ((withinC a b) != (withinC a b))) (by kernel_rfl) rfl trivial ?_ ?_
   ·intro h34
    refine Kk cok tab7 hnt [] [4] (⟨[(4,.b false)],[(2,⟨25,.fix (cC a)⟩),(3,⟨25,.fix (cC b)⟩),(7,⟨29,.fix (cC a)⟩),(8,⟨29,.fix (cC b)⟩)],[8,7,3,2,999]⟩)
     (True ∧ True)
     ⟨tt,tt⟩ ?_
    refine W.ret (thenQ_ret ?_)
    exact endQ_ret (.b false) (by kernel_rfl) (@cast ((.bool false : Value) = .bool true) _ (by kernel_rfl) (congrArg Value.bool (by exfalso; simp [same_refl] at h34)))
   ·intro n34
    refine W.skip (thenQ_normal ?_)
    refine W.seq ?_
    refine W.KA cok tab7 hnt [] [3,8,39] (⟨[(3,.ptr 3 0),(8,.ptr 8 0),(39,.b (!(sameC a a)))],[(2,⟨25,.fix (cC a)⟩),(3,⟨25,.fix (cC b)⟩),(7,⟨29,.fix (cC a)⟩),(8,⟨29,.fix (cC b)⟩)],[8,7,3,2,999]⟩)
     (True ∧ True ∧ (True ∧ ((True ∧ True ∧ True ∧ True ∧ True ∧ True ∧ True ∧ True) ∧ True) ∧ a.up.length ≤ 1048576 ∧ a.down.length ≤ 1048576 ∧ a.marks.length ≤ 1048576) ∧ (True ∧ ((True ∧ True ∧ True ∧ True ∧ True ∧ True ∧ True ∧ True) ∧ (True ∧ True ∧ True ∧ True ∧ True ∧ True ∧ True ∧ True) ∧ True) ∧ True) ∧ True ∧ True) (by kernel_rfl) (by kernel_rfl)
     ⟨tt,tt,⟨tt,⟨⟨tt,tt,tt,tt,tt,tt,tt,tt⟩,tt⟩,(by omega)⟩,⟨tt,⟨⟨tt,tt,tt,tt,tt,tt,tt,tt⟩,⟨tt,tt,tt,tt,tt,tt,tt,tt⟩,tt⟩,tt⟩,tt,tt⟩ ?_
    refine W.if' (!(sameC a a)) (.b (!(sameC a a))) (by kernel_rfl) rfl trivial ?_ ?_
    ·intro h39
     refine Kk cok tab7 hnt [] [4] (⟨[(4,.b false)],[(2,⟨25,.fix (cC a)⟩),(3,⟨25,.fix (cC b)⟩),(7,⟨29,.fix (cC a)⟩),(8,⟨29,.fix (cC b)⟩)],[8,7,3,2,999]⟩)
      (True ∧ True)
      ⟨tt,tt⟩ ?_
     refine W.ret (thenQ_ret ?_)
     exact endQ_ret (.b false) (by kernel_rfl) (@cast ((.bool false : Value) = .bool true) _ (by kernel_rfl) (congrArg Value.bool (by exfalso; simp [same_refl] at h39)))
    ·intro n39
     refine W.skip (thenQ_normal ?_)
     refine W.seq ?_
     refine W.KA cok tab7 hnt [] [44] (⟨[(44,.b (!(sameC b b)))],[(2,⟨25,.fix (cC a)⟩),(3,⟨25,.fix (cC b)⟩),(7,⟨29,.fix (cC a)⟩),(8,⟨29,.fix (cC b)⟩)],[8,7,3,2,999]⟩)
      (True ∧ True ∧ (True ∧ ((True ∧ True ∧ True ∧ True ∧ True ∧ True ∧ True ∧ True) ∧ True) ∧ b.up.length ≤ 1048576 ∧ b.down.length ≤ 1048576 ∧ b.marks.length ≤ 1048576) ∧ (True ∧ ((True ∧ True ∧ True ∧ True ∧ True ∧ True ∧ True ∧ True) ∧ (True ∧ True ∧ True ∧ True ∧ True ∧ True ∧ True ∧ True) ∧ True) ∧ True) ∧ True ∧ True) (by kernel_rfl) (by kernel_rfl)
      ⟨tt,tt,⟨tt,⟨⟨tt,tt,tt,tt,tt,tt,tt,tt⟩,tt⟩,(by omega)⟩,⟨tt,⟨⟨tt,tt,tt,tt,tt,tt,tt,tt⟩,⟨tt,tt,tt,tt,tt,tt,tt,tt⟩,tt⟩,tt⟩,tt,tt⟩ ?_
     refine W.if' (!(sameC b b)) (.b (!(sameC b b))) (by kernel_rfl) rfl trivial ?_ ?_
     ·intro h44
      refine Kk cok tab7 hnt [] [4] (⟨[(4,.b false)],[(2,⟨25,.fix (cC a)⟩),(3,⟨25,.fix (cC b)⟩),(7,⟨29,.fix (cC a)⟩),(8,⟨29,.fix (cC b)⟩)],[8,7,3,2,999]⟩)
       (True ∧ True)
       ⟨tt,tt⟩ ?_
      refine W.ret (thenQ_ret ?_)
      exact endQ_ret (.b false) (by kernel_rfl) (@cast ((.bool false : Value) = .bool true) _ (by kernel_rfl) (congrArg Value.bool (by exfalso; simp [same_refl] at h44)))
     ·intro n44
      refine W.skip (thenQ_normal ?_)
      refine Kk cok tab7 hnt [] [4] (⟨[(4,.b true)],[(2,⟨25,.fix (cC a)⟩),(3,⟨25,.fix (cC b)⟩),(7,⟨29,.fix (cC a)⟩),(8,⟨29,.fix (cC b)⟩)],[8,7,3,2,999]⟩)
       (True ∧ True)
       ⟨tt,tt⟩ ?_
      refine W.ret ?_
      exact endQ_ret (.b true) (by kernel_rfl) (@cast (Sv (.bool true)) _ (by kernel_rfl) rfl)
end Go.Proofs.Try
