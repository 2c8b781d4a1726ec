import Derived.Test.YtfoifegcfbglpaaQF5S0
import Derived.Test.YtfoifegcfbglpaaQF5S1
import Derived.Test.YtfoifegcfbglpaaQF5S6
import Derived.Test.YtfoifegcfbglpaaQF5S3
set_option linter.unusedSimpArgs false
set_option linter.unusedVariables false
namespace Go.Proofs.Try
open Go.Ab Go.RowKit
def fs56 : FnS := fnS [.s .ints,.s .ints] [.ints,.ints] (fun _ (a,b,_) => (.b (decide (a = b)),[],True))
abbrev T56 : Tab := lk []
theorem tab56 : TabOK prog T56 := TabOK.nil
set_option maxRecDepth 100000 in
set_option maxHeartbeats 1000000 in
theorem ok56 : FnOK prog 56 fs56 := by
 refine FnOK.mk cok func56 rfl rfl rfl ?_
 rintro fl ⟨(a : List Int),(b : List Int),_⟩ hpre F hnt0 _
 have hnt : F.nt = 26 := hnt0.trans ntmps56
 clear hpre
 refine W.to (⟨[(0,.sl (.ints a)),(1,.sl (.ints b))],[],[999]⟩) rfl ?_
 refine W.lenOf 0 (.ints a) (by kernel_rfl) ?_
 intro hl_a; replace hl_a : List.length a ≤ 9223372036854775807 := hl_a
 refine W.lenOf 1 (.ints b) (by kernel_rfl) ?_
 intro hl_b; replace hl_b : List.length b ≤ 9223372036854775807 := hl_b
 refine Kk cok tab56 hnt [] [0,1] (⟨[(0,.sl (.ints a)),(1,.sl (.ints b))],[],[999]⟩)
  (True ∧ True)
  ⟨tt,tt⟩ ?_
 refine W.seq ?_
 refine Kk cok tab56 hnt [] [0,1,10] (⟨[(0,.sl (.ints a)),(1,.sl (.ints b)),(10,.b (decide ((a.length : Int) ≠ (b.length : Int))))],[],[999]⟩)
  (True ∧ True ∧ True ∧ True ∧ (True ∧ True ∧ True) ∧ True)
  ⟨tt,tt,tt,tt,⟨tt,tt,tt⟩,tt⟩ ?_
 refine W.ifP ((a.length : Int) ≠ (b.length : Int)) (.b (decide ((a.length : Int) ≠ (b.length : Int)))) (by kernel_rfl) rfl trivial ?_ ?_
 ·intro h10
  refine Kk cok tab56 hnt [] [4] (⟨[(4,.b false)],[],[999]⟩)
   (True ∧ True)
   ⟨tt,tt⟩ ?_
  refine W.ret (thenQ_ret ?_)
  exact endQ_ret (.b false) (by kernel_rfl) (@cast ((.bool false : Value) = .bool (decide (a = b))) _ (by kernel_rfl) (congrArg Value.bool (by symm; exact decide_eq_false (fun e => h10 (by rw [e])))))
 ·intro n10
  refine W.skip (thenQ_normal ?_)
  refine W.seq ?_
  refine Kk cok tab56 hnt [] [0,1,12,13] (⟨[(0,.sl (.ints a)),(1,.sl (.ints b)),(12,.i (a.length : Int)),(13,.i (0 : Int))],[],[999]⟩)
   (True ∧ True ∧ True ∧ True)
   ⟨tt,tt,tt,tt⟩ ?_
  refine W.block ?_
  refine W.loop (ι := Nat) (fun (i : Nat) => (⟨[(0,.sl (.ints a)),(1,.sl (.ints b)),(12,.i (a.length : Int)),(13,.i ((i : Nat) : Int))],[],[999]⟩ : St))
   (fun (i : Nat) => (i ≤ a.length) ∧ (∀ j,j < i → a.getD j 0 = b.getD j 0))
   (fun (i : Nat) => (a.length - i : Nat)) (0) ?_ ?_ ?_
  ·exact (show (0 ≤ a.length) ∧ (∀ j,j < 0 → a.getD j 0 = b.getD j 0) from ⟨(by first | assumption | omega | rfl | (intro _ hjj; omega) | (simp; done) | (simp; omega)),(by exact upto_zero)⟩)
  ·exact Sub.of [] (@cast (((Sd (.ints a)) ∧ (Sd (.ints b)) ∧ (Si (a.length : Int)) ∧ ((.int .i64 (0 : Int) : Value) = .int .i64 ((0 : Nat) : Int)) ∧ True) ∧ True ∧ (true = true) ∧ (true = true)) _ (by kernel_rfl) ⟨⟨rfl,rfl,rfl,(congrArg (Value.int .i64) (by first | rfl | omega | assumption | simp | simp_all)),tt⟩,tt,rfl,rfl⟩)
  ·rintro i hC0
   have hC : (i ≤ a.length) ∧ (∀ j,j < i → a.getD j 0 = b.getD j 0) := hC0
   clear hC0
   obtain ⟨hi,hA⟩ := hC
   refine W.to (⟨[(0,.sl (.ints a)),(1,.sl (.ints b)),(12,.i (a.length : Int)),(13,.i ((i : Nat) : Int))],[],[999]⟩) rfl ?_
   refine Kk cok tab56 hnt [] [0,1,12,13,14] (⟨[(0,.sl (.ints a)),(1,.sl (.ints b)),(12,.i (a.length : Int)),(13,.i ((i : Nat) : Int)),(14,.b (decide (((i : Nat) : Int) < (a.length : Int))))],[],[999]⟩)
    ((True ∧ True ∧ True) ∧ True)
    ⟨⟨tt,tt,tt⟩,tt⟩ ?_
   refine W.seq ?_
   refine W.ifP (((i : Nat) : Int) < (a.length : Int)) (.b (decide (((i : Nat) : Int) < (a.length : Int)))) (by kernel_rfl) rfl trivial ?_ ?_
   ·intro h14
    refine W.skip (thenQ_normal ?_)
    refine W.seq ?_
    refine W.block ?_
    refine Kk cok tab56 hnt [] [0,1,5,12,13] (⟨[(0,.sl (.ints a)),(1,.sl (.ints b)),(5,.i ((i : Nat) : Int)),(12,.i (a.length : Int)),(13,.i ((i : Nat) : Int))],[],[999]⟩)
     (True ∧ True ∧ True)
     ⟨tt,tt,tt⟩ ?_
    refine W.KA cok tab56 hnt [] [0,1,12,13,24] (⟨[(0,.sl (.ints a)),(1,.sl (.ints b)),(12,.i (a.length : Int)),(13,.i ((i : Nat) : Int)),(24,.b (decide ((a.getD i 0) ≠ (b.getD i 0))))],[],[999]⟩)
     (True ∧ True ∧ (True ∧ True ∧ (0 ≤ ((i : Nat) : Int)) ∧ (((i : Nat) : Int) < (a.length : Int))) ∧ True ∧ True ∧ True ∧ (True ∧ True ∧ (0 ≤ ((i : Nat) : Int)) ∧ (((i : Nat) : Int) < (b.length : Int))) ∧ True ∧ (True ∧ True ∧ True) ∧ True) (by kernel_rfl) (by kernel_rfl)
     ⟨tt,tt,⟨tt,tt,(by omega),(by omega)⟩,tt,tt,tt,⟨tt,tt,(by omega),(by omega)⟩,tt,⟨tt,tt,tt⟩,tt⟩ ?_
    refine W.ifP ((a.getD i 0) ≠ (b.getD i 0)) (.b (decide ((a.getD i 0) ≠ (b.getD i 0)))) (by kernel_rfl) rfl trivial ?_ ?_
    ·intro h24
     refine Kk cok tab56 hnt [] [4] (⟨[(4,.b false)],[],[999]⟩)
      (True ∧ True)
      ⟨tt,tt⟩ ?_
     refine W.ret (blockQ_ret (thenQ_ret (thenQ_ret (blockQ_ret (thenQ_ret ?_)))))
     exact endQ_ret (.b false) (by kernel_rfl) (@cast ((.bool false : Value) = .bool (decide (a = b))) _ (by kernel_rfl) (congrArg Value.bool (by symm; exact decide_eq_false (fun e => h24 (by rw [e])))))
    ·intro n24
     refine W.skip (blockQ_normal (thenQ_normal ?_))
     refine Lk cok tab56 hnt [] (⟨[(0,.sl (.ints a)),(1,.sl (.ints b)),(12,.i (a.length : Int)),(13,.i (((i + 1) : Nat) : Int)),(24,.b (decide ((a.getD i 0) ≠ (b.getD i 0)))),(25,.i (((i + 1) : Nat) : Int))],[],[999]⟩)
      ((True ∧ True ∧ (Fits .i64 (((i + 1) : Nat) : Int))) ∧ True ∧ True)
      ⟨⟨tt,tt,(by exact fits_i64 (by omega) (by omega))⟩,tt,tt⟩ ?_
     refine thenQ_normal ?_
     refine ⟨((i + 1)),(show ((i + 1) ≤ a.length) ∧ (∀ j,j < (i + 1) → a.getD j 0 = b.getD j 0) from ⟨(by first | assumption | omega | rfl | (intro _ hjj; omega) | (simp; done) | (simp; omega)),(by exact upto_succ hA (Decidable.not_not.1 n24))⟩),(show a.length - (i + 1) < a.length - i from (by first | omega | (simp_all; omega))),?_⟩
     exact Sub.of [] (@cast (((Sd (.ints a)) ∧ (Sd (.ints b)) ∧ (Si (a.length : Int)) ∧ (Si (((i + 1) : Nat) : Int)) ∧ True) ∧ True ∧ (true = true) ∧ (true = true)) _ (by kernel_rfl) ⟨⟨rfl,rfl,rfl,rfl,tt⟩,tt,rfl,rfl⟩)
   ·intro n14
    refine W.exit (thenQ_exit (thenQ_exit (blockQ_hit ?_)))
    refine thenQ_normal ?_
    refine Kk cok tab56 hnt [] [4] (⟨[(4,.b true)],[],[999]⟩)
     (True ∧ True)
     ⟨tt,tt⟩ ?_
    refine W.ret ?_
    exact endQ_ret (.b true) (by kernel_rfl) (@cast ((.bool true : Value) = .bool (decide (a = b))) _ (by kernel_rfl) (congrArg Value.bool (by symm; exact decide_eq_true (ints_ext (by omega) (fun j hj => hA j (by omega))))))
theorem ent56 : Entr prog 56 := ⟨_,func56,rfl,by decide⟩
end Go.Proofs.Try

set_option linter.unusedSimpArgs false
set_option linter.unusedVariables false
namespace Go.Proofs.Try
open Go.Ab Go.RowKit
def fs57 : FnS := fnS [.s .marks,.s .marks] [.marks,.marks] (fun _ (a,b,_) => (.b (decide (a = b)),[],True))
abbrev T57 : Tab := lk []
theorem tab57 : TabOK prog T57 := TabOK.nil
set_option maxRecDepth 100000 in
set_option maxHeartbeats 1000000 in
theorem ok57 : FnOK prog 57 fs57 := by
 refine FnOK.mk cok func57 rfl rfl rfl ?_
 rintro fl ⟨(a : List MarkD),(b : List MarkD),_⟩ hpre F hnt0 _
 have hnt : F.nt = 26 := hnt0.trans ntmps57
 clear hpre
 refine W.to (⟨[(0,.sl (.marks a)),(1,.sl (.marks b))],[],[999]⟩) rfl ?_
 refine W.lenOf 0 (.marks a) (by kernel_rfl) ?_
 intro hl_a; replace hl_a : List.length a ≤ 9223372036854775807 := hl_a
 refine W.lenOf 1 (.marks b) (by kernel_rfl) ?_
 intro hl_b; replace hl_b : List.length b ≤ 9223372036854775807 := hl_b
 refine Kk cok tab57 hnt [] [0,1] (⟨[(0,.sl (.marks a)),(1,.sl (.marks b))],[],[999]⟩)
  (True ∧ True)
  ⟨tt,tt⟩ ?_
 refine W.seq ?_
 refine Kk cok tab57 hnt [] [0,1,10] (⟨[(0,.sl (.marks a)),(1,.sl (.marks b)),(10,.b (decide ((a.length : Int) ≠ (b.length : Int))))],[],[999]⟩)
  (True ∧ True ∧ True ∧ True ∧ (True ∧ True ∧ True) ∧ True)
  ⟨tt,tt,tt,tt,⟨tt,tt,tt⟩,tt⟩ ?_
 refine W.ifP ((a.length : Int) ≠ (b.length : Int)) (.b (decide ((a.length : Int) ≠ (b.length : Int)))) (by kernel_rfl) rfl trivial ?_ ?_
 ·intro h10
  refine Kk cok tab57 hnt [] [4] (⟨[(4,.b false)],[],[999]⟩)
   (True ∧ True)
   ⟨tt,tt⟩ ?_
  refine W.ret (thenQ_ret ?_)
  exact endQ_ret (.b false) (by kernel_rfl) (@cast ((.bool false : Value) = .bool (decide (a = b))) _ (by kernel_rfl) (congrArg Value.bool (by symm; exact decide_eq_false (fun e => h10 (by rw [e])))))
 ·intro n10
  refine W.skip (thenQ_normal ?_)
  refine W.seq ?_
  refine Kk cok tab57 hnt [] [0,1,12,13] (⟨[(0,.sl (.marks a)),(1,.sl (.marks b)),(12,.i (a.length : Int)),(13,.i (0 : Int))],[],[999]⟩)
   (True ∧ True ∧ True ∧ True)
   ⟨tt,tt,tt,tt⟩ ?_
  refine W.block ?_
  refine W.loop (ι := Nat) (fun (i : Nat) => (⟨[(0,.sl (.marks a)),(1,.sl (.marks b)),(12,.i (a.length : Int)),(13,.i ((i : Nat) : Int))],[],[999]⟩ : St))
   (fun (i : Nat) => (i ≤ a.length) ∧ (∀ j,j < i → a.getD j default = b.getD j default))
   (fun (i : Nat) => (a.length - i : Nat)) (0) ?_ ?_ ?_
  ·exact (show (0 ≤ a.length) ∧ (∀ j,j < 0 → a.getD j default = b.getD j default) from ⟨(by first | assumption | omega | rfl | (intro _ hjj; omega) | (simp; done) | (simp; omega)),(by exact upto_zero)⟩)
  ·exact Sub.of [] (@cast (((Sd (.marks a)) ∧ (Sd (.marks b)) ∧ (Si (a.length : Int)) ∧ ((.int .i64 (0 : Int) : Value) = .int .i64 ((0 : Nat) : Int)) ∧ True) ∧ True ∧ (true = true) ∧ (true = true)) _ (by kernel_rfl) ⟨⟨rfl,rfl,rfl,(congrArg (Value.int .i64) (by first | rfl | omega | assumption | simp | simp_all)),tt⟩,tt,rfl,rfl⟩)
  ·rintro i hC0
   have hC : (i ≤ a.length) ∧ (∀ j,j < i → a.getD j default = b.getD j default) := hC0
   clear hC0
   obtain ⟨hi,hA⟩ := hC
   refine W.to (⟨[(0,.sl (.marks a)),(1,.sl (.marks b)),(12,.i (a.length : Int)),(13,.i ((i : Nat) : Int))],[],[999]⟩) rfl ?_
   refine Kk cok tab57 hnt [] [0,1,12,13,14] (⟨[(0,.sl (.marks a)),(1,.sl (.marks b)),(12,.i (a.length : Int)),(13,.i ((i : Nat) : Int)),(14,.b (decide (((i : Nat) : Int) < (a.length : Int))))],[],[999]⟩)
    ((True ∧ True ∧ True) ∧ True)
    ⟨⟨tt,tt,tt⟩,tt⟩ ?_
   refine W.seq ?_
   refine W.ifP (((i : Nat) : Int) < (a.length : Int)) (.b (decide (((i : Nat) : Int) < (a.length : Int)))) (by kernel_rfl) rfl trivial ?_ ?_
   ·intro h14
    refine W.skip (thenQ_normal ?_)
    refine W.seq ?_
    refine W.block ?_
    refine Kk cok tab57 hnt [] [0,1,5,12,13] (⟨[(0,.sl (.marks a)),(1,.sl (.marks b)),(5,.i ((i : Nat) : Int)),(12,.i (a.length : Int)),(13,.i ((i : Nat) : Int))],[],[999]⟩)
     (True ∧ True ∧ True)
     ⟨tt,tt,tt⟩ ?_
    refine W.KA cok tab57 hnt [] [0,1,12,13,24] (⟨[(0,.sl (.marks a)),(1,.sl (.marks b)),(12,.i (a.length : Int)),(13,.i ((i : Nat) : Int)),(24,.b (!((decide (((a.getD i default).value) = ((b.getD i default).value))) && ((decide (((a.getD i default).proc) = ((b.getD i default).proc))) && ((decide (((a.getD i default).number) = ((b.getD i default).number))) && ((((a.getD i default).gone) == ((b.getD i default).gone)) && true))))))],[],[999]⟩)
     (True ∧ True ∧ (True ∧ True ∧ (0 ≤ ((i : Nat) : Int)) ∧ (((i : Nat) : Int) < (a.length : Int))) ∧ True ∧ True ∧ True ∧ (True ∧ True ∧ (0 ≤ ((i : Nat) : Int)) ∧ (((i : Nat) : Int) < (b.length : Int))) ∧ True ∧ (True ∧ True) ∧ True) (by kernel_rfl) (by kernel_rfl)
     ⟨tt,tt,⟨tt,tt,(by omega),(by omega)⟩,tt,tt,tt,⟨tt,tt,(by omega),(by omega)⟩,tt,⟨tt,tt⟩,tt⟩ ?_
    refine W.if' (!((decide (((a.getD i default).value) = ((b.getD i default).value))) && ((decide (((a.getD i default).proc) = ((b.getD i default).proc))) && ((decide (((a.getD i default).number) = ((b.getD i default).number))) && ((((a.getD i default).gone) == ((b.getD i default).gone)) && true))))) (.b (!((decide (((a.getD i default).value) = ((b.getD i default).value))) && ((decide (((a.getD i default).proc) = ((b.getD i default).proc))) && ((decide (((a.getD i default).number) = ((b.getD i default).number))) && ((((a.getD i default).gone) == ((b.getD i default).gone)) && true)))))) (by kernel_rfl) rfl trivial ?_ ?_
    ·intro h24
     refine Kk cok tab57 hnt [] [4] (⟨[(4,.b false)],[],[999]⟩)
      (True ∧ True)
      ⟨tt,tt⟩ ?_
     refine W.ret (blockQ_ret (thenQ_ret (thenQ_ret (blockQ_ret (thenQ_ret ?_)))))
     exact endQ_ret (.b false) (by kernel_rfl) (@cast ((.bool false : Value) = .bool (decide (a = b))) _ (by kernel_rfl) (congrArg Value.bool (by symm; exact decide_eq_false (fun e => by rw [e] at h24; exact mark_self h24))))
    ·intro n24
     have n24_0 : ((a.getD i default).value) = ((b.getD i default).value) := of_decide_eq_true (and_l (not_g n24))
     have n24_1 : ((a.getD i default).proc) = ((b.getD i default).proc) := of_decide_eq_true (and_l (and_r (not_g n24)))
     have n24_2 : ((a.getD i default).number) = ((b.getD i default).number) := of_decide_eq_true (and_l (and_r (and_r (not_g n24))))
     refine W.skip (blockQ_normal (thenQ_normal ?_))
     refine Lk cok tab57 hnt [] (⟨[(0,.sl (.marks a)),(1,.sl (.marks b)),(12,.i (a.length : Int)),(13,.i (((i + 1) : Nat) : Int)),(24,.b (!((decide (((a.getD i default).value) = ((b.getD i default).value))) && ((decide (((a.getD i default).proc) = ((b.getD i default).proc))) && ((decide (((a.getD i default).number) = ((b.getD i default).number))) && ((((a.getD i default).gone) == ((b.getD i default).gone)) && true)))))),(25,.i (((i + 1) : Nat) : Int))],[],[999]⟩)
      ((True ∧ True ∧ (Fits .i64 (((i + 1) : Nat) : Int))) ∧ True ∧ True)
      ⟨⟨tt,tt,(by exact fits_i64 (by omega) (by omega))⟩,tt,tt⟩ ?_
     refine thenQ_normal ?_
     refine ⟨((i + 1)),(show ((i + 1) ≤ a.length) ∧ (∀ j,j < (i + 1) → a.getD j default = b.getD j default) from ⟨(by first | assumption | omega | rfl | (intro _ hjj; omega) | (simp; done) | (simp; omega)),(by exact upto_succ hA (mark_same n24))⟩),(show a.length - (i + 1) < a.length - i from (by first | omega | (simp_all; omega))),?_⟩
     exact Sub.of [] (@cast (((Sd (.marks a)) ∧ (Sd (.marks b)) ∧ (Si (a.length : Int)) ∧ (Si (((i + 1) : Nat) : Int)) ∧ True) ∧ True ∧ (true = true) ∧ (true = true)) _ (by kernel_rfl) ⟨⟨rfl,rfl,rfl,rfl,tt⟩,tt,rfl,rfl⟩)
   ·intro n14
    refine W.exit (thenQ_exit (thenQ_exit (blockQ_hit ?_)))
    refine thenQ_normal ?_
    refine Kk cok tab57 hnt [] [4] (⟨[(4,.b true)],[],[999]⟩)
     (True ∧ True)
     ⟨tt,tt⟩ ?_
    refine W.ret ?_
    exact endQ_ret (.b true) (by kernel_rfl) (@cast ((.bool true : Value) = .bool (decide (a = b))) _ (by kernel_rfl) (congrArg Value.bool (by symm; exact decide_eq_true (marks_ext (by omega) (fun j hj => hA j (by omega))))))
theorem ent57 : Entr prog 57 := ⟨_,func57,rfl,by decide⟩
end Go.Proofs.Try

set_option linter.unusedSimpArgs false
set_option linter.unusedVariables false
namespace Go.Proofs.Try
open Go.Ab Go.RowKit
def fs38 : FnS := fnS [.a [some .ints,some .ints,none,none,none,some .marks],.a [some .ints,some .ints,none,none,none,some .marks]] [.copy,.copy] (fun _ (a,b,_) => (.b (sameC a b),[],True))
abbrev T38 : Tab := lk [(56,fs56),(57,fs57)]
theorem tab38 : TabOK prog T38 := (TabOK.cons ok56 ent56 (TabOK.cons ok57 ent57 TabOK.nil))
set_option maxRecDepth 100000 in
set_option maxHeartbeats 1000000 in
theorem ok38 : FnOK prog 38 fs38 := by
 refine FnOK.mk cok func38 rfl rfl rfl ?_
 rintro fl ⟨(a : CopyD),(b : CopyD),_⟩ hpre F hnt0 _
 have hnt : F.nt = 45 := hnt0.trans ntmps38
 clear hpre
 refine W.to (⟨[(0,.agg (cC a)),(1,.agg (cC b))],[],[999]⟩) rfl ?_
 refine W.lenA 0 0 (cC a) (.ints a.up) (by kernel_rfl) (by kernel_rfl) ?_
 intro hl_a_up; replace hl_a_up : List.length a.up ≤ 9223372036854775807 := hl_a_up
 refine W.lenA 0 1 (cC a) (.ints a.down) (by kernel_rfl) (by kernel_rfl) ?_
 intro hl_a_down; replace hl_a_down : List.length a.down ≤ 9223372036854775807 := hl_a_down
 refine W.lenA 0 5 (cC a) (.marks a.marks) (by kernel_rfl) (by kernel_rfl) ?_
 intro hl_a_marks; replace hl_a_marks : List.length a.marks ≤ 9223372036854775807 := hl_a_marks
 refine W.lenA 1 0 (cC b) (.ints b.up) (by kernel_rfl) (by kernel_rfl) ?_
 intro hl_b_up; replace hl_b_up : List.length b.up ≤ 9223372036854775807 := hl_b_up
 refine W.lenA 1 1 (cC b) (.ints b.down) (by kernel_rfl) (by kernel_rfl) ?_
 intro hl_b_down; replace hl_b_down : List.length b.down ≤ 9223372036854775807 := hl_b_down
 refine W.lenA 1 5 (cC b) (.marks b.marks) (by kernel_rfl) (by kernel_rfl) ?_
 intro hl_b_marks; replace hl_b_marks : List.length b.marks ≤ 9223372036854775807 := hl_b_marks
 refine Kk cok tab38 hnt [] [2,3] (⟨[(2,.ptr 2 0),(3,.ptr 3 0)],[(2,⟨26,.fix (cC a)⟩),(3,⟨26,.fix (cC b)⟩)],[3,2,999]⟩)
  (True ∧ True ∧ True ∧ True)
  ⟨tt,tt,tt,tt⟩ ?_
 refine Kk cok tab38 hnt [] [4] (⟨[(4,.b ((((((decide (a.up = b.up)) && (decide (a.down = b.down))) && (decide (a.value = b.value))) && (decide (a.time = b.time))) && (decide (a.proc = b.proc))) && (decide (a.marks = b.marks))))],[(2,⟨26,.fix (cC a)⟩),(3,⟨26,.fix (cC b)⟩)],[3,2,999]⟩)
  ((fun (Z1:Bool)=>((fun (Z2:Bool)=>((fun (Z3:Bool)=>((fun (Z4:Bool)=>((fun (Z5:Bool)=>(True ∧ (True ∧ (True ∧ (True ∧ ((True ∧ ((True ∧ (True ∧ True)) ∧ True)) ∧ (True ∧ ((Z1 = true → True) ∧ ((Z1 = true → ((Z1 = true) ∧ True)) ∧ ((Z1 = true → True) ∧ ((Z1 = true → ((Z1 = true) ∧ True)) ∧ ((Z1 = true → (True ∧ ((((Z1 = true) ∧ True) ∧ (((Z1 = true) ∧ True) ∧ True)) ∧ True))) ∧ ((True ∧ ((Z1 = true → (Z1 = true) ∧ True) ∧ (Z1 = false → True))) ∧ (True ∧ ((Z2 = true → True) ∧ ((Z2 = true → ((Z2 = true) ∧ True)) ∧ ((Z2 = true → True) ∧ ((Z2 = true → ((Z2 = true) ∧ True)) ∧ ((Z2 = true → (((Z2 = true) ∧ True) ∧ (((Z2 = true) ∧ True) ∧ True))) ∧ ((True ∧ ((Z2 = true → (Z2 = true) ∧ True) ∧ (Z2 = false → True))) ∧ (True ∧ ((Z3 = true → True) ∧ ((Z3 = true → ((Z3 = true) ∧ True)) ∧ ((Z3 = true → True) ∧ ((Z3 = true → ((Z3 = true) ∧ True)) ∧ ((Z3 = true → (((Z3 = true) ∧ True) ∧ (((Z3 = true) ∧ True) ∧ True))) ∧ ((True ∧ ((Z3 = true → (Z3 = true) ∧ True) ∧ (Z3 = false → True))) ∧ (True ∧ ((Z4 = true → True) ∧ ((Z4 = true → ((Z4 = true) ∧ True)) ∧ ((Z4 = true → True) ∧ ((Z4 = true → ((Z4 = true) ∧ True)) ∧ ((Z4 = true → (((Z4 = true) ∧ True) ∧ (((Z4 = true) ∧ True) ∧ True))) ∧ ((True ∧ ((Z4 = true → (Z4 = true) ∧ True) ∧ (Z4 = false → True))) ∧ (True ∧ ((Z5 = true → True) ∧ ((Z5 = true → ((Z5 = true) ∧ True)) ∧ ((Z5 = true → True) ∧ ((Z5 = true → ((Z5 = true) ∧ True)) ∧ ((Z5 = true → (True ∧ ((((Z5 = true) ∧ True) ∧ (((Z5 = true) ∧ True) ∧ True)) ∧ True))) ∧ ((True ∧ ((Z5 = true → (Z5 = true) ∧ True) ∧ (Z5 = false → True))) ∧ (True ∧ True)))))))))))))))))))))))))))))))))))))))))) (Z4 && (decide (a.proc = b.proc))))) (Z3 && (decide (a.time = b.time))))) (Z2 && (decide (a.value = b.value))))) (Z1 && (decide (a.down = b.down))))) (decide (a.up = b.up)))
  ⟨tt,tt,tt,tt,⟨tt,⟨tt,tt,tt⟩,tt⟩,tt,(fun _ => trivial),(fun hG => ⟨hG,tt⟩),(fun _ => trivial),(fun hG => ⟨hG,tt⟩),(fun hG => ⟨tt,⟨⟨hG,tt⟩,⟨hG,tt⟩,tt⟩,tt⟩),⟨tt,(fun hp => ⟨hp,tt⟩),(fun _ => trivial)⟩,tt,(fun _ => trivial),(fun hG => ⟨hG,tt⟩),(fun _ => trivial),(fun hG => ⟨hG,tt⟩),(fun hG => ⟨⟨hG,tt⟩,⟨hG,tt⟩,tt⟩),⟨tt,(fun hp => ⟨hp,tt⟩),(fun _ => trivial)⟩,tt,(fun _ => trivial),(fun hG => ⟨hG,tt⟩),(fun _ => trivial),(fun hG => ⟨hG,tt⟩),(fun hG => ⟨⟨hG,tt⟩,⟨hG,tt⟩,tt⟩),⟨tt,(fun hp => ⟨hp,tt⟩),(fun _ => trivial)⟩,tt,(fun _ => trivial),(fun hG => ⟨hG,tt⟩),(fun _ => trivial),(fun hG => ⟨hG,tt⟩),(fun hG => ⟨⟨hG,tt⟩,⟨hG,tt⟩,tt⟩),⟨tt,(fun hp => ⟨hp,tt⟩),(fun _ => trivial)⟩,tt,(fun _ => trivial),(fun hG => ⟨hG,tt⟩),(fun _ => trivial),(fun hG => ⟨hG,tt⟩),(fun hG => ⟨tt,⟨⟨hG,tt⟩,⟨hG,tt⟩,tt⟩,tt⟩),⟨tt,(fun hp => ⟨hp,tt⟩),(fun _ => trivial)⟩,tt,tt⟩ ?_
 refine W.ret ?_
 exact endQ_ret (.b ((((((decide (a.up = b.up)) && (decide (a.down = b.down))) && (decide (a.value = b.value))) && (decide (a.time = b.time))) && (decide (a.proc = b.proc))) && (decide (a.marks = b.marks)))) (by kernel_rfl) (@cast ((.bool ((((((decide (a.up = b.up)) && (decide (a.down = b.down))) && (decide (a.value = b.value))) && (decide (a.time = b.time))) && (decide (a.proc = b.proc))) && (decide (a.marks = b.marks))) : Value) = .bool (sameC a b)) _ (by kernel_rfl) (congrArg Value.bool (by rfl)))
theorem ent38 : Entr prog 38 := ⟨_,func38,rfl,by decide⟩
end Go.Proofs.Try

set_option linter.unusedSimpArgs false
set_option linter.unusedVariables false
namespace Go.Proofs.Try
open Go.Ab Go.RowKit
def fs12 : FnS := fnS [.a [some .ints,some .ints,none,none,none,some .marks],.a [some .ints,some .ints,none,none,none,some .marks]] [.copy,.copy] (fun _ (a,b,_) => (.b (withinC a b),[],True))
abbrev T12 : Tab := lk [(7,fs7),(38,fs38)]
theorem tab12 : TabOK prog T12 := (TabOK.cons ok7 ent7 (TabOK.cons ok38 ent38 TabOK.nil))
set_option maxRecDepth 100000 in
set_option maxHeartbeats 1000000 in
theorem ok12 : FnOK prog 12 fs12 := by
 refine FnOK.mk cok func12 rfl rfl rfl ?_
 rintro fl ⟨(a : CopyD),(b : CopyD),_⟩ hpre F hnt0 _
 have hnt : F.nt = 19 := hnt0.trans ntmps12
 clear hpre
 refine W.to (⟨[(0,.agg (cC a)),(1,.agg (cC b))],[],[999]⟩) rfl ?_
 refine W.lenA 0 0 (cC a) (.ints a.up) (by kernel_rfl) (by kernel_rfl) ?_
 intro hl_a_up; replace hl_a_up : List.length a.up ≤ 9223372036854775807 := hl_a_up
 refine W.lenA 0 1 (cC a) (.ints a.down) (by kernel_rfl) (by kernel_rfl) ?_
 intro hl_a_down; replace hl_a_down : List.length a.down ≤ 9223372036854775807 := hl_a_down
 refine W.lenA 0 5 (cC a) (.marks a.marks) (by kernel_rfl) (by kernel_rfl) ?_
 intro hl_a_marks; replace hl_a_marks : List.length a.marks ≤ 9223372036854775807 := hl_a_marks
 refine W.lenA 1 0 (cC b) (.ints b.up) (by kernel_rfl) (by kernel_rfl) ?_
 intro hl_b_up; replace hl_b_up : List.length b.up ≤ 9223372036854775807 := hl_b_up
 refine W.lenA 1 1 (cC b) (.ints b.down) (by kernel_rfl) (by kernel_rfl) ?_
 intro hl_b_down; replace hl_b_down : List.length b.down ≤ 9223372036854775807 := hl_b_down
 refine W.lenA 1 5 (cC b) (.marks b.marks) (by kernel_rfl) (by kernel_rfl) ?_
 intro hl_b_marks; replace hl_b_marks : List.length b.marks ≤ 9223372036854775807 := hl_b_marks
 refine Kk cok tab12 hnt [] [2,3] (⟨[(2,.ptr 2 0),(3,.ptr 3 0)],[(2,⟨26,.fix (cC a)⟩),(3,⟨26,.fix (cC b)⟩)],[3,2,999]⟩)
  (True ∧ True ∧ True ∧ True)
  ⟨tt,tt,tt,tt⟩ ?_
 refine Kk cok tab12 hnt [] [3,5,6] (⟨[(3,.ptr 3 0),(5,.ptr 5 0),(6,.b ((mergeC a b).2))],[(2,⟨26,.fix (cC a)⟩),(3,⟨26,.fix (cC b)⟩),(5,⟨26,.fix [.own 10 (List.length ((mergeC a b).1.up)),.own 1010 (List.length ((mergeC a b).1.down)),.i ((mergeC a b).1.value),.i ((mergeC a b).1.time),.i ((mergeC a b).1.proc),.own 2010 (List.length ((mergeC a b).1.marks))]⟩),(10,⟨3,.row (.ints ((mergeC a b).1.up))⟩),(1010,⟨3,.row (.ints ((mergeC a b).1.down))⟩),(2010,⟨33,.row (.marks ((mergeC a b).1.marks))⟩)],[5,2010,1010,10,3,2,999]⟩)
  (True ∧ True ∧ (True ∧ ((True ∧ True ∧ True ∧ True ∧ True ∧ True ∧ True ∧ True) ∧ (True ∧ True ∧ True ∧ True ∧ True ∧ True ∧ True ∧ True) ∧ True) ∧ True) ∧ True ∧ True ∧ True ∧ True ∧ (True ∧ True) ∧ True ∧ True)
  ⟨tt,tt,⟨tt,⟨⟨tt,tt,tt,tt,tt,tt,tt,tt⟩,⟨tt,tt,tt,tt,tt,tt,tt,tt⟩,tt⟩,tt⟩,tt,tt,tt,tt,⟨tt,tt⟩,tt,tt⟩ ?_
 refine Kk cok tab12 hnt [] [4] (⟨[(4,.b (((mergeC a b).2) && (sameC (mergeC a b).1 b)))],[(2,⟨26,.fix (cC a)⟩),(3,⟨26,.fix (cC b)⟩),(5,⟨26,.fix [.own 10 (List.length ((mergeC a b).1.up)),.own 1010 (List.length ((mergeC a b).1.down)),.i ((mergeC a b).1.value),.i ((mergeC a b).1.time),.i ((mergeC a b).1.proc),.own 2010 (List.length ((mergeC a b).1.marks))]⟩),(10,⟨3,.row (.ints ((mergeC a b).1.up))⟩),(1010,⟨3,.row (.ints ((mergeC a b).1.down))⟩),(2010,⟨33,.row (.marks ((mergeC a b).1.marks))⟩)],[5,2010,1010,10,3,2,999]⟩)
  ((fun (Z1:Bool)=>(True ∧ (True ∧ ((Z1 = true → True) ∧ ((Z1 = true → True) ∧ ((Z1 = true → (True ∧ (((((Z1 = true) ∧ True) ∧ ((True ∧ ((List.length ((mergeC a b).1.up)) = (List.length ((mergeC a b).1.up)))) ∧ ((True ∧ ((List.length ((mergeC a b).1.down)) = (List.length ((mergeC a b).1.down)))) ∧ (True ∧ (True ∧ (True ∧ ((True ∧ ((List.length ((mergeC a b).1.marks)) = (List.length ((mergeC a b).1.marks)))) ∧ True))))))) ∧ ((((Z1 = true) ∧ True) ∧ (True ∧ (True ∧ (True ∧ (True ∧ (True ∧ (True ∧ True))))))) ∧ True)) ∧ True))) ∧ ((True ∧ ((Z1 = true → (Z1 = true) ∧ True) ∧ (Z1 = false → True))) ∧ (True ∧ True)))))))) ((mergeC a b).2))
  ⟨tt,tt,(fun _ => trivial),(fun _ => trivial),(fun hG => ⟨tt,⟨⟨⟨hG,tt⟩,⟨tt,rfl⟩,⟨tt,rfl⟩,tt,tt,tt,⟨tt,rfl⟩,tt⟩,⟨⟨hG,tt⟩,tt,tt,tt,tt,tt,tt,tt⟩,tt⟩,tt⟩),⟨tt,(fun hp => ⟨hp,tt⟩),(fun _ => trivial)⟩,tt,tt⟩ ?_
 refine W.ret ?_
 exact endQ_ret (.b (((mergeC a b).2) && (sameC (mergeC a b).1 b))) (by kernel_rfl) (@cast ((.bool (((mergeC a b).2) && (sameC (mergeC a b).1 b)) : Value) = .bool (withinC a b)) _ (by kernel_rfl) (congrArg Value.bool (by rfl)))
theorem ent12 : Entr prog 12 := ⟨_,func12,rfl,by decide⟩
end Go.Proofs.Try

set_option linter.unusedSimpArgs false
set_option linter.unusedVariables false
namespace Go.Proofs.Try
open Go.Ab Go.RowKit
def pre21 : List AV → List AV → Prop := preP [.bytes] [] (fun (code,_) _ => True)
def rel21 : RelS := relP [.bytes] [] (ι := (List UInt8)) (fun (code,_) _ l => True) (fun (code,_) _ l => (.ptr 0 0,[⟨70,.fix [.sl (.bytes l),.i (0 : Int)]⟩],[]))
abbrev T21 : Tab := lk []
theorem tab21 : TabOK prog T21 := TabOK.nil
set_option maxRecDepth 100000 in
set_option maxHeartbeats 1000000 in
theorem rok21 : RelOK prog 21 none [.s .bytes] pre21 rel21 := by
 refine RelOK.mk cok func21 rfl rfl rfl ?_
 rintro ⟨(code : List UInt8),_⟩ _ hpre F hnt0
 have hnt : F.nt = 11 := hnt0.trans ntmps21
 clear hpre
 refine W.to (⟨[(0,.sl (.bytes code))],[],[998,999]⟩) rfl ?_
 refine Kk cok tab21 hnt [] [0] (⟨[(0,.sl (.bytes code))],[],[998,999]⟩)
  (True ∧ True)
  ⟨tt,tt⟩ ?_
 refine W.seq ?_
 refine Kk cok tab21 hnt [] [0,5] (⟨[(0,.sl (.bytes code)),(5,.b (decide ((2000 : Int) < (code.length : Int))))],[],[998,999]⟩)
  (True ∧ True ∧ (True ∧ True ∧ True) ∧ True)
  ⟨tt,tt,⟨tt,tt,tt⟩,tt⟩ ?_
 refine W.ifP ((2000 : Int) < (code.length : Int)) (.b (decide ((2000 : Int) < (code.length : Int)))) (by kernel_rfl) rfl trivial ?_ ?_
 ·intro h5
  refine Lk cok tab21 hnt [] (⟨[(0,.sl (.bytes (List.take 2000 code))),(5,.b (decide ((2000 : Int) < (code.length : Int)))),(6,.sl (.bytes code)),(7,.sl (.bytes (List.take 2000 code)))],[],[998,999]⟩)
   (True ∧ (True ∧ True ∧ True ∧ (0 ≤ (0 : Int)) ∧ ((0 : Int) ≤ (2000 : Int)) ∧ ((2000 : Int) ≤ (code.length : Int))) ∧ True ∧ True)
   ⟨tt,⟨tt,tt,tt,(by omega),(by omega),(by omega)⟩,tt,tt⟩ ?_
  refine thenQ_normal ?_
  refine Kk cok tab21 hnt [] [2] (⟨[(2,.ptr 10 0)],[(10,⟨70,.fix [.sl (.bytes (List.take 2000 code)),.i (0 : Int)]⟩)],[10,998,999]⟩)
   (True ∧ (True ∧ True) ∧ True ∧ True ∧ True)
   ⟨tt,⟨tt,tt⟩,tt,tt,tt⟩ ?_
  refine W.ret ?_
  exact endP_ret ((List.take 2000 code)) (show True from trivial) [(0,10)] (.ptr 10 0) (by kernel_rfl) (@cast ((((10 : Nat) = 10) ∧ ((0 : Nat) = 0) ∧ ((0 : Nat) ∈ ([0] : List Nat))) ∧ ((((70 : Nat) = 70) ∧ ((Sd (.bytes (List.take 2000 code))) ∧ (Si (0 : Int)) ∧ True) ∧ ((0 : Nat) ∈ ([0] : List Nat))) ∧ True) ∧ (true = true) ∧ ((([] : List Nat) = []) ∧ True) ∧ (false = true → (10 : Nat) = 998)) _ (by kernel_rfl) ⟨⟨rfl,rfl,(by decide)⟩,⟨⟨rfl,⟨rfl,rfl,tt⟩,(by decide)⟩,tt⟩,rfl,⟨rfl,tt⟩,(fun h => by cases h)⟩)
 ·intro n5
  refine W.skip (thenQ_normal ?_)
  refine Kk cok tab21 hnt [] [2] (⟨[(2,.ptr 10 0)],[(10,⟨70,.fix [.sl (.bytes code),.i (0 : Int)]⟩)],[10,998,999]⟩)
   (True ∧ (True ∧ True) ∧ True ∧ True ∧ True)
   ⟨tt,⟨tt,tt⟩,tt,tt,tt⟩ ?_
  refine W.ret ?_
  exact endP_ret (code) (show True from trivial) [(0,10)] (.ptr 10 0) (by kernel_rfl) (@cast ((((10 : Nat) = 10) ∧ ((0 : Nat) = 0) ∧ ((0 : Nat) ∈ ([0] : List Nat))) ∧ ((((70 : Nat) = 70) ∧ ((Sd (.bytes code)) ∧ (Si (0 : Int)) ∧ True) ∧ ((0 : Nat) ∈ ([0] : List Nat))) ∧ True) ∧ (true = true) ∧ ((([] : List Nat) = []) ∧ True) ∧ (false = true → (10 : Nat) = 998)) _ (by kernel_rfl) ⟨⟨rfl,rfl,(by decide)⟩,⟨⟨rfl,⟨rfl,rfl,tt⟩,(by decide)⟩,tt⟩,rfl,⟨rfl,tt⟩,(fun h => by cases h)⟩)
theorem ent21 : Entr prog 21 := ⟨_,func21,rfl,by decide⟩
end Go.Proofs.Try

set_option linter.unusedSimpArgs false
set_option linter.unusedVariables false
namespace Go.Proofs.Try
open Go.Ab Go.RowKit
def fs46 : FnS := fnS [] [] (fun _ _ => (.agg (cC newC),[],True))
abbrev T46 : Tab := lk []
theorem tab46 : TabOK prog T46 := TabOK.nil
set_option maxRecDepth 100000 in
set_option maxHeartbeats 1000000 in
theorem ok46 : FnOK prog 46 fs46 := by
 refine FnOK.mk cok func46 rfl rfl rfl ?_
 rintro fl _ hpre F hnt0 _
 have hnt : F.nt = 5 := hnt0.trans ntmps46
 clear hpre
 refine W.to (⟨[],[],[999]⟩) rfl ?_
 refine Kk cok tab46 hnt [] [0] (⟨[(0,.ptr 0 0)],[(0,⟨26,.fix [.v (.slice none 0 0),.v (.slice none 0 0),.i (0 : Int),.i (0 : Int),.i (0 : Int),.v (.slice none 0 0)]⟩)],[0,999]⟩)
  (True ∧ True)
  ⟨tt,tt⟩ ?_
 refine W.subS [(997,0)] (⟨[(0,.ptr 997 0)],[(997,⟨26,.fix [.v (.slice none 0 0),.v (.slice none 0 0),.i (0 : Int),.i (0 : Int),.i (0 : Int),.v (.slice none 0 0)]⟩)],[997,999]⟩) (@cast (((((0 : Nat) = 0) ∧ ((0 : Nat) = 0) ∧ ((997 : Nat) ∈ ([997,999] : List Nat))) ∧ True) ∧ ((((26 : Nat) = 26) ∧ ((((.slice none 0 0) : Value) = (.slice none 0 0)) ∧ (((.slice none 0 0) : Value) = (.slice none 0 0)) ∧ (Si (0 : Int)) ∧ (Si (0 : Int)) ∧ (Si (0 : Int)) ∧ (((.slice none 0 0) : Value) = (.slice none 0 0)) ∧ True) ∧ ((997 : Nat) ∈ ([997,999] : List Nat))) ∧ True) ∧ (true = true) ∧ (true = true)) _ (by kernel_rfl) ⟨⟨⟨rfl,rfl,(by decide)⟩,tt⟩,⟨⟨rfl,⟨rfl,rfl,rfl,rfl,rfl,rfl,tt⟩,(by decide)⟩,tt⟩,rfl,rfl⟩) ?_
 refine W.KA cok tab46 hnt [] [0] (⟨[(0,.ptr 997 0)],[(997,⟨26,.fix [.sl (.ints (List.replicate 3 (0 : Int))),.sl (.ints (List.replicate 3 (0 : Int))),.i (0 : Int),.i (0 : Int),.i (0 : Int),.sl (.marks ([] : List MarkD))]⟩)],[3,2,1,997,999]⟩)
  ((True ∧ True ∧ ((3 : Int) = (3 : Int)) ∧ (0 ≤ (3 : Int)) ∧ ((3 : Int) * 8 ≤ 281474976710656)) ∧ (True ∧ True ∧ ((3 : Int) = (3 : Int)) ∧ (0 ≤ (3 : Int)) ∧ ((3 : Int) * 8 ≤ 281474976710656)) ∧ True ∧ (True ∧ True ∧ True ∧ True) ∧ (True ∧ True) ∧ True) (by kernel_rfl) (by kernel_rfl)
  ⟨⟨tt,tt,rfl,(by omega),(by omega)⟩,⟨tt,tt,rfl,(by omega),(by omega)⟩,tt,⟨tt,tt,tt,tt⟩,⟨tt,tt⟩,tt⟩ ?_
 refine W.ret ?_
 exact endQ_ret (.agg [.sl (.ints (List.replicate 3 (0 : Int))),.sl (.ints (List.replicate 3 (0 : Int))),.i (0 : Int),.i (0 : Int),.i (0 : Int),.sl (.marks ([] : List MarkD))]) (by kernel_rfl) (@cast (((.ints (List.replicate 3 (0 : Int)) : Dat) = .ints newC.up) ∧ ((.ints (List.replicate 3 (0 : Int)) : Dat) = .ints newC.down) ∧ ((.int .i64 (0 : Int) : Value) = .int .i64 newC.value) ∧ ((.int .i64 (0 : Int) : Value) = .int .i64 newC.time) ∧ ((.int .i64 (0 : Int) : Value) = .int .i64 newC.proc) ∧ ((.marks ([] : List MarkD) : Dat) = .marks newC.marks) ∧ True) _ (by kernel_rfl) ⟨(congrArg Dat.ints (by rfl)),(congrArg Dat.ints (by rfl)),(congrArg (Value.int .i64) (by rfl)),(congrArg (Value.int .i64) (by rfl)),(congrArg (Value.int .i64) (by rfl)),(congrArg Dat.marks (by rfl)),tt⟩)
theorem ent46 : Entr prog 46 := ⟨_,func46,rfl,by decide⟩
end Go.Proofs.Try

set_option linter.unusedSimpArgs false
set_option linter.unusedVariables false
namespace Go.Proofs.Try
open Go.Ab Go.RowKit
def fs34 : FnS := fnS [.a [some .ints,some .ints,none,none,none,some .marks],.a [some .ints,some .ints,none,none,none,some .marks]] [.copy,.copy] (fun _ (a,b,_) => (.b (newerC a b),[],True))
abbrev T34 : Tab := lk []
theorem tab34 : TabOK prog T34 := TabOK.nil
set_option maxRecDepth 100000 in
set_option maxHeartbeats 1000000 in
theorem ok34 : FnOK prog 34 fs34 := by
 refine FnOK.mk cok func34 rfl rfl rfl ?_
 rintro fl ⟨(a : CopyD),(b : CopyD),_⟩ hpre F hnt0 _
 have hnt : F.nt = 30 := hnt0.trans ntmps34
 clear hpre
 refine W.to (⟨[(0,.agg (cC a)),(1,.agg (cC b))],[],[999]⟩) rfl ?_
 refine W.lenA 0 0 (cC a) (.ints a.up) (by kernel_rfl) (by kernel_rfl) ?_
 intro hl_a_up; replace hl_a_up : List.length a.up ≤ 9223372036854775807 := hl_a_up
 refine W.lenA 0 1 (cC a) (.ints a.down) (by kernel_rfl) (by kernel_rfl) ?_
 intro hl_a_down; replace hl_a_down : List.length a.down ≤ 9223372036854775807 := hl_a_down
 refine W.lenA 0 5 (cC a) (.marks a.marks) (by kernel_rfl) (by kernel_rfl) ?_
 intro hl_a_marks; replace hl_a_marks : List.length a.marks ≤ 9223372036854775807 := hl_a_marks
 refine W.lenA 1 0 (cC b) (.ints b.up) (by kernel_rfl) (by kernel_rfl) ?_
 intro hl_b_up; replace hl_b_up : List.length b.up ≤ 9223372036854775807 := hl_b_up
 refine W.lenA 1 1 (cC b) (.ints b.down) (by kernel_rfl) (by kernel_rfl) ?_
 intro hl_b_down; replace hl_b_down : List.length b.down ≤ 9223372036854775807 := hl_b_down
 refine W.lenA 1 5 (cC b) (.marks b.marks) (by kernel_rfl) (by kernel_rfl) ?_
 intro hl_b_marks; replace hl_b_marks : List.length b.marks ≤ 9223372036854775807 := hl_b_marks
 refine Kk cok tab34 hnt [] [2,3] (⟨[(2,.ptr 2 0),(3,.ptr 3 0)],[(2,⟨26,.fix (cC a)⟩),(3,⟨26,.fix (cC b)⟩)],[3,2,999]⟩)
  (True ∧ True ∧ True ∧ True)
  ⟨tt,tt,tt,tt⟩ ?_
 refine W.seq ?_
 refine Kk cok tab34 hnt [] [2,3,9] (⟨[(2,.ptr 2 0),(3,.ptr 3 0),(9,.b (decide (a.time ≠ b.time)))],[(2,⟨26,.fix (cC a)⟩),(3,⟨26,.fix (cC b)⟩)],[3,2,999]⟩)
  (True ∧ True ∧ True ∧ True ∧ (True ∧ True ∧ True) ∧ True)
  ⟨tt,tt,tt,tt,⟨tt,tt,tt⟩,tt⟩ ?_
 refine W.ifP (a.time ≠ b.time) (.b (decide (a.time ≠ b.time))) (by kernel_rfl) rfl trivial ?_ ?_
 ·intro h9
  refine Kk cok tab34 hnt [] [4] (⟨[(4,.b (decide (b.time < a.time)))],[(2,⟨26,.fix (cC a)⟩),(3,⟨26,.fix (cC b)⟩)],[3,2,999]⟩)
   (True ∧ True ∧ True ∧ True ∧ (True ∧ True ∧ True) ∧ True ∧ True)
   ⟨tt,tt,tt,tt,⟨tt,tt,tt⟩,tt,tt⟩ ?_
  refine W.ret (thenQ_ret ?_)
  exact endQ_ret (.b (decide (b.time < a.time))) (by kernel_rfl) (@cast ((.bool (decide (b.time < a.time)) : Value) = .bool (newerC a b)) _ (by kernel_rfl) (congrArg Value.bool (by unfold newerC; rw [decide_eq_true h9]; rfl)))
 ·intro n9
  refine W.skip (thenQ_normal ?_)
  refine W.seq ?_
  refine Kk cok tab34 hnt [] [2,3,19] (⟨[(2,.ptr 2 0),(3,.ptr 3 0),(19,.b (decide (a.proc ≠ b.proc)))],[(2,⟨26,.fix (cC a)⟩),(3,⟨26,.fix (cC b)⟩)],[3,2,999]⟩)
   (True ∧ True ∧ True ∧ True ∧ (True ∧ True ∧ True) ∧ True)
   ⟨tt,tt,tt,tt,⟨tt,tt,tt⟩,tt⟩ ?_
  refine W.ifP (a.proc ≠ b.proc) (.b (decide (a.proc ≠ b.proc))) (by kernel_rfl) rfl trivial ?_ ?_
  ·intro h19
   refine Kk cok tab34 hnt [] [4] (⟨[(4,.b (decide (b.proc < a.proc)))],[(2,⟨26,.fix (cC a)⟩),(3,⟨26,.fix (cC b)⟩)],[3,2,999]⟩)
    (True ∧ True ∧ True ∧ True ∧ (True ∧ True ∧ True) ∧ True ∧ True)
    ⟨tt,tt,tt,tt,⟨tt,tt,tt⟩,tt,tt⟩ ?_
   refine W.ret (thenQ_ret ?_)
   exact endQ_ret (.b (decide (b.proc < a.proc))) (by kernel_rfl) (@cast ((.bool (decide (b.proc < a.proc)) : Value) = .bool (newerC a b)) _ (by kernel_rfl) (congrArg Value.bool (by unfold newerC; rw [decide_eq_false n9,decide_eq_true h19]; rfl)))
  ·intro n19
   refine W.skip (thenQ_normal ?_)
   refine Kk cok tab34 hnt [] [4] (⟨[(4,.b (decide (b.value < a.value)))],[(2,⟨26,.fix (cC a)⟩),(3,⟨26,.fix (cC b)⟩)],[3,2,999]⟩)
    (True ∧ True ∧ True ∧ True ∧ (True ∧ True ∧ True) ∧ True ∧ True)
    ⟨tt,tt,tt,tt,⟨tt,tt,tt⟩,tt,tt⟩ ?_
   refine W.ret ?_
   exact endQ_ret (.b (decide (b.value < a.value))) (by kernel_rfl) (@cast ((.bool (decide (b.value < a.value)) : Value) = .bool (newerC a b)) _ (by kernel_rfl) (congrArg Value.bool (by unfold newerC; rw [decide_eq_false n9,decide_eq_false n19]; rfl)))
theorem ent34 : Entr prog 34 := ⟨_,func34,rfl,by decide⟩
end Go.Proofs.Try

set_option linter.unusedSimpArgs false
set_option linter.unusedVariables false
namespace Go.Proofs.Try
open Go.Ab Go.RowKit
def fs35 : FnS := fnS [.s .marks,.s .marks] [.marks,.marks] (fun _ (a,b,_) => (.tup [.sl (.marks ((uniteP a b).1)),.b ((uniteP a b).2)],[],(a.length ≤ 1000 ∧ b.length ≤ 1000)))
abbrev T35 : Tab := lk [(45,fs45)]
theorem tab35 : TabOK prog T35 := (TabOK.cons ok45 ent45 TabOK.nil)
set_option maxRecDepth 100000 in
set_option maxHeartbeats 1000000 in
theorem ok35 : FnOK prog 35 fs35 := by
 refine FnOK.mk cok func35 rfl rfl rfl ?_
 rintro fl ⟨(a : List MarkD),(b : List MarkD),_⟩ hpre F hnt0 _
 have hnt : F.nt = 112 := hnt0.trans ntmps35
 replace hpre : (a.length ≤ 1000 ∧ b.length ≤ 1000) := hpre
 have hs := hpre
 refine W.to (⟨[(0,.sl (.marks a)),(1,.sl (.marks b))],[],[999]⟩) rfl ?_
 refine W.lenOf 0 (.marks a) (by kernel_rfl) ?_
 intro hl_a; replace hl_a : List.length a ≤ 9223372036854775807 := hl_a
 refine W.lenOf 1 (.marks b) (by kernel_rfl) ?_
 intro hl_b; replace hl_b : List.length b ≤ 9223372036854775807 := hl_b
 refine Kk cok tab35 hnt [] [0,1] (⟨[(0,.sl (.marks a)),(1,.sl (.marks b))],[],[999]⟩)
  (True ∧ True ∧ True)
  ⟨tt,tt,tt⟩ ?_
 refine Kk cok tab35 hnt [10] [0,1,6] (⟨[(0,.sl (.marks a)),(1,.sl (.marks b)),(6,.own 10 (List.length ([] : List MarkD)))],[(10,⟨33,.row (.marks ([] : List MarkD))⟩)],[10,999]⟩)
  (True ∧ True ∧ True)
  ⟨tt,tt,tt⟩ ?_
 refine Kk cok tab35 hnt [] [0,1,6,7] (⟨[(0,.sl (.marks a)),(1,.sl (.marks b)),(6,.own 10 (List.length ([] : List MarkD))),(7,.i (0 : Int))],[(10,⟨33,.row (.marks ([] : List MarkD))⟩)],[10,999]⟩)
  (True ∧ True)
  ⟨tt,tt⟩ ?_
 refine Kk cok tab35 hnt [] [0,1,6,7,8] (⟨[(0,.sl (.marks a)),(1,.sl (.marks b)),(6,.own 10 (List.length ([] : List MarkD))),(7,.i (0 : Int)),(8,.i (0 : Int))],[(10,⟨33,.row (.marks ([] : List MarkD))⟩)],[10,999]⟩)
  (True ∧ True)
  ⟨tt,tt⟩ ?_
 refine W.seq ?_
 refine W.block ?_
 refine W.loop (ι := (List MarkD) × Nat × Nat) (fun (x : (List MarkD) × Nat × Nat) => match x with | (o,i,k) => (⟨[(0,.sl (.marks a)),(1,.sl (.marks b)),(6,.own 10 o.length),(7,.i ((i : Nat) : Int)),(8,.i ((k : Nat) : Int))],[(10,⟨33,.row (.marks o)⟩)],[10,999]⟩ : St))
  (fun (x : (List MarkD) × Nat × Nat) => match x with | (o,i,k) => (i ≤ a.length ∧ k ≤ b.length) ∧ (unUp a b i k o) ∧ (o.length ≤ i + k))
  (fun (x : (List MarkD) × Nat × Nat) => match x with | (o,i,k) => (a.length - i + (b.length - k) : Nat)) (([] : List MarkD),0,0) ?_ ?_ ?_
 ·exact (show (0 ≤ a.length ∧ 0 ≤ b.length) ∧ (unUp a b 0 0 ([] : List MarkD)) ∧ (([] : List MarkD).length ≤ 0 + 0) from ⟨(by first | assumption | omega | rfl | (intro _ hjj; omega) | (simp; done) | (simp; omega)),(by exact unUp_zero a b),(by exact Nat.le_refl _)⟩)
 ·exact Sub.of [] (@cast (((Sd (.marks a)) ∧ (Sd (.marks b)) ∧ (((10 : Nat) = 10) ∧ ((List.length ([] : List MarkD)) = (List.length ([] : List MarkD))) ∧ ((10 : Nat) ∈ ([10,999] : List Nat))) ∧ ((.int .i64 (0 : Int) : Value) = .int .i64 ((0 : Nat) : Int)) ∧ ((.int .i64 (0 : Int) : Value) = .int .i64 ((0 : Nat) : Int)) ∧ True) ∧ ((((33 : Nat) = 33) ∧ (Sd (.marks ([] : List MarkD))) ∧ ((10 : Nat) ∈ ([10,999] : List Nat))) ∧ True) ∧ (true = true) ∧ (true = true)) _ (by kernel_rfl) ⟨⟨rfl,rfl,⟨rfl,rfl,(by decide)⟩,(congrArg (Value.int .i64) (by first | rfl | omega | assumption | simp | simp_all)),(congrArg (Value.int .i64) (by first | rfl | omega | assumption | simp | simp_all)),tt⟩,⟨⟨rfl,rfl,(by decide)⟩,tt⟩,rfl,rfl⟩)
 ·rintro ⟨o,i,k⟩ hC0
  have hC : (i ≤ a.length ∧ k ≤ b.length) ∧ (unUp a b i k o) ∧ (o.length ≤ i + k) := hC0
  clear hC0
  obtain ⟨hik,hu,hol⟩ := hC
  refine W.to (⟨[(0,.sl (.marks a)),(1,.sl (.marks b)),(6,.own 10 o.length),(7,.i ((i : Nat) : Int)),(8,.i ((k : Nat) : Int))],[(10,⟨33,.row (.marks o)⟩)],[10,999]⟩) rfl ?_
  refine W.seq ?_
  refine Kk cok tab35 hnt [] [0,1,6,7,8,20] (⟨[(0,.sl (.marks a)),(1,.sl (.marks b)),(6,.own 10 o.length),(7,.i ((i : Nat) : Int)),(8,.i ((k : Nat) : Int)),(20,.b ((decide (((i : Nat) : Int) < (a.length : Int))) || (decide (((k : Nat) : Int) < (b.length : Int)))))],[(10,⟨33,.row (.marks o)⟩)],[10,999]⟩)
   ((fun (Z1:Bool)=>(True ∧ (True ∧ (True ∧ ((True ∧ (True ∧ True)) ∧ (True ∧ (((!Z1) = true → True) ∧ (((!Z1) = true → True) ∧ (((!Z1) = true → (((!Z1) = true) ∧ True)) ∧ (((!Z1) = true → ((((!Z1) = true) ∧ True) ∧ ((((!Z1) = true) ∧ True) ∧ True))) ∧ ((True ∧ ((Z1 = true → True) ∧ (Z1 = false → ((!Z1) = true) ∧ True))) ∧ True))))))))))) (decide (((i : Nat) : Int) < (a.length : Int))))
   ⟨tt,tt,tt,⟨tt,tt,tt⟩,tt,(fun _ => trivial),(fun _ => trivial),(fun hG => ⟨hG,tt⟩),(fun hG => ⟨⟨hG,tt⟩,⟨hG,tt⟩,tt⟩),⟨tt,(fun _ => trivial),(fun hp => ⟨(not_t hp),tt⟩)⟩,tt⟩ ?_
  refine W.if' ((decide (((i : Nat) : Int) < (a.length : Int))) || (decide (((k : Nat) : Int) < (b.length : Int)))) (.b ((decide (((i : Nat) : Int) < (a.length : Int))) || (decide (((k : Nat) : Int) < (b.length : Int))))) (by kernel_rfl) rfl trivial ?_ ?_
  ·intro h20
   refine W.skip (thenQ_normal ?_)
   refine W.block ?_
   refine W.KA cok tab35 hnt [] [0,1,6,7,8,41] (⟨[(0,.sl (.marks a)),(1,.sl (.marks b)),(6,.own 10 o.length),(7,.i ((i : Nat) : Int)),(8,.i ((k : Nat) : Int)),(41,.b ((decide (((k : Nat) : Int) = (b.length : Int))) || ((decide (((i : Nat) : Int) < (a.length : Int))) && (lessM (a.getD i default) (b.getD k default)))))],[(10,⟨33,.row (.marks o)⟩)],[10,999]⟩)
    ((fun (Z1:Bool)=>((fun (Z2:Bool)=>((fun (Z3:Bool)=>((fun (Z4:Bool)=>(True ∧ (True ∧ (True ∧ ((True ∧ (True ∧ True)) ∧ (True ∧ ((Z3 = true → True) ∧ ((Z3 = true → True) ∧ ((Z3 = true → ((Z3 = true) ∧ True)) ∧ ((Z3 = true → (((Z3 = true) ∧ True) ∧ (((Z3 = true) ∧ True) ∧ True))) ∧ ((Z3 = true → True) ∧ ((Z4 = true → True) ∧ ((Z4 = true → True) ∧ ((Z4 = true → (((Z4 = true) ∧ True) ∧ (((Z4 = true) ∧ True) ∧ ((0 ≤ ((i : Nat) : Int)) ∧ (((i : Nat) : Int) < (a.length : Int)))))) ∧ ((Z4 = true → ((Z4 = true) ∧ True)) ∧ ((Z4 = true → True) ∧ ((Z4 = true → True) ∧ ((Z4 = true → (((Z4 = true) ∧ True) ∧ (((Z4 = true) ∧ True) ∧ ((0 ≤ ((k : Nat) : Int)) ∧ (((k : Nat) : Int) < (b.length : Int)))))) ∧ ((Z4 = true → ((Z4 = true) ∧ True)) ∧ ((Z4 = true → (True ∧ ((((Z4 = true) ∧ True) ∧ (((Z4 = true) ∧ True) ∧ True)) ∧ True))) ∧ ((Z3 = true → (((Z3 = true) ∧ ((Z3 = true) ∧ True)) ∧ ((Z1 = true → (Z4 = true) ∧ True) ∧ (Z1 = false → True)))) ∧ ((True ∧ ((Z2 = true → True) ∧ (Z2 = false → (Z3 = true) ∧ True))) ∧ True)))))))))))))))))))))) (Z3 && (Z3 && Z1)))) (!Z2))) (decide (((k : Nat) : Int) = (b.length : Int))))) (decide (((i : Nat) : Int) < (a.length : Int)))) (by kernel_rfl) (by kernel_rfl)
    ⟨tt,tt,tt,⟨tt,tt,tt⟩,tt,(fun _ => trivial),(fun _ => trivial),(fun hG => ⟨hG,tt⟩),(fun hG => ⟨⟨hG,tt⟩,⟨hG,tt⟩,tt⟩),(fun _ => trivial),(fun _ => trivial),(fun _ => trivial),(fun hG => ⟨⟨hG,tt⟩,⟨hG,tt⟩,(by have hg0 : ¬ (((k : Nat) : Int) = (b.length : Int)) := of_decide_eq_false (not_f (and_l hG)); have hg1 : ¬ (((k : Nat) : Int) = (b.length : Int)) := of_decide_eq_false (not_f (and_l (and_r hG))); have hg2 : ((i : Nat) : Int) < (a.length : Int) := of_decide_eq_true (and_r (and_r hG)); omega),(by have hg0 : ¬ (((k : Nat) : Int) = (b.length : Int)) := of_decide_eq_false (not_f (and_l hG)); have hg1 : ¬ (((k : Nat) : Int) = (b.length : Int)) := of_decide_eq_false (not_f (and_l (and_r hG))); have hg2 : ((i : Nat) : Int) < (a.length : Int) := of_decide_eq_true (and_r (and_r hG)); omega)⟩),(fun hG => ⟨hG,tt⟩),(fun _ => trivial),(fun _ => trivial),(fun hG => ⟨⟨hG,tt⟩,⟨hG,tt⟩,(by have hg0 : ¬ (((k : Nat) : Int) = (b.length : Int)) := of_decide_eq_false (not_f (and_l hG)); have hg1 : ¬ (((k : Nat) : Int) = (b.length : Int)) := of_decide_eq_false (not_f (and_l (and_r hG))); have hg2 : ((i : Nat) : Int) < (a.length : Int) := of_decide_eq_true (and_r (and_r hG)); omega),(by have hg0 : ¬ (((k : Nat) : Int) = (b.length : Int)) := of_decide_eq_false (not_f (and_l hG)); have hg1 : ¬ (((k : Nat) : Int) = (b.length : Int)) := of_decide_eq_false (not_f (and_l (and_r hG))); have hg2 : ((i : Nat) : Int) < (a.length : Int) := of_decide_eq_true (and_r (and_r hG)); omega)⟩),(fun hG => ⟨hG,tt⟩),(fun hG => ⟨tt,⟨⟨hG,tt⟩,⟨hG,tt⟩,tt⟩,tt⟩),(fun hG => ⟨⟨hG,hG,tt⟩,(fun hp => ⟨(and_t hG (and_t hG hp)),tt⟩),(fun _ => trivial)⟩),⟨tt,(fun _ => trivial),(fun hp => ⟨(not_t hp),tt⟩)⟩,tt⟩ ?_
   refine W.if' ((decide (((k : Nat) : Int) = (b.length : Int))) || ((decide (((i : Nat) : Int) < (a.length : Int))) && (lessM (a.getD i default) (b.getD k default)))) (.b ((decide (((k : Nat) : Int) = (b.length : Int))) || ((decide (((i : Nat) : Int) < (a.length : Int))) && (lessM (a.getD i default) (b.getD k default))))) (by kernel_rfl) rfl trivial ?_ ?_
   ·intro h41
    have hai := (un_a hu (by simp at h20; omega) hik h41).2
    refine Kk cok tab35 hnt [48] [0,1,6,7,8] (⟨[(0,.sl (.marks a)),(1,.sl (.marks b)),(6,.own 48 (List.length (o ++ ([(a.getD i default)])))),(7,.i ((i : Nat) : Int)),(8,.i ((k : Nat) : Int))],[(48,⟨33,.row (.marks (o ++ ([(a.getD i default)])))⟩)],[48,47,10,999]⟩)
     (True ∧ True ∧ True ∧ (True ∧ True ∧ (0 ≤ ((i : Nat) : Int)) ∧ (((i : Nat) : Int) < (a.length : Int))) ∧ True ∧ (True ∧ True) ∧ ((True ∧ (o.length = o.length)) ∧ True ∧ ((o.length + (List.length ([(a.getD i default)]))) * 32 ≤ 140737488355328)) ∧ True ∧ True)
     ⟨tt,tt,tt,⟨tt,tt,(by omega),(by omega)⟩,tt,⟨tt,tt⟩,⟨⟨tt,rfl⟩,tt,(by (try simp only [List.length_append,List.length_cons,List.length_nil,List.length_set]); omega)⟩,tt,tt⟩ ?_
    refine Lk cok tab35 hnt [] (⟨[(0,.sl (.marks a)),(1,.sl (.marks b)),(6,.own 48 (List.length (o ++ ([(a.getD i default)])))),(7,.i (((i + 1) : Nat) : Int)),(8,.i ((k : Nat) : Int)),(49,.i ((i : Nat) : Int)),(50,.i (((i + 1) : Nat) : Int))],[(48,⟨33,.row (.marks (o ++ ([(a.getD i default)])))⟩)],[48,47,10,999]⟩)
     (True ∧ (True ∧ True ∧ (Fits .i64 (((i + 1) : Nat) : Int))) ∧ True ∧ True)
     ⟨tt,⟨tt,tt,(by exact fits_i64 (by omega) (by omega))⟩,tt,tt⟩ ?_
    refine blockQ_normal (thenQ_normal ?_)
    refine ⟨((o ++ ([(a.getD i default)])),(i + 1),k),(show ((i + 1) ≤ a.length ∧ k ≤ b.length) ∧ (unUp a b (i + 1) k (o ++ ([(a.getD i default)]))) ∧ ((o ++ ([(a.getD i default)])).length ≤ (i + 1) + k) from ⟨(by first | (have := (un_a hu (by simp at h20; omega) hik h41).2; omega) | (have := (un_b hu hik n41 h65).2; omega) | omega),(by first | exact (un_a hu (by simp at h20; omega) hik h41).1 | exact (un_b hu hik n41 h65).1 | exact un_c hu hbb n85),(by simp; omega)⟩),(show a.length - (i + 1) + (b.length - k) < a.length - i + (b.length - k) from (by first | (have := (un_a hu (by simp at h20; omega) hik h41).2; omega) | (have := (un_b hu hik n41 h65).2; omega) | omega)),?_⟩
    exact Sub.of [(10,48)] (@cast (((Sd (.marks a)) ∧ (Sd (.marks b)) ∧ (((48 : Nat) = 48) ∧ ((List.length (o ++ ([(a.getD i default)]))) = (List.length (o ++ ([(a.getD i default)])))) ∧ ((10 : Nat) ∈ ([10,999] : List Nat))) ∧ (Si (((i + 1) : Nat) : Int)) ∧ (Si ((k : Nat) : Int)) ∧ True) ∧ ((((33 : Nat) = 33) ∧ (Sd (.marks (o ++ ([(a.getD i default)])))) ∧ ((10 : Nat) ∈ ([10,999] : List Nat))) ∧ True) ∧ (true = true) ∧ (true = true)) _ (by kernel_rfl) ⟨⟨rfl,rfl,⟨rfl,rfl,(by decide)⟩,rfl,rfl,tt⟩,⟨⟨rfl,rfl,(by decide)⟩,tt⟩,rfl,rfl⟩)
   ·intro n41
    have n41_0 : ¬ (((k : Nat) : Int) = (b.length : Int)) := of_decide_eq_false (or_l n41)
    refine W.KA cok tab35 hnt [] [0,1,6,7,8,65] (⟨[(0,.sl (.marks a)),(1,.sl (.marks b)),(6,.own 10 o.length),(7,.i ((i : Nat) : Int)),(8,.i ((k : Nat) : Int)),(65,.b ((decide (((i : Nat) : Int) = (a.length : Int))) || (lessM (b.getD k default) (a.getD i default))))],[(10,⟨33,.row (.marks o)⟩)],[10,999]⟩)
     ((fun (Z1:Bool)=>(True ∧ (True ∧ (True ∧ ((True ∧ (True ∧ True)) ∧ (True ∧ (((!Z1) = true → True) ∧ (((!Z1) = true → True) ∧ (((!Z1) = true → ((((!Z1) = true) ∧ True) ∧ ((((!Z1) = true) ∧ True) ∧ ((0 ≤ ((k : Nat) : Int)) ∧ (((k : Nat) : Int) < (b.length : Int)))))) ∧ (((!Z1) = true → (((!Z1) = true) ∧ True)) ∧ (((!Z1) = true → True) ∧ (((!Z1) = true → True) ∧ (((!Z1) = true → ((((!Z1) = true) ∧ True) ∧ ((((!Z1) = true) ∧ True) ∧ ((0 ≤ ((i : Nat) : Int)) ∧ (((i : Nat) : Int) < (a.length : Int)))))) ∧ (((!Z1) = true → (((!Z1) = true) ∧ True)) ∧ (((!Z1) = true → (True ∧ (((((!Z1) = true) ∧ True) ∧ ((((!Z1) = true) ∧ True) ∧ True)) ∧ True))) ∧ ((True ∧ ((Z1 = true → True) ∧ (Z1 = false → ((!Z1) = true) ∧ True))) ∧ True)))))))))))))))) (decide (((i : Nat) : Int) = (a.length : Int)))) (by kernel_rfl) (by kernel_rfl)
     ⟨tt,tt,tt,⟨tt,tt,tt⟩,tt,(fun _ => trivial),(fun _ => trivial),(fun hG => ⟨⟨hG,tt⟩,⟨hG,tt⟩,(by have hg0 : ¬ (((i : Nat) : Int) = (a.length : Int)) := of_decide_eq_false (not_f hG); omega),(by have hg0 : ¬ (((i : Nat) : Int) = (a.length : Int)) := of_decide_eq_false (not_f hG); omega)⟩),(fun hG => ⟨hG,tt⟩),(fun _ => trivial),(fun _ => trivial),(fun hG => ⟨⟨hG,tt⟩,⟨hG,tt⟩,(by have hg0 : ¬ (((i : Nat) : Int) = (a.length : Int)) := of_decide_eq_false (not_f hG); omega),(by have hg0 : ¬ (((i : Nat) : Int) = (a.length : Int)) := of_decide_eq_false (not_f hG); omega)⟩),(fun hG => ⟨hG,tt⟩),(fun hG => ⟨tt,⟨⟨hG,tt⟩,⟨hG,tt⟩,tt⟩,tt⟩),⟨tt,(fun _ => trivial),(fun hp => ⟨(not_t hp),tt⟩)⟩,tt⟩ ?_
    refine W.if' ((decide (((i : Nat) : Int) = (a.length : Int))) || (lessM (b.getD k default) (a.getD i default))) (.b ((decide (((i : Nat) : Int) = (a.length : Int))) || (lessM (b.getD k default) (a.getD i default)))) (by kernel_rfl) rfl trivial ?_ ?_
    ·intro h65
     have hbi := (un_b hu hik n41 h65).2
     refine Kk cok tab35 hnt [72] [0,1,6,7,8] (⟨[(0,.sl (.marks a)),(1,.sl (.marks b)),(6,.own 72 (List.length (o ++ ([(b.getD k default)])))),(7,.i ((i : Nat) : Int)),(8,.i ((k : Nat) : Int))],[(72,⟨33,.row (.marks (o ++ ([(b.getD k default)])))⟩)],[72,71,10,999]⟩)
      (True ∧ True ∧ True ∧ (True ∧ True ∧ (0 ≤ ((k : Nat) : Int)) ∧ (((k : Nat) : Int) < (b.length : Int))) ∧ True ∧ (True ∧ True) ∧ ((True ∧ (o.length = o.length)) ∧ True ∧ ((o.length + (List.length ([(b.getD k default)]))) * 32 ≤ 140737488355328)) ∧ True ∧ True)
      ⟨tt,tt,tt,⟨tt,tt,(by omega),(by omega)⟩,tt,⟨tt,tt⟩,⟨⟨tt,rfl⟩,tt,(by (try simp only [List.length_append,List.length_cons,List.length_nil,List.length_set]); omega)⟩,tt,tt⟩ ?_
     refine Lk cok tab35 hnt [] (⟨[(0,.sl (.marks a)),(1,.sl (.marks b)),(6,.own 72 (List.length (o ++ ([(b.getD k default)])))),(7,.i ((i : Nat) : Int)),(8,.i (((k + 1) : Nat) : Int)),(73,.i ((k : Nat) : Int)),(74,.i (((k + 1) : Nat) : Int))],[(72,⟨33,.row (.marks (o ++ ([(b.getD k default)])))⟩)],[72,71,10,999]⟩)
      (True ∧ (True ∧ True ∧ (Fits .i64 (((k + 1) : Nat) : Int))) ∧ True ∧ True)
      ⟨tt,⟨tt,tt,(by exact fits_i64 (by omega) (by omega))⟩,tt,tt⟩ ?_
     refine blockQ_normal (thenQ_normal ?_)
     refine ⟨((o ++ ([(b.getD k default)])),i,(k + 1)),(show (i ≤ a.length ∧ (k + 1) ≤ b.length) ∧ (unUp a b i (k + 1) (o ++ ([(b.getD k default)]))) ∧ ((o ++ ([(b.getD k default)])).length ≤ i + (k + 1)) from ⟨(by first | (have := (un_a hu (by simp at h20; omega) hik h41).2; omega) | (have := (un_b hu hik n41 h65).2; omega) | omega),(by first | exact (un_a hu (by simp at h20; omega) hik h41).1 | exact (un_b hu hik n41 h65).1 | exact un_c hu hbb n85),(by simp; omega)⟩),(show a.length - i + (b.length - (k + 1)) < a.length - i + (b.length - k) from (by first | (have := (un_a hu (by simp at h20; omega) hik h41).2; omega) | (have := (un_b hu hik n41 h65).2; omega) | omega)),?_⟩
     exact Sub.of [(10,72)] (@cast (((Sd (.marks a)) ∧ (Sd (.marks b)) ∧ (((72 : Nat) = 72) ∧ ((List.length (o ++ ([(b.getD k default)]))) = (List.length (o ++ ([(b.getD k default)])))) ∧ ((10 : Nat) ∈ ([10,999] : List Nat))) ∧ (Si ((i : Nat) : Int)) ∧ (Si (((k + 1) : Nat) : Int)) ∧ True) ∧ ((((33 : Nat) = 33) ∧ (Sd (.marks (o ++ ([(b.getD k default)])))) ∧ ((10 : Nat) ∈ ([10,999] : List Nat))) ∧ True) ∧ (true = true) ∧ (true = true)) _ (by kernel_rfl) ⟨⟨rfl,rfl,⟨rfl,rfl,(by decide)⟩,rfl,rfl,tt⟩,⟨⟨rfl,rfl,(by decide)⟩,tt⟩,rfl,rfl⟩)
    ·intro n65
     have n65_0 : ¬ (((i : Nat) : Int) = (a.length : Int)) := of_decide_eq_false (or_l n65)
     have hbb := un_both hik n41 n65
     refine W.seq ?_
     refine W.KA cok tab35 hnt [] [0,1,6,7,8,85] (⟨[(0,.sl (.marks a)),(1,.sl (.marks b)),(6,.own 10 o.length),(7,.i ((i : Nat) : Int)),(8,.i ((k : Nat) : Int)),(85,.b (decide (((a.getD i default).value) ≠ ((b.getD k default).value))))],[(10,⟨33,.row (.marks o)⟩)],[10,999]⟩)
      (True ∧ True ∧ (True ∧ True ∧ (0 ≤ ((i : Nat) : Int)) ∧ (((i : Nat) : Int) < (a.length : Int))) ∧ True ∧ True ∧ True ∧ True ∧ (True ∧ True ∧ (0 ≤ ((k : Nat) : Int)) ∧ (((k : Nat) : Int) < (b.length : Int))) ∧ True ∧ True ∧ (True ∧ True ∧ True) ∧ True) (by kernel_rfl) (by kernel_rfl)
      ⟨tt,tt,⟨tt,tt,(by omega),(by omega)⟩,tt,tt,tt,tt,⟨tt,tt,(by omega),(by omega)⟩,tt,tt,⟨tt,tt,tt⟩,tt⟩ ?_
     refine W.ifP (((a.getD i default).value) ≠ ((b.getD k default).value)) (.b (decide (((a.getD i default).value) ≠ ((b.getD k default).value)))) (by kernel_rfl) rfl trivial ?_ ?_
     ·intro h85
      refine Kk cok tab35 hnt [] [4,5] (⟨[(4,.v (.slice none 0 0)),(5,.b false)],[(10,⟨33,.row (.marks o)⟩)],[10,999]⟩)
       (True ∧ True ∧ True)
       ⟨tt,tt,tt⟩ ?_
      refine W.ret (thenQ_ret (blockQ_ret (thenQ_ret (blockQ_ret (thenQ_ret ?_)))))
      exact endQ_ret (.tup [.v (.slice none 0 0),.b false]) (by kernel_rfl) (@cast ((((Value.slice none 0 0 : Value) = .slice none 0 0) ∧ ((Dat.marks ((uniteP a b).1)).len = 0)) ∧ ((.bool false : Value) = .bool ((uniteP a b).2)) ∧ True) _ (by kernel_rfl) ⟨⟨rfl,(by show List.length ((uniteP a b).1) = 0; rw [un_no hu hbb h85]; try rfl)⟩,(congrArg Value.bool (by rw [un_no hu hbb h85]; try rfl)),tt⟩)
     ·intro n85
      refine W.skip (thenQ_normal ?_)
      refine Kk cok tab35 hnt [] [0,1,6,7,8,9] (⟨[(0,.sl (.marks a)),(1,.sl (.marks b)),(6,.own 10 o.length),(7,.i ((i : Nat) : Int)),(8,.i ((k : Nat) : Int)),(9,.ptr 9 0)],[(9,⟨33,.fix [.i ((a.getD i default).value),.i ((a.getD i default).proc),.i ((a.getD i default).number),.b ((a.getD i default).gone)]⟩),(10,⟨33,.row (.marks o)⟩)],[9,10,999]⟩)
       (True ∧ True ∧ (True ∧ True ∧ (0 ≤ ((i : Nat) : Int)) ∧ (((i : Nat) : Int) < (a.length : Int))) ∧ True ∧ True ∧ (True ∧ True) ∧ True)
       ⟨tt,tt,⟨tt,tt,(by omega),(by omega)⟩,tt,tt,⟨tt,tt⟩,tt⟩ ?_
      refine Kk cok tab35 hnt [] [0,1,6,7,8,9] (⟨[(0,.sl (.marks a)),(1,.sl (.marks b)),(6,.own 10 o.length),(7,.i ((i : Nat) : Int)),(8,.i ((k : Nat) : Int)),(9,.ptr 9 0)],[(9,⟨33,.fix [.i ((a.getD i default).value),.i ((a.getD i default).proc),.i ((a.getD i default).number),.b (((a.getD i default).gone) || ((b.getD k default).gone))]⟩),(10,⟨33,.row (.marks o)⟩)],[9,10,999]⟩)
       ((fun (Z1:Bool)=>(True ∧ (True ∧ ((True ∧ (True ∧ ((0 ≤ ((i : Nat) : Int)) ∧ (((i : Nat) : Int) < (a.length : Int))))) ∧ (True ∧ (True ∧ (True ∧ (((!Z1) = true → True) ∧ (((!Z1) = true → True) ∧ (((!Z1) = true → ((((!Z1) = true) ∧ True) ∧ ((((!Z1) = true) ∧ True) ∧ ((0 ≤ ((k : Nat) : Int)) ∧ (((k : Nat) : Int) < (b.length : Int)))))) ∧ (((!Z1) = true → (((!Z1) = true) ∧ True)) ∧ (((!Z1) = true → (((!Z1) = true) ∧ True)) ∧ ((True ∧ ((Z1 = true → True) ∧ (Z1 = false → ((!Z1) = true) ∧ True))) ∧ (True ∧ ((True ∧ True) ∧ True))))))))))))))) ((a.getD i default).gone))
       ⟨tt,tt,⟨tt,tt,(by omega),(by omega)⟩,tt,tt,tt,(fun _ => trivial),(fun _ => trivial),(fun hG => ⟨⟨hG,tt⟩,⟨hG,tt⟩,(by omega),(by omega)⟩),(fun hG => ⟨hG,tt⟩),(fun hG => ⟨hG,tt⟩),⟨tt,(fun _ => trivial),(fun hp => ⟨(not_t hp),tt⟩)⟩,tt,⟨tt,tt⟩,tt⟩ ?_
      refine Kk cok tab35 hnt [106] [0,1,6,7,8] ((fun (Z1:Bool)=>(⟨[(0,.sl (.marks a)),(1,.sl (.marks b)),(6,.own 106 (List.length (o ++ ([(⟨((a.getD i default).value),((a.getD i default).proc),((a.getD i default).number),Z1⟩ : MarkD)])))),(7,.i ((i : Nat) : Int)),(8,.i ((k : Nat) : Int))],[(9,⟨33,.fix [.i ((a.getD i default).value),.i ((a.getD i default).proc),.i ((a.getD i default).number),.b Z1]⟩),(106,⟨33,.row (.marks (o ++ ([(⟨((a.getD i default).value),((a.getD i default).proc),((a.getD i default).number),Z1⟩ : MarkD)])))⟩)],[106,105,9,10,999]⟩:St)) (((a.getD i default).gone) || ((b.getD k default).gone)))
       (True ∧ True ∧ (True ∧ True) ∧ ((True ∧ (o.length = o.length)) ∧ True ∧ ((o.length + (List.length ([(⟨((a.getD i default).value),((a.getD i default).proc),((a.getD i default).number),(((a.getD i default).gone) || ((b.getD k default).gone))⟩ : MarkD)]))) * 32 ≤ 140737488355328)) ∧ True ∧ True)
       ⟨tt,tt,⟨tt,tt⟩,⟨⟨tt,rfl⟩,tt,(by (try simp only [List.length_append,List.length_cons,List.length_nil,List.length_set]); omega)⟩,tt,tt⟩ ?_
      refine Kk cok tab35 hnt [] [0,1,6,7,8] ((fun (Z1:Bool)=>(⟨[(0,.sl (.marks a)),(1,.sl (.marks b)),(6,.own 106 (List.length (o ++ ([(⟨((a.getD i default).value),((a.getD i default).proc),((a.getD i default).number),Z1⟩ : MarkD)])))),(7,.i (((i + 1) : Nat) : Int)),(8,.i ((k : Nat) : Int))],[(9,⟨33,.fix [.i ((a.getD i default).value),.i ((a.getD i default).proc),.i ((a.getD i default).number),.b Z1]⟩),(106,⟨33,.row (.marks (o ++ ([(⟨((a.getD i default).value),((a.getD i default).proc),((a.getD i default).number),Z1⟩ : MarkD)])))⟩)],[106,105,9,10,999]⟩:St)) (((a.getD i default).gone) || ((b.getD k default).gone)))
       (True ∧ (True ∧ True ∧ (Fits .i64 (((i + 1) : Nat) : Int))) ∧ True ∧ True)
       ⟨tt,⟨tt,tt,(by exact fits_i64 (by omega) (by omega))⟩,tt,tt⟩ ?_
      refine Lk cok tab35 hnt [] ((fun (Z1:Bool)=>(⟨[(0,.sl (.marks a)),(1,.sl (.marks b)),(6,.own 106 (List.length (o ++ ([(⟨((a.getD i default).value),((a.getD i default).proc),((a.getD i default).number),Z1⟩ : MarkD)])))),(7,.i (((i + 1) : Nat) : Int)),(8,.i (((k + 1) : Nat) : Int)),(109,.i ((k : Nat) : Int)),(110,.i (((k + 1) : Nat) : Int))],[(9,⟨33,.fix [.i ((a.getD i default).value),.i ((a.getD i default).proc),.i ((a.getD i default).number),.b Z1]⟩),(106,⟨33,.row (.marks (o ++ ([(⟨((a.getD i default).value),((a.getD i default).proc),((a.getD i default).number),Z1⟩ : MarkD)])))⟩)],[106,105,9,10,999]⟩:St)) (((a.getD i default).gone) || ((b.getD k default).gone)))
       (True ∧ (True ∧ True ∧ (Fits .i64 (((k + 1) : Nat) : Int))) ∧ True ∧ True)
       ⟨tt,⟨tt,tt,(by exact fits_i64 (by omega) (by omega))⟩,tt,tt⟩ ?_
      refine blockQ_normal (thenQ_normal ?_)
      refine ⟨((o ++ ([(⟨((a.getD i default).value),((a.getD i default).proc),((a.getD i default).number),(((a.getD i default).gone) || ((b.getD k default).gone))⟩ : MarkD)])),(i + 1),(k + 1)),(show ((i + 1) ≤ a.length ∧ (k + 1) ≤ b.length) ∧ (unUp a b (i + 1) (k + 1) (o ++ ([(⟨((a.getD i default).value),((a.getD i default).proc),((a.getD i default).number),(((a.getD i default).gone) || ((b.getD k default).gone))⟩ : MarkD)]))) ∧ ((o ++ ([(⟨((a.getD i default).value),((a.getD i default).proc),((a.getD i default).number),(((a.getD i default).gone) || ((b.getD k default).gone))⟩ : MarkD)])).length ≤ (i + 1) + (k + 1)) from ⟨(by first | (have := (un_a hu (by simp at h20; omega) hik h41).2; omega) | (have := (un_b hu hik n41 h65).2; omega) | omega),(by first | exact (un_a hu (by simp at h20; omega) hik h41).1 | exact (un_b hu hik n41 h65).1 | exact un_c hu hbb n85),(by simp; omega)⟩),(show a.length - (i + 1) + (b.length - (k + 1)) < a.length - i + (b.length - k) from (by first | (have := (un_a hu (by simp at h20; omega) hik h41).2; omega) | (have := (un_b hu hik n41 h65).2; omega) | omega)),?_⟩
      exact Sub.of [(10,106)] (@cast (((Sd (.marks a)) ∧ (Sd (.marks b)) ∧ (((106 : Nat) = 106) ∧ ((List.length (o ++ ([(⟨((a.getD i default).value),((a.getD i default).proc),((a.getD i default).number),(((a.getD i default).gone) || ((b.getD k default).gone))⟩ : MarkD)]))) = (List.length (o ++ ([(⟨((a.getD i default).value),((a.getD i default).proc),((a.getD i default).number),(((a.getD i default).gone) || ((b.getD k default).gone))⟩ : MarkD)])))) ∧ ((10 : Nat) ∈ ([10,999] : List Nat))) ∧ (Si (((i + 1) : Nat) : Int)) ∧ (Si (((k + 1) : Nat) : Int)) ∧ True) ∧ ((((33 : Nat) = 33) ∧ (Sd (.marks (o ++ ([(⟨((a.getD i default).value),((a.getD i default).proc),((a.getD i default).number),(((a.getD i default).gone) || ((b.getD k default).gone))⟩ : MarkD)])))) ∧ ((10 : Nat) ∈ ([10,999] : List Nat))) ∧ True) ∧ (true = true) ∧ (true = true)) _ (by kernel_rfl) ⟨⟨rfl,rfl,⟨rfl,rfl,(by decide)⟩,rfl,rfl,tt⟩,⟨⟨rfl,rfl,(by decide)⟩,tt⟩,rfl,rfl⟩)
  ·intro n20
   have n20_0 : ¬ (((i : Nat) : Int) < (a.length : Int)) := of_decide_eq_false (or_l n20)
   have n20_1 : ¬ (((k : Nat) : Int) < (b.length : Int)) := of_decide_eq_false (or_r n20)
   refine W.exit (thenQ_exit (thenQ_exit (blockQ_hit ?_)))
   refine thenQ_normal ?_
   refine Kk cok tab35 hnt [] [4,5] (⟨[(4,.own 10 o.length),(5,.b true)],[(10,⟨33,.row (.marks o)⟩)],[10,999]⟩)
    (True ∧ True ∧ True ∧ True)
    ⟨tt,tt,tt,tt⟩ ?_
   refine W.ret ?_
   exact endQ_ret (.tup [.own 10 o.length,.b true]) (by kernel_rfl) (@cast (((o.length = o.length) ∧ ((.marks o : Dat) = .marks ((uniteP a b).1)) ∧ ((10 : Nat) ∉ ([] : List Nat))) ∧ ((.bool true : Value) = .bool ((uniteP a b).2)) ∧ True) _ (by kernel_rfl) ⟨⟨rfl,(congrArg Dat.marks (by rw [un_end hu n20]; try rfl)),(by decide)⟩,(congrArg Value.bool (by rw [un_end hu n20]; try rfl)),tt⟩)
theorem ent35 : Entr prog 35 := ⟨_,func35,rfl,by decide⟩
end Go.Proofs.Try
