import Derived.Test.YtfoifegcfbglpaaQF5S0
import Derived.Test.YtfoifegcfbglpaaQF5S1
import Derived.Test.YtfoifegcfbglpaaFrameB
set_option linter.unusedSimpArgs false
set_option linter.unusedVariables false
namespace Go.Proofs.Try
open Go.Ab Go.RowKit
def fs17 : FnS := fnS [.s .ints,.s .ints] [.ints,.ints] (fun _ (a,b,_) => (.b (decide (a = b)),[],True))
abbrev T17 : Tab := lk []
theorem tab17 : TabOK prog T17 := TabOK.nil
set_option maxRecDepth 100000 in
set_option maxHeartbeats 1000000 in
theorem ok17 : FnOK prog 17 fs17 := by
 refine FnOK.mk cok func17 rfl rfl rfl ?_
 rintro fl ⟨(a : List Int),(b : List Int),_⟩ hpre F hnt0 _
 have hnt : F.nt = 26 := hnt0.trans ntmps17
 clear hpre
 refine W.to (⟨[(0,.sl (.ints a)),(1,.sl (.ints b))],[],[999]⟩) rfl ?_
 refine W.lenOf 0 (.ints a) (by kernel_rfl) ?_
 intro hl_a; replace hl_a : List.length a ≤ 9223372036854775807 := hl_a
 refine W.lenOf 1 (.ints b) (by kernel_rfl) ?_
 intro hl_b; replace hl_b : List.length b ≤ 9223372036854775807 := hl_b
 refine Kk cok tab17 hnt [] [0,1] (⟨[(0,.sl (.ints a)),(1,.sl (.ints b))],[],[999]⟩)
  (True ∧ True)
  ⟨tt,tt⟩ ?_
 refine W.seq ?_
 refine Kk cok tab17 hnt [] [0,1,10] (⟨[(0,.sl (.ints a)),(1,.sl (.ints b)),(10,.b (decide ((a.length : Int) ≠ (b.length : Int))))],[],[999]⟩)
  (True ∧ True ∧ True ∧ True ∧ (True ∧ True ∧ True) ∧ True)
  ⟨tt,tt,tt,tt,⟨tt,tt,tt⟩,tt⟩ ?_
 refine W.ifP ((a.length : Int) ≠ (b.length : Int)) (.b (decide ((a.length : Int) ≠ (b.length : Int)))) (by kernel_rfl) rfl trivial ?_ ?_
 ·intro h10
  refine Kk cok tab17 hnt [] [4] (⟨[(4,.b false)],[],[999]⟩)
   (True ∧ True)
   ⟨tt,tt⟩ ?_
  refine W.ret (thenQ_ret ?_)
  exact endQ_ret (.b false) (by kernel_rfl) (@cast ((.bool false : Value) = .bool (decide (a = b))) _ (by kernel_rfl) (congrArg Value.bool (by symm; exact decide_eq_false (fun e => h10 (by rw [e])))))
 ·intro n10
  refine W.skip (thenQ_normal ?_)
  refine W.seq ?_
  refine Kk cok tab17 hnt [] [0,1,5] (⟨[(0,.sl (.ints a)),(1,.sl (.ints b)),(5,.i (0 : Int))],[],[999]⟩)
   (True ∧ True)
   ⟨tt,tt⟩ ?_
  refine W.block ?_
  refine W.loop (ι := Nat) (fun (i : Nat) => (⟨[(0,.sl (.ints a)),(1,.sl (.ints b)),(5,.i ((i : Nat) : Int))],[],[999]⟩ : St))
   (fun (i : Nat) => (i ≤ a.length) ∧ (∀ j,j < i → a.getD j 0 = b.getD j 0))
   (fun (i : Nat) => (a.length - i : Nat)) (0) ?_ ?_ ?_
  ·exact (show (0 ≤ a.length) ∧ (∀ j,j < 0 → a.getD j 0 = b.getD j 0) from ⟨(by first | assumption | omega | rfl | (intro _ hjj; omega) | (simp; done) | (simp; omega)),(by exact upto_zero)⟩)
  ·exact Sub.of [] (@cast (((Sd (.ints a)) ∧ (Sd (.ints b)) ∧ ((.int .i64 (0 : Int) : Value) = .int .i64 ((0 : Nat) : Int)) ∧ True) ∧ True ∧ (true = true) ∧ (true = true)) _ (by kernel_rfl) ⟨⟨rfl,rfl,(congrArg (Value.int .i64) (by first | rfl | omega | assumption | simp | simp_all)),tt⟩,tt,rfl,rfl⟩)
  ·rintro i hC0
   have hC : (i ≤ a.length) ∧ (∀ j,j < i → a.getD j 0 = b.getD j 0) := hC0
   clear hC0
   obtain ⟨hi,hA⟩ := hC
   refine W.to (⟨[(0,.sl (.ints a)),(1,.sl (.ints b)),(5,.i ((i : Nat) : Int))],[],[999]⟩) rfl ?_
   refine W.seq ?_
   refine Kk cok tab17 hnt [] [0,1,5,14] (⟨[(0,.sl (.ints a)),(1,.sl (.ints b)),(5,.i ((i : Nat) : Int)),(14,.b (decide (((i : Nat) : Int) < (a.length : Int))))],[],[999]⟩)
    (True ∧ True ∧ True ∧ (True ∧ True ∧ True) ∧ True)
    ⟨tt,tt,tt,⟨tt,tt,tt⟩,tt⟩ ?_
   refine W.ifP (((i : Nat) : Int) < (a.length : Int)) (.b (decide (((i : Nat) : Int) < (a.length : Int)))) (by kernel_rfl) rfl trivial ?_ ?_
   ·intro h14
    refine W.skip (thenQ_normal ?_)
    refine W.seq ?_
    refine W.block ?_
    refine W.KA cok tab17 hnt [] [0,1,5,25] (⟨[(0,.sl (.ints a)),(1,.sl (.ints b)),(5,.i ((i : Nat) : Int)),(25,.b (decide ((a.getD i 0) ≠ (b.getD i 0))))],[],[999]⟩)
     (True ∧ True ∧ (True ∧ True ∧ (0 ≤ ((i : Nat) : Int)) ∧ (((i : Nat) : Int) < (a.length : Int))) ∧ True ∧ True ∧ True ∧ (True ∧ True ∧ (0 ≤ ((i : Nat) : Int)) ∧ (((i : Nat) : Int) < (b.length : Int))) ∧ True ∧ (True ∧ True ∧ True) ∧ True) (by kernel_rfl) (by kernel_rfl)
     ⟨tt,tt,⟨tt,tt,(by omega),(by omega)⟩,tt,tt,tt,⟨tt,tt,(by omega),(by omega)⟩,tt,⟨tt,tt,tt⟩,tt⟩ ?_
    refine W.ifP ((a.getD i 0) ≠ (b.getD i 0)) (.b (decide ((a.getD i 0) ≠ (b.getD i 0)))) (by kernel_rfl) rfl trivial ?_ ?_
    ·intro h25
     refine Kk cok tab17 hnt [] [4] (⟨[(4,.b false)],[],[999]⟩)
      (True ∧ True)
      ⟨tt,tt⟩ ?_
     refine W.ret (blockQ_ret (thenQ_ret (thenQ_ret (blockQ_ret (thenQ_ret ?_)))))
     exact endQ_ret (.b false) (by kernel_rfl) (@cast ((.bool false : Value) = .bool (decide (a = b))) _ (by kernel_rfl) (congrArg Value.bool (by symm; exact decide_eq_false (fun e => h25 (by rw [e])))))
    ·intro n25
     refine W.skip (blockQ_normal (thenQ_normal ?_))
     refine Lk cok tab17 hnt [] (⟨[(0,.sl (.ints a)),(1,.sl (.ints b)),(5,.i (((i + 1) : Nat) : Int)),(15,.i ((i : Nat) : Int)),(16,.i (((i + 1) : Nat) : Int)),(25,.b (decide ((a.getD i 0) ≠ (b.getD i 0))))],[],[999]⟩)
      (True ∧ (True ∧ True ∧ (Fits .i64 (((i + 1) : Nat) : Int))) ∧ True ∧ True)
      ⟨tt,⟨tt,tt,(by exact fits_i64 (by omega) (by omega))⟩,tt,tt⟩ ?_
     refine thenQ_normal ?_
     refine ⟨((i + 1)),(show ((i + 1) ≤ a.length) ∧ (∀ j,j < (i + 1) → a.getD j 0 = b.getD j 0) from ⟨(by first | assumption | omega | rfl | (intro _ hjj; omega) | (simp; done) | (simp; omega)),(by exact upto_succ hA (Decidable.not_not.1 n25))⟩),(show a.length - (i + 1) < a.length - i from (by first | omega | (simp_all; omega))),?_⟩
     exact Sub.of [] (@cast (((Sd (.ints a)) ∧ (Sd (.ints b)) ∧ (Si (((i + 1) : Nat) : Int)) ∧ True) ∧ True ∧ (true = true) ∧ (true = true)) _ (by kernel_rfl) ⟨⟨rfl,rfl,rfl,tt⟩,tt,rfl,rfl⟩)
   ·intro n14
    refine W.exit (thenQ_exit (thenQ_exit (blockQ_hit ?_)))
    refine thenQ_normal ?_
    refine Kk cok tab17 hnt [] [4] (⟨[(4,.b true)],[],[999]⟩)
     (True ∧ True)
     ⟨tt,tt⟩ ?_
    refine W.ret ?_
    exact endQ_ret (.b true) (by kernel_rfl) (@cast ((.bool true : Value) = .bool (decide (a = b))) _ (by kernel_rfl) (congrArg Value.bool (by symm; exact decide_eq_true (ints_ext (by omega) (fun j hj => hA j (by omega))))))
theorem ent17 : Entr prog 17 := ⟨_,func17,rfl,by decide⟩
end Go.Proofs.Try

set_option linter.unusedSimpArgs false
set_option linter.unusedVariables false
namespace Go.Proofs.Try
open Go.Ab Go.RowKit
def fs9 : FnS := fnS [.a [some .ints,some .ints,none,none,none,some .marks],.a [some .ints,some .ints,none,none,none,some .marks]] [.copy,.copy] (fun _ (a,b,_) => (.b (sameC a b),[],True))
abbrev T9 : Tab := lk [(17,fs17)]
theorem tab9 : TabOK prog T9 := (TabOK.cons ok17 ent17 TabOK.nil)
set_option maxRecDepth 100000 in
set_option maxHeartbeats 1000000 in
theorem ok9 : FnOK prog 9 fs9 := by
 refine FnOK.mk cok func9 rfl rfl rfl ?_
 rintro fl ⟨(a : CopyD),(b : CopyD),_⟩ hpre F hnt0 _
 have hnt : F.nt = 64 := hnt0.trans ntmps9
 clear hpre
 refine W.to (⟨[(0,.agg (cC a)),(1,.agg (cC b))],[],[999]⟩) rfl ?_
 refine W.lenA 0 0 (cC a) (.ints a.up) (by kernel_rfl) (by kernel_rfl) ?_
 intro hl_a_up; replace hl_a_up : List.length a.up ≤ 9223372036854775807 := hl_a_up
 refine W.lenA 0 1 (cC a) (.ints a.down) (by kernel_rfl) (by kernel_rfl) ?_
 intro hl_a_down; replace hl_a_down : List.length a.down ≤ 9223372036854775807 := hl_a_down
 refine W.lenA 0 5 (cC a) (.marks a.marks) (by kernel_rfl) (by kernel_rfl) ?_
 intro hl_a_marks; replace hl_a_marks : List.length a.marks ≤ 9223372036854775807 := hl_a_marks
 refine W.lenA 1 0 (cC b) (.ints b.up) (by kernel_rfl) (by kernel_rfl) ?_
 intro hl_b_up; replace hl_b_up : List.length b.up ≤ 9223372036854775807 := hl_b_up
 refine W.lenA 1 1 (cC b) (.ints b.down) (by kernel_rfl) (by kernel_rfl) ?_
 intro hl_b_down; replace hl_b_down : List.length b.down ≤ 9223372036854775807 := hl_b_down
 refine W.lenA 1 5 (cC b) (.marks b.marks) (by kernel_rfl) (by kernel_rfl) ?_
 intro hl_b_marks; replace hl_b_marks : List.length b.marks ≤ 9223372036854775807 := hl_b_marks
 refine Kk cok tab9 hnt [] [2,3] (⟨[(2,.ptr 2 0),(3,.ptr 3 0)],[(2,⟨26,.fix (cC a)⟩),(3,⟨26,.fix (cC b)⟩)],[3,2,999]⟩)
  (True ∧ True ∧ True ∧ True)
  ⟨tt,tt,tt,tt⟩ ?_
 refine W.seq ?_
 refine Kk cok tab9 hnt [] [2,3,12] (⟨[(2,.ptr 2 0),(3,.ptr 3 0),(12,.b (decide ((((List.length a.marks) : Nat) : Int) ≠ (((List.length b.marks) : Nat) : Int))))],[(2,⟨26,.fix (cC a)⟩),(3,⟨26,.fix (cC b)⟩)],[3,2,999]⟩)
  (True ∧ True ∧ True ∧ True ∧ True ∧ True ∧ (True ∧ True ∧ True) ∧ True)
  ⟨tt,tt,tt,tt,tt,tt,⟨tt,tt,tt⟩,tt⟩ ?_
 refine W.ifP ((((List.length a.marks) : Nat) : Int) ≠ (((List.length b.marks) : Nat) : Int)) (.b (decide ((((List.length a.marks) : Nat) : Int) ≠ (((List.length b.marks) : Nat) : Int)))) (by kernel_rfl) rfl trivial ?_ ?_
 ·intro h12
  refine Kk cok tab9 hnt [] [4] (⟨[(4,.b false)],[(2,⟨26,.fix (cC a)⟩),(3,⟨26,.fix (cC b)⟩)],[3,2,999]⟩)
   (True ∧ True)
   ⟨tt,tt⟩ ?_
  refine W.ret (thenQ_ret ?_)
  exact endQ_ret (.b false) (by kernel_rfl) (@cast ((.bool false : Value) = .bool (sameC a b)) _ (by kernel_rfl) (congrArg Value.bool (by symm; exact same_no (fun e => h12 (by rw [e])))))
 ·intro n12
  refine W.skip (thenQ_normal ?_)
  refine W.seq ?_
  refine Kk cok tab9 hnt [] [2,3,5] (⟨[(2,.ptr 2 0),(3,.ptr 3 0),(5,.i (0 : Int))],[(2,⟨26,.fix (cC a)⟩),(3,⟨26,.fix (cC b)⟩)],[3,2,999]⟩)
   (True ∧ True)
   ⟨tt,tt⟩ ?_
  refine W.block ?_
  refine W.loop (ι := Nat) (fun (i : Nat) => (⟨[(2,.ptr 2 0),(3,.ptr 3 0),(5,.i ((i : Nat) : Int))],[(2,⟨26,.fix (cC a)⟩),(3,⟨26,.fix (cC b)⟩)],[2,3,999]⟩ : St))
   (fun (i : Nat) => (i ≤ a.marks.length) ∧ (∀ j,j < i → a.marks.getD j default = b.marks.getD j default))
   (fun (i : Nat) => (a.marks.length - i : Nat)) (0) ?_ ?_ ?_
  ·exact (show (0 ≤ a.marks.length) ∧ (∀ j,j < 0 → a.marks.getD j default = b.marks.getD j default) from ⟨(by first | assumption | omega | rfl | (intro _ hjj; omega) | (simp; done) | (simp; omega)),(by exact upto_zero)⟩)
  ·exact Sub.of [] (@cast (((((2 : Nat) = 2) ∧ ((0 : Nat) = 0) ∧ ((2 : Nat) ∈ ([2,3,999] : List Nat))) ∧ (((3 : Nat) = 3) ∧ ((0 : Nat) = 0) ∧ ((3 : Nat) ∈ ([2,3,999] : List Nat))) ∧ ((.int .i64 (0 : Int) : Value) = .int .i64 ((0 : Nat) : Int)) ∧ True) ∧ ((((26 : Nat) = 26) ∧ (Sc a) ∧ ((2 : Nat) ∈ ([2,3,999] : List Nat))) ∧ (((26 : Nat) = 26) ∧ (Sc b) ∧ ((3 : Nat) ∈ ([2,3,999] : List Nat))) ∧ True) ∧ (true = true) ∧ (true = true)) _ (by kernel_rfl) ⟨⟨⟨rfl,rfl,(by decide)⟩,⟨rfl,rfl,(by decide)⟩,(congrArg (Value.int .i64) (by first | rfl | omega | assumption | simp | simp_all)),tt⟩,⟨⟨rfl,⟨rfl,rfl,rfl,rfl,rfl,rfl,tt⟩,(by decide)⟩,⟨rfl,⟨rfl,rfl,rfl,rfl,rfl,rfl,tt⟩,(by decide)⟩,tt⟩,rfl,rfl⟩)
  ·rintro i hC0
   have hC : (i ≤ a.marks.length) ∧ (∀ j,j < i → a.marks.getD j default = b.marks.getD j default) := hC0
   clear hC0
   obtain ⟨hi,hA⟩ := hC
   refine W.to (⟨[(2,.ptr 2 0),(3,.ptr 3 0),(5,.i ((i : Nat) : Int))],[(2,⟨26,.fix (cC a)⟩),(3,⟨26,.fix (cC b)⟩)],[2,3,999]⟩) rfl ?_
   refine W.seq ?_
   refine Kk cok tab9 hnt [] [2,3,5,17] (⟨[(2,.ptr 2 0),(3,.ptr 3 0),(5,.i ((i : Nat) : Int)),(17,.b (decide (((i : Nat) : Int) < (((List.length a.marks) : Nat) : Int))))],[(2,⟨26,.fix (cC a)⟩),(3,⟨26,.fix (cC b)⟩)],[2,3,999]⟩)
    (True ∧ True ∧ True ∧ True ∧ (True ∧ True ∧ True) ∧ True)
    ⟨tt,tt,tt,tt,⟨tt,tt,tt⟩,tt⟩ ?_
   refine W.ifP (((i : Nat) : Int) < (((List.length a.marks) : Nat) : Int)) (.b (decide (((i : Nat) : Int) < (((List.length a.marks) : Nat) : Int)))) (by kernel_rfl) rfl trivial ?_ ?_
   ·intro h17
    refine W.skip (thenQ_normal ?_)
    refine W.seq ?_
    refine W.block ?_
    refine W.KA cok tab9 hnt [] [2,3,5,30] (⟨[(2,.ptr 2 0),(3,.ptr 3 0),(5,.i ((i : Nat) : Int)),(30,.b (!((decide (((List.getD a.marks i default).value) = ((List.getD b.marks i default).value))) && ((decide (((List.getD a.marks i default).proc) = ((List.getD b.marks i default).proc))) && ((decide (((List.getD a.marks i default).number) = ((List.getD b.marks i default).number))) && ((((List.getD a.marks i default).gone) == ((List.getD b.marks i default).gone)) && true))))))],[(2,⟨26,.fix (cC a)⟩),(3,⟨26,.fix (cC b)⟩)],[2,3,999]⟩)
     (True ∧ True ∧ True ∧ (True ∧ True ∧ (0 ≤ ((i : Nat) : Int)) ∧ (((i : Nat) : Int) < (((List.length a.marks) : Nat) : Int))) ∧ True ∧ True ∧ True ∧ True ∧ (True ∧ True ∧ (0 ≤ ((i : Nat) : Int)) ∧ (((i : Nat) : Int) < (((List.length b.marks) : Nat) : Int))) ∧ True ∧ (True ∧ True) ∧ True) (by kernel_rfl) (by kernel_rfl)
     ⟨tt,tt,tt,⟨tt,tt,(by omega),(by omega)⟩,tt,tt,tt,tt,⟨tt,tt,(by omega),(by omega)⟩,tt,⟨tt,tt⟩,tt⟩ ?_
    refine W.if' (!((decide (((List.getD a.marks i default).value) = ((List.getD b.marks i default).value))) && ((decide (((List.getD a.marks i default).proc) = ((List.getD b.marks i default).proc))) && ((decide (((List.getD a.marks i default).number) = ((List.getD b.marks i default).number))) && ((((List.getD a.marks i default).gone) == ((List.getD b.marks i default).gone)) && true))))) (.b (!((decide (((List.getD a.marks i default).value) = ((List.getD b.marks i default).value))) && ((decide (((List.getD a.marks i default).proc) = ((List.getD b.marks i default).proc))) && ((decide (((List.getD a.marks i default).number) = ((List.getD b.marks i default).number))) && ((((List.getD a.marks i default).gone) == ((List.getD b.marks i default).gone)) && true)))))) (by kernel_rfl) rfl trivial ?_ ?_
    ·intro h30
     refine Kk cok tab9 hnt [] [4] (⟨[(4,.b false)],[(2,⟨26,.fix (cC a)⟩),(3,⟨26,.fix (cC b)⟩)],[2,3,999]⟩)
      (True ∧ True)
      ⟨tt,tt⟩ ?_
     refine W.ret (blockQ_ret (thenQ_ret (thenQ_ret (blockQ_ret (thenQ_ret ?_)))))
     exact endQ_ret (.b false) (by kernel_rfl) (@cast ((.bool false : Value) = .bool (sameC a b)) _ (by kernel_rfl) (congrArg Value.bool (by symm; exact same_no (fun e => by rw [e] at h30; exact mark_self h30))))
    ·intro n30
     have n30_0 : ((List.getD a.marks i default).value) = ((List.getD b.marks i default).value) := of_decide_eq_true (and_l (not_g n30))
     have n30_1 : ((List.getD a.marks i default).proc) = ((List.getD b.marks i default).proc) := of_decide_eq_true (and_l (and_r (not_g n30)))
     have n30_2 : ((List.getD a.marks i default).number) = ((List.getD b.marks i default).number) := of_decide_eq_true (and_l (and_r (and_r (not_g n30))))
     refine W.skip (blockQ_normal (thenQ_normal ?_))
     refine Lk cok tab9 hnt [] (⟨[(2,.ptr 2 0),(3,.ptr 3 0),(5,.i (((i + 1) : Nat) : Int)),(18,.i ((i : Nat) : Int)),(19,.i (((i + 1) : Nat) : Int)),(30,.b (!((decide (((List.getD a.marks i default).value) = ((List.getD b.marks i default).value))) && ((decide (((List.getD a.marks i default).proc) = ((List.getD b.marks i default).proc))) && ((decide (((List.getD a.marks i default).number) = ((List.getD b.marks i default).number))) && ((((List.getD a.marks i default).gone) == ((List.getD b.marks i default).gone)) && true))))))],[(2,⟨26,.fix (cC a)⟩),(3,⟨26,.fix (cC b)⟩)],[2,3,999]⟩)
      (True ∧ (True ∧ True ∧ (Fits .i64 (((i + 1) : Nat) : Int))) ∧ True ∧ True)
      ⟨tt,⟨tt,tt,(by exact fits_i64 (by omega) (by omega))⟩,tt,tt⟩ ?_
     refine thenQ_normal ?_
     refine ⟨((i + 1)),(show ((i + 1) ≤ a.marks.length) ∧ (∀ j,j < (i + 1) → a.marks.getD j default = b.marks.getD j default) from ⟨(by first | assumption | omega | rfl | (intro _ hjj; omega) | (simp; done) | (simp; omega)),(by exact upto_succ hA (mark_same n30))⟩),(show a.marks.length - (i + 1) < a.marks.length - i from (by first | omega | (simp_all; omega))),?_⟩
     exact Sub.of [] (@cast (((((2 : Nat) = 2) ∧ ((0 : Nat) = 0) ∧ ((2 : Nat) ∈ ([2,3,999] : List Nat))) ∧ (((3 : Nat) = 3) ∧ ((0 : Nat) = 0) ∧ ((3 : Nat) ∈ ([2,3,999] : List Nat))) ∧ (Si (((i + 1) : Nat) : Int)) ∧ True) ∧ ((((26 : Nat) = 26) ∧ (Sc a) ∧ ((2 : Nat) ∈ ([2,3,999] : List Nat))) ∧ (((26 : Nat) = 26) ∧ (Sc b) ∧ ((3 : Nat) ∈ ([2,3,999] : List Nat))) ∧ True) ∧ (true = true) ∧ (true = true)) _ (by kernel_rfl) ⟨⟨⟨rfl,rfl,(by decide)⟩,⟨rfl,rfl,(by decide)⟩,rfl,tt⟩,⟨⟨rfl,⟨rfl,rfl,rfl,rfl,rfl,rfl,tt⟩,(by decide)⟩,⟨rfl,⟨rfl,rfl,rfl,rfl,rfl,rfl,tt⟩,(by decide)⟩,tt⟩,rfl,rfl⟩)
   ·intro n17
    refine W.exit (thenQ_exit (thenQ_exit (blockQ_hit ?_)))
    refine thenQ_normal ?_
    refine Kk cok tab9 hnt [] [4] (⟨[(4,.b (((((decide (a.up = b.up)) && (decide (a.down = b.down))) && (decide (a.value = b.value))) && (decide (a.time = b.time))) && (decide (a.proc = b.proc))))],[(2,⟨26,.fix (cC a)⟩),(3,⟨26,.fix (cC b)⟩)],[2,3,999]⟩)
     ((fun (Z1:Bool)=>((fun (Z2:Bool)=>((fun (Z3:Bool)=>((fun (Z4:Bool)=>(True ∧ (True ∧ (True ∧ (True ∧ ((True ∧ ((True ∧ (True ∧ True)) ∧ True)) ∧ (True ∧ ((Z1 = true → True) ∧ ((Z1 = true → ((Z1 = true) ∧ True)) ∧ ((Z1 = true → True) ∧ ((Z1 = true → ((Z1 = true) ∧ True)) ∧ ((Z1 = true → (True ∧ ((((Z1 = true) ∧ True) ∧ (((Z1 = true) ∧ True) ∧ True)) ∧ True))) ∧ ((True ∧ ((Z1 = true → (Z1 = true) ∧ True) ∧ (Z1 = false → True))) ∧ (True ∧ ((Z2 = true → True) ∧ ((Z2 = true → ((Z2 = true) ∧ True)) ∧ ((Z2 = true → True) ∧ ((Z2 = true → ((Z2 = true) ∧ True)) ∧ ((Z2 = true → (((Z2 = true) ∧ True) ∧ (((Z2 = true) ∧ True) ∧ True))) ∧ ((True ∧ ((Z2 = true → (Z2 = true) ∧ True) ∧ (Z2 = false → True))) ∧ (True ∧ ((Z3 = true → True) ∧ ((Z3 = true → ((Z3 = true) ∧ True)) ∧ ((Z3 = true → True) ∧ ((Z3 = true → ((Z3 = true) ∧ True)) ∧ ((Z3 = true → (((Z3 = true) ∧ True) ∧ (((Z3 = true) ∧ True) ∧ True))) ∧ ((True ∧ ((Z3 = true → (Z3 = true) ∧ True) ∧ (Z3 = false → True))) ∧ (True ∧ ((Z4 = true → True) ∧ ((Z4 = true → ((Z4 = true) ∧ True)) ∧ ((Z4 = true → True) ∧ ((Z4 = true → ((Z4 = true) ∧ True)) ∧ ((Z4 = true → (((Z4 = true) ∧ True) ∧ (((Z4 = true) ∧ True) ∧ True))) ∧ ((True ∧ ((Z4 = true → (Z4 = true) ∧ True) ∧ (Z4 = false → True))) ∧ (True ∧ True))))))))))))))))))))))))))))))))))) (Z3 && (decide (a.time = b.time))))) (Z2 && (decide (a.value = b.value))))) (Z1 && (decide (a.down = b.down))))) (decide (a.up = b.up)))
     ⟨tt,tt,tt,tt,⟨tt,⟨tt,tt,tt⟩,tt⟩,tt,(fun _ => trivial),(fun hG => ⟨hG,tt⟩),(fun _ => trivial),(fun hG => ⟨hG,tt⟩),(fun hG => ⟨tt,⟨⟨hG,tt⟩,⟨hG,tt⟩,tt⟩,tt⟩),⟨tt,(fun hp => ⟨hp,tt⟩),(fun _ => trivial)⟩,tt,(fun _ => trivial),(fun hG => ⟨hG,tt⟩),(fun _ => trivial),(fun hG => ⟨hG,tt⟩),(fun hG => ⟨⟨hG,tt⟩,⟨hG,tt⟩,tt⟩),⟨tt,(fun hp => ⟨hp,tt⟩),(fun _ => trivial)⟩,tt,(fun _ => trivial),(fun hG => ⟨hG,tt⟩),(fun _ => trivial),(fun hG => ⟨hG,tt⟩),(fun hG => ⟨⟨hG,tt⟩,⟨hG,tt⟩,tt⟩),⟨tt,(fun hp => ⟨hp,tt⟩),(fun _ => trivial)⟩,tt,(fun _ => trivial),(fun hG => ⟨hG,tt⟩),(fun _ => trivial),(fun hG => ⟨hG,tt⟩),(fun hG => ⟨⟨hG,tt⟩,⟨hG,tt⟩,tt⟩),⟨tt,(fun hp => ⟨hp,tt⟩),(fun _ => trivial)⟩,tt,tt⟩ ?_
    refine W.ret ?_
    exact endQ_ret (.b (((((decide (a.up = b.up)) && (decide (a.down = b.down))) && (decide (a.value = b.value))) && (decide (a.time = b.time))) && (decide (a.proc = b.proc)))) (by kernel_rfl) (@cast ((.bool (((((decide (a.up = b.up)) && (decide (a.down = b.down))) && (decide (a.value = b.value))) && (decide (a.time = b.time))) && (decide (a.proc = b.proc))) : Value) = .bool (sameC a b)) _ (by kernel_rfl) (congrArg Value.bool (by exact same_yes (marks_ext (by omega) (fun j hj => hA j (by omega))))))
theorem ent9 : Entr prog 9 := ⟨_,func9,rfl,by decide⟩
end Go.Proofs.Try

set_option linter.unusedSimpArgs false
set_option linter.unusedVariables false
namespace Go.Proofs.Try
open Go.Ab Go.RowKit Go.Shelf Go.Proofs
def fs37 : FnS := fnS [.c .ints 3] [.ints] (fun _ (l,_) => (.own 0 (List.length (Lib.compact l)),[(3,.ints (Lib.compact l))],(l.length ≤ 1000)))
def renC : Go.Shelf.Ren := ⟨fun _ => 37,fun k => bif Nat.beq k 0 then 0 else bif Nat.beq k 3 then 3 else bif Nat.beq k 4 then 4 else bif Nat.beq k 22 then 23 else k,fun k => k⟩
set_option maxRecDepth 100000 in
theorem laysC : Go.Proofs.Lays2.n20 prog renC where
 mixed := by kernel_rfl
 f20 := by kernel_rfl
 t0 := underlying0
 a0 := isAgg0
 z0 := sizeOf0
 v0 := zeroValue0
 t3 := underlying3
 a3 := isAgg3
 z3 := sizeOf3
 v3 := zeroValue3
 t4 := underlying4
 a4 := isAgg4
 z4 := sizeOf4
 v4 := zeroValue4
 t22 := underlying23
 a22 := isAgg23
 z22 := sizeOf23
 v22 := zeroValue23
 i3 := by kernel_rfl
theorem ok37 : FnOK prog 37 fs37 := compact_ok laysC
theorem ent37 : Entr prog 37 := ⟨_,func37,rfl,by decide⟩
end Go.Proofs.Try

set_option linter.unusedSimpArgs false
set_option linter.unusedVariables false
namespace Go.Proofs.Try
open Go.Ab Go.RowKit Go.Shelf Go.Proofs Go.Lib
def renS : Go.Shelf.Ren := ⟨fun k => bif Nat.beq k 125 then 55 else bif Nat.beq k 128 then 73 else bif Nat.beq k 129 then 74 else bif Nat.beq k 189 then 36 else bif Nat.beq k 215 then 62 else bif Nat.beq k 216 then 70 else bif Nat.beq k 257 then 54 else bif Nat.beq k 294 then 64 else bif Nat.beq k 295 then 65 else bif Nat.beq k 296 then 66 else bif Nat.beq k 297 then 67 else bif Nat.beq k 298 then 68 else bif Nat.beq k 299 then 69 else bif Nat.beq k 300 then 71 else bif Nat.beq k 301 then 72 else bif Nat.beq k 328 then 77 else bif Nat.beq k 329 then 78 else bif Nat.beq k 330 then 79 else bif Nat.beq k 331 then 80 else bif Nat.beq k 332 then 81 else bif Nat.beq k 343 then 82 else k,fun k => bif Nat.beq k 0 then 0 else bif Nat.beq k 3 then 3 else bif Nat.beq k 4 then 4 else bif Nat.beq k 5 then 5 else bif Nat.beq k 9 then 9 else bif Nat.beq k 28 then 23 else bif Nat.beq k 46 then 76 else bif Nat.beq k 51 then 93 else bif Nat.beq k 53 then 95 else bif Nat.beq k 131 then 53 else bif Nat.beq k 182 then 85 else bif Nat.beq k 183 then 86 else bif Nat.beq k 218 then 98 else bif Nat.beq k 222 then 102 else bif Nat.beq k 228 then 104 else bif Nat.beq k 229 then 105 else k,fun k => k⟩
set_option maxRecDepth 100000 in
theorem laysS : Go.Proofs.Lays.n189 prog renS where
 mixed := by kernel_rfl
 f125 := by kernel_rfl
 f128 := by kernel_rfl
 f129 := by kernel_rfl
 f189 := by kernel_rfl
 f215 := by kernel_rfl
 f216 := by kernel_rfl
 f257 := by kernel_rfl
 f294 := by kernel_rfl
 f295 := by kernel_rfl
 f296 := by kernel_rfl
 f297 := by kernel_rfl
 f298 := by kernel_rfl
 f299 := by kernel_rfl
 f300 := by kernel_rfl
 f301 := by kernel_rfl
 f328 := by kernel_rfl
 f329 := by kernel_rfl
 f330 := by kernel_rfl
 f331 := by kernel_rfl
 f332 := by kernel_rfl
 f343 := by kernel_rfl
 t0 := underlying0
 a0 := isAgg0
 z0 := sizeOf0
 v0 := zeroValue0
 t3 := underlying3
 a3 := isAgg3
 z3 := sizeOf3
 v3 := zeroValue3
 t4 := underlying4
 a4 := isAgg4
 z4 := sizeOf4
 v4 := zeroValue4
 t5 := underlying5
 a5 := isAgg5
 z5 := sizeOf5
 v5 := zeroValue5
 t9 := underlying9
 a9 := isAgg9
 z9 := sizeOf9
 v9 := zeroValue9
 t28 := underlying23
 a28 := isAgg23
 z28 := sizeOf23
 v28 := zeroValue23
 t46 := underlying76
 a46 := isAgg76
 z46 := sizeOf76
 v46 := zeroValue76
 t51 := underlying93
 a51 := isAgg93
 z51 := sizeOf93
 v51 := zeroValue93
 t53 := underlying95
 a53 := isAgg95
 z53 := sizeOf95
 v53 := zeroValue95
 t131 := underlying53
 a131 := isAgg53
 z131 := sizeOf53
 v131 := zeroValue53
 t182 := underlying85
 a182 := isAgg85
 z182 := sizeOf85
 v182 := zeroValue85
 t183 := underlying86
 a183 := isAgg86
 z183 := sizeOf86
 v183 := zeroValue86
 t218 := underlying98
 a218 := isAgg98
 z218 := sizeOf98
 v218 := zeroValue98
 t222 := underlying102
 a222 := isAgg102
 z222 := sizeOf102
 v222 := zeroValue102
 t228 := underlying104
 a228 := isAgg104
 z228 := sizeOf104
 v228 := zeroValue104
 t229 := underlying105
 a229 := isAgg105
 z229 := sizeOf105
 v229 := zeroValue105
theorem hok36 : ∀ (l : List Int),(List.length l ≤ 1000) → HOK prog 36 [911] [.own 911 l.length] [(911,⟨3,.row (.ints l)⟩)] [911] (fun r s1 u1 => r = (.tup []) ∧ s1 = [(911,⟨3,.row (.ints (sortI l))⟩)] ∧ u1 = [911]) := fun l hl => sort_hok laysS l (by omega)
theorem ent36 : Entr prog 36 := ⟨_,func36,rfl,by decide⟩
end Go.Proofs.Try

set_option linter.unusedSimpArgs false
set_option linter.unusedVariables false
namespace Go.Proofs.Try
open Go.Ab Go.RowKit
def fs11 : FnS := fnS [.a [some .ints,some .ints,none,none,none,some .marks]] [.copy] (fun _ (c,_) => (.own 0 (List.length (valuesC c)),[(3,.ints (valuesC c))],True))
abbrev T11 : Tab := lk [(13,fs13),(37,fs37)]
theorem tab11 : TabOK prog T11 := (TabOK.cons ok13 ent13 (TabOK.cons ok37 ent37 TabOK.nil))
set_option maxRecDepth 100000 in
set_option maxHeartbeats 1000000 in
theorem ok11 : FnOK prog 11 fs11 := by
 refine FnOK.mk cok func11 rfl rfl rfl ?_
 rintro fl ⟨(c : CopyD),_⟩ hpre F hnt0 _
 have hnt : F.nt = 31 := hnt0.trans ntmps11
 clear hpre
 refine W.to (⟨[(0,.agg (cC c))],[],[999]⟩) rfl ?_
 refine W.lenA 0 0 (cC c) (.ints c.up) (by kernel_rfl) (by kernel_rfl) ?_
 intro hl_c_up; replace hl_c_up : List.length c.up ≤ 9223372036854775807 := hl_c_up
 refine W.lenA 0 1 (cC c) (.ints c.down) (by kernel_rfl) (by kernel_rfl) ?_
 intro hl_c_down; replace hl_c_down : List.length c.down ≤ 9223372036854775807 := hl_c_down
 refine W.lenA 0 5 (cC c) (.marks c.marks) (by kernel_rfl) (by kernel_rfl) ?_
 intro hl_c_marks; replace hl_c_marks : List.length c.marks ≤ 9223372036854775807 := hl_c_marks
 refine Kk cok tab11 hnt [] [1] (⟨[(1,.ptr 1 0)],[(1,⟨26,.fix (cC c)⟩)],[1,999]⟩)
  (True ∧ True ∧ True)
  ⟨tt,tt,tt⟩ ?_
 refine Kk cok tab11 hnt [6] [1,3] (⟨[(1,.ptr 1 0),(3,.own 6 (List.length ([] : List Int)))],[(1,⟨26,.fix (cC c)⟩),(6,⟨3,.row (.ints ([] : List Int))⟩)],[6,1,999]⟩)
  (True ∧ True ∧ True)
  ⟨tt,tt,tt⟩ ?_
 refine W.seq ?_
 refine Kk cok tab11 hnt [] [1,3,9] (⟨[(1,.ptr 1 0),(3,.own 6 (List.length ([] : List Int))),(9,.b (!(validCopy c)))],[(1,⟨26,.fix (cC c)⟩),(6,⟨3,.row (.ints ([] : List Int))⟩)],[6,1,999]⟩)
  (True ∧ (True ∧ ((True ∧ True ∧ True ∧ True ∧ True ∧ True ∧ True ∧ True) ∧ True) ∧ True) ∧ True ∧ True)
  ⟨tt,⟨tt,⟨⟨tt,tt,tt,tt,tt,tt,tt,tt⟩,tt⟩,tt⟩,tt,tt⟩ ?_
 refine W.if' (!(validCopy c)) (.b (!(validCopy c))) (by kernel_rfl) rfl trivial ?_ ?_
 ·intro h9
  refine Kk cok tab11 hnt [] [2] (⟨[(2,.own 6 (List.length ([] : List Int)))],[(1,⟨26,.fix (cC c)⟩),(6,⟨3,.row (.ints ([] : List Int))⟩)],[6,1,999]⟩)
   (True ∧ True ∧ True)
   ⟨tt,tt,tt⟩ ?_
  refine W.ret (thenQ_ret ?_)
  exact endQ_rows [(0,6)] (.own 6 (List.length ([] : List Int))) (by kernel_rfl) (@cast (((6 : Nat) = 6) ∧ ((List.length ([] : List Int)) = (List.length (valuesC c))) ∧ ((0 : Nat) ∈ ([0] : List Nat))) _ (by kernel_rfl) ⟨rfl,(by first | rfl | omega | assumption | (symm; assumption) | (exact congrArg List.length (by first | exact values_bad (not_f h9) | (rw [← values_bad (not_f h9)]; rfl))) | (first | exact values_bad (not_f h9) | (rw [← values_bad (not_f h9)]; rfl); done) | simp | simp_all),(by decide)⟩) (@cast ((((3 : Nat) = 3) ∧ ((.ints ([] : List Int) : Dat) = .ints (valuesC c)) ∧ ((0 : Nat) ∈ ([0] : List Nat))) ∧ True) _ (by kernel_rfl) ⟨⟨rfl,(congrArg Dat.ints (by first | exact values_bad (not_f h9) | (rw [← values_bad (not_f h9)]; rfl))),(by decide)⟩,tt⟩) (by kernel_rfl)
 ·intro n9
  have hf := up_len (not_g n9)
  refine W.skip (thenQ_normal ?_)
  refine W.seq ?_
  refine Kk cok tab11 hnt [] [3,12,13,14] (⟨[(3,.own 6 (List.length ([] : List Int))),(12,.sl (.marks c.marks)),(13,.i (((List.length c.marks) : Nat) : Int)),(14,.i (0 : Int))],[(1,⟨26,.fix (cC c)⟩),(6,⟨3,.row (.ints ([] : List Int))⟩)],[6,1,999]⟩)
   (True ∧ True ∧ True ∧ True ∧ True)
   ⟨tt,tt,tt,tt,tt⟩ ?_
  refine W.block ?_
  refine W.loop (ι := Nat × (List Int)) (fun (x : Nat × (List Int)) => match x with | (i,lo) => (⟨[(3,.own 6 lo.length),(12,.sl (.marks c.marks)),(13,.i (((List.length c.marks) : Nat) : Int)),(14,.i ((i : Nat) : Int))],[(6,⟨3,.row (.ints lo)⟩)],[6,999]⟩ : St))
   (fun (x : Nat × (List Int)) => match x with | (i,lo) => (i ≤ c.marks.length) ∧ (lo = listUp c.marks i))
   (fun (x : Nat × (List Int)) => match x with | (i,lo) => (c.marks.length - i : Nat)) (0,([] : List Int)) ?_ ?_ ?_
  ·exact (show (0 ≤ c.marks.length) ∧ (([] : List Int) = listUp c.marks 0) from ⟨(by first | assumption | omega | rfl | (intro _ hjj; omega) | (simp; done) | (simp; omega)),(by rfl)⟩)
  ·exact Sub.of [] (@cast (((((6 : Nat) = 6) ∧ ((List.length ([] : List Int)) = (List.length ([] : List Int))) ∧ ((6 : Nat) ∈ ([6,999] : List Nat))) ∧ (Sd (.marks c.marks)) ∧ (Si (((List.length c.marks) : Nat) : Int)) ∧ ((.int .i64 (0 : Int) : Value) = .int .i64 ((0 : Nat) : Int)) ∧ True) ∧ ((((3 : Nat) = 3) ∧ (Sd (.ints ([] : List Int))) ∧ ((6 : Nat) ∈ ([6,999] : List Nat))) ∧ True) ∧ (true = true) ∧ (true = true)) _ (by kernel_rfl) ⟨⟨⟨rfl,rfl,(by decide)⟩,rfl,rfl,(congrArg (Value.int .i64) (by first | rfl | omega | assumption | simp | simp_all)),tt⟩,⟨⟨rfl,rfl,(by decide)⟩,tt⟩,rfl,rfl⟩)
  ·rintro ⟨i,lo⟩ hC0
   have hC : (i ≤ c.marks.length) ∧ (lo = listUp c.marks i) := hC0
   clear hC0
   obtain ⟨hi,hl⟩ := hC
   refine W.to (⟨[(3,.own 6 lo.length),(12,.sl (.marks c.marks)),(13,.i (((List.length c.marks) : Nat) : Int)),(14,.i ((i : Nat) : Int))],[(6,⟨3,.row (.ints lo)⟩)],[6,999]⟩) rfl ?_
   have hll : lo.length ≤ i := by rw [hl]; exact listUp_len _ _
   refine Kk cok tab11 hnt [] [3,12,13,14,15] (⟨[(3,.own 6 lo.length),(12,.sl (.marks c.marks)),(13,.i (((List.length c.marks) : Nat) : Int)),(14,.i ((i : Nat) : Int)),(15,.b (decide (((i : Nat) : Int) < (((List.length c.marks) : Nat) : Int))))],[(6,⟨3,.row (.ints lo)⟩)],[6,999]⟩)
    ((True ∧ True ∧ True) ∧ True)
    ⟨⟨tt,tt,tt⟩,tt⟩ ?_
   refine W.seq ?_
   refine W.ifP (((i : Nat) : Int) < (((List.length c.marks) : Nat) : Int)) (.b (decide (((i : Nat) : Int) < (((List.length c.marks) : Nat) : Int)))) (by kernel_rfl) rfl trivial ?_ ?_
   ·intro h15
    refine W.skip (thenQ_normal ?_)
    refine W.seq ?_
    refine W.block ?_
    refine Kk cok tab11 hnt [] [3,5,12,13,14] (⟨[(3,.own 6 lo.length),(5,.ptr 5 0),(12,.sl (.marks c.marks)),(13,.i (((List.length c.marks) : Nat) : Int)),(14,.i ((i : Nat) : Int))],[(5,⟨33,.fix [.i ((List.getD c.marks i default).value),.i ((List.getD c.marks i default).proc),.i ((List.getD c.marks i default).number),.b ((List.getD c.marks i default).gone)]⟩),(6,⟨3,.row (.ints lo)⟩)],[5,6,999]⟩)
     ((True ∧ True ∧ (0 ≤ ((i : Nat) : Int)) ∧ (((i : Nat) : Int) < (((List.length c.marks) : Nat) : Int))) ∧ True ∧ True ∧ (True ∧ True) ∧ True)
     ⟨⟨tt,tt,(by omega),(by omega)⟩,tt,tt,⟨tt,tt⟩,tt⟩ ?_
    refine Kk cok tab11 hnt [] [3,5,12,13,14,20] ((fun (Z1:Bool)=>(⟨[(3,.own 6 lo.length),(5,.ptr 5 0),(12,.sl (.marks c.marks)),(13,.i (((List.length c.marks) : Nat) : Int)),(14,.i ((i : Nat) : Int)),(20,.b (!Z1))],[(5,⟨33,.fix [.i ((List.getD c.marks i default).value),.i ((List.getD c.marks i default).proc),.i ((List.getD c.marks i default).number),.b Z1]⟩),(6,⟨3,.row (.ints lo)⟩)],[5,6,999]⟩:St)) ((List.getD c.marks i default).gone))
     (True ∧ True ∧ True ∧ True)
     ⟨tt,tt,tt,tt⟩ ?_
    refine W.if' (!((List.getD c.marks i default).gone)) (.b (!((List.getD c.marks i default).gone))) (by kernel_rfl) rfl trivial ?_ ?_
    ·intro h20
     refine Lk cok tab11 hnt [25] ((fun (Z1:Bool)=>(⟨[(3,.own 25 (List.length (lo ++ ([((List.getD c.marks i default).value)])))),(5,.ptr 5 0),(12,.sl (.marks c.marks)),(13,.i (((List.length c.marks) : Nat) : Int)),(14,.i ((i : Nat) : Int)),(20,.b (!Z1)),(21,.own 6 lo.length),(22,.ptr 5 0),(23,.i ((List.getD c.marks i default).value)),(24,.sl (.ints ([((List.getD c.marks i default).value)]))),(25,.own 25 (List.length (lo ++ ([((List.getD c.marks i default).value)]))))],[(5,⟨33,.fix [.i ((List.getD c.marks i default).value),.i ((List.getD c.marks i default).proc),.i ((List.getD c.marks i default).number),.b Z1]⟩),(25,⟨3,.row (.ints (lo ++ ([((List.getD c.marks i default).value)])))⟩)],[25,24,5,6,999]⟩:St)) ((List.getD c.marks i default).gone))
      (True ∧ True ∧ True ∧ (True ∧ True) ∧ ((True ∧ (lo.length = lo.length)) ∧ True ∧ ((lo.length + (List.length ([((List.getD c.marks i default).value)]))) * 8 ≤ 140737488355328)) ∧ True ∧ True)
      ⟨tt,tt,tt,⟨tt,tt⟩,⟨⟨tt,rfl⟩,tt,(by (try simp only [List.length_append,List.length_cons,List.length_nil,List.length_set]); omega)⟩,tt,tt⟩ ?_
     refine blockQ_normal (thenQ_normal ?_)
     refine Lk cok tab11 hnt [] ((fun (Z1:Bool)=>(⟨[(3,.own 25 (List.length (lo ++ ([((List.getD c.marks i default).value)])))),(5,.ptr 5 0),(12,.sl (.marks c.marks)),(13,.i (((List.length c.marks) : Nat) : Int)),(14,.i (((i + 1) : Nat) : Int)),(20,.b (!Z1)),(21,.own 6 lo.length),(22,.ptr 5 0),(23,.i ((List.getD c.marks i default).value)),(24,.sl (.ints ([((List.getD c.marks i default).value)]))),(25,.own 25 (List.length (lo ++ ([((List.getD c.marks i default).value)])))),(26,.i (((i + 1) : Nat) : Int))],[(5,⟨33,.fix [.i ((List.getD c.marks i default).value),.i ((List.getD c.marks i default).proc),.i ((List.getD c.marks i default).number),.b Z1]⟩),(25,⟨3,.row (.ints (lo ++ ([((List.getD c.marks i default).value)])))⟩)],[25,24,5,6,999]⟩:St)) ((List.getD c.marks i default).gone))
      ((True ∧ True ∧ (Fits .i64 (((i + 1) : Nat) : Int))) ∧ True ∧ True)
      ⟨⟨tt,tt,(by exact fits_i64 (by omega) (by omega))⟩,tt,tt⟩ ?_
     refine thenQ_normal ?_
     refine ⟨((i + 1),(lo ++ ([((List.getD c.marks i default).value)]))),(show ((i + 1) ≤ c.marks.length) ∧ ((lo ++ ([((List.getD c.marks i default).value)])) = listUp c.marks (i + 1)) from ⟨(by first | assumption | omega | rfl | (intro _ hjj; omega) | (simp; done) | (simp; omega)),(by first | exact list_yes hl (not_f h20) | exact list_no hl (not_g n20))⟩),(show c.marks.length - (i + 1) < c.marks.length - i from (by first | omega | (simp_all; omega))),?_⟩
     exact Sub.of [(6,25)] (@cast (((((25 : Nat) = 25) ∧ ((List.length (lo ++ ([((List.getD c.marks i default).value)]))) = (List.length (lo ++ ([((List.getD c.marks i default).value)])))) ∧ ((6 : Nat) ∈ ([6,999] : List Nat))) ∧ (Sd (.marks c.marks)) ∧ (Si (((List.length c.marks) : Nat) : Int)) ∧ (Si (((i + 1) : Nat) : Int)) ∧ True) ∧ ((((3 : Nat) = 3) ∧ (Sd (.ints (lo ++ ([((List.getD c.marks i default).value)])))) ∧ ((6 : Nat) ∈ ([6,999] : List Nat))) ∧ True) ∧ (true = true) ∧ (true = true)) _ (by kernel_rfl) ⟨⟨⟨rfl,rfl,(by decide)⟩,rfl,rfl,rfl,tt⟩,⟨⟨rfl,rfl,(by decide)⟩,tt⟩,rfl,rfl⟩)
    ·intro n20
     refine W.skip (blockQ_normal (thenQ_normal ?_))
     refine Lk cok tab11 hnt [] ((fun (Z1:Bool)=>(⟨[(3,.own 6 lo.length),(5,.ptr 5 0),(12,.sl (.marks c.marks)),(13,.i (((List.length c.marks) : Nat) : Int)),(14,.i (((i + 1) : Nat) : Int)),(20,.b (!Z1)),(26,.i (((i + 1) : Nat) : Int))],[(5,⟨33,.fix [.i ((List.getD c.marks i default).value),.i ((List.getD c.marks i default).proc),.i ((List.getD c.marks i default).number),.b Z1]⟩),(6,⟨3,.row (.ints lo)⟩)],[5,6,999]⟩:St)) ((List.getD c.marks i default).gone))
      ((True ∧ True ∧ (Fits .i64 (((i + 1) : Nat) : Int))) ∧ True ∧ True)
      ⟨⟨tt,tt,(by exact fits_i64 (by omega) (by omega))⟩,tt,tt⟩ ?_
     refine thenQ_normal ?_
     refine ⟨((i + 1),lo),(show ((i + 1) ≤ c.marks.length) ∧ (lo = listUp c.marks (i + 1)) from ⟨(by first | assumption | omega | rfl | (intro _ hjj; omega) | (simp; done) | (simp; omega)),(by first | exact list_yes hl (not_f h20) | exact list_no hl (not_g n20))⟩),(show c.marks.length - (i + 1) < c.marks.length - i from (by first | omega | (simp_all; omega))),?_⟩
     exact Sub.of [] (@cast (((((6 : Nat) = 6) ∧ (lo.length = lo.length) ∧ ((6 : Nat) ∈ ([6,999] : List Nat))) ∧ (Sd (.marks c.marks)) ∧ (Si (((List.length c.marks) : Nat) : Int)) ∧ (Si (((i + 1) : Nat) : Int)) ∧ True) ∧ ((((3 : Nat) = 3) ∧ (Sd (.ints lo)) ∧ ((6 : Nat) ∈ ([6,999] : List Nat))) ∧ True) ∧ (true = true) ∧ (true = true)) _ (by kernel_rfl) ⟨⟨⟨rfl,rfl,(by decide)⟩,rfl,rfl,rfl,tt⟩,⟨⟨rfl,rfl,(by decide)⟩,tt⟩,rfl,rfl⟩)
   ·intro n15
    refine W.exit (thenQ_exit (thenQ_exit (blockQ_hit ?_)))
    refine thenQ_normal ?_
    refine W.seq (W.wi ?_)
    refine WI.runT cok tab11 hnt [] 1 1 (⟨[(3,.own 6 lo.length),(12,.sl (.marks c.marks)),(13,.i (((List.length c.marks) : Nat) : Int)),(14,.i ((i : Nat) : Int)),(15,.b (decide (((i : Nat) : Int) < (((List.length c.marks) : Nat) : Int)))),(27,.own 6 lo.length)],[(6,⟨3,.row (.ints lo)⟩)],[6,999]⟩)
     (True ∧ True) (by kernel_rfl) rfl
     ⟨tt,tt⟩ ?_
    refine WI.callH _ [.own 6 lo.length] [] (.fn 36 []) _ _ [(911,6)] (hok36 lo (by omega)) ent36 hnt rfl rfl (wanted_none rfl) (by kernel_rfl) (by kernel_rfl) trivial (by kernel_rfl) (by kernel_rfl) (by kernel_rfl) (@cast (((some ⟨3,.row (.ints lo)⟩ : Option LB) = some ⟨3,.row (.ints lo)⟩) ∧ (true = true) ∧ (True)) _ (by kernel_rfl) ⟨rfl,rfl,tt⟩) (by kernel_rfl) rfl ?_
    rintro r s1 u1 ⟨rfl,rfl,rfl⟩
    refine ⟨[(911,6)],by kernel_rfl,WI.to (⟨[(3,.own 6 lo.length),(12,.sl (.marks c.marks)),(13,.i (((List.length c.marks) : Nat) : Int)),(14,.i ((i : Nat) : Int)),(15,.b (decide (((i : Nat) : Int) < (((List.length c.marks) : Nat) : Int)))),(27,.own 6 lo.length),(28,.tup [])],[(6,⟨3,.row (.ints (sortI lo))⟩)],[6,999]⟩) 2 (by kernel_rfl) rfl ?_⟩
    refine WI.nil rfl (thenQ_normal ?_)
    refine W.keepE [3] [(3,.own 6 lo.length)] (by kernel_rfl) ?_
    refine W.to (⟨[(3,.own 6 lo.length)],[(6,⟨3,.row (.ints (sortI lo))⟩)],[6,999]⟩) rfl ?_
    refine Kk cok tab11 hnt [30] [2] (⟨[(2,.own 30 (List.length (Lib.compact (sortI lo))))],[(30,⟨3,.row (.ints (Lib.compact (sortI lo)))⟩)],[30,6,999]⟩)
     (True ∧ (True ∧ ((True ∧ (lo.length = (List.length (sortI lo)))) ∧ True) ∧ ((sortI lo).length ≤ 1000)) ∧ True ∧ True)
     ⟨tt,⟨tt,⟨⟨tt,(by have h8 : List.length (sortI lo) = lo.length := List.length_mergeSort _; omega)⟩,tt⟩,(by have h8 : List.length (sortI lo) = lo.length := List.length_mergeSort _; omega)⟩,tt,tt⟩ ?_
    refine W.ret ?_
    exact endQ_rows [(0,30)] (.own 30 (List.length (Lib.compact (sortI lo)))) (by kernel_rfl) (@cast (((30 : Nat) = 30) ∧ ((List.length (Lib.compact (sortI lo))) = (List.length (valuesC c))) ∧ ((0 : Nat) ∈ ([0] : List Nat))) _ (by kernel_rfl) ⟨rfl,(by first | rfl | omega | assumption | (symm; assumption) | (exact congrArg List.length (by exact values_ok (not_g n9) hl (by omega))) | (exact values_ok (not_g n9) hl (by omega); done) | simp | simp_all),(by decide)⟩) (@cast ((((3 : Nat) = 3) ∧ ((.ints (Lib.compact (sortI lo)) : Dat) = .ints (valuesC c)) ∧ ((0 : Nat) ∈ ([0] : List Nat))) ∧ True) _ (by kernel_rfl) ⟨⟨rfl,(congrArg Dat.ints (by exact values_ok (not_g n9) hl (by omega))),(by decide)⟩,tt⟩) (by kernel_rfl)
theorem ent11 : Entr prog 11 := ⟨_,func11,rfl,by decide⟩
end Go.Proofs.Try

set_option linter.unusedSimpArgs false
set_option linter.unusedVariables false
namespace Go.Proofs.Try
open Go.Ab Go.RowKit
def fs10 : FnS := fnS [.s .ints,.o] [.ints,.int] (fun _ (l,n,_) => (.b (hasInt l n),[],True))
abbrev T10 : Tab := lk []
theorem tab10 : TabOK prog T10 := TabOK.nil
set_option maxRecDepth 100000 in
set_option maxHeartbeats 1000000 in
theorem ok10 : FnOK prog 10 fs10 := by
 refine FnOK.mk cok func10 rfl rfl rfl ?_
 rintro fl ⟨(l : List Int),(n : Int),_⟩ hpre F hnt0 _
 have hnt : F.nt = 18 := hnt0.trans ntmps10
 clear hpre
 refine W.to (⟨[(0,.sl (.ints l)),(1,.i n)],[],[999]⟩) rfl ?_
 refine W.lenOf 0 (.ints l) (by kernel_rfl) ?_
 intro hl_l; replace hl_l : List.length l ≤ 9223372036854775807 := hl_l
 refine Kk cok tab10 hnt [] [0,1] (⟨[(0,.sl (.ints l)),(1,.i n)],[],[999]⟩)
  (True ∧ True)
  ⟨tt,tt⟩ ?_
 refine W.seq ?_
 refine Kk cok tab10 hnt [] [0,1,5] (⟨[(0,.sl (.ints l)),(1,.i n),(5,.i (0 : Int))],[],[999]⟩)
  (True ∧ True)
  ⟨tt,tt⟩ ?_
 refine W.block ?_
 refine W.loop (ι := Nat) (fun (i : Nat) => (⟨[(0,.sl (.ints l)),(1,.i n),(5,.i ((i : Nat) : Int))],[],[999]⟩ : St))
  (fun (i : Nat) => (i ≤ l.length) ∧ (∀ j,j < i → decide (l.getD j 0 = n) = false))
  (fun (i : Nat) => (l.length - i : Nat)) (0) ?_ ?_ ?_
 ·exact (show (0 ≤ l.length) ∧ (∀ j,j < 0 → decide (l.getD j 0 = n) = false) from ⟨(by first | assumption | omega | rfl | (intro _ hjj; omega) | (simp; done) | (simp; omega)),(by exact upto_zero)⟩)
 ·exact Sub.of [] (@cast (((Sd (.ints l)) ∧ (Si n) ∧ ((.int .i64 (0 : Int) : Value) = .int .i64 ((0 : Nat) : Int)) ∧ True) ∧ True ∧ (true = true) ∧ (true = true)) _ (by kernel_rfl) ⟨⟨rfl,rfl,(congrArg (Value.int .i64) (by first | rfl | omega | assumption | simp | simp_all)),tt⟩,tt,rfl,rfl⟩)
 ·rintro i hC0
  have hC : (i ≤ l.length) ∧ (∀ j,j < i → decide (l.getD j 0 = n) = false) := hC0
  clear hC0
  obtain ⟨hi,hA⟩ := hC
  refine W.to (⟨[(0,.sl (.ints l)),(1,.i n),(5,.i ((i : Nat) : Int))],[],[999]⟩) rfl ?_
  refine W.seq ?_
  refine Kk cok tab10 hnt [] [0,1,5,9] (⟨[(0,.sl (.ints l)),(1,.i n),(5,.i ((i : Nat) : Int)),(9,.b (decide (((i : Nat) : Int) < (l.length : Int))))],[],[999]⟩)
   (True ∧ True ∧ True ∧ (True ∧ True ∧ True) ∧ True)
   ⟨tt,tt,tt,⟨tt,tt,tt⟩,tt⟩ ?_
  refine W.ifP (((i : Nat) : Int) < (l.length : Int)) (.b (decide (((i : Nat) : Int) < (l.length : Int)))) (by kernel_rfl) rfl trivial ?_ ?_
  ·intro h9
   refine W.skip (thenQ_normal ?_)
   refine W.seq ?_
   refine W.block ?_
   refine Kk cok tab10 hnt [] [0,1,5,17] (⟨[(0,.sl (.ints l)),(1,.i n),(5,.i ((i : Nat) : Int)),(17,.b (decide ((l.getD i 0) = n)))],[],[999]⟩)
    (True ∧ True ∧ (True ∧ True ∧ (0 ≤ ((i : Nat) : Int)) ∧ (((i : Nat) : Int) < (l.length : Int))) ∧ True ∧ True ∧ (True ∧ True ∧ True) ∧ True)
    ⟨tt,tt,⟨tt,tt,(by omega),(by omega)⟩,tt,tt,⟨tt,tt,tt⟩,tt⟩ ?_
   refine W.ifP ((l.getD i 0) = n) (.b (decide ((l.getD i 0) = n))) (by kernel_rfl) rfl trivial ?_ ?_
   ·intro h17
    refine Kk cok tab10 hnt [] [4] (⟨[(4,.b true)],[],[999]⟩)
     (True ∧ True)
     ⟨tt,tt⟩ ?_
    refine W.ret (blockQ_ret (thenQ_ret (thenQ_ret (blockQ_ret (thenQ_ret ?_)))))
    exact endQ_ret (.b true) (by kernel_rfl) (@cast ((.bool true : Value) = .bool (hasInt l n)) _ (by kernel_rfl) (congrArg Value.bool (by exact (anyN_true (i := i) (by omega) (decide_eq_true h17)).symm)))
   ·intro n17
    refine W.skip (blockQ_normal (thenQ_normal ?_))
    refine Lk cok tab10 hnt [] (⟨[(0,.sl (.ints l)),(1,.i n),(5,.i (((i + 1) : Nat) : Int)),(10,.i ((i : Nat) : Int)),(11,.i (((i + 1) : Nat) : Int)),(17,.b (decide ((l.getD i 0) = n)))],[],[999]⟩)
     (True ∧ (True ∧ True ∧ (Fits .i64 (((i + 1) : Nat) : Int))) ∧ True ∧ True)
     ⟨tt,⟨tt,tt,(by exact fits_i64 (by omega) (by omega))⟩,tt,tt⟩ ?_
    refine thenQ_normal ?_
    refine ⟨((i + 1)),(show ((i + 1) ≤ l.length) ∧ (∀ j,j < (i + 1) → decide (l.getD j 0 = n) = false) from ⟨(by first | assumption | omega | rfl | (intro _ hjj; omega) | (simp; done) | (simp; omega)),(by exact upto_succ hA (decide_eq_false n17))⟩),(show l.length - (i + 1) < l.length - i from (by first | omega | (simp_all; omega))),?_⟩
    exact Sub.of [] (@cast (((Sd (.ints l)) ∧ (Si n) ∧ (Si (((i + 1) : Nat) : Int)) ∧ True) ∧ True ∧ (true = true) ∧ (true = true)) _ (by kernel_rfl) ⟨⟨rfl,rfl,rfl,tt⟩,tt,rfl,rfl⟩)
  ·intro n9
   refine W.exit (thenQ_exit (thenQ_exit (blockQ_hit ?_)))
   refine thenQ_normal ?_
   refine Kk cok tab10 hnt [] [4] (⟨[(4,.b false)],[],[999]⟩)
    (True ∧ True)
    ⟨tt,tt⟩ ?_
   refine W.ret ?_
   exact endQ_ret (.b false) (by kernel_rfl) (@cast ((.bool false : Value) = .bool (hasInt l n)) _ (by kernel_rfl) (congrArg Value.bool (by exact (anyN_false (fun j hj => hA j (by omega))).symm)))
theorem ent10 : Entr prog 10 := ⟨_,func10,rfl,by decide⟩
end Go.Proofs.Try

set_option linter.unusedSimpArgs false
set_option linter.unusedVariables false
namespace Go.Proofs.Try
open Go.Ab Go.RowKit
def fs28 : FnS := fnS [.s .marks,.o,.o] [.marks,.mark,(.fn0 29)] (fun _ (l,mm,(),_) => (.tup [.i ((bsPos l mm : Nat) : Int),.b (bsFound l mm)],[],(sortedM l) ∧ (l.length ≤ 1000)))
abbrev T28 : Tab := lk [(29,fs29)]
theorem tab28 : TabOK prog T28 := (TabOK.cons ok29 ent29 TabOK.nil)
set_option maxRecDepth 100000 in
set_option maxHeartbeats 1000000 in
theorem ok28 : FnOK prog 28 fs28 := by
 refine FnOK.mk cok func28 rfl rfl rfl ?_
 rintro fl ⟨(l : List MarkD),(mm : MarkD),⟨⟩,_⟩ hpre F hnt0 _
 have hnt : F.nt = 49 := hnt0.trans ntmps28
 replace hpre : (sortedM l) ∧ (l.length ≤ 1000) := hpre
 obtain ⟨hs,hl⟩ := hpre
 refine W.to (⟨[(0,.sl (.marks l)),(1,.agg [.i mm.value,.i mm.proc,.i mm.number,.b mm.gone]),(2,.fn 29 [])],[],[999]⟩) rfl ?_
 refine W.lenOf 0 (.marks l) (by kernel_rfl) ?_
 intro hl_l; replace hl_l : List.length l ≤ 9223372036854775807 := hl_l
 refine Kk cok tab28 hnt [] [0,2,4] (⟨[(0,.sl (.marks l)),(2,.fn 29 []),(4,.ptr 4 0)],[(4,⟨33,.fix [.i mm.value,.i mm.proc,.i mm.number,.b mm.gone]⟩)],[4,999]⟩)
  (True ∧ True ∧ True ∧ True)
  ⟨tt,tt,tt,tt⟩ ?_
 refine Kk cok tab28 hnt [] [0,2,4,8] (⟨[(0,.sl (.marks l)),(2,.fn 29 []),(4,.ptr 4 0),(8,.i (l.length : Int))],[(4,⟨33,.fix [.i mm.value,.i mm.proc,.i mm.number,.b mm.gone]⟩)],[4,999]⟩)
  (True ∧ True ∧ True ∧ True)
  ⟨tt,tt,tt,tt⟩ ?_
 refine Kk cok tab28 hnt [] [0,2,4,8,9,10] (⟨[(0,.sl (.marks l)),(2,.fn 29 []),(4,.ptr 4 0),(8,.i (l.length : Int)),(9,.i (0 : Int)),(10,.i (l.length : Int))],[(4,⟨33,.fix [.i mm.value,.i mm.proc,.i mm.number,.b mm.gone]⟩)],[4,999]⟩)
  (True ∧ True ∧ True ∧ True)
  ⟨tt,tt,tt,tt⟩ ?_
 refine W.seq ?_
 refine W.block ?_
 refine W.loop (ι := Int × Int) (fun (x : Int × Int) => match x with | (i,j) => (⟨[(0,.sl (.marks l)),(2,.fn 29 []),(4,.ptr 4 0),(8,.i (l.length : Int)),(9,.i i),(10,.i j)],[(4,⟨33,.fix [.i mm.value,.i mm.proc,.i mm.number,.b mm.gone]⟩)],[4,999]⟩ : St))
  (fun (x : Int × Int) => match x with | (i,j) => (0 ≤ i ∧ i ≤ j ∧ j ≤ (l.length : Int)) ∧ (∀ q : Nat,((q : Nat) : Int) < i → lessM (l.getD q default) mm = true) ∧ (∀ q : Nat,j ≤ ((q : Nat) : Int) → q < l.length → lessM (l.getD q default) mm = false))
  (fun (x : Int × Int) => match x with | (i,j) => ((j - i).toNat : Nat)) ((0 : Int),(l.length : Int)) ?_ ?_ ?_
 ·exact (show (0 ≤ (0 : Int) ∧ (0 : Int) ≤ (l.length : Int) ∧ (l.length : Int) ≤ (l.length : Int)) ∧ (∀ q : Nat,((q : Nat) : Int) < (0 : Int) → lessM (l.getD q default) mm = true) ∧ (∀ q : Nat,(l.length : Int) ≤ ((q : Nat) : Int) → q < l.length → lessM (l.getD q default) mm = false) from ⟨(by first | assumption | omega | rfl | (intro _ hjj; omega) | (simp; done) | (simp; omega)),(by intro q hq; omega),(by intro q hq hl; omega)⟩)
 ·exact Sub.of [] (@cast (((Sd (.marks l)) ∧ (((29 : Nat) = 29) ∧ True) ∧ (((4 : Nat) = 4) ∧ ((0 : Nat) = 0) ∧ ((4 : Nat) ∈ ([4,999] : List Nat))) ∧ (Si (l.length : Int)) ∧ (Si (0 : Int)) ∧ (Si (l.length : Int)) ∧ True) ∧ ((((33 : Nat) = 33) ∧ ((Si mm.value) ∧ (Si mm.proc) ∧ (Si mm.number) ∧ (Sv (.bool mm.gone)) ∧ True) ∧ ((4 : Nat) ∈ ([4,999] : List Nat))) ∧ True) ∧ (true = true) ∧ (true = true)) _ (by kernel_rfl) ⟨⟨rfl,⟨rfl,tt⟩,⟨rfl,rfl,(by decide)⟩,rfl,rfl,rfl,tt⟩,⟨⟨rfl,⟨rfl,rfl,rfl,rfl,tt⟩,(by decide)⟩,tt⟩,rfl,rfl⟩)
 ·rintro ⟨i,j⟩ hC0
  have hC : (0 ≤ i ∧ i ≤ j ∧ j ≤ (l.length : Int)) ∧ (∀ q : Nat,((q : Nat) : Int) < i → lessM (l.getD q default) mm = true) ∧ (∀ q : Nat,j ≤ ((q : Nat) : Int) → q < l.length → lessM (l.getD q default) mm = false) := hC0
  clear hC0
  obtain ⟨hij,hA,hB⟩ := hC
  refine W.to (⟨[(0,.sl (.marks l)),(2,.fn 29 []),(4,.ptr 4 0),(8,.i (l.length : Int)),(9,.i i),(10,.i j)],[(4,⟨33,.fix [.i mm.value,.i mm.proc,.i mm.number,.b mm.gone]⟩)],[4,999]⟩) rfl ?_
  have hmid := shr_half (x := i + j) (by omega) (by omega)
  refine W.seq ?_
  refine Kk cok tab28 hnt [] [0,2,4,8,9,10,17] (⟨[(0,.sl (.marks l)),(2,.fn 29 []),(4,.ptr 4 0),(8,.i (l.length : Int)),(9,.i i),(10,.i j),(17,.b (decide (i < j)))],[(4,⟨33,.fix [.i mm.value,.i mm.proc,.i mm.number,.b mm.gone]⟩)],[4,999]⟩)
   (True ∧ True ∧ (True ∧ True ∧ True) ∧ True)
   ⟨tt,tt,⟨tt,tt,tt⟩,tt⟩ ?_
  refine W.ifP (i < j) (.b (decide (i < j))) (by kernel_rfl) rfl trivial ?_ ?_
  ·intro h17
   refine W.skip (thenQ_normal ?_)
   refine W.block ?_
   refine Kk cok tab28 hnt [] [0,2,4,8,9,10,11] (⟨[(0,.sl (.marks l)),(2,.fn 29 []),(4,.ptr 4 0),(8,.i (l.length : Int)),(9,.i i),(10,.i j),(11,.i (shrI .u64 (i + j) (1 : Int)))],[(4,⟨33,.fix [.i mm.value,.i mm.proc,.i mm.number,.b mm.gone]⟩)],[4,999]⟩)
    (True ∧ True ∧ (True ∧ True ∧ (Fits .i64 (i + j))) ∧ (True ∧ (Fits .u64 (i + j))) ∧ (True ∧ True ∧ (0 ≤ (1 : Int))) ∧ (True ∧ (Fits .i64 (shrI .u64 (i + j) (1 : Int)))) ∧ True ∧ True)
    ⟨tt,tt,⟨tt,tt,(by exact fits_i64 (by omega) (by omega))⟩,⟨tt,(by exact fits_u64 (by omega) (by omega))⟩,⟨tt,tt,(by omega)⟩,⟨tt,(by exact fits_i64 (by omega) (by omega))⟩,tt,tt⟩ ?_
   refine W.KA cok tab28 hnt [] [0,2,4,8,9,10,11,31] (⟨[(0,.sl (.marks l)),(2,.fn 29 []),(4,.ptr 4 0),(8,.i (l.length : Int)),(9,.i i),(10,.i j),(11,.i (shrI .u64 (i + j) (1 : Int))),(31,.b (decide ((cmpM (l.getD (Int.toNat (shrI .u64 (i + j) (1 : Int))) default) mm) < (0 : Int))))],[(4,⟨33,.fix [.i mm.value,.i mm.proc,.i mm.number,.b mm.gone]⟩)],[4,999]⟩)
    (True ∧ True ∧ True ∧ (True ∧ True ∧ (0 ≤ (shrI .u64 (i + j) (1 : Int))) ∧ ((shrI .u64 (i + j) (1 : Int)) < (l.length : Int))) ∧ True ∧ True ∧ (True ∧ (True ∧ True ∧ True) ∧ True) ∧ (True ∧ True ∧ True) ∧ True) (by kernel_rfl) (by kernel_rfl)
    ⟨tt,tt,tt,⟨tt,tt,(by omega),(by omega)⟩,tt,tt,⟨tt,⟨tt,tt,tt⟩,tt⟩,⟨tt,tt,tt⟩,tt⟩ ?_
   refine W.ifP ((cmpM (l.getD (Int.toNat (shrI .u64 (i + j) (1 : Int))) default) mm) < (0 : Int)) (.b (decide ((cmpM (l.getD (Int.toNat (shrI .u64 (i + j) (1 : Int))) default) mm) < (0 : Int)))) (by kernel_rfl) rfl trivial ?_ ?_
   ·intro h31
    refine Lk cok tab28 hnt [] (⟨[(0,.sl (.marks l)),(2,.fn 29 []),(4,.ptr 4 0),(8,.i (l.length : Int)),(9,.i ((shrI .u64 (i + j) (1 : Int)) + (1 : Int))),(10,.i j),(11,.i (shrI .u64 (i + j) (1 : Int))),(31,.b (decide ((cmpM (l.getD (Int.toNat (shrI .u64 (i + j) (1 : Int))) default) mm) < (0 : Int)))),(32,.i (shrI .u64 (i + j) (1 : Int))),(33,.i ((shrI .u64 (i + j) (1 : Int)) + (1 : Int)))],[(4,⟨33,.fix [.i mm.value,.i mm.proc,.i mm.number,.b mm.gone]⟩)],[4,999]⟩)
     (True ∧ (True ∧ True ∧ (Fits .i64 ((shrI .u64 (i + j) (1 : Int)) + (1 : Int)))) ∧ True ∧ True)
     ⟨tt,⟨tt,tt,(by exact fits_i64 (by omega) (by omega))⟩,tt,tt⟩ ?_
    refine blockQ_normal (thenQ_normal ?_)
    refine ⟨(((shrI .u64 (i + j) (1 : Int)) + (1 : Int)),j),(show (0 ≤ ((shrI .u64 (i + j) (1 : Int)) + (1 : Int)) ∧ ((shrI .u64 (i + j) (1 : Int)) + (1 : Int)) ≤ j ∧ j ≤ (l.length : Int)) ∧ (∀ q : Nat,((q : Nat) : Int) < ((shrI .u64 (i + j) (1 : Int)) + (1 : Int)) → lessM (l.getD q default) mm = true) ∧ (∀ q : Nat,j ≤ ((q : Nat) : Int) → q < l.length → lessM (l.getD q default) mm = false) from ⟨(by first | assumption | omega | rfl | (intro _ hjj; omega) | (simp; done) | (simp; omega)),(by first | assumption | exact bs_stepA hs (by omega) (by omega) h31),(by first | assumption | exact bs_stepB hs (by omega) n31)⟩),(show (j - ((shrI .u64 (i + j) (1 : Int)) + (1 : Int))).toNat < (j - i).toNat from (by omega)),?_⟩
    exact Sub.of [] (@cast (((Sd (.marks l)) ∧ (((29 : Nat) = 29) ∧ True) ∧ (((4 : Nat) = 4) ∧ ((0 : Nat) = 0) ∧ ((4 : Nat) ∈ ([4,999] : List Nat))) ∧ (Si (l.length : Int)) ∧ (Si ((shrI .u64 (i + j) (1 : Int)) + (1 : Int))) ∧ (Si j) ∧ True) ∧ ((((33 : Nat) = 33) ∧ ((Si mm.value) ∧ (Si mm.proc) ∧ (Si mm.number) ∧ (Sv (.bool mm.gone)) ∧ True) ∧ ((4 : Nat) ∈ ([4,999] : List Nat))) ∧ True) ∧ (true = true) ∧ (true = true)) _ (by kernel_rfl) ⟨⟨rfl,⟨rfl,tt⟩,⟨rfl,rfl,(by decide)⟩,rfl,rfl,rfl,tt⟩,⟨⟨rfl,⟨rfl,rfl,rfl,rfl,tt⟩,(by decide)⟩,tt⟩,rfl,rfl⟩)
   ·intro n31
    refine Lk cok tab28 hnt [] (⟨[(0,.sl (.marks l)),(2,.fn 29 []),(4,.ptr 4 0),(8,.i (l.length : Int)),(9,.i i),(10,.i (shrI .u64 (i + j) (1 : Int))),(11,.i (shrI .u64 (i + j) (1 : Int))),(31,.b (decide ((cmpM (l.getD (Int.toNat (shrI .u64 (i + j) (1 : Int))) default) mm) < (0 : Int)))),(34,.i (shrI .u64 (i + j) (1 : Int)))],[(4,⟨33,.fix [.i mm.value,.i mm.proc,.i mm.number,.b mm.gone]⟩)],[4,999]⟩)
     (True ∧ True ∧ True)
     ⟨tt,tt,tt⟩ ?_
    refine blockQ_normal (thenQ_normal ?_)
    refine ⟨(i,(shrI .u64 (i + j) (1 : Int))),(show (0 ≤ i ∧ i ≤ (shrI .u64 (i + j) (1 : Int)) ∧ (shrI .u64 (i + j) (1 : Int)) ≤ (l.length : Int)) ∧ (∀ q : Nat,((q : Nat) : Int) < i → lessM (l.getD q default) mm = true) ∧ (∀ q : Nat,(shrI .u64 (i + j) (1 : Int)) ≤ ((q : Nat) : Int) → q < l.length → lessM (l.getD q default) mm = false) from ⟨(by first | assumption | omega | rfl | (intro _ hjj; omega) | (simp; done) | (simp; omega)),(by first | assumption | exact bs_stepA hs (by omega) (by omega) h31),(by first | assumption | exact bs_stepB hs (by omega) n31)⟩),(show ((shrI .u64 (i + j) (1 : Int)) - i).toNat < (j - i).toNat from (by omega)),?_⟩
    exact Sub.of [] (@cast (((Sd (.marks l)) ∧ (((29 : Nat) = 29) ∧ True) ∧ (((4 : Nat) = 4) ∧ ((0 : Nat) = 0) ∧ ((4 : Nat) ∈ ([4,999] : List Nat))) ∧ (Si (l.length : Int)) ∧ (Si i) ∧ (Si (shrI .u64 (i + j) (1 : Int))) ∧ True) ∧ ((((33 : Nat) = 33) ∧ ((Si mm.value) ∧ (Si mm.proc) ∧ (Si mm.number) ∧ (Sv (.bool mm.gone)) ∧ True) ∧ ((4 : Nat) ∈ ([4,999] : List Nat))) ∧ True) ∧ (true = true) ∧ (true = true)) _ (by kernel_rfl) ⟨⟨rfl,⟨rfl,tt⟩,⟨rfl,rfl,(by decide)⟩,rfl,rfl,rfl,tt⟩,⟨⟨rfl,⟨rfl,rfl,rfl,rfl,tt⟩,(by decide)⟩,tt⟩,rfl,rfl⟩)
  ·intro n17
   refine W.exit (thenQ_exit (thenQ_exit (blockQ_hit ?_)))
   refine thenQ_normal ?_
   refine W.KA cok tab28 hnt [] [6,7] (⟨[(6,.i i),(7,.b ((decide (i < (l.length : Int))) && (decide ((cmpM (l.getD (Int.toNat i) default) mm) = (0 : Int)))))],[(4,⟨33,.fix [.i mm.value,.i mm.proc,.i mm.number,.b mm.gone]⟩)],[4,999]⟩)
    ((fun (Z1:Bool)=>(True ∧ (True ∧ (True ∧ ((True ∧ (True ∧ True)) ∧ (True ∧ ((Z1 = true → True) ∧ ((Z1 = true → True) ∧ ((Z1 = true → True) ∧ ((Z1 = true → (((Z1 = true) ∧ True) ∧ (((Z1 = true) ∧ True) ∧ ((0 ≤ i) ∧ (i < (l.length : Int)))))) ∧ ((Z1 = true → ((Z1 = true) ∧ True)) ∧ ((Z1 = true → True) ∧ ((Z1 = true → (((Z1 = true) ∧ True) ∧ ((((Z1 = true) ∧ True) ∧ (((Z1 = true) ∧ True) ∧ True)) ∧ True))) ∧ ((Z1 = true → (((Z1 = true) ∧ True) ∧ (True ∧ True))) ∧ ((True ∧ ((Z1 = true → (Z1 = true) ∧ True) ∧ (Z1 = false → True))) ∧ (True ∧ (True ∧ True))))))))))))))))) (decide (i < (l.length : Int)))) (by kernel_rfl) (by kernel_rfl)
    ⟨tt,tt,tt,⟨tt,tt,tt⟩,tt,(fun _ => trivial),(fun _ => trivial),(fun _ => trivial),(fun hG => ⟨⟨hG,tt⟩,⟨hG,tt⟩,(by have hg0 : i < (l.length : Int) := of_decide_eq_true hG; omega),(by have hg0 : i < (l.length : Int) := of_decide_eq_true hG; omega)⟩),(fun hG => ⟨hG,tt⟩),(fun _ => trivial),(fun hG => ⟨⟨hG,tt⟩,⟨⟨hG,tt⟩,⟨hG,tt⟩,tt⟩,tt⟩),(fun hG => ⟨⟨hG,tt⟩,tt,tt⟩),⟨tt,(fun hp => ⟨hp,tt⟩),(fun _ => trivial)⟩,tt,tt,tt⟩ ?_
   refine W.ret ?_
   exact endQ_ret (.tup [.i i,.b ((decide (i < (l.length : Int))) && (decide ((cmpM (l.getD (Int.toNat i) default) mm) = (0 : Int))))]) (by kernel_rfl) (@cast (((.int .i64 i : Value) = .int .i64 ((bsPos l mm : Nat) : Int)) ∧ ((.bool ((decide (i < (l.length : Int))) && (decide ((cmpM (l.getD (Int.toNat i) default) mm) = (0 : Int)))) : Value) = .bool (bsFound l mm)) ∧ True) _ (by kernel_rfl) ⟨(congrArg (Value.int .i64) (by first | exact (bs_end hij.1 (by omega) (by omega) hA hB).1 | exact (bs_end hij.1 (by omega) (by omega) hA hB).2)),(congrArg Value.bool (by first | exact (bs_end hij.1 (by omega) (by omega) hA hB).1 | exact (bs_end hij.1 (by omega) (by omega) hA hB).2)),tt⟩)
theorem ent28 : Entr prog 28 := ⟨_,func28,rfl,of_decide_eq_true (by kernel_rfl)⟩
end Go.Proofs.Try

set_option linter.unusedSimpArgs false
set_option linter.unusedVariables false
namespace Go.Proofs.Try
open Go.Ab Go.RowKit
abbrev T27 : Tab := lk [(50,fs50),(51,fs51)]
theorem tab27 : TabOK prog T27 := (TabOK.cons ok50 ent50 (TabOK.cons ok51 ent51 TabOK.nil))
theorem ent27 : Entr prog 27 := ⟨_,func27,rfl,by decide⟩
set_option maxRecDepth 100000 in
set_option maxHeartbeats 1000000 in
theorem hok27 : ∀ (cu : List Int) (cd : List Int) (cv : Int) (ct : Int) (cp : Int) (cm : List MarkD) (value : Int) (time : Int) (pp : Int),(True) → HOK prog 27 [910,911,912,913] [.ptr 910 0,.i value,.i time,.i pp] [(910,⟨26,.fix [.own 911 cu.length,.own 912 cd.length,.i cv,.i ct,.i cp,.own 913 cm.length]⟩),(911,⟨3,.row (.ints cu)⟩),(912,⟨3,.row (.ints cd)⟩),(913,⟨33,.row (.marks cm)⟩)] [910,911,912,913] (fun r s1 u1 => r = (.tup []) ∧ s1 = ([(910,⟨26,.fix [.own 911 cu.length,.own 912 cd.length,.i (bif newerC (⟨cu,cd,value,time,pp,cm⟩ : CopyD) (⟨cu,cd,cv,ct,cp,cm⟩ : CopyD) then value else cv),.i (bif newerC (⟨cu,cd,value,time,pp,cm⟩ : CopyD) (⟨cu,cd,cv,ct,cp,cm⟩ : CopyD) then time else ct),.i (bif newerC (⟨cu,cd,value,time,pp,cm⟩ : CopyD) (⟨cu,cd,cv,ct,cp,cm⟩ : CopyD) then pp else cp),.own 913 cm.length]⟩),(911,⟨3,.row (.ints cu)⟩),(912,⟨3,.row (.ints cd)⟩),(913,⟨33,.row (.marks cm)⟩)]) ∧ u1 = ([910,911,912,913])) := by
 intro cu cd cv ct cp cm value time pp hpre
 refine HOK.of cok func27 rfl rfl rfl ?_
 intro F hnt0
 have hnt : F.nt = 41 := hnt0.trans ntmps27
 refine W.to (⟨[(0,.ptr 910 0),(1,.i value),(2,.i time),(3,.i pp)],[(910,⟨26,.fix [.own 911 cu.length,.own 912 cd.length,.i cv,.i ct,.i cp,.own 913 cm.length]⟩),(911,⟨3,.row (.ints cu)⟩),(912,⟨3,.row (.ints cd)⟩),(913,⟨33,.row (.marks cm)⟩)],[910,911,912,913]⟩) rfl ?_
 refine W.KA cok tab27 hnt [] [0,1,2,3,28] (⟨[(0,.ptr 910 0),(1,.i value),(2,.i time),(3,.i pp),(28,.b (decide ((0 : Int) < (orI ([(cmpI time ct),(cmpI pp cp),(cmpI value cv)])))))],[(910,⟨26,.fix [.own 911 cu.length,.own 912 cd.length,.i cv,.i ct,.i cp,.own 913 cm.length]⟩),(911,⟨3,.row (.ints cu)⟩),(912,⟨3,.row (.ints cd)⟩),(913,⟨33,.row (.marks cm)⟩)],[26,910,911,912,913]⟩)
  (True ∧ True ∧ True ∧ True ∧ True ∧ (True ∧ (True ∧ True ∧ True) ∧ True) ∧ True ∧ True ∧ True ∧ True ∧ True ∧ (True ∧ (True ∧ True ∧ True) ∧ True) ∧ True ∧ True ∧ True ∧ True ∧ True ∧ (True ∧ (True ∧ True ∧ True) ∧ True) ∧ (True ∧ True ∧ True ∧ True) ∧ (True ∧ (True ∧ True) ∧ True) ∧ (True ∧ True ∧ True) ∧ True) (by kernel_rfl) (by kernel_rfl)
  ⟨tt,tt,tt,tt,tt,⟨tt,⟨tt,tt,tt⟩,tt⟩,tt,tt,tt,tt,tt,⟨tt,⟨tt,tt,tt⟩,tt⟩,tt,tt,tt,tt,tt,⟨tt,⟨tt,tt,tt⟩,tt⟩,⟨tt,tt,tt,tt⟩,⟨tt,⟨tt,tt⟩,tt⟩,⟨tt,tt,tt⟩,tt⟩ ?_
 refine W.ifP ((0 : Int) < (orI ([(cmpI time ct),(cmpI pp cp),(cmpI value cv)]))) (.b (decide ((0 : Int) < (orI ([(cmpI time ct),(cmpI pp cp),(cmpI value cv)]))))) (by kernel_rfl) rfl trivial ?_ ?_
 ·intro h28
  refine Lk cok tab27 hnt [] (⟨[(0,.ptr 910 0),(1,.i value),(2,.i time),(3,.i pp),(28,.b (decide ((0 : Int) < (orI ([(cmpI time ct),(cmpI pp cp),(cmpI value cv)]))))),(29,.ptr 910 0),(30,.ptr 910 0),(31,.ptr 910 0),(32,.i value),(33,.i time),(34,.i pp),(35,.ptr 910 0),(36,.ptr 910 2),(37,.ptr 910 0),(38,.ptr 910 3),(39,.ptr 910 0),(40,.ptr 910 4)],[(910,⟨26,.fix [.own 911 cu.length,.own 912 cd.length,.i value,.i time,.i pp,.own 913 cm.length]⟩),(911,⟨3,.row (.ints cu)⟩),(912,⟨3,.row (.ints cd)⟩),(913,⟨33,.row (.marks cm)⟩)],[26,910,911,912,913]⟩)
   (True ∧ True ∧ True ∧ True ∧ True ∧ True ∧ True ∧ True ∧ (True ∧ True) ∧ True ∧ True ∧ (True ∧ True) ∧ True ∧ True ∧ (True ∧ True) ∧ True)
   ⟨tt,tt,tt,tt,tt,tt,tt,tt,⟨tt,tt⟩,tt,tt,⟨tt,tt⟩,tt,tt,⟨tt,tt⟩,tt⟩ ?_
  exact endH_norm (.tup []) [(910,⟨26,.fix [.own 911 cu.length,.own 912 cd.length,.i (bif newerC (⟨cu,cd,value,time,pp,cm⟩ : CopyD) (⟨cu,cd,cv,ct,cp,cm⟩ : CopyD) then value else cv),.i (bif newerC (⟨cu,cd,value,time,pp,cm⟩ : CopyD) (⟨cu,cd,cv,ct,cp,cm⟩ : CopyD) then time else ct),.i (bif newerC (⟨cu,cd,value,time,pp,cm⟩ : CopyD) (⟨cu,cd,cv,ct,cp,cm⟩ : CopyD) then pp else cp),.own 913 cm.length]⟩),(911,⟨3,.row (.ints cu)⟩),(912,⟨3,.row (.ints cd)⟩),(913,⟨33,.row (.marks cm)⟩)] [910,911,912,913] ⟨rfl,rfl,rfl⟩ [(910,910),(911,911),(912,912),(913,913)] (.tup []) (by kernel_rfl) (@cast (True ∧ ((((26 : Nat) = 26) ∧ ((((911 : Nat) = 911) ∧ (cu.length = cu.length) ∧ ((911 : Nat) ∈ ([910,911,912,913] : List Nat))) ∧ (((912 : Nat) = 912) ∧ (cd.length = cd.length) ∧ ((912 : Nat) ∈ ([910,911,912,913] : List Nat))) ∧ ((.int .i64 value : Value) = .int .i64 (bif newerC (⟨cu,cd,value,time,pp,cm⟩ : CopyD) (⟨cu,cd,cv,ct,cp,cm⟩ : CopyD) then value else cv)) ∧ ((.int .i64 time : Value) = .int .i64 (bif newerC (⟨cu,cd,value,time,pp,cm⟩ : CopyD) (⟨cu,cd,cv,ct,cp,cm⟩ : CopyD) then time else ct)) ∧ ((.int .i64 pp : Value) = .int .i64 (bif newerC (⟨cu,cd,value,time,pp,cm⟩ : CopyD) (⟨cu,cd,cv,ct,cp,cm⟩ : CopyD) then pp else cp)) ∧ (((913 : Nat) = 913) ∧ (cm.length = cm.length) ∧ ((913 : Nat) ∈ ([910,911,912,913] : List Nat))) ∧ True) ∧ ((910 : Nat) ∈ ([910,911,912,913] : List Nat))) ∧ (((3 : Nat) = 3) ∧ (Sd (.ints cu)) ∧ ((911 : Nat) ∈ ([910,911,912,913] : List Nat))) ∧ (((3 : Nat) = 3) ∧ (Sd (.ints cd)) ∧ ((912 : Nat) ∈ ([910,911,912,913] : List Nat))) ∧ (((33 : Nat) = 33) ∧ (Sd (.marks cm)) ∧ ((913 : Nat) ∈ ([910,911,912,913] : List Nat))) ∧ True) ∧ (true = true) ∧ (true = true)) _ (by kernel_rfl) ⟨tt,⟨⟨rfl,⟨⟨rfl,rfl,(by decide)⟩,⟨rfl,rfl,(by decide)⟩,(congrArg (Value.int .i64) (by first | rfl | omega | assumption | (first | rfl | (have h9 := nw_yes (u := cu) (d := cd) (m := cm) h28; simp only [h9,cond_true]); done) | simp | simp_all)),(congrArg (Value.int .i64) (by first | rfl | omega | assumption | (first | rfl | (have h9 := nw_yes (u := cu) (d := cd) (m := cm) h28; simp only [h9,cond_true]); done) | simp | simp_all)),(congrArg (Value.int .i64) (by first | rfl | omega | assumption | (first | rfl | (have h9 := nw_yes (u := cu) (d := cd) (m := cm) h28; simp only [h9,cond_true]); done) | simp | simp_all)),⟨rfl,rfl,(by decide)⟩,tt⟩,(by decide)⟩,⟨rfl,rfl,(by decide)⟩,⟨rfl,rfl,(by decide)⟩,⟨rfl,rfl,(by decide)⟩,tt⟩,rfl,rfl⟩)
 ·intro n28
  refine W.skip ?_
  exact endH_norm (.tup []) [(910,⟨26,.fix [.own 911 cu.length,.own 912 cd.length,.i (bif newerC (⟨cu,cd,value,time,pp,cm⟩ : CopyD) (⟨cu,cd,cv,ct,cp,cm⟩ : CopyD) then value else cv),.i (bif newerC (⟨cu,cd,value,time,pp,cm⟩ : CopyD) (⟨cu,cd,cv,ct,cp,cm⟩ : CopyD) then time else ct),.i (bif newerC (⟨cu,cd,value,time,pp,cm⟩ : CopyD) (⟨cu,cd,cv,ct,cp,cm⟩ : CopyD) then pp else cp),.own 913 cm.length]⟩),(911,⟨3,.row (.ints cu)⟩),(912,⟨3,.row (.ints cd)⟩),(913,⟨33,.row (.marks cm)⟩)] [910,911,912,913] ⟨rfl,rfl,rfl⟩ [(910,910),(911,911),(912,912),(913,913)] (.tup []) (by kernel_rfl) (@cast (True ∧ ((((26 : Nat) = 26) ∧ ((((911 : Nat) = 911) ∧ (cu.length = cu.length) ∧ ((911 : Nat) ∈ ([910,911,912,913] : List Nat))) ∧ (((912 : Nat) = 912) ∧ (cd.length = cd.length) ∧ ((912 : Nat) ∈ ([910,911,912,913] : List Nat))) ∧ ((.int .i64 cv : Value) = .int .i64 (bif newerC (⟨cu,cd,value,time,pp,cm⟩ : CopyD) (⟨cu,cd,cv,ct,cp,cm⟩ : CopyD) then value else cv)) ∧ ((.int .i64 ct : Value) = .int .i64 (bif newerC (⟨cu,cd,value,time,pp,cm⟩ : CopyD) (⟨cu,cd,cv,ct,cp,cm⟩ : CopyD) then time else ct)) ∧ ((.int .i64 cp : Value) = .int .i64 (bif newerC (⟨cu,cd,value,time,pp,cm⟩ : CopyD) (⟨cu,cd,cv,ct,cp,cm⟩ : CopyD) then pp else cp)) ∧ (((913 : Nat) = 913) ∧ (cm.length = cm.length) ∧ ((913 : Nat) ∈ ([910,911,912,913] : List Nat))) ∧ True) ∧ ((910 : Nat) ∈ ([910,911,912,913] : List Nat))) ∧ (((3 : Nat) = 3) ∧ (Sd (.ints cu)) ∧ ((911 : Nat) ∈ ([910,911,912,913] : List Nat))) ∧ (((3 : Nat) = 3) ∧ (Sd (.ints cd)) ∧ ((912 : Nat) ∈ ([910,911,912,913] : List Nat))) ∧ (((33 : Nat) = 33) ∧ (Sd (.marks cm)) ∧ ((913 : Nat) ∈ ([910,911,912,913] : List Nat))) ∧ True) ∧ (true = true) ∧ (true = true)) _ (by kernel_rfl) ⟨tt,⟨⟨rfl,⟨⟨rfl,rfl,(by decide)⟩,⟨rfl,rfl,(by decide)⟩,(congrArg (Value.int .i64) (by first | rfl | omega | assumption | (first | rfl | (have h9 := nw_no (u := cu) (d := cd) (m := cm) n28; simp only [h9,cond_false]); done) | simp | simp_all)),(congrArg (Value.int .i64) (by first | rfl | omega | assumption | (first | rfl | (have h9 := nw_no (u := cu) (d := cd) (m := cm) n28; simp only [h9,cond_false]); done) | simp | simp_all)),(congrArg (Value.int .i64) (by first | rfl | omega | assumption | (first | rfl | (have h9 := nw_no (u := cu) (d := cd) (m := cm) n28; simp only [h9,cond_false]); done) | simp | simp_all)),⟨rfl,rfl,(by decide)⟩,tt⟩,(by decide)⟩,⟨rfl,rfl,(by decide)⟩,⟨rfl,rfl,(by decide)⟩,⟨rfl,rfl,(by decide)⟩,tt⟩,rfl,rfl⟩)
end Go.Proofs.Try
