import Derived.Test.YtpgppbgbmhlacaaOF8S0
import Derived.Test.YtpgppbgbmhlacaaFrameB
set_option linter.unusedSimpArgs false
set_option linter.unusedVariables false
namespace Go.Proofs.Try
open Go.Ab Go.RowKit
def fs63 : FnS := fnS [.o,.o] [.int,.int] (fun _ (a,b,_) => (.i (cmpI a b),[],True))
abbrev T63 : Tab := lk [(77,fs77)]
theorem tab63 : TabOK prog T63 := (TabOK.cons ok77 ent77 TabOK.nil)
set_option maxRecDepth 100000 in
set_option maxHeartbeats 1000000 in
theorem ok63 : FnOK prog 63 fs63 := by
 refine FnOK.mk cok func63 rfl rfl rfl ?_
 rintro fl ⟨(a : Int),(b : Int),_⟩ hpre F hnt0 _
 have hnt : F.nt = 20 := hnt0.trans ntmps63
 clear hpre
 refine W.to (⟨[(0,.i a),(1,.i b)],[],[999]⟩) rfl ?_
 refine Kk cok tab63 hnt [] [0,1] (⟨[(0,.i a),(1,.i b)],[],[999]⟩)
  (True ∧ True)
  ⟨tt,tt⟩ ?_
 refine Kk cok tab63 hnt [] [0,1,5] (⟨[(0,.i a),(1,.i b),(5,.b false)],[],[999]⟩)
  (True ∧ (True ∧ (True ∧ True) ∧ True) ∧ True ∧ True)
  ⟨tt,⟨tt,⟨tt,tt⟩,tt⟩,tt,tt⟩ ?_
 refine Kk cok tab63 hnt [] [0,1,5,6] (⟨[(0,.i a),(1,.i b),(5,.b false),(6,.b false)],[],[999]⟩)
  (True ∧ (True ∧ (True ∧ True) ∧ True) ∧ True ∧ True)
  ⟨tt,⟨tt,⟨tt,tt⟩,tt⟩,tt,tt⟩ ?_
 refine W.seq ?_
 refine Kk cok tab63 hnt [] [0,1,6,11] (⟨[(0,.i a),(1,.i b),(6,.b false),(11,.b false)],[],[999]⟩)
  (True ∧ True)
  ⟨tt,tt⟩ ?_
 refine W.if' false (.b false) (by kernel_rfl) rfl trivial ?_ ?_
 ·intro h11
  refine W.seq ?_
  refine Kk cok tab63 hnt [] [12] (⟨[(12,.b false)],[],[999]⟩)
   (True ∧ True)
   ⟨tt,tt⟩ ?_
  refine W.if' false (.b false) (by kernel_rfl) rfl trivial ?_ ?_
  ·intro h12
   refine Kk cok tab63 hnt [] [4] (⟨[(4,.i (0 : Int))],[],[999]⟩)
    (True ∧ True)
    ⟨tt,tt⟩ ?_
   refine W.ret (thenQ_ret (thenQ_ret ?_))
   exact endQ_ret (.i (0 : Int)) (by kernel_rfl) (@cast ((.int .i64 (0 : Int) : Value) = .int .i64 (cmpI a b)) _ (by kernel_rfl) (congrArg (Value.int .i64) (by cases h11)))
  ·intro n12
   refine W.skip (thenQ_normal ?_)
   refine Kk cok tab63 hnt [] [4] (⟨[(4,.i (-1 : Int))],[],[999]⟩)
    (True ∧ True)
    ⟨tt,tt⟩ ?_
   refine W.ret (thenQ_ret ?_)
   exact endQ_ret (.i (-1 : Int)) (by kernel_rfl) (@cast ((.int .i64 (-1 : Int) : Value) = .int .i64 (cmpI a b)) _ (by kernel_rfl) (congrArg (Value.int .i64) (by cases h11)))
 ·intro n11
  refine W.skip (thenQ_normal ?_)
  refine W.seq ?_
  refine Kk cok tab63 hnt [] [0,1,13] (⟨[(0,.i a),(1,.i b),(13,.b false)],[],[999]⟩)
   (True ∧ True)
   ⟨tt,tt⟩ ?_
  refine W.if' false (.b false) (by kernel_rfl) rfl trivial ?_ ?_
  ·intro h13
   refine Kk cok tab63 hnt [] [4] (⟨[(4,.i (1 : Int))],[],[999]⟩)
    (True ∧ True)
    ⟨tt,tt⟩ ?_
   refine W.ret (thenQ_ret ?_)
   exact endQ_ret (.i (1 : Int)) (by kernel_rfl) (@cast ((.int .i64 (1 : Int) : Value) = .int .i64 (cmpI a b)) _ (by kernel_rfl) (congrArg (Value.int .i64) (by cases h13)))
  ·intro n13
   refine W.skip (thenQ_normal ?_)
   refine W.seq ?_
   refine Kk cok tab63 hnt [] [0,1,16] (⟨[(0,.i a),(1,.i b),(16,.b (decide (a < b)))],[],[999]⟩)
    (True ∧ True ∧ (True ∧ True ∧ True) ∧ True)
    ⟨tt,tt,⟨tt,tt,tt⟩,tt⟩ ?_
   refine W.ifP (a < b) (.b (decide (a < b))) (by kernel_rfl) rfl trivial ?_ ?_
   ·intro h16
    refine Kk cok tab63 hnt [] [4] (⟨[(4,.i (-1 : Int))],[],[999]⟩)
     (True ∧ True)
     ⟨tt,tt⟩ ?_
    refine W.ret (thenQ_ret ?_)
    exact endQ_ret (.i (-1 : Int)) (by kernel_rfl) (@cast ((.int .i64 (-1 : Int) : Value) = .int .i64 (cmpI a b)) _ (by kernel_rfl) (congrArg (Value.int .i64) (by unfold cmpI; rw [decide_eq_true h16]; rfl)))
   ·intro n16
    refine W.skip (thenQ_normal ?_)
    refine W.seq ?_
    refine Kk cok tab63 hnt [] [19] (⟨[(19,.b (decide (b < a)))],[],[999]⟩)
     (True ∧ True ∧ (True ∧ True ∧ True) ∧ True)
     ⟨tt,tt,⟨tt,tt,tt⟩,tt⟩ ?_
    refine W.ifP (b < a) (.b (decide (b < a))) (by kernel_rfl) rfl trivial ?_ ?_
    ·intro h19
     refine Kk cok tab63 hnt [] [4] (⟨[(4,.i (1 : Int))],[],[999]⟩)
      (True ∧ True)
      ⟨tt,tt⟩ ?_
     refine W.ret (thenQ_ret ?_)
     exact endQ_ret (.i (1 : Int)) (by kernel_rfl) (@cast ((.int .i64 (1 : Int) : Value) = .int .i64 (cmpI a b)) _ (by kernel_rfl) (congrArg (Value.int .i64) (by unfold cmpI; rw [decide_eq_false n16,decide_eq_true h19]; rfl)))
    ·intro n19
     refine W.skip (thenQ_normal ?_)
     refine Kk cok tab63 hnt [] [4] (⟨[(4,.i (0 : Int))],[],[999]⟩)
      (True ∧ True)
      ⟨tt,tt⟩ ?_
     refine W.ret ?_
     exact endQ_ret (.i (0 : Int)) (by kernel_rfl) (@cast ((.int .i64 (0 : Int) : Value) = .int .i64 (cmpI a b)) _ (by kernel_rfl) (congrArg (Value.int .i64) (by unfold cmpI; rw [decide_eq_false n16,decide_eq_false n19]; rfl)))
theorem ent63 : Entr prog 63 := ⟨_,func63,rfl,by decide⟩
end Go.Proofs.Try

set_option linter.unusedSimpArgs false
set_option linter.unusedVariables false
namespace Go.Proofs.Try
open Go.Ab Go.RowKit
def fs62 : FnS := fnS [.s .ints] [.ints] (fun _ (l,_) => (.i (orI l),[],True))
abbrev T62 : Tab := lk []
theorem tab62 : TabOK prog T62 := TabOK.nil
set_option maxRecDepth 100000 in
set_option maxHeartbeats 1000000 in
theorem ok62 : FnOK prog 62 fs62 := by
 refine FnOK.mk cok func62 rfl rfl rfl ?_
 rintro fl ⟨(l : List Int),_⟩ hpre F hnt0 _
 have hnt : F.nt = 18 := hnt0.trans ntmps62
 clear hpre
 refine W.to (⟨[(0,.sl (.ints l))],[],[999]⟩) rfl ?_
 refine W.lenOf 0 (.ints l) (by kernel_rfl) ?_
 intro hl_l; replace hl_l : List.length l ≤ 9223372036854775807 := hl_l
 refine Kk cok tab62 hnt [] [0] (⟨[(0,.sl (.ints l))],[],[999]⟩)
  (True ∧ True)
  ⟨tt,tt⟩ ?_
 refine Kk cok tab62 hnt [] [0,3] (⟨[(0,.sl (.ints l)),(3,.i (0 : Int))],[],[999]⟩)
  (True ∧ True)
  ⟨tt,tt⟩ ?_
 refine W.seq ?_
 refine Kk cok tab62 hnt [] [3,6,7,8] (⟨[(3,.i (0 : Int)),(6,.sl (.ints l)),(7,.i (l.length : Int)),(8,.i (0 : Int))],[],[999]⟩)
  (True ∧ True ∧ True ∧ True)
  ⟨tt,tt,tt,tt⟩ ?_
 refine W.block ?_
 refine W.loop (ι := Nat) (fun (i : Nat) => (⟨[(3,.i (0 : Int)),(6,.sl (.ints l)),(7,.i (l.length : Int)),(8,.i ((i : Nat) : Int))],[],[999]⟩ : St))
  (fun (i : Nat) => (i ≤ l.length) ∧ (orI l = orFrom l i))
  (fun (i : Nat) => (l.length - i : Nat)) (0) ?_ ?_ ?_
 ·exact (show (0 ≤ l.length) ∧ (orI l = orFrom l 0) from ⟨(by first | assumption | omega | rfl | (intro _ hjj; omega) | (simp; done) | (simp; omega)),(by rfl)⟩)
 ·exact Sub.of [] (@cast (((Si (0 : Int)) ∧ (Sd (.ints l)) ∧ (Si (l.length : Int)) ∧ ((.int .i64 (0 : Int) : Value) = .int .i64 ((0 : Nat) : Int)) ∧ True) ∧ True ∧ (true = true) ∧ (true = true)) _ (by kernel_rfl) ⟨⟨rfl,rfl,rfl,(congrArg (Value.int .i64) (by first | rfl | omega | assumption | simp | simp_all)),tt⟩,tt,rfl,rfl⟩)
 ·rintro i hC0
  have hC : (i ≤ l.length) ∧ (orI l = orFrom l i) := hC0
  clear hC0
  obtain ⟨hi,hA⟩ := hC
  refine W.to (⟨[(3,.i (0 : Int)),(6,.sl (.ints l)),(7,.i (l.length : Int)),(8,.i ((i : Nat) : Int))],[],[999]⟩) rfl ?_
  refine Kk cok tab62 hnt [] [3,6,7,8,9] (⟨[(3,.i (0 : Int)),(6,.sl (.ints l)),(7,.i (l.length : Int)),(8,.i ((i : Nat) : Int)),(9,.b (decide (((i : Nat) : Int) < (l.length : Int))))],[],[999]⟩)
   ((True ∧ True ∧ True) ∧ True)
   ⟨⟨tt,tt,tt⟩,tt⟩ ?_
  refine W.seq ?_
  refine W.ifP (((i : Nat) : Int) < (l.length : Int)) (.b (decide (((i : Nat) : Int) < (l.length : Int)))) (by kernel_rfl) rfl trivial ?_ ?_
  ·intro h9
   refine W.skip (thenQ_normal ?_)
   refine W.seq ?_
   refine W.block ?_
   refine Kk cok tab62 hnt [] [3,5,6,7,8] (⟨[(3,.i (0 : Int)),(5,.i (l.getD i 0)),(6,.sl (.ints l)),(7,.i (l.length : Int)),(8,.i ((i : Nat) : Int))],[],[999]⟩)
    ((True ∧ True ∧ (0 ≤ ((i : Nat) : Int)) ∧ (((i : Nat) : Int) < (l.length : Int))) ∧ True ∧ True ∧ True)
    ⟨⟨tt,tt,(by omega),(by omega)⟩,tt,tt,tt⟩ ?_
   refine Kk cok tab62 hnt [] [3,5,6,7,8,14] (⟨[(3,.i (0 : Int)),(5,.i (l.getD i 0)),(6,.sl (.ints l)),(7,.i (l.length : Int)),(8,.i ((i : Nat) : Int)),(14,.b (decide ((l.getD i 0) ≠ (0 : Int))))],[],[999]⟩)
    (True ∧ True ∧ (True ∧ True ∧ True) ∧ True)
    ⟨tt,tt,⟨tt,tt,tt⟩,tt⟩ ?_
   refine W.ifP ((l.getD i 0) ≠ (0 : Int)) (.b (decide ((l.getD i 0) ≠ (0 : Int)))) (by kernel_rfl) rfl trivial ?_ ?_
   ·intro h14
    refine Kk cok tab62 hnt [] [2] (⟨[(2,.i (l.getD i 0))],[],[999]⟩)
     (True ∧ True ∧ True)
     ⟨tt,tt,tt⟩ ?_
    refine W.ret (blockQ_ret (thenQ_ret (thenQ_ret (blockQ_ret (thenQ_ret ?_)))))
    exact endQ_ret (.i (l.getD i 0)) (by kernel_rfl) (@cast ((.int .i64 (l.getD i 0) : Value) = .int .i64 (orI l)) _ (by kernel_rfl) (congrArg (Value.int .i64) (by rw [hA,orFrom_yes (by omega) h14])))
   ·intro n14
    refine W.skip (blockQ_normal (thenQ_normal ?_))
    refine Lk cok tab62 hnt [] (⟨[(3,.i (0 : Int)),(5,.i (l.getD i 0)),(6,.sl (.ints l)),(7,.i (l.length : Int)),(8,.i (((i + 1) : Nat) : Int)),(14,.b (decide ((l.getD i 0) ≠ (0 : Int)))),(16,.i (((i + 1) : Nat) : Int))],[],[999]⟩)
     ((True ∧ True ∧ (Fits .i64 (((i + 1) : Nat) : Int))) ∧ True ∧ True)
     ⟨⟨tt,tt,(by exact fits_i64 (by omega) (by omega))⟩,tt,tt⟩ ?_
    refine thenQ_normal ?_
    refine ⟨((i + 1)),(show ((i + 1) ≤ l.length) ∧ (orI l = orFrom l (i + 1)) from ⟨(by first | assumption | omega | rfl | (intro _ hjj; omega) | (simp; done) | (simp; omega)),(by rw [hA]; exact orFrom_no (by omega) n14)⟩),(show l.length - (i + 1) < l.length - i from (by first | omega | (simp_all; omega))),?_⟩
    exact Sub.of [] (@cast (((Si (0 : Int)) ∧ (Sd (.ints l)) ∧ (Si (l.length : Int)) ∧ (Si (((i + 1) : Nat) : Int)) ∧ True) ∧ True ∧ (true = true) ∧ (true = true)) _ (by kernel_rfl) ⟨⟨rfl,rfl,rfl,rfl,tt⟩,tt,rfl,rfl⟩)
  ·intro n9
   refine W.exit (thenQ_exit (thenQ_exit (blockQ_hit ?_)))
   refine thenQ_normal ?_
   refine Kk cok tab62 hnt [] [2] (⟨[(2,.i (0 : Int))],[],[999]⟩)
    (True ∧ True ∧ True)
    ⟨tt,tt,tt⟩ ?_
   refine W.ret ?_
   exact endQ_ret (.i (0 : Int)) (by kernel_rfl) (@cast ((.int .i64 (0 : Int) : Value) = .int .i64 (orI l)) _ (by kernel_rfl) (congrArg (Value.int .i64) (by rw [hA,orFrom_end (by omega)])))
theorem ent62 : Entr prog 62 := ⟨_,func62,rfl,by decide⟩
end Go.Proofs.Try

set_option linter.unusedSimpArgs false
set_option linter.unusedVariables false
namespace Go.Proofs.Try
open Go.Ab Go.RowKit
def fs38 : FnS := fnS [.o,.o] [.mark,.mark] (fun _ (a,b,_) => (.i (cmpM a b),[],True))
abbrev T38 : Tab := lk [(62,fs62),(63,fs63)]
theorem tab38 : TabOK prog T38 := (TabOK.cons ok62 ent62 (TabOK.cons ok63 ent63 TabOK.nil))
set_option maxRecDepth 100000 in
set_option maxHeartbeats 1000000 in
theorem ok38 : FnOK prog 38 fs38 := by
 refine FnOK.mk cok func38 rfl rfl rfl ?_
 rintro fl ⟨(a : MarkD),(b : MarkD),_⟩ hpre F hnt0 _
 have hnt : F.nt = 17 := hnt0.trans ntmps38
 clear hpre
 refine W.to (⟨[(0,.agg [.i a.value,.i a.proc,.i a.number,.b a.gone]),(1,.agg [.i b.value,.i b.proc,.i b.number,.b b.gone])],[],[999]⟩) rfl ?_
 refine Kk cok tab38 hnt [] [2,3] (⟨[(2,.ptr 2 0),(3,.ptr 3 0)],[(2,⟨52,.fix [.i a.value,.i a.proc,.i a.number,.b a.gone]⟩),(3,⟨52,.fix [.i b.value,.i b.proc,.i b.number,.b b.gone]⟩)],[3,2,999]⟩)
  (True ∧ True ∧ True ∧ True)
  ⟨tt,tt,tt,tt⟩ ?_
 refine W.KA cok tab38 hnt [] [4] (⟨[(4,.i (orI ([(cmpI a.proc b.proc),(cmpI a.number b.number)])))],[(2,⟨52,.fix [.i a.value,.i a.proc,.i a.number,.b a.gone]⟩),(3,⟨52,.fix [.i b.value,.i b.proc,.i b.number,.b b.gone]⟩)],[15,3,2,999]⟩)
  (True ∧ True ∧ True ∧ True ∧ (True ∧ (True ∧ True ∧ True) ∧ True) ∧ True ∧ True ∧ True ∧ True ∧ (True ∧ (True ∧ True ∧ True) ∧ True) ∧ (True ∧ True ∧ True) ∧ (True ∧ (True ∧ True) ∧ True) ∧ True ∧ True) (by kernel_rfl) (by kernel_rfl)
  ⟨tt,tt,tt,tt,⟨tt,⟨tt,tt,tt⟩,tt⟩,tt,tt,tt,tt,⟨tt,⟨tt,tt,tt⟩,tt⟩,⟨tt,tt,tt⟩,⟨tt,⟨tt,tt⟩,tt⟩,tt,tt⟩ ?_
 refine W.ret ?_
 exact endQ_ret (.i (orI ([(cmpI a.proc b.proc),(cmpI a.number b.number)]))) (by kernel_rfl) (@cast ((.int .i64 (orI ([(cmpI a.proc b.proc),(cmpI a.number b.number)])) : Value) = .int .i64 (cmpM a b)) _ (by kernel_rfl) (congrArg (Value.int .i64) (by first | rfl | simp_all)))
theorem ent38 : Entr prog 38 := ⟨_,func38,rfl,by decide⟩
end Go.Proofs.Try

set_option linter.unusedSimpArgs false
set_option linter.unusedVariables false
namespace Go.Proofs.Try
open Go.Ab Go.RowKit
def fs65 : FnS := fnS [.o] [.int] (fun _ (n,_) => (.b (!within n 0 20),[],True))
abbrev T65 : Tab := lk [(39,fs39)]
theorem tab65 : TabOK prog T65 := (TabOK.cons ok39 ent39 TabOK.nil)
set_option maxRecDepth 100000 in
set_option maxHeartbeats 1000000 in
theorem ok65 : FnOK prog 65 fs65 := by
 refine FnOK.mk cok func65 rfl rfl rfl ?_
 rintro fl ⟨(n : Int),_⟩ hpre F hnt0 _
 have hnt : F.nt = 6 := hnt0.trans ntmps65
 clear hpre
 refine W.to (⟨[(0,.i n)],[],[999]⟩) rfl ?_
 refine Kk cok tab65 hnt [] [0] (⟨[(0,.i n)],[],[999]⟩)
  (True ∧ True)
  ⟨tt,tt⟩ ?_
 refine Kk cok tab65 hnt [] [2] (⟨[(2,.b (!(within n (0 : Int) (20 : Int))))],[],[999]⟩)
  (True ∧ (True ∧ (True ∧ True ∧ True ∧ True) ∧ True) ∧ True ∧ True ∧ True)
  ⟨tt,⟨tt,⟨tt,tt,tt,tt⟩,tt⟩,tt,tt,tt⟩ ?_
 refine W.ret ?_
 exact endQ_ret (.b (!(within n (0 : Int) (20 : Int)))) (by kernel_rfl) (@cast ((.bool (!(within n (0 : Int) (20 : Int))) : Value) = .bool (!within n 0 20)) _ (by kernel_rfl) (congrArg Value.bool (by first | rfl | simp_all)))
theorem ent65 : Entr prog 65 := ⟨_,func65,rfl,by decide⟩
end Go.Proofs.Try

set_option linter.unusedSimpArgs false
set_option linter.unusedVariables false
namespace Go.Proofs.Try
open Go.Ab Go.RowKit
def fs78counts : FnS := fnS [.s .ints,.o] [.ints,(.fn0 65)] (fun _ (l,(),_) => (.i (firstI l.length (fun jj => !within (l.getD jj 0) 0 20)),[],True))
abbrev T78counts : Tab := lk [(65,fs65)]
theorem tab78counts : TabOK prog T78counts := (TabOK.cons ok65 ent65 TabOK.nil)
set_option maxRecDepth 100000 in
set_option maxHeartbeats 1000000 in
theorem ok78counts : FnOK prog 78 fs78counts := by
 refine FnOK.mk cok func78 rfl rfl rfl ?_
 rintro fl ⟨(l : List Int),⟨⟩,_⟩ hpre F hnt0 _
 have hnt : F.nt = 19 := hnt0.trans ntmps78
 clear hpre
 refine W.to (⟨[(0,.sl (.ints l)),(1,.fn 65 [])],[],[999]⟩) rfl ?_
 refine W.lenOf 0 (.ints l) (by kernel_rfl) ?_
 intro hl_l; replace hl_l : List.length l ≤ 9223372036854775807 := hl_l
 refine Kk cok tab78counts hnt [] [0,1] (⟨[(0,.sl (.ints l)),(1,.fn 65 [])],[],[999]⟩)
  (True ∧ True)
  ⟨tt,tt⟩ ?_
 refine W.seq ?_
 refine Kk cok tab78counts hnt [] [0,1,7,8] (⟨[(0,.sl (.ints l)),(1,.fn 65 []),(7,.i (l.length : Int)),(8,.i (0 : Int))],[],[999]⟩)
  (True ∧ True ∧ True ∧ True)
  ⟨tt,tt,tt,tt⟩ ?_
 refine W.block ?_
 refine W.loop (ι := Nat) (fun (i : Nat) => (⟨[(0,.sl (.ints l)),(1,.fn 65 []),(7,.i (l.length : Int)),(8,.i ((i : Nat) : Int))],[],[999]⟩ : St))
  (fun (i : Nat) => (i ≤ l.length) ∧ (∀ jj,jj < i → (!within (l.getD jj 0) 0 20) = false))
  (fun (i : Nat) => (l.length - i : Nat)) (0) ?_ ?_ ?_
 ·exact (show (0 ≤ l.length) ∧ (∀ jj,jj < 0 → (!within (l.getD jj 0) 0 20) = false) from ⟨(by first | assumption | omega | rfl | (intro _ hjj; omega) | (simp; done) | (simp; omega)),(by exact upto_zero)⟩)
 ·exact Sub.of [] (@cast (((Sd (.ints l)) ∧ (((65 : Nat) = 65) ∧ True) ∧ (Si (l.length : Int)) ∧ ((.int .i64 (0 : Int) : Value) = .int .i64 ((0 : Nat) : Int)) ∧ True) ∧ True ∧ (true = true) ∧ (true = true)) _ (by kernel_rfl) ⟨⟨rfl,⟨rfl,tt⟩,rfl,(congrArg (Value.int .i64) (by first | rfl | omega | assumption | simp | simp_all)),tt⟩,tt,rfl,rfl⟩)
 ·rintro i hC0
  have hC : (i ≤ l.length) ∧ (∀ jj,jj < i → (!within (l.getD jj 0) 0 20) = false) := hC0
  clear hC0
  obtain ⟨hi,hA⟩ := hC
  refine W.to (⟨[(0,.sl (.ints l)),(1,.fn 65 []),(7,.i (l.length : Int)),(8,.i ((i : Nat) : Int))],[],[999]⟩) rfl ?_
  refine Kk cok tab78counts hnt [] [0,1,7,8,9] (⟨[(0,.sl (.ints l)),(1,.fn 65 []),(7,.i (l.length : Int)),(8,.i ((i : Nat) : Int)),(9,.b (decide (((i : Nat) : Int) < (l.length : Int))))],[],[999]⟩)
   ((True ∧ True ∧ True) ∧ True)
   ⟨⟨tt,tt,tt⟩,tt⟩ ?_
  refine W.seq ?_
  refine W.ifP (((i : Nat) : Int) < (l.length : Int)) (.b (decide (((i : Nat) : Int) < (l.length : Int)))) (by kernel_rfl) rfl trivial ?_ ?_
  ·intro h9
   refine W.skip (thenQ_normal ?_)
   refine W.seq ?_
   refine W.block ?_
   refine Kk cok tab78counts hnt [] [0,1,5,7,8] (⟨[(0,.sl (.ints l)),(1,.fn 65 []),(5,.i ((i : Nat) : Int)),(7,.i (l.length : Int)),(8,.i ((i : Nat) : Int))],[],[999]⟩)
    (True ∧ True ∧ True)
    ⟨tt,tt,tt⟩ ?_
   refine Kk cok tab78counts hnt [] [0,1,5,7,8,16] (⟨[(0,.sl (.ints l)),(1,.fn 65 []),(5,.i ((i : Nat) : Int)),(7,.i (l.length : Int)),(8,.i ((i : Nat) : Int)),(16,.b (!within (l.getD i 0) 0 20))],[],[999]⟩)
    (True ∧ True ∧ True ∧ (True ∧ True ∧ (0 ≤ ((i : Nat) : Int)) ∧ (((i : Nat) : Int) < (l.length : Int))) ∧ True ∧ (True ∧ (True ∧ True) ∧ True) ∧ True)
    ⟨tt,tt,tt,⟨tt,tt,(by omega),(by omega)⟩,tt,⟨tt,⟨tt,tt⟩,tt⟩,tt⟩ ?_
   refine W.if' (!within (l.getD i 0) 0 20) (.b (!within (l.getD i 0) 0 20)) (by kernel_rfl) rfl trivial ?_ ?_
   ·intro h16
    refine Kk cok tab78counts hnt [] [4] (⟨[(4,.i ((i : Nat) : Int))],[],[999]⟩)
     (True ∧ True ∧ True)
     ⟨tt,tt,tt⟩ ?_
    refine W.ret (blockQ_ret (thenQ_ret (thenQ_ret (blockQ_ret (thenQ_ret ?_)))))
    exact endQ_ret (.i ((i : Nat) : Int)) (by kernel_rfl) (@cast ((.int .i64 ((i : Nat) : Int) : Value) = .int .i64 (firstI l.length (fun jj => !within (l.getD jj 0) 0 20))) _ (by kernel_rfl) (congrArg (Value.int .i64) (by exact (firstI_yes (by omega) h16 hA).symm)))
   ·intro n16
    refine W.skip (blockQ_normal (thenQ_normal ?_))
    refine Lk cok tab78counts hnt [] (⟨[(0,.sl (.ints l)),(1,.fn 65 []),(5,.i ((i : Nat) : Int)),(7,.i (l.length : Int)),(8,.i (((i + 1) : Nat) : Int)),(16,.b (!within (l.getD i 0) 0 20)),(18,.i (((i + 1) : Nat) : Int))],[],[999]⟩)
     ((True ∧ True ∧ (Fits .i64 (((i + 1) : Nat) : Int))) ∧ True ∧ True)
     ⟨⟨tt,tt,(by exact fits_i64 (by omega) (by omega))⟩,tt,tt⟩ ?_
    refine thenQ_normal ?_
    refine ⟨((i + 1)),(show ((i + 1) ≤ l.length) ∧ (∀ jj,jj < (i + 1) → (!within (l.getD jj 0) 0 20) = false) from ⟨(by first | assumption | omega | rfl | (intro _ hjj; omega) | (simp; done) | (simp; omega)),(by exact upto_succ hA n16)⟩),(show l.length - (i + 1) < l.length - i from (by first | omega | (simp_all; omega))),?_⟩
    exact Sub.of [] (@cast (((Sd (.ints l)) ∧ (((65 : Nat) = 65) ∧ True) ∧ (Si (l.length : Int)) ∧ (Si (((i + 1) : Nat) : Int)) ∧ True) ∧ True ∧ (true = true) ∧ (true = true)) _ (by kernel_rfl) ⟨⟨rfl,⟨rfl,tt⟩,rfl,rfl,tt⟩,tt,rfl,rfl⟩)
  ·intro n9
   refine W.exit (thenQ_exit (thenQ_exit (blockQ_hit ?_)))
   refine thenQ_normal ?_
   refine Kk cok tab78counts hnt [] [4] (⟨[(4,.i (-1 : Int))],[],[999]⟩)
    (True ∧ True)
    ⟨tt,tt⟩ ?_
   refine W.ret ?_
   exact endQ_ret (.i (-1 : Int)) (by kernel_rfl) (@cast ((.int .i64 (-1 : Int) : Value) = .int .i64 (firstI l.length (fun jj => !within (l.getD jj 0) 0 20))) _ (by kernel_rfl) (congrArg (Value.int .i64) (by exact (firstI_no (fun j hj => hA j (by omega))).symm)))
theorem ent78counts : Entr prog 78 := ⟨_,func78,rfl,by decide⟩
end Go.Proofs.Try

set_option linter.unusedSimpArgs false
set_option linter.unusedVariables false
namespace Go.Proofs.Try
open Go.Ab Go.RowKit
def fs64counts : FnS := fnS [.s .ints,.o] [.ints,(.fn0 65)] (fun _ (l,(),_) => (.b (anyN l.length (fun jj => !within (l.getD jj 0) 0 20)),[],True))
abbrev T64counts : Tab := lk [(78,fs78counts)]
theorem tab64counts : TabOK prog T64counts := (TabOK.cons ok78counts ent78counts TabOK.nil)
set_option maxRecDepth 100000 in
set_option maxHeartbeats 1000000 in
theorem ok64counts : FnOK prog 64 fs64counts := by
 refine FnOK.mk cok func64 rfl rfl rfl ?_
 rintro fl ⟨(l : List Int),⟨⟩,_⟩ hpre F hnt0 _
 have hnt : F.nt = 9 := hnt0.trans ntmps64
 clear hpre
 refine W.to (⟨[(0,.sl (.ints l)),(1,.fn 65 [])],[],[999]⟩) rfl ?_
 refine W.lenOf 0 (.ints l) (by kernel_rfl) ?_
 intro hl_l; replace hl_l : List.length l ≤ 9223372036854775807 := hl_l
 refine Kk cok tab64counts hnt [] [0,1] (⟨[(0,.sl (.ints l)),(1,.fn 65 [])],[],[999]⟩)
  (True ∧ True)
  ⟨tt,tt⟩ ?_
 refine Kk cok tab64counts hnt [] [4] (⟨[(4,.b (decide ((0 : Int) ≤ (firstI l.length (fun jj => !within (l.getD jj 0) 0 20)))))],[],[999]⟩)
  (True ∧ True ∧ (True ∧ (True ∧ True ∧ True) ∧ True) ∧ (True ∧ True ∧ True) ∧ True ∧ True)
  ⟨tt,tt,⟨tt,⟨tt,tt,tt⟩,tt⟩,⟨tt,tt,tt⟩,tt,tt⟩ ?_
 refine W.ret ?_
 exact endQ_ret (.b (decide ((0 : Int) ≤ (firstI l.length (fun jj => !within (l.getD jj 0) 0 20))))) (by kernel_rfl) (@cast ((.bool (decide ((0 : Int) ≤ (firstI l.length (fun jj => !within (l.getD jj 0) 0 20)))) : Value) = .bool (anyN l.length (fun jj => !within (l.getD jj 0) 0 20))) _ (by kernel_rfl) (congrArg Value.bool (by exact firstI_has _ _)))
theorem ent64counts : Entr prog 64 := ⟨_,func64,rfl,by decide⟩
end Go.Proofs.Try

set_option linter.unusedSimpArgs false
set_option linter.unusedVariables false
namespace Go.Proofs.Try
open Go.Ab Go.RowKit
def fs40 : FnS := fnS [.s .ints] [.ints] (fun _ (l,_) => (.b (countsOK l),[],True))
abbrev T40 : Tab := lk [(64,fs64counts)]
theorem tab40 : TabOK prog T40 := (TabOK.cons ok64counts ent64counts TabOK.nil)
set_option maxRecDepth 100000 in
set_option maxHeartbeats 1000000 in
theorem ok40 : FnOK prog 40 fs40 := by
 refine FnOK.mk cok func40 rfl rfl rfl ?_
 rintro fl ⟨(l : List Int),_⟩ hpre F hnt0 _
 have hnt : F.nt = 11 := hnt0.trans ntmps40
 clear hpre
 refine W.to (⟨[(0,.sl (.ints l))],[],[999]⟩) rfl ?_
 refine W.lenOf 0 (.ints l) (by kernel_rfl) ?_
 intro hl_l; replace hl_l : List.length l ≤ 9223372036854775807 := hl_l
 refine Kk cok tab40 hnt [] [0] (⟨[(0,.sl (.ints l))],[],[999]⟩)
  (True ∧ True)
  ⟨tt,tt⟩ ?_
 refine Kk cok tab40 hnt [] [2] (⟨[(2,.b ((decide ((l.length : Int) = (3 : Int))) && (!(anyN l.length (fun jj => !within (l.getD jj 0) 0 20)))))],[],[999]⟩)
  ((fun (Z1:Bool)=>(True ∧ (True ∧ ((True ∧ (True ∧ True)) ∧ (True ∧ ((Z1 = true → True) ∧ ((Z1 = true → (True ∧ ((((Z1 = true) ∧ True) ∧ (True ∧ True)) ∧ True))) ∧ ((Z1 = true → ((Z1 = true) ∧ True)) ∧ ((True ∧ ((Z1 = true → (Z1 = true) ∧ True) ∧ (Z1 = false → True))) ∧ (True ∧ True)))))))))) (decide ((l.length : Int) = (3 : Int))))
  ⟨tt,tt,⟨tt,tt,tt⟩,tt,(fun _ => trivial),(fun hG => ⟨tt,⟨⟨hG,tt⟩,tt,tt⟩,tt⟩),(fun hG => ⟨hG,tt⟩),⟨tt,(fun hp => ⟨hp,tt⟩),(fun _ => trivial)⟩,tt,tt⟩ ?_
 refine W.ret ?_
 exact endQ_ret (.b ((decide ((l.length : Int) = (3 : Int))) && (!(anyN l.length (fun jj => !within (l.getD jj 0) 0 20))))) (by kernel_rfl) (@cast ((.bool ((decide ((l.length : Int) = (3 : Int))) && (!(anyN l.length (fun jj => !within (l.getD jj 0) 0 20)))) : Value) = .bool (countsOK l)) _ (by kernel_rfl) (congrArg Value.bool (by exact counts_impl l)))
theorem ent40 : Entr prog 40 := ⟨_,func40,rfl,by decide⟩
end Go.Proofs.Try

set_option linter.unusedSimpArgs false
set_option linter.unusedVariables false
namespace Go.Proofs.Try
open Go.Ab Go.RowKit
def fs12 : FnS := fnS [.a [some .ints,some .ints,none,none,none,some .marks]] [.copy] (fun _ (c,_) => (.b (validCopy c),[],True))
abbrev T12 : Tab := lk [(37,fs37),(38,fs38),(39,fs39),(40,fs40)]
theorem tab12 : TabOK prog T12 := (TabOK.cons ok37 ent37 (TabOK.cons ok38 ent38 (TabOK.cons ok39 ent39 (TabOK.cons ok40 ent40 TabOK.nil))))
set_option maxRecDepth 100000 in
set_option maxHeartbeats 1000000 in
theorem ok12 : FnOK prog 12 fs12 := by
 refine FnOK.mk cok func12 rfl rfl rfl ?_
 rintro fl ⟨(c : CopyD),_⟩ hpre F hnt0 _
 have hnt : F.nt = 78 := hnt0.trans ntmps12
 clear hpre
 refine W.to (⟨[(0,.agg (cC c))],[],[999]⟩) rfl ?_
 refine W.lenA 0 0 (cC c) (.ints c.up) (by kernel_rfl) (by kernel_rfl) ?_
 intro hl_c_up; replace hl_c_up : List.length c.up ≤ 9223372036854775807 := hl_c_up
 refine W.lenA 0 1 (cC c) (.ints c.down) (by kernel_rfl) (by kernel_rfl) ?_
 intro hl_c_down; replace hl_c_down : List.length c.down ≤ 9223372036854775807 := hl_c_down
 refine W.lenA 0 5 (cC c) (.marks c.marks) (by kernel_rfl) (by kernel_rfl) ?_
 intro hl_c_marks; replace hl_c_marks : List.length c.marks ≤ 9223372036854775807 := hl_c_marks
 refine Kk cok tab12 hnt [] [1] (⟨[(1,.ptr 1 0)],[(1,⟨26,.fix (cC c)⟩)],[1,999]⟩)
  (True ∧ True ∧ True)
  ⟨tt,tt,tt⟩ ?_
 refine W.seq ?_
 refine Kk cok tab12 hnt [] [1,7,8,9] (⟨[(1,.ptr 1 0),(7,.sl (.marks c.marks)),(8,.i (((List.length c.marks) : Nat) : Int)),(9,.i (0 : Int))],[(1,⟨26,.fix (cC c)⟩)],[1,999]⟩)
  (True ∧ True ∧ True ∧ True ∧ True)
  ⟨tt,tt,tt,tt,tt⟩ ?_
 refine W.block ?_
 refine W.loop (ι := Nat) (fun (i : Nat) => (⟨[(1,.ptr 1 0),(7,.sl (.marks c.marks)),(8,.i (((List.length c.marks) : Nat) : Int)),(9,.i ((i : Nat) : Int))],[(1,⟨26,.fix (cC c)⟩)],[1,999]⟩ : St))
  (fun (i : Nat) => (i ≤ c.marks.length) ∧ (∀ j,j < i → markOK c.marks j = true))
  (fun (i : Nat) => (c.marks.length - i : Nat)) (0) ?_ ?_ ?_
 ·exact (show (0 ≤ c.marks.length) ∧ (∀ j,j < 0 → markOK c.marks j = true) from ⟨(by first | assumption | omega | rfl | (intro _ hjj; omega) | (simp; done) | (simp; omega)),(by exact upto_zero)⟩)
 ·exact Sub.of [] (@cast (((((1 : Nat) = 1) ∧ ((0 : Nat) = 0) ∧ ((1 : Nat) ∈ ([1,999] : List Nat))) ∧ (Sd (.marks c.marks)) ∧ (Si (((List.length c.marks) : Nat) : Int)) ∧ ((.int .i64 (0 : Int) : Value) = .int .i64 ((0 : Nat) : Int)) ∧ True) ∧ ((((26 : Nat) = 26) ∧ (Sc c) ∧ ((1 : Nat) ∈ ([1,999] : List Nat))) ∧ True) ∧ (true = true) ∧ (true = true)) _ (by kernel_rfl) ⟨⟨⟨rfl,rfl,(by decide)⟩,rfl,rfl,(congrArg (Value.int .i64) (by first | rfl | omega | assumption | simp | simp_all)),tt⟩,⟨⟨rfl,⟨rfl,rfl,rfl,rfl,rfl,rfl,tt⟩,(by decide)⟩,tt⟩,rfl,rfl⟩)
 ·rintro i hC0
  have hC : (i ≤ c.marks.length) ∧ (∀ j,j < i → markOK c.marks j = true) := hC0
  clear hC0
  obtain ⟨hi,hA⟩ := hC
  refine W.to (⟨[(1,.ptr 1 0),(7,.sl (.marks c.marks)),(8,.i (((List.length c.marks) : Nat) : Int)),(9,.i ((i : Nat) : Int))],[(1,⟨26,.fix (cC c)⟩)],[1,999]⟩) rfl ?_
  refine Kk cok tab12 hnt [] [1,7,8,9,10] (⟨[(1,.ptr 1 0),(7,.sl (.marks c.marks)),(8,.i (((List.length c.marks) : Nat) : Int)),(9,.i ((i : Nat) : Int)),(10,.b (decide (((i : Nat) : Int) < (((List.length c.marks) : Nat) : Int))))],[(1,⟨26,.fix (cC c)⟩)],[1,999]⟩)
   ((True ∧ True ∧ True) ∧ True)
   ⟨⟨tt,tt,tt⟩,tt⟩ ?_
  refine W.seq ?_
  refine W.ifP (((i : Nat) : Int) < (((List.length c.marks) : Nat) : Int)) (.b (decide (((i : Nat) : Int) < (((List.length c.marks) : Nat) : Int)))) (by kernel_rfl) rfl trivial ?_ ?_
  ·intro h10
   refine W.skip (thenQ_normal ?_)
   refine W.seq ?_
   refine W.block ?_
   refine Kk cok tab12 hnt [] [1,3,4,7,8,9] (⟨[(1,.ptr 1 0),(3,.i ((i : Nat) : Int)),(4,.ptr 4 0),(7,.sl (.marks c.marks)),(8,.i (((List.length c.marks) : Nat) : Int)),(9,.i ((i : Nat) : Int))],[(1,⟨26,.fix (cC c)⟩),(4,⟨52,.fix [.i ((List.getD c.marks i default).value),.i ((List.getD c.marks i default).proc),.i ((List.getD c.marks i default).number),.b ((List.getD c.marks i default).gone)]⟩)],[4,1,999]⟩)
    (True ∧ (True ∧ True ∧ (0 ≤ ((i : Nat) : Int)) ∧ (((i : Nat) : Int) < (((List.length c.marks) : Nat) : Int))) ∧ True ∧ True ∧ True ∧ (True ∧ True) ∧ True)
    ⟨tt,⟨tt,tt,(by omega),(by omega)⟩,tt,tt,tt,⟨tt,tt⟩,tt⟩ ?_
   refine W.KA cok tab12 hnt [] [1,7,8,9,31] (⟨[(1,.ptr 1 0),(7,.sl (.marks c.marks)),(8,.i (((List.length c.marks) : Nat) : Int)),(9,.i ((i : Nat) : Int)),(31,.b ((!(isMark (List.getD c.marks i default))) || ((decide ((0 : Int) < ((i : Nat) : Int))) && (decide ((0 : Int) ≤ (cmpM (List.getD c.marks (Int.toNat (((i : Nat) : Int) - (1 : Int))) default) (List.getD c.marks i default)))))))],[(1,⟨26,.fix (cC c)⟩),(4,⟨52,.fix [.i ((List.getD c.marks i default).value),.i ((List.getD c.marks i default).proc),.i ((List.getD c.marks i default).number),.b ((List.getD c.marks i default).gone)]⟩)],[4,1,999]⟩)
    ((fun (Z1:Bool)=>((fun (Z2:Bool)=>((fun (Z3:Bool)=>((fun (Z4:Bool)=>(True ∧ ((True ∧ ((True ∧ True) ∧ True)) ∧ (True ∧ (True ∧ ((Z3 = true → True) ∧ ((Z3 = true → (((Z3 = true) ∧ True) ∧ (True ∧ True))) ∧ ((Z3 = true → True) ∧ ((Z4 = true → True) ∧ ((Z4 = true → ((Z4 = true) ∧ True)) ∧ ((Z4 = true → True) ∧ ((Z4 = true → (((Z4 = true) ∧ True) ∧ (True ∧ (Fits .i64 (((i : Nat) : Int) - (1 : Int)))))) ∧ ((Z4 = true → (((Z4 = true) ∧ True) ∧ (((Z4 = true) ∧ True) ∧ ((0 ≤ (((i : Nat) : Int) - (1 : Int))) ∧ ((((i : Nat) : Int) - (1 : Int)) < (((List.length c.marks) : Nat) : Int)))))) ∧ ((Z4 = true → ((Z4 = true) ∧ True)) ∧ ((Z4 = true → True) ∧ ((Z4 = true → (True ∧ ((((Z4 = true) ∧ True) ∧ (((Z4 = true) ∧ True) ∧ True)) ∧ True))) ∧ ((Z4 = true → (((Z4 = true) ∧ True) ∧ (True ∧ True))) ∧ ((Z3 = true → (((Z3 = true) ∧ ((Z3 = true) ∧ True)) ∧ ((Z1 = true → (Z4 = true) ∧ True) ∧ (Z1 = false → True)))) ∧ ((True ∧ ((Z2 = true → True) ∧ (Z2 = false → (Z3 = true) ∧ True))) ∧ True))))))))))))))))))) (Z3 && (Z3 && Z1)))) (!Z2))) (!(isMark (List.getD c.marks i default))))) (decide ((0 : Int) < ((i : Nat) : Int)))) (by kernel_rfl) (by kernel_rfl)
    ⟨tt,⟨tt,⟨tt,tt⟩,tt⟩,tt,tt,(fun _ => trivial),(fun hG => ⟨⟨hG,tt⟩,tt,tt⟩),(fun _ => trivial),(fun _ => trivial),(fun hG => ⟨hG,tt⟩),(fun _ => trivial),(fun hG => ⟨⟨hG,tt⟩,tt,(by have hg0 : (0 : Int) < ((i : Nat) : Int) := of_decide_eq_true (and_r (and_r hG)); exact fits_i64 (by omega) (by omega))⟩),(fun hG => ⟨⟨hG,tt⟩,⟨hG,tt⟩,(by have hg0 : (0 : Int) < ((i : Nat) : Int) := of_decide_eq_true (and_r (and_r hG)); omega),(by have hg0 : (0 : Int) < ((i : Nat) : Int) := of_decide_eq_true (and_r (and_r hG)); omega)⟩),(fun hG => ⟨hG,tt⟩),(fun _ => trivial),(fun hG => ⟨tt,⟨⟨hG,tt⟩,⟨hG,tt⟩,tt⟩,tt⟩),(fun hG => ⟨⟨hG,tt⟩,tt,tt⟩),(fun hG => ⟨⟨hG,hG,tt⟩,(fun hp => ⟨(and_t hG (and_t hG hp)),tt⟩),(fun _ => trivial)⟩),⟨tt,(fun _ => trivial),(fun hp => ⟨(not_t hp),tt⟩)⟩,tt⟩ ?_
   refine W.if' ((!(isMark (List.getD c.marks i default))) || ((decide ((0 : Int) < ((i : Nat) : Int))) && (decide ((0 : Int) ≤ (cmpM (List.getD c.marks (Int.toNat (((i : Nat) : Int) - (1 : Int))) default) (List.getD c.marks i default)))))) (.b ((!(isMark (List.getD c.marks i default))) || ((decide ((0 : Int) < ((i : Nat) : Int))) && (decide ((0 : Int) ≤ (cmpM (List.getD c.marks (Int.toNat (((i : Nat) : Int) - (1 : Int))) default) (List.getD c.marks i default))))))) (by kernel_rfl) rfl trivial ?_ ?_
   ·intro h31
    refine Kk cok tab12 hnt [] [2] (⟨[(2,.b false)],[(1,⟨26,.fix (cC c)⟩),(4,⟨52,.fix [.i ((List.getD c.marks i default).value),.i ((List.getD c.marks i default).proc),.i ((List.getD c.marks i default).number),.b ((List.getD c.marks i default).gone)]⟩)],[4,1,999]⟩)
     (True ∧ True)
     ⟨tt,tt⟩ ?_
    refine W.ret (blockQ_ret (thenQ_ret (thenQ_ret (blockQ_ret (thenQ_ret ?_)))))
    exact endQ_ret (.b false) (by kernel_rfl) (@cast ((.bool false : Value) = .bool (validCopy c)) _ (by kernel_rfl) (congrArg Value.bool (by rw [show ((i : Int) - 1).toNat = i - 1 by omega,cmpM_less] at h31; exact (valid_marks (mark_bad (i := i) (by omega) (markI_no h31))).symm)))
   ·intro n31
    refine W.skip (blockQ_normal (thenQ_normal ?_))
    refine Lk cok tab12 hnt [] (⟨[(1,.ptr 1 0),(7,.sl (.marks c.marks)),(8,.i (((List.length c.marks) : Nat) : Int)),(9,.i (((i + 1) : Nat) : Int)),(31,.b ((!(isMark (List.getD c.marks i default))) || ((decide ((0 : Int) < ((i : Nat) : Int))) && (decide ((0 : Int) ≤ (cmpM (List.getD c.marks (Int.toNat (((i : Nat) : Int) - (1 : Int))) default) (List.getD c.marks i default))))))),(32,.i (((i + 1) : Nat) : Int))],[(1,⟨26,.fix (cC c)⟩),(4,⟨52,.fix [.i ((List.getD c.marks i default).value),.i ((List.getD c.marks i default).proc),.i ((List.getD c.marks i default).number),.b ((List.getD c.marks i default).gone)]⟩)],[4,1,999]⟩)
     ((True ∧ True ∧ (Fits .i64 (((i + 1) : Nat) : Int))) ∧ True ∧ True)
     ⟨⟨tt,tt,(by exact fits_i64 (by omega) (by omega))⟩,tt,tt⟩ ?_
    refine thenQ_normal ?_
    refine ⟨((i + 1)),(show ((i + 1) ≤ c.marks.length) ∧ (∀ j,j < (i + 1) → markOK c.marks j = true) from ⟨(by first | assumption | omega | rfl | (intro _ hjj; omega) | (simp; done) | (simp; omega)),(by rw [show ((i : Int) - 1).toNat = i - 1 by omega,cmpM_less] at n31; exact upto_succ hA (markI_ok n31))⟩),(show c.marks.length - (i + 1) < c.marks.length - i from (by first | omega | (simp_all; omega))),?_⟩
    exact Sub.of [] (@cast (((((1 : Nat) = 1) ∧ ((0 : Nat) = 0) ∧ ((1 : Nat) ∈ ([1,999] : List Nat))) ∧ (Sd (.marks c.marks)) ∧ (Si (((List.length c.marks) : Nat) : Int)) ∧ (Si (((i + 1) : Nat) : Int)) ∧ True) ∧ ((((26 : Nat) = 26) ∧ (Sc c) ∧ ((1 : Nat) ∈ ([1,999] : List Nat))) ∧ True) ∧ (true = true) ∧ (true = true)) _ (by kernel_rfl) ⟨⟨⟨rfl,rfl,(by decide)⟩,rfl,rfl,rfl,tt⟩,⟨⟨rfl,⟨rfl,rfl,rfl,rfl,rfl,rfl,tt⟩,(by decide)⟩,tt⟩,rfl,rfl⟩)
  ·intro n10
   refine W.exit (thenQ_exit (thenQ_exit (blockQ_hit ?_)))
   refine thenQ_normal ?_
   refine Kk cok tab12 hnt [] [1,5] (⟨[(1,.ptr 1 0),(5,.b ((((within c.value (0 : Int) (3 : Int)) && (within c.time (0 : Int) (30 : Int))) && (within c.proc (0 : Int) (2 : Int))) && ((decide ((0 : Int) < c.time)) || ((decide (c.value = (0 : Int))) && (decide (c.proc = (0 : Int)))))))],[(1,⟨26,.fix (cC c)⟩)],[1,999]⟩)
    ((fun (Z1:Bool)=>((fun (Z2:Bool)=>((fun (Z3:Bool)=>((fun (Z4:Bool)=>((fun (Z5:Bool)=>((fun (Z6:Bool)=>((fun (Z7:Bool)=>(True ∧ (True ∧ ((True ∧ ((True ∧ (True ∧ (True ∧ True))) ∧ True)) ∧ (True ∧ ((Z3 = true → True) ∧ ((Z3 = true → ((Z3 = true) ∧ True)) ∧ ((Z3 = true → (True ∧ ((((Z3 = true) ∧ True) ∧ (True ∧ (True ∧ True))) ∧ True))) ∧ ((True ∧ ((Z3 = true → (Z3 = true) ∧ True) ∧ (Z3 = false → True))) ∧ (True ∧ ((Z4 = true → True) ∧ ((Z4 = true → ((Z4 = true) ∧ True)) ∧ ((Z4 = true → (True ∧ ((((Z4 = true) ∧ True) ∧ (True ∧ (True ∧ True))) ∧ True))) ∧ ((True ∧ ((Z4 = true → (Z4 = true) ∧ True) ∧ (Z4 = false → True))) ∧ (True ∧ ((Z5 = true → True) ∧ ((Z5 = true → ((Z5 = true) ∧ True)) ∧ ((Z5 = true → (((Z5 = true) ∧ True) ∧ (True ∧ True))) ∧ ((Z5 = true → True) ∧ ((Z6 = true → True) ∧ ((Z6 = true → ((Z6 = true) ∧ True)) ∧ ((Z6 = true → (((Z6 = true) ∧ True) ∧ (True ∧ True))) ∧ ((Z6 = true → True) ∧ ((Z7 = true → True) ∧ ((Z7 = true → ((Z7 = true) ∧ True)) ∧ ((Z7 = true → (((Z7 = true) ∧ True) ∧ (True ∧ True))) ∧ ((Z6 = true → (((Z6 = true) ∧ ((Z6 = true) ∧ True)) ∧ ((Z2 = true → (Z7 = true) ∧ True) ∧ (Z2 = false → True)))) ∧ ((Z5 = true → (((Z5 = true) ∧ ((Z5 = true) ∧ True)) ∧ ((Z1 = true → True) ∧ (Z1 = false → (Z6 = true) ∧ True)))) ∧ ((True ∧ ((Z5 = true → (Z5 = true) ∧ True) ∧ (Z5 = false → True))) ∧ (True ∧ True)))))))))))))))))))))))))))))) (Z6 && (Z6 && Z2)))) (Z5 && (Z5 && (!Z1))))) (Z4 && (within c.proc (0 : Int) (2 : Int))))) (Z3 && (within c.time (0 : Int) (30 : Int))))) (within c.value (0 : Int) (3 : Int)))) (decide (c.value = (0 : Int))))) (decide ((0 : Int) < c.time)))
    ⟨tt,tt,⟨tt,⟨tt,tt,tt,tt⟩,tt⟩,tt,(fun _ => trivial),(fun hG => ⟨hG,tt⟩),(fun hG => ⟨tt,⟨⟨hG,tt⟩,tt,tt,tt⟩,tt⟩),⟨tt,(fun hp => ⟨hp,tt⟩),(fun _ => trivial)⟩,tt,(fun _ => trivial),(fun hG => ⟨hG,tt⟩),(fun hG => ⟨tt,⟨⟨hG,tt⟩,tt,tt,tt⟩,tt⟩),⟨tt,(fun hp => ⟨hp,tt⟩),(fun _ => trivial)⟩,tt,(fun _ => trivial),(fun hG => ⟨hG,tt⟩),(fun hG => ⟨⟨hG,tt⟩,tt,tt⟩),(fun _ => trivial),(fun _ => trivial),(fun hG => ⟨hG,tt⟩),(fun hG => ⟨⟨hG,tt⟩,tt,tt⟩),(fun _ => trivial),(fun _ => trivial),(fun hG => ⟨hG,tt⟩),(fun hG => ⟨⟨hG,tt⟩,tt,tt⟩),(fun hG => ⟨⟨hG,hG,tt⟩,(fun hp => ⟨(and_t hG (and_t hG hp)),tt⟩),(fun _ => trivial)⟩),(fun hG => ⟨⟨hG,hG,tt⟩,(fun _ => trivial),(fun hp => ⟨(and_t hG (and_t hG (not_t hp))),tt⟩)⟩),⟨tt,(fun hp => ⟨hp,tt⟩),(fun _ => trivial)⟩,tt,tt⟩ ?_
   refine Kk cok tab12 hnt [] [2] (⟨[(2,.b ((((countsOK c.up) && (countsOK c.down)) && ((((within c.value (0 : Int) (3 : Int)) && (within c.time (0 : Int) (30 : Int))) && (within c.proc (0 : Int) (2 : Int))) && ((decide ((0 : Int) < c.time)) || ((decide (c.value = (0 : Int))) && (decide (c.proc = (0 : Int))))))) && (decide ((((List.length c.marks) : Nat) : Int) ≤ (20 : Int)))))],[(1,⟨26,.fix (cC c)⟩)],[1,999]⟩)
    ((fun (Z1:Bool)=>((fun (Z2:Bool)=>((fun (Z3:Bool)=>(True ∧ (True ∧ ((True ∧ ((True ∧ True) ∧ True)) ∧ (True ∧ ((Z1 = true → True) ∧ ((Z1 = true → ((Z1 = true) ∧ True)) ∧ ((Z1 = true → (True ∧ ((((Z1 = true) ∧ True) ∧ True) ∧ True))) ∧ ((True ∧ ((Z1 = true → (Z1 = true) ∧ True) ∧ (Z1 = false → True))) ∧ (True ∧ ((Z2 = true → True) ∧ ((True ∧ ((Z2 = true → (Z2 = true) ∧ True) ∧ (Z2 = false → True))) ∧ (True ∧ ((Z3 = true → True) ∧ ((Z3 = true → ((Z3 = true) ∧ True)) ∧ ((Z3 = true → ((Z3 = true) ∧ True)) ∧ ((Z3 = true → (((Z3 = true) ∧ True) ∧ (True ∧ True))) ∧ ((True ∧ ((Z3 = true → (Z3 = true) ∧ True) ∧ (Z3 = false → True))) ∧ (True ∧ True))))))))))))))))))) (Z2 && ((((within c.value (0 : Int) (3 : Int)) && (within c.time (0 : Int) (30 : Int))) && (within c.proc (0 : Int) (2 : Int))) && ((decide ((0 : Int) < c.time)) || ((decide (c.value = (0 : Int))) && (decide (c.proc = (0 : Int))))))))) (Z1 && (countsOK c.down)))) (countsOK c.up))
    ⟨tt,tt,⟨tt,⟨tt,tt⟩,tt⟩,tt,(fun _ => trivial),(fun hG => ⟨hG,tt⟩),(fun hG => ⟨tt,⟨⟨hG,tt⟩,tt⟩,tt⟩),⟨tt,(fun hp => ⟨hp,tt⟩),(fun _ => trivial)⟩,tt,(fun _ => trivial),⟨tt,(fun hp => ⟨hp,tt⟩),(fun _ => trivial)⟩,tt,(fun _ => trivial),(fun hG => ⟨hG,tt⟩),(fun hG => ⟨hG,tt⟩),(fun hG => ⟨⟨hG,tt⟩,tt,tt⟩),⟨tt,(fun hp => ⟨hp,tt⟩),(fun _ => trivial)⟩,tt,tt⟩ ?_
   refine W.ret ?_
   exact endQ_ret (.b ((((countsOK c.up) && (countsOK c.down)) && ((((within c.value (0 : Int) (3 : Int)) && (within c.time (0 : Int) (30 : Int))) && (within c.proc (0 : Int) (2 : Int))) && ((decide ((0 : Int) < c.time)) || ((decide (c.value = (0 : Int))) && (decide (c.proc = (0 : Int))))))) && (decide ((((List.length c.marks) : Nat) : Int) ≤ (20 : Int))))) (by kernel_rfl) (@cast ((.bool ((((countsOK c.up) && (countsOK c.down)) && ((((within c.value (0 : Int) (3 : Int)) && (within c.time (0 : Int) (30 : Int))) && (within c.proc (0 : Int) (2 : Int))) && ((decide ((0 : Int) < c.time)) || ((decide (c.value = (0 : Int))) && (decide (c.proc = (0 : Int))))))) && (decide ((((List.length c.marks) : Nat) : Int) ≤ (20 : Int)))) : Value) = .bool (validCopy c)) _ (by kernel_rfl) (congrArg Value.bool (by exact valid_impl (allN_true (fun j hj => hA j (by omega))))))
theorem ent12 : Entr prog 12 := ⟨_,func12,rfl,by decide⟩
end Go.Proofs.Try

set_option linter.unusedSimpArgs false
set_option linter.unusedVariables false
namespace Go.Proofs.Try
open Go.Ab Go.RowKit Go.Shelf Go.Proofs
def fs59 : FnS := fnS [.c .ints 3] [.ints] (fun _ (l,_) => (.own 0 (List.length (Lib.compact l)),[(3,.ints (Lib.compact l))],(l.length ≤ 1000)))
def renC : Go.Shelf.Ren := ⟨fun _ => 59,fun k => bif Nat.beq k 0 then 0 else bif Nat.beq k 3 then 3 else bif Nat.beq k 4 then 4 else bif Nat.beq k 22 then 23 else k,fun k => k⟩
set_option maxRecDepth 100000 in
theorem laysC : Go.Proofs.Lays2.n20 prog renC where
 mixed := by kernel_rfl
 f20 := by kernel_rfl
 t0 := underlying0
 a0 := isAgg0
 z0 := sizeOf0
 v0 := zeroValue0
 t3 := underlying3
 a3 := isAgg3
 z3 := sizeOf3
 v3 := zeroValue3
 t4 := underlying4
 a4 := isAgg4
 z4 := sizeOf4
 v4 := zeroValue4
 t22 := underlying23
 a22 := isAgg23
 z22 := sizeOf23
 v22 := zeroValue23
 i3 := by kernel_rfl
theorem ok59 : FnOK prog 59 fs59 := compact_ok laysC
theorem ent59 : Entr prog 59 := ⟨_,func59,rfl,by decide⟩
end Go.Proofs.Try

set_option linter.unusedSimpArgs false
set_option linter.unusedVariables false
namespace Go.Proofs.Try
open Go.Ab Go.RowKit Go.Shelf Go.Proofs Go.Lib
def renS : Go.Shelf.Ren := ⟨fun k => bif Nat.beq k 125 then 76 else bif Nat.beq k 128 then 90 else bif Nat.beq k 129 then 91 else bif Nat.beq k 189 then 58 else bif Nat.beq k 215 then 77 else bif Nat.beq k 216 then 87 else bif Nat.beq k 257 then 75 else bif Nat.beq k 294 then 81 else bif Nat.beq k 295 then 82 else bif Nat.beq k 296 then 83 else bif Nat.beq k 297 then 84 else bif Nat.beq k 298 then 85 else bif Nat.beq k 299 then 86 else bif Nat.beq k 300 then 88 else bif Nat.beq k 301 then 89 else bif Nat.beq k 328 then 93 else bif Nat.beq k 329 then 94 else bif Nat.beq k 330 then 95 else bif Nat.beq k 331 then 96 else bif Nat.beq k 332 then 97 else bif Nat.beq k 343 then 98 else k,fun k => bif Nat.beq k 0 then 0 else bif Nat.beq k 3 then 3 else bif Nat.beq k 4 then 4 else bif Nat.beq k 5 then 5 else bif Nat.beq k 9 then 9 else bif Nat.beq k 28 then 23 else bif Nat.beq k 46 then 80 else bif Nat.beq k 51 then 95 else bif Nat.beq k 53 then 97 else bif Nat.beq k 131 then 63 else bif Nat.beq k 182 then 87 else bif Nat.beq k 183 then 88 else bif Nat.beq k 218 then 99 else bif Nat.beq k 222 then 103 else bif Nat.beq k 228 then 105 else bif Nat.beq k 229 then 106 else k,fun k => k⟩
set_option maxRecDepth 100000 in
theorem laysS : Go.Proofs.Lays.n189 prog renS where
 mixed := by kernel_rfl
 f125 := by kernel_rfl
 f128 := by kernel_rfl
 f129 := by kernel_rfl
 f189 := by kernel_rfl
 f215 := by kernel_rfl
 f216 := by kernel_rfl
 f257 := by kernel_rfl
 f294 := by kernel_rfl
 f295 := by kernel_rfl
 f296 := by kernel_rfl
 f297 := by kernel_rfl
 f298 := by kernel_rfl
 f299 := by kernel_rfl
 f300 := by kernel_rfl
 f301 := by kernel_rfl
 f328 := by kernel_rfl
 f329 := by kernel_rfl
 f330 := by kernel_rfl
 f331 := by kernel_rfl
 f332 := by kernel_rfl
 f343 := by kernel_rfl
 t0 := underlying0
 a0 := isAgg0
 z0 := sizeOf0
 v0 := zeroValue0
 t3 := underlying3
 a3 := isAgg3
 z3 := sizeOf3
 v3 := zeroValue3
 t4 := underlying4
 a4 := isAgg4
 z4 := sizeOf4
 v4 := zeroValue4
 t5 := underlying5
 a5 := isAgg5
 z5 := sizeOf5
 v5 := zeroValue5
 t9 := underlying9
 a9 := isAgg9
 z9 := sizeOf9
 v9 := zeroValue9
 t28 := underlying23
 a28 := isAgg23
 z28 := sizeOf23
 v28 := zeroValue23
 t46 := underlying80
 a46 := isAgg80
 z46 := sizeOf80
 v46 := zeroValue80
 t51 := underlying95
 a51 := isAgg95
 z51 := sizeOf95
 v51 := zeroValue95
 t53 := underlying97
 a53 := isAgg97
 z53 := sizeOf97
 v53 := zeroValue97
 t131 := underlying63
 a131 := isAgg63
 z131 := sizeOf63
 v131 := zeroValue63
 t182 := underlying87
 a182 := isAgg87
 z182 := sizeOf87
 v182 := zeroValue87
 t183 := underlying88
 a183 := isAgg88
 z183 := sizeOf88
 v183 := zeroValue88
 t218 := underlying99
 a218 := isAgg99
 z218 := sizeOf99
 v218 := zeroValue99
 t222 := underlying103
 a222 := isAgg103
 z222 := sizeOf103
 v222 := zeroValue103
 t228 := underlying105
 a228 := isAgg105
 z228 := sizeOf105
 v228 := zeroValue105
 t229 := underlying106
 a229 := isAgg106
 z229 := sizeOf106
 v229 := zeroValue106
theorem hok58 : ∀ (l : List Int),(List.length l ≤ 1000) → HOK prog 58 [911] [.own 911 l.length] [(911,⟨3,.row (.ints l)⟩)] [911] (fun r s1 u1 => r = (.tup []) ∧ s1 = [(911,⟨3,.row (.ints (sortI l))⟩)] ∧ u1 = [911]) := fun l hl => sort_hok laysS l (by omega)
theorem ent58 : Entr prog 58 := ⟨_,func58,rfl,by decide⟩
end Go.Proofs.Try

set_option linter.unusedSimpArgs false
set_option linter.unusedVariables false
namespace Go.Proofs.Try
open Go.Ab Go.RowKit
def fs30 : FnS := fnS [.a [some .ints,some .ints,none,none,none,some .marks]] [.copy] (fun _ (c,_) => (.own 0 (List.length (valuesC c)),[(3,.ints (valuesC c))],True))
abbrev T30 : Tab := lk [(12,fs12),(59,fs59)]
theorem tab30 : TabOK prog T30 := (TabOK.cons ok12 ent12 (TabOK.cons ok59 ent59 TabOK.nil))
set_option maxRecDepth 100000 in
set_option maxHeartbeats 1000000 in
theorem ok30 : FnOK prog 30 fs30 := by
 refine FnOK.mk cok func30 rfl rfl rfl ?_
 rintro fl ⟨(c : CopyD),_⟩ hpre F hnt0 _
 have hnt : F.nt = 31 := hnt0.trans ntmps30
 clear hpre
 refine W.to (⟨[(0,.agg (cC c))],[],[999]⟩) rfl ?_
 refine W.lenA 0 0 (cC c) (.ints c.up) (by kernel_rfl) (by kernel_rfl) ?_
 intro hl_c_up; replace hl_c_up : List.length c.up ≤ 9223372036854775807 := hl_c_up
 refine W.lenA 0 1 (cC c) (.ints c.down) (by kernel_rfl) (by kernel_rfl) ?_
 intro hl_c_down; replace hl_c_down : List.length c.down ≤ 9223372036854775807 := hl_c_down
 refine W.lenA 0 5 (cC c) (.marks c.marks) (by kernel_rfl) (by kernel_rfl) ?_
 intro hl_c_marks; replace hl_c_marks : List.length c.marks ≤ 9223372036854775807 := hl_c_marks
 refine Kk cok tab30 hnt [] [1] (⟨[(1,.ptr 1 0)],[(1,⟨26,.fix (cC c)⟩)],[1,999]⟩)
  (True ∧ True ∧ True)
  ⟨tt,tt,tt⟩ ?_
 refine Kk cok tab30 hnt [6] [1,3] (⟨[(1,.ptr 1 0),(3,.own 6 (List.length ([] : List Int)))],[(1,⟨26,.fix (cC c)⟩),(6,⟨3,.row (.ints ([] : List Int))⟩)],[6,1,999]⟩)
  (True ∧ True ∧ True)
  ⟨tt,tt,tt⟩ ?_
 refine W.seq ?_
 refine Kk cok tab30 hnt [] [1,3,9] (⟨[(1,.ptr 1 0),(3,.own 6 (List.length ([] : List Int))),(9,.b (!(validCopy c)))],[(1,⟨26,.fix (cC c)⟩),(6,⟨3,.row (.ints ([] : List Int))⟩)],[6,1,999]⟩)
  (True ∧ (True ∧ ((True ∧ True ∧ True ∧ True ∧ True ∧ True ∧ True ∧ True) ∧ True) ∧ True) ∧ True ∧ True)
  ⟨tt,⟨tt,⟨⟨tt,tt,tt,tt,tt,tt,tt,tt⟩,tt⟩,tt⟩,tt,tt⟩ ?_
 refine W.if' (!(validCopy c)) (.b (!(validCopy c))) (by kernel_rfl) rfl trivial ?_ ?_
 ·intro h9
  refine Kk cok tab30 hnt [] [2] (⟨[(2,.own 6 (List.length ([] : List Int)))],[(1,⟨26,.fix (cC c)⟩),(6,⟨3,.row (.ints ([] : List Int))⟩)],[6,1,999]⟩)
   (True ∧ True ∧ True)
   ⟨tt,tt,tt⟩ ?_
  refine W.ret (thenQ_ret ?_)
  exact endQ_rows [(0,6)] (.own 6 (List.length ([] : List Int))) (by kernel_rfl) (@cast (((6 : Nat) = 6) ∧ ((List.length ([] : List Int)) = (List.length (valuesC c))) ∧ ((0 : Nat) ∈ ([0] : List Nat))) _ (by kernel_rfl) ⟨rfl,(by first | rfl | omega | assumption | (symm; assumption) | (exact congrArg List.length (by first | exact values_bad (not_f h9) | (rw [← values_bad (not_f h9)]; rfl))) | (first | exact values_bad (not_f h9) | (rw [← values_bad (not_f h9)]; rfl); done) | simp | simp_all),(by decide)⟩) (@cast ((((3 : Nat) = 3) ∧ ((.ints ([] : List Int) : Dat) = .ints (valuesC c)) ∧ ((0 : Nat) ∈ ([0] : List Nat))) ∧ True) _ (by kernel_rfl) ⟨⟨rfl,(congrArg Dat.ints (by first | exact values_bad (not_f h9) | (rw [← values_bad (not_f h9)]; rfl))),(by decide)⟩,tt⟩) (by kernel_rfl)
 ·intro n9
  have hf := up_len (not_g n9)
  refine W.skip (thenQ_normal ?_)
  refine W.seq ?_
  refine Kk cok tab30 hnt [] [3,12,13,14] (⟨[(3,.own 6 (List.length ([] : List Int))),(12,.sl (.marks c.marks)),(13,.i (((List.length c.marks) : Nat) : Int)),(14,.i (0 : Int))],[(1,⟨26,.fix (cC c)⟩),(6,⟨3,.row (.ints ([] : List Int))⟩)],[6,1,999]⟩)
   (True ∧ True ∧ True ∧ True ∧ True)
   ⟨tt,tt,tt,tt,tt⟩ ?_
  refine W.block ?_
  refine W.loop (ι := Nat × (List Int)) (fun (x : Nat × (List Int)) => match x with | (i,lo) => (⟨[(3,.own 6 lo.length),(12,.sl (.marks c.marks)),(13,.i (((List.length c.marks) : Nat) : Int)),(14,.i ((i : Nat) : Int))],[(6,⟨3,.row (.ints lo)⟩)],[6,999]⟩ : St))
   (fun (x : Nat × (List Int)) => match x with | (i,lo) => (i ≤ c.marks.length) ∧ (lo = listUp c.marks i))
   (fun (x : Nat × (List Int)) => match x with | (i,lo) => (c.marks.length - i : Nat)) (0,([] : List Int)) ?_ ?_ ?_
  ·exact (show (0 ≤ c.marks.length) ∧ (([] : List Int) = listUp c.marks 0) from ⟨(by first | assumption | omega | rfl | (intro _ hjj; omega) | (simp; done) | (simp; omega)),(by rfl)⟩)
  ·exact Sub.of [] (@cast (((((6 : Nat) = 6) ∧ ((List.length ([] : List Int)) = (List.length ([] : List Int))) ∧ ((6 : Nat) ∈ ([6,999] : List Nat))) ∧ (Sd (.marks c.marks)) ∧ (Si (((List.length c.marks) : Nat) : Int)) ∧ ((.int .i64 (0 : Int) : Value) = .int .i64 ((0 : Nat) : Int)) ∧ True) ∧ ((((3 : Nat) = 3) ∧ (Sd (.ints ([] : List Int))) ∧ ((6 : Nat) ∈ ([6,999] : List Nat))) ∧ True) ∧ (true = true) ∧ (true = true)) _ (by kernel_rfl) ⟨⟨⟨rfl,rfl,(by decide)⟩,rfl,rfl,(congrArg (Value.int .i64) (by first | rfl | omega | assumption | simp | simp_all)),tt⟩,⟨⟨rfl,rfl,(by decide)⟩,tt⟩,rfl,rfl⟩)
  ·rintro ⟨i,lo⟩ hC0
   have hC : (i ≤ c.marks.length) ∧ (lo = listUp c.marks i) := hC0
   clear hC0
   obtain ⟨hi,hl⟩ := hC
   refine W.to (⟨[(3,.own 6 lo.length),(12,.sl (.marks c.marks)),(13,.i (((List.length c.marks) : Nat) : Int)),(14,.i ((i : Nat) : Int))],[(6,⟨3,.row (.ints lo)⟩)],[6,999]⟩) rfl ?_
   have hll : lo.length ≤ i := by rw [hl]; exact listUp_len _ _
   refine Kk cok tab30 hnt [] [3,12,13,14,15] (⟨[(3,.own 6 lo.length),(12,.sl (.marks c.marks)),(13,.i (((List.length c.marks) : Nat) : Int)),(14,.i ((i : Nat) : Int)),(15,.b (decide (((i : Nat) : Int) < (((List.length c.marks) : Nat) : Int))))],[(6,⟨3,.row (.ints lo)⟩)],[6,999]⟩)
    ((True ∧ True ∧ True) ∧ True)
    ⟨⟨tt,tt,tt⟩,tt⟩ ?_
   refine W.seq ?_
   refine W.ifP (((i : Nat) : Int) < (((List.length c.marks) : Nat) : Int)) (.b (decide (((i : Nat) : Int) < (((List.length c.marks) : Nat) : Int)))) (by kernel_rfl) rfl trivial ?_ ?_
   ·intro h15
    refine W.skip (thenQ_normal ?_)
    refine W.seq ?_
    refine W.block ?_
    refine Kk cok tab30 hnt [] [3,5,12,13,14] (⟨[(3,.own 6 lo.length),(5,.ptr 5 0),(12,.sl (.marks c.marks)),(13,.i (((List.length c.marks) : Nat) : Int)),(14,.i ((i : Nat) : Int))],[(5,⟨52,.fix [.i ((List.getD c.marks i default).value),.i ((List.getD c.marks i default).proc),.i ((List.getD c.marks i default).number),.b ((List.getD c.marks i default).gone)]⟩),(6,⟨3,.row (.ints lo)⟩)],[5,6,999]⟩)
     ((True ∧ True ∧ (0 ≤ ((i : Nat) : Int)) ∧ (((i : Nat) : Int) < (((List.length c.marks) : Nat) : Int))) ∧ True ∧ True ∧ (True ∧ True) ∧ True)
     ⟨⟨tt,tt,(by omega),(by omega)⟩,tt,tt,⟨tt,tt⟩,tt⟩ ?_
    refine Kk cok tab30 hnt [] [3,5,12,13,14,20] ((fun (Z1:Bool)=>(⟨[(3,.own 6 lo.length),(5,.ptr 5 0),(12,.sl (.marks c.marks)),(13,.i (((List.length c.marks) : Nat) : Int)),(14,.i ((i : Nat) : Int)),(20,.b (!Z1))],[(5,⟨52,.fix [.i ((List.getD c.marks i default).value),.i ((List.getD c.marks i default).proc),.i ((List.getD c.marks i default).number),.b Z1]⟩),(6,⟨3,.row (.ints lo)⟩)],[5,6,999]⟩:St)) ((List.getD c.marks i default).gone))
     (True ∧ True ∧ True ∧ True)
     ⟨tt,tt,tt,tt⟩ ?_
    refine W.if' (!((List.getD c.marks i default).gone)) (.b (!((List.getD c.marks i default).gone))) (by kernel_rfl) rfl trivial ?_ ?_
    ·intro h20
     refine Lk cok tab30 hnt [25] ((fun (Z1:Bool)=>(⟨[(3,.own 25 (List.length (lo ++ ([((List.getD c.marks i default).value)])))),(5,.ptr 5 0),(12,.sl (.marks c.marks)),(13,.i (((List.length c.marks) : Nat) : Int)),(14,.i ((i : Nat) : Int)),(20,.b (!Z1)),(21,.own 6 lo.length),(22,.ptr 5 0),(23,.i ((List.getD c.marks i default).value)),(24,.sl (.ints ([((List.getD c.marks i default).value)]))),(25,.own 25 (List.length (lo ++ ([((List.getD c.marks i default).value)]))))],[(5,⟨52,.fix [.i ((List.getD c.marks i default).value),.i ((List.getD c.marks i default).proc),.i ((List.getD c.marks i default).number),.b Z1]⟩),(25,⟨3,.row (.ints (lo ++ ([((List.getD c.marks i default).value)])))⟩)],[25,24,5,6,999]⟩:St)) ((List.getD c.marks i default).gone))
      (True ∧ True ∧ True ∧ (True ∧ True) ∧ ((True ∧ (lo.length = lo.length)) ∧ True ∧ ((lo.length + (List.length ([((List.getD c.marks i default).value)]))) * 8 ≤ 140737488355328)) ∧ True ∧ True)
      ⟨tt,tt,tt,⟨tt,tt⟩,⟨⟨tt,rfl⟩,tt,(by (try simp only [List.length_append,List.length_cons,List.length_nil,List.length_set]); omega)⟩,tt,tt⟩ ?_
     refine blockQ_normal (thenQ_normal ?_)
     refine Lk cok tab30 hnt [] ((fun (Z1:Bool)=>(⟨[(3,.own 25 (List.length (lo ++ ([((List.getD c.marks i default).value)])))),(5,.ptr 5 0),(12,.sl (.marks c.marks)),(13,.i (((List.length c.marks) : Nat) : Int)),(14,.i (((i + 1) : Nat) : Int)),(20,.b (!Z1)),(21,.own 6 lo.length),(22,.ptr 5 0),(23,.i ((List.getD c.marks i default).value)),(24,.sl (.ints ([((List.getD c.marks i default).value)]))),(25,.own 25 (List.length (lo ++ ([((List.getD c.marks i default).value)])))),(26,.i (((i + 1) : Nat) : Int))],[(5,⟨52,.fix [.i ((List.getD c.marks i default).value),.i ((List.getD c.marks i default).proc),.i ((List.getD c.marks i default).number),.b Z1]⟩),(25,⟨3,.row (.ints (lo ++ ([((List.getD c.marks i default).value)])))⟩)],[25,24,5,6,999]⟩:St)) ((List.getD c.marks i default).gone))
      ((True ∧ True ∧ (Fits .i64 (((i + 1) : Nat) : Int))) ∧ True ∧ True)
      ⟨⟨tt,tt,(by exact fits_i64 (by omega) (by omega))⟩,tt,tt⟩ ?_
     refine thenQ_normal ?_
     refine ⟨((i + 1),(lo ++ ([((List.getD c.marks i default).value)]))),(show ((i + 1) ≤ c.marks.length) ∧ ((lo ++ ([((List.getD c.marks i default).value)])) = listUp c.marks (i + 1)) from ⟨(by first | assumption | omega | rfl | (intro _ hjj; omega) | (simp; done) | (simp; omega)),(by first | exact list_yes hl (not_f h20) | exact list_no hl (not_g n20))⟩),(show c.marks.length - (i + 1) < c.marks.length - i from (by first | omega | (simp_all; omega))),?_⟩
     exact Sub.of [(6,25)] (@cast (((((25 : Nat) = 25) ∧ ((List.length (lo ++ ([((List.getD c.marks i default).value)]))) = (List.length (lo ++ ([((List.getD c.marks i default).value)])))) ∧ ((6 : Nat) ∈ ([6,999] : List Nat))) ∧ (Sd (.marks c.marks)) ∧ (Si (((List.length c.marks) : Nat) : Int)) ∧ (Si (((i + 1) : Nat) : Int)) ∧ True) ∧ ((((3 : Nat) = 3) ∧ (Sd (.ints (lo ++ ([((List.getD c.marks i default).value)])))) ∧ ((6 : Nat) ∈ ([6,999] : List Nat))) ∧ True) ∧ (true = true) ∧ (true = true)) _ (by kernel_rfl) ⟨⟨⟨rfl,rfl,(by decide)⟩,rfl,rfl,rfl,tt⟩,⟨⟨rfl,rfl,(by decide)⟩,tt⟩,rfl,rfl⟩)
    ·intro n20
     refine W.skip (blockQ_normal (thenQ_normal ?_))
     refine Lk cok tab30 hnt [] ((fun (Z1:Bool)=>(⟨[(3,.own 6 lo.length),(5,.ptr 5 0),(12,.sl (.marks c.marks)),(13,.i (((List.length c.marks) : Nat) : Int)),(14,.i (((i + 1) : Nat) : Int)),(20,.b (!Z1)),(26,.i (((i + 1) : Nat) : Int))],[(5,⟨52,.fix [.i ((List.getD c.marks i default).value),.i ((List.getD c.marks i default).proc),.i ((List.getD c.marks i default).number),.b Z1]⟩),(6,⟨3,.row (.ints lo)⟩)],[5,6,999]⟩:St)) ((List.getD c.marks i default).gone))
      ((True ∧ True ∧ (Fits .i64 (((i + 1) : Nat) : Int))) ∧ True ∧ True)
      ⟨⟨tt,tt,(by exact fits_i64 (by omega) (by omega))⟩,tt,tt⟩ ?_
     refine thenQ_normal ?_
     refine ⟨((i + 1),lo),(show ((i + 1) ≤ c.marks.length) ∧ (lo = listUp c.marks (i + 1)) from ⟨(by first | assumption | omega | rfl | (intro _ hjj; omega) | (simp; done) | (simp; omega)),(by first | exact list_yes hl (not_f h20) | exact list_no hl (not_g n20))⟩),(show c.marks.length - (i + 1) < c.marks.length - i from (by first | omega | (simp_all; omega))),?_⟩
     exact Sub.of [] (@cast (((((6 : Nat) = 6) ∧ (lo.length = lo.length) ∧ ((6 : Nat) ∈ ([6,999] : List Nat))) ∧ (Sd (.marks c.marks)) ∧ (Si (((List.length c.marks) : Nat) : Int)) ∧ (Si (((i + 1) : Nat) : Int)) ∧ True) ∧ ((((3 : Nat) = 3) ∧ (Sd (.ints lo)) ∧ ((6 : Nat) ∈ ([6,999] : List Nat))) ∧ True) ∧ (true = true) ∧ (true = true)) _ (by kernel_rfl) ⟨⟨⟨rfl,rfl,(by decide)⟩,rfl,rfl,rfl,tt⟩,⟨⟨rfl,rfl,(by decide)⟩,tt⟩,rfl,rfl⟩)
   ·intro n15
    refine W.exit (thenQ_exit (thenQ_exit (blockQ_hit ?_)))
    refine thenQ_normal ?_
    refine W.seq (W.wi ?_)
    refine WI.runT cok tab30 hnt [] 1 1 (⟨[(3,.own 6 lo.length),(12,.sl (.marks c.marks)),(13,.i (((List.length c.marks) : Nat) : Int)),(14,.i ((i : Nat) : Int)),(15,.b (decide (((i : Nat) : Int) < (((List.length c.marks) : Nat) : Int)))),(27,.own 6 lo.length)],[(6,⟨3,.row (.ints lo)⟩)],[6,999]⟩)
     (True ∧ True) (by kernel_rfl) rfl
     ⟨tt,tt⟩ ?_
    refine WI.callH _ [.own 6 lo.length] [] (.fn 58 []) _ _ [(911,6)] (hok58 lo (by omega)) ent58 hnt rfl rfl (wanted_none rfl) (by kernel_rfl) (by kernel_rfl) trivial (by kernel_rfl) (by kernel_rfl) (by kernel_rfl) (@cast (((some ⟨3,.row (.ints lo)⟩ : Option LB) = some ⟨3,.row (.ints lo)⟩) ∧ (true = true) ∧ (True)) _ (by kernel_rfl) ⟨rfl,rfl,tt⟩) (by kernel_rfl) rfl ?_
    rintro r s1 u1 ⟨rfl,rfl,rfl⟩
    refine ⟨[(911,6)],by kernel_rfl,WI.to (⟨[(3,.own 6 lo.length),(12,.sl (.marks c.marks)),(13,.i (((List.length c.marks) : Nat) : Int)),(14,.i ((i : Nat) : Int)),(15,.b (decide (((i : Nat) : Int) < (((List.length c.marks) : Nat) : Int)))),(27,.own 6 lo.length),(28,.tup [])],[(6,⟨3,.row (.ints (sortI lo))⟩)],[6,999]⟩) 2 (by kernel_rfl) rfl ?_⟩
    refine WI.nil rfl (thenQ_normal ?_)
    refine W.keepE [3] [(3,.own 6 lo.length)] (by kernel_rfl) ?_
    refine W.to (⟨[(3,.own 6 lo.length)],[(6,⟨3,.row (.ints (sortI lo))⟩)],[6,999]⟩) rfl ?_
    refine Kk cok tab30 hnt [30] [2] (⟨[(2,.own 30 (List.length (Lib.compact (sortI lo))))],[(30,⟨3,.row (.ints (Lib.compact (sortI lo)))⟩)],[30,6,999]⟩)
     (True ∧ (True ∧ ((True ∧ (lo.length = (List.length (sortI lo)))) ∧ True) ∧ ((sortI lo).length ≤ 1000)) ∧ True ∧ True)
     ⟨tt,⟨tt,⟨⟨tt,(by have h8 : List.length (sortI lo) = lo.length := List.length_mergeSort _; omega)⟩,tt⟩,(by have h8 : List.length (sortI lo) = lo.length := List.length_mergeSort _; omega)⟩,tt,tt⟩ ?_
    refine W.ret ?_
    exact endQ_rows [(0,30)] (.own 30 (List.length (Lib.compact (sortI lo)))) (by kernel_rfl) (@cast (((30 : Nat) = 30) ∧ ((List.length (Lib.compact (sortI lo))) = (List.length (valuesC c))) ∧ ((0 : Nat) ∈ ([0] : List Nat))) _ (by kernel_rfl) ⟨rfl,(by first | rfl | omega | assumption | (symm; assumption) | (exact congrArg List.length (by exact values_ok (not_g n9) hl (by omega))) | (exact values_ok (not_g n9) hl (by omega); done) | simp | simp_all),(by decide)⟩) (@cast ((((3 : Nat) = 3) ∧ ((.ints (Lib.compact (sortI lo)) : Dat) = .ints (valuesC c)) ∧ ((0 : Nat) ∈ ([0] : List Nat))) ∧ True) _ (by kernel_rfl) ⟨⟨rfl,(congrArg Dat.ints (by exact values_ok (not_g n9) hl (by omega))),(by decide)⟩,tt⟩) (by kernel_rfl)
theorem ent30 : Entr prog 30 := ⟨_,func30,rfl,by decide⟩
end Go.Proofs.Try

set_option linter.unusedSimpArgs false
set_option linter.unusedVariables false
namespace Go.Proofs.Try
open Go.Ab Go.RowKit
def fs49 : FnS := fnS [.o,.o,.o] [.int,.int,.int] (fun _ (n,low,high,_) => (.b (within n low high),[],True))
abbrev T49 : Tab := lk []
theorem tab49 : TabOK prog T49 := TabOK.nil
set_option maxRecDepth 100000 in
set_option maxHeartbeats 1000000 in
theorem ok49 : FnOK prog 49 fs49 := by
 refine FnOK.mk cok func49 rfl rfl rfl ?_
 rintro fl ⟨(n : Int),(low : Int),(high : Int),_⟩ hpre F hnt0 _
 have hnt : F.nt = 15 := hnt0.trans ntmps49
 clear hpre
 refine W.to (⟨[(0,.i n),(1,.i low),(2,.i high)],[],[999]⟩) rfl ?_
 refine Kk cok tab49 hnt [] [0,1,2] (⟨[(0,.i n),(1,.i low),(2,.i high)],[],[999]⟩)
  (True ∧ True)
  ⟨tt,tt⟩ ?_
 refine Kk cok tab49 hnt [] [6] (⟨[(6,.b ((decide (low ≤ n)) && (decide (n ≤ high))))],[],[999]⟩)
  ((fun (Z1:Bool)=>(True ∧ (True ∧ ((True ∧ (True ∧ True)) ∧ (True ∧ ((Z1 = true → True) ∧ ((Z1 = true → True) ∧ ((Z1 = true → (((Z1 = true) ∧ True) ∧ (((Z1 = true) ∧ True) ∧ True))) ∧ ((True ∧ ((Z1 = true → (Z1 = true) ∧ True) ∧ (Z1 = false → True))) ∧ (True ∧ True)))))))))) (decide (low ≤ n)))
  ⟨tt,tt,⟨tt,tt,tt⟩,tt,(fun _ => trivial),(fun _ => trivial),(fun hG => ⟨⟨hG,tt⟩,⟨hG,tt⟩,tt⟩),⟨tt,(fun hp => ⟨hp,tt⟩),(fun _ => trivial)⟩,tt,tt⟩ ?_
 refine W.ret ?_
 exact endQ_ret (.b ((decide (low ≤ n)) && (decide (n ≤ high)))) (by kernel_rfl) (@cast ((.bool ((decide (low ≤ n)) && (decide (n ≤ high))) : Value) = .bool (within n low high)) _ (by kernel_rfl) (congrArg Value.bool (by first | rfl | simp_all)))
theorem ent49 : Entr prog 49 := ⟨_,func49,rfl,by decide⟩
end Go.Proofs.Try

set_option linter.unusedSimpArgs false
set_option linter.unusedVariables false
namespace Go.Proofs.Try
open Go.Ab Go.RowKit
def fs61 : FnS := fnS [.o,.o] [.mark,.mark] (fun _ (a,b,_) => (.b (lessM a b),[],True))
abbrev T61 : Tab := lk []
theorem tab61 : TabOK prog T61 := TabOK.nil
set_option maxRecDepth 100000 in
set_option maxHeartbeats 1000000 in
theorem ok61 : FnOK prog 61 fs61 := by
 refine FnOK.mk cok func61 rfl rfl rfl ?_
 rintro fl ⟨(a : MarkD),(b : MarkD),_⟩ hpre F hnt0 _
 have hnt : F.nt = 20 := hnt0.trans ntmps61
 clear hpre
 refine W.to (⟨[(0,.agg [.i a.value,.i a.proc,.i a.number,.b a.gone]),(1,.agg [.i b.value,.i b.proc,.i b.number,.b b.gone])],[],[999]⟩) rfl ?_
 refine Kk cok tab61 hnt [] [2,3] (⟨[(2,.ptr 2 0),(3,.ptr 3 0)],[(2,⟨52,.fix [.i a.value,.i a.proc,.i a.number,.b a.gone]⟩),(3,⟨52,.fix [.i b.value,.i b.proc,.i b.number,.b b.gone]⟩)],[3,2,999]⟩)
  (True ∧ True ∧ True ∧ True)
  ⟨tt,tt,tt,tt⟩ ?_
 refine W.seq ?_
 refine Kk cok tab61 hnt [] [2,3,9] (⟨[(2,.ptr 2 0),(3,.ptr 3 0),(9,.b (decide (a.proc ≠ b.proc)))],[(2,⟨52,.fix [.i a.value,.i a.proc,.i a.number,.b a.gone]⟩),(3,⟨52,.fix [.i b.value,.i b.proc,.i b.number,.b b.gone]⟩)],[3,2,999]⟩)
  (True ∧ True ∧ True ∧ True ∧ (True ∧ True ∧ True) ∧ True)
  ⟨tt,tt,tt,tt,⟨tt,tt,tt⟩,tt⟩ ?_
 refine W.ifP (a.proc ≠ b.proc) (.b (decide (a.proc ≠ b.proc))) (by kernel_rfl) rfl trivial ?_ ?_
 ·intro h9
  refine Kk cok tab61 hnt [] [4] (⟨[(4,.b (decide (a.proc < b.proc)))],[(2,⟨52,.fix [.i a.value,.i a.proc,.i a.number,.b a.gone]⟩),(3,⟨52,.fix [.i b.value,.i b.proc,.i b.number,.b b.gone]⟩)],[3,2,999]⟩)
   (True ∧ True ∧ True ∧ True ∧ (True ∧ True ∧ True) ∧ True ∧ True)
   ⟨tt,tt,tt,tt,⟨tt,tt,tt⟩,tt,tt⟩ ?_
  refine W.ret (thenQ_ret ?_)
  exact endQ_ret (.b (decide (a.proc < b.proc))) (by kernel_rfl) (@cast ((.bool (decide (a.proc < b.proc)) : Value) = .bool (lessM a b)) _ (by kernel_rfl) (congrArg Value.bool (by unfold lessM; rw [decide_eq_true h9]; rfl)))
 ·intro n9
  refine W.skip (thenQ_normal ?_)
  refine Kk cok tab61 hnt [] [4] (⟨[(4,.b (decide (a.number < b.number)))],[(2,⟨52,.fix [.i a.value,.i a.proc,.i a.number,.b a.gone]⟩),(3,⟨52,.fix [.i b.value,.i b.proc,.i b.number,.b b.gone]⟩)],[3,2,999]⟩)
   (True ∧ True ∧ True ∧ True ∧ (True ∧ True ∧ True) ∧ True ∧ True)
   ⟨tt,tt,tt,tt,⟨tt,tt,tt⟩,tt,tt⟩ ?_
  refine W.ret ?_
  exact endQ_ret (.b (decide (a.number < b.number))) (by kernel_rfl) (@cast ((.bool (decide (a.number < b.number)) : Value) = .bool (lessM a b)) _ (by kernel_rfl) (congrArg Value.bool (by unfold lessM; rw [decide_eq_false n9]; rfl)))
theorem ent61 : Entr prog 61 := ⟨_,func61,rfl,by decide⟩
end Go.Proofs.Try

set_option linter.unusedSimpArgs false
set_option linter.unusedVariables false
namespace Go.Proofs.Try
open Go.Ab Go.RowKit
def fs36 : FnS := fnS [.a [some .ints,some .ints,none,none,none,some .marks]] [.copy] (fun _ (c,_) => (.b (validCopy c),[],True))
abbrev T36 : Tab := lk [(49,fs49),(61,fs61)]
theorem tab36 : TabOK prog T36 := (TabOK.cons ok49 ent49 (TabOK.cons ok61 ent61 TabOK.nil))
set_option maxRecDepth 100000 in
set_option maxHeartbeats 1000000 in
theorem ok36 : FnOK prog 36 fs36 := by
 refine FnOK.mk cok func36 rfl rfl rfl ?_
 rintro fl ⟨(c : CopyD),_⟩ hpre F hnt0 _
 have hnt : F.nt = 116 := hnt0.trans ntmps36
 clear hpre
 refine W.to (⟨[(0,.agg (cC c))],[],[999]⟩) rfl ?_
 refine W.lenA 0 0 (cC c) (.ints c.up) (by kernel_rfl) (by kernel_rfl) ?_
 intro hl_c_up; replace hl_c_up : List.length c.up ≤ 9223372036854775807 := hl_c_up
 refine W.lenA 0 1 (cC c) (.ints c.down) (by kernel_rfl) (by kernel_rfl) ?_
 intro hl_c_down; replace hl_c_down : List.length c.down ≤ 9223372036854775807 := hl_c_down
 refine W.lenA 0 5 (cC c) (.marks c.marks) (by kernel_rfl) (by kernel_rfl) ?_
 intro hl_c_marks; replace hl_c_marks : List.length c.marks ≤ 9223372036854775807 := hl_c_marks
 refine Kk cok tab36 hnt [] [1] (⟨[(1,.ptr 1 0)],[(1,⟨26,.fix (cC c)⟩)],[1,999]⟩)
  (True ∧ True ∧ True)
  ⟨tt,tt,tt⟩ ?_
 refine W.seq ?_
 refine Kk cok tab36 hnt [] [1,48] (⟨[(1,.ptr 1 0),(48,.b ((((((decide ((((List.length c.up) : Nat) : Int) ≠ (3 : Int))) || (decide ((((List.length c.down) : Nat) : Int) ≠ (3 : Int)))) || (!(within c.value (0 : Int) (3 : Int)))) || (!(within c.time (0 : Int) (30 : Int)))) || (!(within c.proc (0 : Int) (2 : Int)))) || ((decide (c.time = (0 : Int))) && ((decide (c.value ≠ (0 : Int))) || (decide (c.proc ≠ (0 : Int)))))))],[(1,⟨26,.fix (cC c)⟩)],[1,999]⟩)
  ((fun (Z1:Bool)=>((fun (Z2:Bool)=>((fun (Z3:Bool)=>((fun (Z4:Bool)=>((fun (Z5:Bool)=>((fun (Z6:Bool)=>((fun (Z7:Bool)=>((fun (Z8:Bool)=>((fun (Z9:Bool)=>((fun (Z10:Bool)=>(True ∧ (True ∧ (True ∧ ((True ∧ (True ∧ True)) ∧ (True ∧ (((!Z3) = true → True) ∧ (((!Z3) = true → (((!Z3) = true) ∧ True)) ∧ (((!Z3) = true → (((!Z3) = true) ∧ True)) ∧ (((!Z3) = true → ((((!Z3) = true) ∧ True) ∧ (True ∧ True))) ∧ ((True ∧ ((Z3 = true → True) ∧ (Z3 = false → ((!Z3) = true) ∧ True))) ∧ (True ∧ (((!Z4) = true → True) ∧ (((!Z4) = true → (((!Z4) = true) ∧ True)) ∧ (((!Z4) = true → (True ∧ (((((!Z4) = true) ∧ True) ∧ (True ∧ (True ∧ True))) ∧ True))) ∧ (((!Z4) = true → (((!Z4) = true) ∧ True)) ∧ ((True ∧ ((Z4 = true → True) ∧ (Z4 = false → ((!Z4) = true) ∧ True))) ∧ (True ∧ (((!Z5) = true → True) ∧ (((!Z5) = true → (((!Z5) = true) ∧ True)) ∧ (((!Z5) = true → (True ∧ (((((!Z5) = true) ∧ True) ∧ (True ∧ (True ∧ True))) ∧ True))) ∧ (((!Z5) = true → (((!Z5) = true) ∧ True)) ∧ ((True ∧ ((Z5 = true → True) ∧ (Z5 = false → ((!Z5) = true) ∧ True))) ∧ (True ∧ (((!Z6) = true → True) ∧ (((!Z6) = true → (((!Z6) = true) ∧ True)) ∧ (((!Z6) = true → (True ∧ (((((!Z6) = true) ∧ True) ∧ (True ∧ (True ∧ True))) ∧ True))) ∧ (((!Z6) = true → (((!Z6) = true) ∧ True)) ∧ ((True ∧ ((Z6 = true → True) ∧ (Z6 = false → ((!Z6) = true) ∧ True))) ∧ (True ∧ ((Z8 = true → True) ∧ ((Z8 = true → ((Z8 = true) ∧ True)) ∧ ((Z8 = true → (((Z8 = true) ∧ True) ∧ (True ∧ True))) ∧ ((Z8 = true → True) ∧ ((Z9 = true → True) ∧ ((Z9 = true → ((Z9 = true) ∧ True)) ∧ ((Z9 = true → (((Z9 = true) ∧ True) ∧ (True ∧ True))) ∧ ((Z9 = true → True) ∧ ((Z10 = true → True) ∧ ((Z10 = true → ((Z10 = true) ∧ True)) ∧ ((Z10 = true → (((Z10 = true) ∧ True) ∧ (True ∧ True))) ∧ ((Z9 = true → (((Z9 = true) ∧ ((Z9 = true) ∧ True)) ∧ ((Z2 = true → True) ∧ (Z2 = false → (Z10 = true) ∧ True)))) ∧ ((Z8 = true → (((Z8 = true) ∧ ((Z8 = true) ∧ True)) ∧ ((Z1 = true → (Z9 = true) ∧ True) ∧ (Z1 = false → True)))) ∧ ((True ∧ ((Z7 = true → True) ∧ (Z7 = false → (Z8 = true) ∧ True))) ∧ True)))))))))))))))))))))))))))))))))))))))))))) (Z9 && (Z9 && (!Z2))))) (Z8 && (Z8 && Z1)))) (!Z7))) (Z6 || (!(within c.proc (0 : Int) (2 : Int)))))) (Z5 || (!(within c.time (0 : Int) (30 : Int)))))) (Z4 || (!(within c.value (0 : Int) (3 : Int)))))) (Z3 || (decide ((((List.length c.down) : Nat) : Int) ≠ (3 : Int)))))) (decide ((((List.length c.up) : Nat) : Int) ≠ (3 : Int))))) (decide (c.value ≠ (0 : Int))))) (decide (c.time = (0 : Int))))
  ⟨tt,tt,tt,⟨tt,tt,tt⟩,tt,(fun _ => trivial),(fun hG => ⟨hG,tt⟩),(fun hG => ⟨hG,tt⟩),(fun hG => ⟨⟨hG,tt⟩,tt,tt⟩),⟨tt,(fun _ => trivial),(fun hp => ⟨(not_t hp),tt⟩)⟩,tt,(fun _ => trivial),(fun hG => ⟨hG,tt⟩),(fun hG => ⟨tt,⟨⟨hG,tt⟩,tt,tt,tt⟩,tt⟩),(fun hG => ⟨hG,tt⟩),⟨tt,(fun _ => trivial),(fun hp => ⟨(not_t hp),tt⟩)⟩,tt,(fun _ => trivial),(fun hG => ⟨hG,tt⟩),(fun hG => ⟨tt,⟨⟨hG,tt⟩,tt,tt,tt⟩,tt⟩),(fun hG => ⟨hG,tt⟩),⟨tt,(fun _ => trivial),(fun hp => ⟨(not_t hp),tt⟩)⟩,tt,(fun _ => trivial),(fun hG => ⟨hG,tt⟩),(fun hG => ⟨tt,⟨⟨hG,tt⟩,tt,tt,tt⟩,tt⟩),(fun hG => ⟨hG,tt⟩),⟨tt,(fun _ => trivial),(fun hp => ⟨(not_t hp),tt⟩)⟩,tt,(fun _ => trivial),(fun hG => ⟨hG,tt⟩),(fun hG => ⟨⟨hG,tt⟩,tt,tt⟩),(fun _ => trivial),(fun _ => trivial),(fun hG => ⟨hG,tt⟩),(fun hG => ⟨⟨hG,tt⟩,tt,tt⟩),(fun _ => trivial),(fun _ => trivial),(fun hG => ⟨hG,tt⟩),(fun hG => ⟨⟨hG,tt⟩,tt,tt⟩),(fun hG => ⟨⟨hG,hG,tt⟩,(fun _ => trivial),(fun hp => ⟨(and_t hG (and_t hG (not_t hp))),tt⟩)⟩),(fun hG => ⟨⟨hG,hG,tt⟩,(fun hp => ⟨(and_t hG (and_t hG hp)),tt⟩),(fun _ => trivial)⟩),⟨tt,(fun _ => trivial),(fun hp => ⟨(not_t hp),tt⟩)⟩,tt⟩ ?_
 refine W.if' ((((((decide ((((List.length c.up) : Nat) : Int) ≠ (3 : Int))) || (decide ((((List.length c.down) : Nat) : Int) ≠ (3 : Int)))) || (!(within c.value (0 : Int) (3 : Int)))) || (!(within c.time (0 : Int) (30 : Int)))) || (!(within c.proc (0 : Int) (2 : Int)))) || ((decide (c.time = (0 : Int))) && ((decide (c.value ≠ (0 : Int))) || (decide (c.proc ≠ (0 : Int)))))) (.b ((((((decide ((((List.length c.up) : Nat) : Int) ≠ (3 : Int))) || (decide ((((List.length c.down) : Nat) : Int) ≠ (3 : Int)))) || (!(within c.value (0 : Int) (3 : Int)))) || (!(within c.time (0 : Int) (30 : Int)))) || (!(within c.proc (0 : Int) (2 : Int)))) || ((decide (c.time = (0 : Int))) && ((decide (c.value ≠ (0 : Int))) || (decide (c.proc ≠ (0 : Int))))))) (by kernel_rfl) rfl trivial ?_ ?_
 ·intro h48
  refine Kk cok tab36 hnt [] [2] (⟨[(2,.b false)],[(1,⟨26,.fix (cC c)⟩)],[1,999]⟩)
   (True ∧ True)
   ⟨tt,tt⟩ ?_
  refine W.ret (thenQ_ret ?_)
  exact endQ_ret (.b false) (by kernel_rfl) (@cast ((.bool false : Value) = .bool (validCopy c)) _ (by kernel_rfl) (congrArg Value.bool (by exact (valid_spec1 h48).symm)))
 ·intro n48
  have n48_0 : ¬ ((((List.length c.up) : Nat) : Int) ≠ (3 : Int)) := of_decide_eq_false (or_l (or_l (or_l (or_l (or_l n48)))))
  have n48_1 : ¬ ((((List.length c.down) : Nat) : Int) ≠ (3 : Int)) := of_decide_eq_false (or_r (or_l (or_l (or_l (or_l n48)))))
  refine W.skip (thenQ_normal ?_)
  refine W.seq ?_
  refine Kk cok tab36 hnt [] [1,3] (⟨[(1,.ptr 1 0),(3,.i (0 : Int))],[(1,⟨26,.fix (cC c)⟩)],[1,999]⟩)
   (True ∧ True)
   ⟨tt,tt⟩ ?_
  refine W.block ?_
  refine W.loop (ι := Nat) (fun (k : Nat) => (⟨[(1,.ptr 1 0),(3,.i ((k : Nat) : Int))],[(1,⟨26,.fix (cC c)⟩)],[1,999]⟩ : St))
   (fun (k : Nat) => (k ≤ 3) ∧ (∀ j,j < k → within (c.up.getD j 0) 0 20 = true) ∧ (∀ j,j < k → within (c.down.getD j 0) 0 20 = true))
   (fun (k : Nat) => (3 - k : Nat)) (0) ?_ ?_ ?_
  ·exact (show (0 ≤ 3) ∧ (∀ j,j < 0 → within (c.up.getD j 0) 0 20 = true) ∧ (∀ j,j < 0 → within (c.down.getD j 0) 0 20 = true) from ⟨(by first | assumption | omega | rfl | (intro _ hjj; omega) | (simp; done) | (simp; omega)),(by exact upto_zero),(by exact upto_zero)⟩)
  ·exact Sub.of [] (@cast (((((1 : Nat) = 1) ∧ ((0 : Nat) = 0) ∧ ((1 : Nat) ∈ ([1,999] : List Nat))) ∧ ((.int .i64 (0 : Int) : Value) = .int .i64 ((0 : Nat) : Int)) ∧ True) ∧ ((((26 : Nat) = 26) ∧ (Sc c) ∧ ((1 : Nat) ∈ ([1,999] : List Nat))) ∧ True) ∧ (true = true) ∧ (true = true)) _ (by kernel_rfl) ⟨⟨⟨rfl,rfl,(by decide)⟩,(congrArg (Value.int .i64) (by first | rfl | omega | assumption | simp | simp_all)),tt⟩,⟨⟨rfl,⟨rfl,rfl,rfl,rfl,rfl,rfl,tt⟩,(by decide)⟩,tt⟩,rfl,rfl⟩)
  ·rintro k hC0
   have hC : (k ≤ 3) ∧ (∀ j,j < k → within (c.up.getD j 0) 0 20 = true) ∧ (∀ j,j < k → within (c.down.getD j 0) 0 20 = true) := hC0
   clear hC0
   obtain ⟨hk,hU,hD⟩ := hC
   refine W.to (⟨[(1,.ptr 1 0),(3,.i ((k : Nat) : Int))],[(1,⟨26,.fix (cC c)⟩)],[1,999]⟩) rfl ?_
   have hs := valid_spec2 n48
   refine W.seq ?_
   refine Kk cok tab36 hnt [] [1,3,50] (⟨[(1,.ptr 1 0),(3,.i ((k : Nat) : Int)),(50,.b (decide (((k : Nat) : Int) < (3 : Int))))],[(1,⟨26,.fix (cC c)⟩)],[1,999]⟩)
    (True ∧ (True ∧ True ∧ True) ∧ True)
    ⟨tt,⟨tt,tt,tt⟩,tt⟩ ?_
   refine W.ifP (((k : Nat) : Int) < (3 : Int)) (.b (decide (((k : Nat) : Int) < (3 : Int)))) (by kernel_rfl) rfl trivial ?_ ?_
   ·intro h50
    refine W.skip (thenQ_normal ?_)
    refine W.seq ?_
    refine W.block ?_
    refine Kk cok tab36 hnt [] [1,3,68] (⟨[(1,.ptr 1 0),(3,.i ((k : Nat) : Int)),(68,.b ((!(within (List.getD c.up k 0) (0 : Int) (20 : Int))) || (!(within (List.getD c.down k 0) (0 : Int) (20 : Int)))))],[(1,⟨26,.fix (cC c)⟩)],[1,999]⟩)
     ((fun (Z1:Bool)=>(True ∧ (True ∧ (True ∧ ((True ∧ (True ∧ ((0 ≤ ((k : Nat) : Int)) ∧ (((k : Nat) : Int) < (((List.length c.up) : Nat) : Int))))) ∧ (True ∧ ((True ∧ ((True ∧ (True ∧ (True ∧ True))) ∧ True)) ∧ (True ∧ (True ∧ (((!Z1) = true → True) ∧ (((!Z1) = true → (((!Z1) = true) ∧ True)) ∧ (((!Z1) = true → True) ∧ (((!Z1) = true → ((((!Z1) = true) ∧ True) ∧ ((((!Z1) = true) ∧ True) ∧ ((0 ≤ ((k : Nat) : Int)) ∧ (((k : Nat) : Int) < (((List.length c.down) : Nat) : Int)))))) ∧ (((!Z1) = true → (((!Z1) = true) ∧ True)) ∧ (((!Z1) = true → (True ∧ (((((!Z1) = true) ∧ True) ∧ (True ∧ (True ∧ True))) ∧ True))) ∧ (((!Z1) = true → (((!Z1) = true) ∧ True)) ∧ ((True ∧ ((Z1 = true → True) ∧ (Z1 = false → ((!Z1) = true) ∧ True))) ∧ True))))))))))))))))) (!(within (List.getD c.up k 0) (0 : Int) (20 : Int))))
     ⟨tt,tt,tt,⟨tt,tt,(by omega),(by omega)⟩,tt,⟨tt,⟨tt,tt,tt,tt⟩,tt⟩,tt,tt,(fun _ => trivial),(fun hG => ⟨hG,tt⟩),(fun _ => trivial),(fun hG => ⟨⟨hG,tt⟩,⟨hG,tt⟩,(by omega),(by omega)⟩),(fun hG => ⟨hG,tt⟩),(fun hG => ⟨tt,⟨⟨hG,tt⟩,tt,tt,tt⟩,tt⟩),(fun hG => ⟨hG,tt⟩),⟨tt,(fun _ => trivial),(fun hp => ⟨(not_t hp),tt⟩)⟩,tt⟩ ?_
    refine W.if' ((!(within (List.getD c.up k 0) (0 : Int) (20 : Int))) || (!(within (List.getD c.down k 0) (0 : Int) (20 : Int)))) (.b ((!(within (List.getD c.up k 0) (0 : Int) (20 : Int))) || (!(within (List.getD c.down k 0) (0 : Int) (20 : Int))))) (by kernel_rfl) rfl trivial ?_ ?_
    ·intro h68
     refine Kk cok tab36 hnt [] [2] (⟨[(2,.b false)],[(1,⟨26,.fix (cC c)⟩)],[1,999]⟩)
      (True ∧ True)
      ⟨tt,tt⟩ ?_
     refine W.ret (blockQ_ret (thenQ_ret (thenQ_ret (blockQ_ret (thenQ_ret ?_)))))
     exact endQ_ret (.b false) (by kernel_rfl) (@cast ((.bool false : Value) = .bool (validCopy c)) _ (by kernel_rfl) (congrArg Value.bool (by exact (counts_bad hs.1 hs.2.1 (by omega) h68).symm)))
    ·intro n68
     refine W.skip (blockQ_normal (thenQ_normal ?_))
     refine Lk cok tab36 hnt [] (⟨[(1,.ptr 1 0),(3,.i (((k + 1) : Nat) : Int)),(51,.i ((k : Nat) : Int)),(52,.i (((k + 1) : Nat) : Int)),(68,.b ((!(within (List.getD c.up k 0) (0 : Int) (20 : Int))) || (!(within (List.getD c.down k 0) (0 : Int) (20 : Int)))))],[(1,⟨26,.fix (cC c)⟩)],[1,999]⟩)
      (True ∧ (True ∧ True ∧ (Fits .i64 (((k + 1) : Nat) : Int))) ∧ True ∧ True)
      ⟨tt,⟨tt,tt,(by exact fits_i64 (by omega) (by omega))⟩,tt,tt⟩ ?_
     refine thenQ_normal ?_
     refine ⟨((k + 1)),(show ((k + 1) ≤ 3) ∧ (∀ j,j < (k + 1) → within (c.up.getD j 0) 0 20 = true) ∧ (∀ j,j < (k + 1) → within (c.down.getD j 0) 0 20 = true) from ⟨(by first | assumption | omega | rfl | (intro _ hjj; omega) | (simp; done) | (simp; omega)),(by exact upto_succ hU (within_bad n68).1),(by exact upto_succ hD (within_bad n68).2)⟩),(show 3 - (k + 1) < 3 - k from (by first | omega | (simp_all; omega))),?_⟩
     exact Sub.of [] (@cast (((((1 : Nat) = 1) ∧ ((0 : Nat) = 0) ∧ ((1 : Nat) ∈ ([1,999] : List Nat))) ∧ (Si (((k + 1) : Nat) : Int)) ∧ True) ∧ ((((26 : Nat) = 26) ∧ (Sc c) ∧ ((1 : Nat) ∈ ([1,999] : List Nat))) ∧ True) ∧ (true = true) ∧ (true = true)) _ (by kernel_rfl) ⟨⟨⟨rfl,rfl,(by decide)⟩,rfl,tt⟩,⟨⟨rfl,⟨rfl,rfl,rfl,rfl,rfl,rfl,tt⟩,(by decide)⟩,tt⟩,rfl,rfl⟩)
   ·intro n50
    refine W.exit (thenQ_exit (thenQ_exit (blockQ_hit ?_)))
    refine thenQ_normal ?_
    refine W.seq ?_
    refine Kk cok tab36 hnt [] [1,4] (⟨[(1,.ptr 1 0),(4,.i (0 : Int))],[(1,⟨26,.fix (cC c)⟩)],[1,999]⟩)
     (True ∧ True)
     ⟨tt,tt⟩ ?_
    refine W.block ?_
    refine W.loop (ι := Nat) (fun (i : Nat) => (⟨[(1,.ptr 1 0),(4,.i ((i : Nat) : Int))],[(1,⟨26,.fix (cC c)⟩)],[1,999]⟩ : St))
     (fun (i : Nat) => (i ≤ c.marks.length) ∧ (∀ j,j < i → markOK c.marks j = true))
     (fun (i : Nat) => (c.marks.length - i : Nat)) (0) ?_ ?_ ?_
    ·exact (show (0 ≤ c.marks.length) ∧ (∀ j,j < 0 → markOK c.marks j = true) from ⟨(by first | assumption | omega | rfl | (intro _ hjj; omega) | (simp; done) | (simp; omega)),(by exact upto_zero)⟩)
    ·exact Sub.of [] (@cast (((((1 : Nat) = 1) ∧ ((0 : Nat) = 0) ∧ ((1 : Nat) ∈ ([1,999] : List Nat))) ∧ ((.int .i64 (0 : Int) : Value) = .int .i64 ((0 : Nat) : Int)) ∧ True) ∧ ((((26 : Nat) = 26) ∧ (Sc c) ∧ ((1 : Nat) ∈ ([1,999] : List Nat))) ∧ True) ∧ (true = true) ∧ (true = true)) _ (by kernel_rfl) ⟨⟨⟨rfl,rfl,(by decide)⟩,(congrArg (Value.int .i64) (by first | rfl | omega | assumption | simp | simp_all)),tt⟩,⟨⟨rfl,⟨rfl,rfl,rfl,rfl,rfl,rfl,tt⟩,(by decide)⟩,tt⟩,rfl,rfl⟩)
    ·rintro i hC0
     have hC : (i ≤ c.marks.length) ∧ (∀ j,j < i → markOK c.marks j = true) := hC0
     clear hC0
     obtain ⟨hi,hA⟩ := hC
     refine W.to (⟨[(1,.ptr 1 0),(4,.i ((i : Nat) : Int))],[(1,⟨26,.fix (cC c)⟩)],[1,999]⟩) rfl ?_
     refine W.seq ?_
     refine Kk cok tab36 hnt [] [1,4,73] (⟨[(1,.ptr 1 0),(4,.i ((i : Nat) : Int)),(73,.b (decide (((i : Nat) : Int) < (((List.length c.marks) : Nat) : Int))))],[(1,⟨26,.fix (cC c)⟩)],[1,999]⟩)
      (True ∧ True ∧ True ∧ True ∧ (True ∧ True ∧ True) ∧ True)
      ⟨tt,tt,tt,tt,⟨tt,tt,tt⟩,tt⟩ ?_
     refine W.ifP (((i : Nat) : Int) < (((List.length c.marks) : Nat) : Int)) (.b (decide (((i : Nat) : Int) < (((List.length c.marks) : Nat) : Int)))) (by kernel_rfl) rfl trivial ?_ ?_
     ·intro h73
      refine W.skip (thenQ_normal ?_)
      refine W.seq ?_
      refine W.block ?_
      refine Kk cok tab36 hnt [] [1,4,5] (⟨[(1,.ptr 1 0),(4,.i ((i : Nat) : Int)),(5,.ptr 5 0)],[(1,⟨26,.fix (cC c)⟩),(5,⟨52,.fix [.i ((List.getD c.marks i default).value),.i ((List.getD c.marks i default).proc),.i ((List.getD c.marks i default).number),.b ((List.getD c.marks i default).gone)]⟩)],[5,1,999]⟩)
       (True ∧ True ∧ True ∧ (True ∧ True ∧ (0 ≤ ((i : Nat) : Int)) ∧ (((i : Nat) : Int) < (((List.length c.marks) : Nat) : Int))) ∧ True ∧ True ∧ (True ∧ True) ∧ True)
       ⟨tt,tt,tt,⟨tt,tt,(by omega),(by omega)⟩,tt,tt,⟨tt,tt⟩,tt⟩ ?_
      refine W.KA cok tab36 hnt [] [1,4,111] (⟨[(1,.ptr 1 0),(4,.i ((i : Nat) : Int)),(111,.b ((((!(within ((List.getD c.marks i default).value) (0 : Int) (3 : Int))) || (!(within ((List.getD c.marks i default).proc) (0 : Int) (2 : Int)))) || (!(within ((List.getD c.marks i default).number) (1 : Int) (20 : Int)))) || ((decide ((0 : Int) < ((i : Nat) : Int))) && (!(lessM (List.getD c.marks (Int.toNat (((i : Nat) : Int) - (1 : Int))) default) (List.getD c.marks i default))))))],[(1,⟨26,.fix (cC c)⟩),(5,⟨52,.fix [.i ((List.getD c.marks i default).value),.i ((List.getD c.marks i default).proc),.i ((List.getD c.marks i default).number),.b ((List.getD c.marks i default).gone)]⟩)],[5,1,999]⟩)
       ((fun (Z1:Bool)=>((fun (Z2:Bool)=>((fun (Z3:Bool)=>((fun (Z4:Bool)=>((fun (Z5:Bool)=>((fun (Z6:Bool)=>(True ∧ (True ∧ ((True ∧ ((True ∧ (True ∧ (True ∧ True))) ∧ True)) ∧ (True ∧ (True ∧ (((!Z2) = true → True) ∧ (((!Z2) = true → (((!Z2) = true) ∧ True)) ∧ (((!Z2) = true → (True ∧ (((((!Z2) = true) ∧ True) ∧ (True ∧ (True ∧ True))) ∧ True))) ∧ (((!Z2) = true → (((!Z2) = true) ∧ True)) ∧ ((True ∧ ((Z2 = true → True) ∧ (Z2 = false → ((!Z2) = true) ∧ True))) ∧ (True ∧ (((!Z3) = true → True) ∧ (((!Z3) = true → (((!Z3) = true) ∧ True)) ∧ (((!Z3) = true → (True ∧ (((((!Z3) = true) ∧ True) ∧ (True ∧ (True ∧ True))) ∧ True))) ∧ (((!Z3) = true → (((!Z3) = true) ∧ True)) ∧ ((True ∧ ((Z3 = true → True) ∧ (Z3 = false → ((!Z3) = true) ∧ True))) ∧ (True ∧ ((Z5 = true → True) ∧ ((Z5 = true → (((Z5 = true) ∧ True) ∧ (True ∧ True))) ∧ ((Z5 = true → True) ∧ ((Z6 = true → True) ∧ ((Z6 = true → ((Z6 = true) ∧ True)) ∧ ((Z6 = true → True) ∧ ((Z6 = true → (((Z6 = true) ∧ True) ∧ (True ∧ (Fits .i64 (((i : Nat) : Int) - (1 : Int)))))) ∧ ((Z6 = true → (((Z6 = true) ∧ True) ∧ (((Z6 = true) ∧ True) ∧ ((0 ≤ (((i : Nat) : Int) - (1 : Int))) ∧ ((((i : Nat) : Int) - (1 : Int)) < (((List.length c.marks) : Nat) : Int)))))) ∧ ((Z6 = true → ((Z6 = true) ∧ True)) ∧ ((Z6 = true → True) ∧ ((Z6 = true → (True ∧ ((((Z6 = true) ∧ True) ∧ (((Z6 = true) ∧ True) ∧ True)) ∧ True))) ∧ ((Z6 = true → ((Z6 = true) ∧ True)) ∧ ((Z5 = true → (((Z5 = true) ∧ ((Z5 = true) ∧ True)) ∧ ((Z1 = true → (Z6 = true) ∧ True) ∧ (Z1 = false → True)))) ∧ ((True ∧ ((Z4 = true → True) ∧ (Z4 = false → (Z5 = true) ∧ True))) ∧ True)))))))))))))))))))))))))))))))) (Z5 && (Z5 && Z1)))) (!Z4))) (Z3 || (!(within ((List.getD c.marks i default).number) (1 : Int) (20 : Int)))))) (Z2 || (!(within ((List.getD c.marks i default).proc) (0 : Int) (2 : Int)))))) (!(within ((List.getD c.marks i default).value) (0 : Int) (3 : Int))))) (decide ((0 : Int) < ((i : Nat) : Int)))) (by kernel_rfl) (by kernel_rfl)
       ⟨tt,tt,⟨tt,⟨tt,tt,tt,tt⟩,tt⟩,tt,tt,(fun _ => trivial),(fun hG => ⟨hG,tt⟩),(fun hG => ⟨tt,⟨⟨hG,tt⟩,tt,tt,tt⟩,tt⟩),(fun hG => ⟨hG,tt⟩),⟨tt,(fun _ => trivial),(fun hp => ⟨(not_t hp),tt⟩)⟩,tt,(fun _ => trivial),(fun hG => ⟨hG,tt⟩),(fun hG => ⟨tt,⟨⟨hG,tt⟩,tt,tt,tt⟩,tt⟩),(fun hG => ⟨hG,tt⟩),⟨tt,(fun _ => trivial),(fun hp => ⟨(not_t hp),tt⟩)⟩,tt,(fun _ => trivial),(fun hG => ⟨⟨hG,tt⟩,tt,tt⟩),(fun _ => trivial),(fun _ => trivial),(fun hG => ⟨hG,tt⟩),(fun _ => trivial),(fun hG => ⟨⟨hG,tt⟩,tt,(by have hg0 : (0 : Int) < ((i : Nat) : Int) := of_decide_eq_true (and_r (and_r hG)); exact fits_i64 (by omega) (by omega))⟩),(fun hG => ⟨⟨hG,tt⟩,⟨hG,tt⟩,(by have hg0 : (0 : Int) < ((i : Nat) : Int) := of_decide_eq_true (and_r (and_r hG)); omega),(by have hg0 : (0 : Int) < ((i : Nat) : Int) := of_decide_eq_true (and_r (and_r hG)); omega)⟩),(fun hG => ⟨hG,tt⟩),(fun _ => trivial),(fun hG => ⟨tt,⟨⟨hG,tt⟩,⟨hG,tt⟩,tt⟩,tt⟩),(fun hG => ⟨hG,tt⟩),(fun hG => ⟨⟨hG,hG,tt⟩,(fun hp => ⟨(and_t hG (and_t hG hp)),tt⟩),(fun _ => trivial)⟩),⟨tt,(fun _ => trivial),(fun hp => ⟨(not_t hp),tt⟩)⟩,tt⟩ ?_
      refine W.if' ((((!(within ((List.getD c.marks i default).value) (0 : Int) (3 : Int))) || (!(within ((List.getD c.marks i default).proc) (0 : Int) (2 : Int)))) || (!(within ((List.getD c.marks i default).number) (1 : Int) (20 : Int)))) || ((decide ((0 : Int) < ((i : Nat) : Int))) && (!(lessM (List.getD c.marks (Int.toNat (((i : Nat) : Int) - (1 : Int))) default) (List.getD c.marks i default))))) (.b ((((!(within ((List.getD c.marks i default).value) (0 : Int) (3 : Int))) || (!(within ((List.getD c.marks i default).proc) (0 : Int) (2 : Int)))) || (!(within ((List.getD c.marks i default).number) (1 : Int) (20 : Int)))) || ((decide ((0 : Int) < ((i : Nat) : Int))) && (!(lessM (List.getD c.marks (Int.toNat (((i : Nat) : Int) - (1 : Int))) default) (List.getD c.marks i default)))))) (by kernel_rfl) rfl trivial ?_ ?_
      ·intro h111
       refine Kk cok tab36 hnt [] [2] (⟨[(2,.b false)],[(1,⟨26,.fix (cC c)⟩),(5,⟨52,.fix [.i ((List.getD c.marks i default).value),.i ((List.getD c.marks i default).proc),.i ((List.getD c.marks i default).number),.b ((List.getD c.marks i default).gone)]⟩)],[5,1,999]⟩)
        (True ∧ True)
        ⟨tt,tt⟩ ?_
       refine W.ret (blockQ_ret (thenQ_ret (thenQ_ret (blockQ_ret (thenQ_ret ?_)))))
       exact endQ_ret (.b false) (by kernel_rfl) (@cast ((.bool false : Value) = .bool (validCopy c)) _ (by kernel_rfl) (congrArg Value.bool (by rw [show ((i : Int) - 1).toNat = i - 1 by omega] at h111; exact (valid_marks (mark_bad (i := i) (by omega) (markS_no h111))).symm)))
      ·intro n111
       refine W.skip (blockQ_normal (thenQ_normal ?_))
       refine Lk cok tab36 hnt [] (⟨[(1,.ptr 1 0),(4,.i (((i + 1) : Nat) : Int)),(74,.i ((i : Nat) : Int)),(75,.i (((i + 1) : Nat) : Int)),(111,.b ((((!(within ((List.getD c.marks i default).value) (0 : Int) (3 : Int))) || (!(within ((List.getD c.marks i default).proc) (0 : Int) (2 : Int)))) || (!(within ((List.getD c.marks i default).number) (1 : Int) (20 : Int)))) || ((decide ((0 : Int) < ((i : Nat) : Int))) && (!(lessM (List.getD c.marks (Int.toNat (((i : Nat) : Int) - (1 : Int))) default) (List.getD c.marks i default))))))],[(1,⟨26,.fix (cC c)⟩),(5,⟨52,.fix [.i ((List.getD c.marks i default).value),.i ((List.getD c.marks i default).proc),.i ((List.getD c.marks i default).number),.b ((List.getD c.marks i default).gone)]⟩)],[5,1,999]⟩)
        (True ∧ (True ∧ True ∧ (Fits .i64 (((i + 1) : Nat) : Int))) ∧ True ∧ True)
        ⟨tt,⟨tt,tt,(by exact fits_i64 (by omega) (by omega))⟩,tt,tt⟩ ?_
       refine thenQ_normal ?_
       refine ⟨((i + 1)),(show ((i + 1) ≤ c.marks.length) ∧ (∀ j,j < (i + 1) → markOK c.marks j = true) from ⟨(by first | assumption | omega | rfl | (intro _ hjj; omega) | (simp; done) | (simp; omega)),(by rw [show ((i : Int) - 1).toNat = i - 1 by omega] at n111; exact upto_succ hA (markS_ok n111))⟩),(show c.marks.length - (i + 1) < c.marks.length - i from (by first | omega | (simp_all; omega))),?_⟩
       exact Sub.of [] (@cast (((((1 : Nat) = 1) ∧ ((0 : Nat) = 0) ∧ ((1 : Nat) ∈ ([1,999] : List Nat))) ∧ (Si (((i + 1) : Nat) : Int)) ∧ True) ∧ ((((26 : Nat) = 26) ∧ (Sc c) ∧ ((1 : Nat) ∈ ([1,999] : List Nat))) ∧ True) ∧ (true = true) ∧ (true = true)) _ (by kernel_rfl) ⟨⟨⟨rfl,rfl,(by decide)⟩,rfl,tt⟩,⟨⟨rfl,⟨rfl,rfl,rfl,rfl,rfl,rfl,tt⟩,(by decide)⟩,tt⟩,rfl,rfl⟩)
     ·intro n73
      refine W.exit (thenQ_exit (thenQ_exit (blockQ_hit ?_)))
      refine thenQ_normal ?_
      refine Kk cok tab36 hnt [] [2] (⟨[(2,.b (decide ((((List.length c.marks) : Nat) : Int) ≤ (20 : Int))))],[(1,⟨26,.fix (cC c)⟩)],[1,999]⟩)
       (True ∧ True ∧ True ∧ (True ∧ True ∧ True) ∧ True ∧ True)
       ⟨tt,tt,tt,⟨tt,tt,tt⟩,tt,tt⟩ ?_
      refine W.ret ?_
      exact endQ_ret (.b (decide ((((List.length c.marks) : Nat) : Int) ≤ (20 : Int)))) (by kernel_rfl) (@cast ((.bool (decide ((((List.length c.marks) : Nat) : Int) ≤ (20 : Int))) : Value) = .bool (validCopy c)) _ (by kernel_rfl) (congrArg Value.bool (by exact valid_spec (valid_spec2 n48).2.2 (counts_part (valid_spec2 n48).1 (fun j hj => hU j (by omega))) (counts_part (valid_spec2 n48).2.1 (fun j hj => hD j (by omega))) (allN_true (fun j hj => hA j (by omega))))))
theorem ent36 : Entr prog 36 := ⟨_,func36,rfl,by decide⟩
end Go.Proofs.Try
