import Derived.Test.YtbjllmoklglgeaaLF3S0
import Derived.Test.YtbjllmoklglgeaaLF3S2
import Derived.Test.YtbjllmoklglgeaaLF3S4
set_option linter.unusedSimpArgs false
set_option linter.unusedVariables false
namespace Go.Proofs.Try
open Go.Ab Go.RowKit
def fs29 : FnS := fnS [.o,.o] [.call,.call] (fun _ (a,b,_) => (.b (decide (a = b)),[],True))
abbrev T29 : Tab := lk []
theorem tab29 : TabOK prog T29 := TabOK.nil
set_option maxRecDepth 100000 in
set_option maxHeartbeats 1000000 in
theorem ok29 : FnOK prog 29 fs29 := by
 refine FnOK.mk cok func29 rfl rfl rfl ?_
 rintro fl ⟨(a : CallD),(b : CallD),_⟩ hpre F hnt0 _
 have hnt : F.nt = 40 := hnt0.trans ntmps29
 clear hpre
 refine W.to (⟨[(0,.agg [.i a.proc,.i a.obj,.i a.kind,.i a.arg,.i a.ret,.i a.frm,.i a.to]),(1,.agg [.i b.proc,.i b.obj,.i b.kind,.i b.arg,.i b.ret,.i b.frm,.i b.to])],[],[999]⟩) rfl ?_
 refine W.K cok tab29 hnt [] [2,3] (⟨[(2,.ptr 2 0),(3,.ptr 3 0)],[(2,⟨38,.fix [.i a.proc,.i a.obj,.i a.kind,.i a.arg,.i a.ret,.i a.frm,.i a.to]⟩),(3,⟨38,.fix [.i b.proc,.i b.obj,.i b.kind,.i b.arg,.i b.ret,.i b.frm,.i b.to]⟩)],[3,2,999]⟩)
  (True ∧ True ∧ True ∧ True) (by kernel_rfl)
  ⟨tt,tt,tt,tt⟩ ?_
 refine W.seq ?_
 refine W.K cok tab29 hnt [] [2,3,9] (⟨[(2,.ptr 2 0),(3,.ptr 3 0),(9,.b (decide (a.proc ≠ b.proc)))],[(2,⟨38,.fix [.i a.proc,.i a.obj,.i a.kind,.i a.arg,.i a.ret,.i a.frm,.i a.to]⟩),(3,⟨38,.fix [.i b.proc,.i b.obj,.i b.kind,.i b.arg,.i b.ret,.i b.frm,.i b.to]⟩)],[3,2,999]⟩)
  (True ∧ True ∧ True ∧ True ∧ (True ∧ True ∧ True) ∧ True) (by kernel_rfl)
  ⟨tt,tt,tt,tt,⟨tt,tt,tt⟩,tt⟩ ?_
 refine W.ifP (a.proc ≠ b.proc) (.b (decide (a.proc ≠ b.proc))) (by kernel_rfl) rfl trivial ?_ ?_
 ·intro h9
  refine W.K cok tab29 hnt [] [4] (⟨[(4,.b false)],[(2,⟨38,.fix [.i a.proc,.i a.obj,.i a.kind,.i a.arg,.i a.ret,.i a.frm,.i a.to]⟩),(3,⟨38,.fix [.i b.proc,.i b.obj,.i b.kind,.i b.arg,.i b.ret,.i b.frm,.i b.to]⟩)],[3,2,999]⟩)
   (True ∧ True) (by kernel_rfl)
   ⟨tt,tt⟩ ?_
  refine W.ret (thenQ_ret ?_)
  exact endQ_ret (.b false) (by kernel_rfl) (@cast ((.bool false : Value) = .bool (decide (a = b))) _ (by kernel_rfl) (congrArg Value.bool (by first | (symm; exact decide_eq_true (call_ext (by omega) (by omega) (by omega) (by omega) (by omega) (by omega) (by omega))) | (symm; exact decide_eq_false (fun e => by subst e; simp_all)))))
 ·intro n9
  refine W.skip (thenQ_normal ?_)
  refine W.seq ?_
  refine W.K cok tab29 hnt [] [2,3,14] (⟨[(2,.ptr 2 0),(3,.ptr 3 0),(14,.b (decide (a.obj ≠ b.obj)))],[(2,⟨38,.fix [.i a.proc,.i a.obj,.i a.kind,.i a.arg,.i a.ret,.i a.frm,.i a.to]⟩),(3,⟨38,.fix [.i b.proc,.i b.obj,.i b.kind,.i b.arg,.i b.ret,.i b.frm,.i b.to]⟩)],[3,2,999]⟩)
   (True ∧ True ∧ True ∧ True ∧ (True ∧ True ∧ True) ∧ True) (by kernel_rfl)
   ⟨tt,tt,tt,tt,⟨tt,tt,tt⟩,tt⟩ ?_
  refine W.ifP (a.obj ≠ b.obj) (.b (decide (a.obj ≠ b.obj))) (by kernel_rfl) rfl trivial ?_ ?_
  ·intro h14
   refine W.K cok tab29 hnt [] [4] (⟨[(4,.b false)],[(2,⟨38,.fix [.i a.proc,.i a.obj,.i a.kind,.i a.arg,.i a.ret,.i a.frm,.i a.to]⟩),(3,⟨38,.fix [.i b.proc,.i b.obj,.i b.kind,.i b.arg,.i b.ret,.i b.frm,.i b.to]⟩)],[3,2,999]⟩)
    (True ∧ True) (by kernel_rfl)
    ⟨tt,tt⟩ ?_
   refine W.ret (thenQ_ret ?_)
   exact endQ_ret (.b false) (by kernel_rfl) (@cast ((.bool false : Value) = .bool (decide (a = b))) _ (by kernel_rfl) (congrArg Value.bool (by first | (symm; exact decide_eq_true (call_ext (by omega) (by omega) (by omega) (by omega) (by omega) (by omega) (by omega))) | (symm; exact decide_eq_false (fun e => by subst e; simp_all)))))
  ·intro n14
   refine W.skip (thenQ_normal ?_)
   refine W.seq ?_
   refine W.K cok tab29 hnt [] [2,3,19] (⟨[(2,.ptr 2 0),(3,.ptr 3 0),(19,.b (decide (a.kind ≠ b.kind)))],[(2,⟨38,.fix [.i a.proc,.i a.obj,.i a.kind,.i a.arg,.i a.ret,.i a.frm,.i a.to]⟩),(3,⟨38,.fix [.i b.proc,.i b.obj,.i b.kind,.i b.arg,.i b.ret,.i b.frm,.i b.to]⟩)],[3,2,999]⟩)
    (True ∧ True ∧ True ∧ True ∧ (True ∧ True ∧ True) ∧ True) (by kernel_rfl)
    ⟨tt,tt,tt,tt,⟨tt,tt,tt⟩,tt⟩ ?_
   refine W.ifP (a.kind ≠ b.kind) (.b (decide (a.kind ≠ b.kind))) (by kernel_rfl) rfl trivial ?_ ?_
   ·intro h19
    refine W.K cok tab29 hnt [] [4] (⟨[(4,.b false)],[(2,⟨38,.fix [.i a.proc,.i a.obj,.i a.kind,.i a.arg,.i a.ret,.i a.frm,.i a.to]⟩),(3,⟨38,.fix [.i b.proc,.i b.obj,.i b.kind,.i b.arg,.i b.ret,.i b.frm,.i b.to]⟩)],[3,2,999]⟩)
     (True ∧ True) (by kernel_rfl)
     ⟨tt,tt⟩ ?_
    refine W.ret (thenQ_ret ?_)
    exact endQ_ret (.b false) (by kernel_rfl) (@cast ((.bool false : Value) = .bool (decide (a = b))) _ (by kernel_rfl) (congrArg Value.bool (by first | (symm; exact decide_eq_true (call_ext (by omega) (by omega) (by omega) (by omega) (by omega) (by omega) (by omega))) | (symm; exact decide_eq_false (fun e => by subst e; simp_all)))))
   ·intro n19
    refine W.skip (thenQ_normal ?_)
    refine W.seq ?_
    refine W.K cok tab29 hnt [] [2,3,24] (⟨[(2,.ptr 2 0),(3,.ptr 3 0),(24,.b (decide (a.arg ≠ b.arg)))],[(2,⟨38,.fix [.i a.proc,.i a.obj,.i a.kind,.i a.arg,.i a.ret,.i a.frm,.i a.to]⟩),(3,⟨38,.fix [.i b.proc,.i b.obj,.i b.kind,.i b.arg,.i b.ret,.i b.frm,.i b.to]⟩)],[3,2,999]⟩)
     (True ∧ True ∧ True ∧ True ∧ (True ∧ True ∧ True) ∧ True) (by kernel_rfl)
     ⟨tt,tt,tt,tt,⟨tt,tt,tt⟩,tt⟩ ?_
    refine W.ifP (a.arg ≠ b.arg) (.b (decide (a.arg ≠ b.arg))) (by kernel_rfl) rfl trivial ?_ ?_
    ·intro h24
     refine W.K cok tab29 hnt [] [4] (⟨[(4,.b false)],[(2,⟨38,.fix [.i a.proc,.i a.obj,.i a.kind,.i a.arg,.i a.ret,.i a.frm,.i a.to]⟩),(3,⟨38,.fix [.i b.proc,.i b.obj,.i b.kind,.i b.arg,.i b.ret,.i b.frm,.i b.to]⟩)],[3,2,999]⟩)
      (True ∧ True) (by kernel_rfl)
      ⟨tt,tt⟩ ?_
     refine W.ret (thenQ_ret ?_)
     exact endQ_ret (.b false) (by kernel_rfl) (@cast ((.bool false : Value) = .bool (decide (a = b))) _ (by kernel_rfl) (congrArg Value.bool (by first | (symm; exact decide_eq_true (call_ext (by omega) (by omega) (by omega) (by omega) (by omega) (by omega) (by omega))) | (symm; exact decide_eq_false (fun e => by subst e; simp_all)))))
    ·intro n24
     refine W.skip (thenQ_normal ?_)
     refine W.seq ?_
     refine W.K cok tab29 hnt [] [2,3,29] (⟨[(2,.ptr 2 0),(3,.ptr 3 0),(29,.b (decide (a.ret ≠ b.ret)))],[(2,⟨38,.fix [.i a.proc,.i a.obj,.i a.kind,.i a.arg,.i a.ret,.i a.frm,.i a.to]⟩),(3,⟨38,.fix [.i b.proc,.i b.obj,.i b.kind,.i b.arg,.i b.ret,.i b.frm,.i b.to]⟩)],[3,2,999]⟩)
      (True ∧ True ∧ True ∧ True ∧ (True ∧ True ∧ True) ∧ True) (by kernel_rfl)
      ⟨tt,tt,tt,tt,⟨tt,tt,tt⟩,tt⟩ ?_
     refine W.ifP (a.ret ≠ b.ret) (.b (decide (a.ret ≠ b.ret))) (by kernel_rfl) rfl trivial ?_ ?_
     ·intro h29
      refine W.K cok tab29 hnt [] [4] (⟨[(4,.b false)],[(2,⟨38,.fix [.i a.proc,.i a.obj,.i a.kind,.i a.arg,.i a.ret,.i a.frm,.i a.to]⟩),(3,⟨38,.fix [.i b.proc,.i b.obj,.i b.kind,.i b.arg,.i b.ret,.i b.frm,.i b.to]⟩)],[3,2,999]⟩)
       (True ∧ True) (by kernel_rfl)
       ⟨tt,tt⟩ ?_
      refine W.ret (thenQ_ret ?_)
      exact endQ_ret (.b false) (by kernel_rfl) (@cast ((.bool false : Value) = .bool (decide (a = b))) _ (by kernel_rfl) (congrArg Value.bool (by first | (symm; exact decide_eq_true (call_ext (by omega) (by omega) (by omega) (by omega) (by omega) (by omega) (by omega))) | (symm; exact decide_eq_false (fun e => by subst e; simp_all)))))
     ·intro n29
      refine W.skip (thenQ_normal ?_)
      refine W.seq ?_
      refine W.K cok tab29 hnt [] [2,3,34] (⟨[(2,.ptr 2 0),(3,.ptr 3 0),(34,.b (decide (a.frm ≠ b.frm)))],[(2,⟨38,.fix [.i a.proc,.i a.obj,.i a.kind,.i a.arg,.i a.ret,.i a.frm,.i a.to]⟩),(3,⟨38,.fix [.i b.proc,.i b.obj,.i b.kind,.i b.arg,.i b.ret,.i b.frm,.i b.to]⟩)],[3,2,999]⟩)
       (True ∧ True ∧ True ∧ True ∧ (True ∧ True ∧ True) ∧ True) (by kernel_rfl)
       ⟨tt,tt,tt,tt,⟨tt,tt,tt⟩,tt⟩ ?_
      refine W.ifP (a.frm ≠ b.frm) (.b (decide (a.frm ≠ b.frm))) (by kernel_rfl) rfl trivial ?_ ?_
      ·intro h34
       refine W.K cok tab29 hnt [] [4] (⟨[(4,.b false)],[(2,⟨38,.fix [.i a.proc,.i a.obj,.i a.kind,.i a.arg,.i a.ret,.i a.frm,.i a.to]⟩),(3,⟨38,.fix [.i b.proc,.i b.obj,.i b.kind,.i b.arg,.i b.ret,.i b.frm,.i b.to]⟩)],[3,2,999]⟩)
        (True ∧ True) (by kernel_rfl)
        ⟨tt,tt⟩ ?_
       refine W.ret (thenQ_ret ?_)
       exact endQ_ret (.b false) (by kernel_rfl) (@cast ((.bool false : Value) = .bool (decide (a = b))) _ (by kernel_rfl) (congrArg Value.bool (by first | (symm; exact decide_eq_true (call_ext (by omega) (by omega) (by omega) (by omega) (by omega) (by omega) (by omega))) | (symm; exact decide_eq_false (fun e => by subst e; simp_all)))))
      ·intro n34
       refine W.skip (thenQ_normal ?_)
       refine W.seq ?_
       refine W.K cok tab29 hnt [] [39] (⟨[(39,.b (decide (a.to ≠ b.to)))],[(2,⟨38,.fix [.i a.proc,.i a.obj,.i a.kind,.i a.arg,.i a.ret,.i a.frm,.i a.to]⟩),(3,⟨38,.fix [.i b.proc,.i b.obj,.i b.kind,.i b.arg,.i b.ret,.i b.frm,.i b.to]⟩)],[3,2,999]⟩)
        (True ∧ True ∧ True ∧ True ∧ (True ∧ True ∧ True) ∧ True) (by kernel_rfl)
        ⟨tt,tt,tt,tt,⟨tt,tt,tt⟩,tt⟩ ?_
       refine W.ifP (a.to ≠ b.to) (.b (decide (a.to ≠ b.to))) (by kernel_rfl) rfl trivial ?_ ?_
       ·intro h39
        refine W.K cok tab29 hnt [] [4] (⟨[(4,.b false)],[(2,⟨38,.fix [.i a.proc,.i a.obj,.i a.kind,.i a.arg,.i a.ret,.i a.frm,.i a.to]⟩),(3,⟨38,.fix [.i b.proc,.i b.obj,.i b.kind,.i b.arg,.i b.ret,.i b.frm,.i b.to]⟩)],[3,2,999]⟩)
         (True ∧ True) (by kernel_rfl)
         ⟨tt,tt⟩ ?_
        refine W.ret (thenQ_ret ?_)
        exact endQ_ret (.b false) (by kernel_rfl) (@cast ((.bool false : Value) = .bool (decide (a = b))) _ (by kernel_rfl) (congrArg Value.bool (by first | (symm; exact decide_eq_true (call_ext (by omega) (by omega) (by omega) (by omega) (by omega) (by omega) (by omega))) | (symm; exact decide_eq_false (fun e => by subst e; simp_all)))))
       ·intro n39
        refine W.skip (thenQ_normal ?_)
        refine W.K cok tab29 hnt [] [4] (⟨[(4,.b true)],[(2,⟨38,.fix [.i a.proc,.i a.obj,.i a.kind,.i a.arg,.i a.ret,.i a.frm,.i a.to]⟩),(3,⟨38,.fix [.i b.proc,.i b.obj,.i b.kind,.i b.arg,.i b.ret,.i b.frm,.i b.to]⟩)],[3,2,999]⟩)
         (True ∧ True) (by kernel_rfl)
         ⟨tt,tt⟩ ?_
        refine W.ret ?_
        exact endQ_ret (.b true) (by kernel_rfl) (@cast ((.bool true : Value) = .bool (decide (a = b))) _ (by kernel_rfl) (congrArg Value.bool (by first | (symm; exact decide_eq_true (call_ext (by omega) (by omega) (by omega) (by omega) (by omega) (by omega) (by omega))) | (symm; exact decide_eq_false (fun e => by subst e; simp_all)))))
theorem ent29 : Entr prog 29 := ⟨_,func29,rfl,by decide⟩
end Go.Proofs.Try

set_option linter.unusedSimpArgs false
set_option linter.unusedVariables false
namespace Go.Proofs.Try
open Go.Ab Go.RowKit
def fs12 : FnS := fnS [.s .calls,.s .calls] [.calls,.calls] (fun _ (a,b,_) => (.b (decide (a = b)),[],True))
abbrev T12 : Tab := lk [(29,fs29)]
theorem tab12 : TabOK prog T12 := (TabOK.cons ok29 ent29 TabOK.nil)
set_option maxRecDepth 100000 in
set_option maxHeartbeats 1000000 in
theorem ok12 : FnOK prog 12 fs12 := by
 refine FnOK.mk cok func12 rfl rfl rfl ?_
 rintro fl ⟨(a : List CallD),(b : List CallD),_⟩ hpre F hnt0 _
 have hnt : F.nt = 27 := hnt0.trans ntmps12
 clear hpre
 refine W.to (⟨[(0,.sl (.calls a)),(1,.sl (.calls b))],[],[999]⟩) rfl ?_
 refine W.lenOf 0 (.calls a) (by kernel_rfl) ?_
 intro hl_a; replace hl_a : List.length a ≤ 9223372036854775807 := hl_a
 refine W.lenOf 1 (.calls b) (by kernel_rfl) ?_
 intro hl_b; replace hl_b : List.length b ≤ 9223372036854775807 := hl_b
 refine W.K cok tab12 hnt [] [0,1] (⟨[(0,.sl (.calls a)),(1,.sl (.calls b))],[],[999]⟩)
  (True ∧ True) (by kernel_rfl)
  ⟨tt,tt⟩ ?_
 refine W.seq ?_
 refine W.K cok tab12 hnt [] [0,1,10] (⟨[(0,.sl (.calls a)),(1,.sl (.calls b)),(10,.b (decide ((a.length : Int) ≠ (b.length : Int))))],[],[999]⟩)
  (True ∧ True ∧ True ∧ True ∧ (True ∧ True ∧ True) ∧ True) (by kernel_rfl)
  ⟨tt,tt,tt,tt,⟨tt,tt,tt⟩,tt⟩ ?_
 refine W.ifP ((a.length : Int) ≠ (b.length : Int)) (.b (decide ((a.length : Int) ≠ (b.length : Int)))) (by kernel_rfl) rfl trivial ?_ ?_
 ·intro h10
  refine W.K cok tab12 hnt [] [4] (⟨[(4,.b false)],[],[999]⟩)
   (True ∧ True) (by kernel_rfl)
   ⟨tt,tt⟩ ?_
  refine W.ret (thenQ_ret ?_)
  exact endQ_ret (.b false) (by kernel_rfl) (@cast ((.bool false : Value) = .bool (decide (a = b))) _ (by kernel_rfl) (congrArg Value.bool (by symm; exact decide_eq_false (fun e => h10 (by rw [e])))))
 ·intro n10
  refine W.skip (thenQ_normal ?_)
  refine W.seq ?_
  refine W.K cok tab12 hnt [] [0,1,5] (⟨[(0,.sl (.calls a)),(1,.sl (.calls b)),(5,.i (0 : Int))],[],[999]⟩)
   (True ∧ True) (by kernel_rfl)
   ⟨tt,tt⟩ ?_
  refine W.block ?_
  refine W.loop (ι := Nat) (fun (i : Nat) => (⟨[(0,.sl (.calls a)),(1,.sl (.calls b)),(5,.i ((i : Nat) : Int))],[],[999]⟩ : St))
   (fun (i : Nat) => (i ≤ a.length) ∧ (∀ j,j < i → a.getD j default = b.getD j default))
   (fun (i : Nat) => (a.length - i : Nat)) (0) ?_ ?_ ?_
  ·exact (show (0 ≤ a.length) ∧ (∀ j,j < 0 → a.getD j default = b.getD j default) from ⟨(by first | assumption | omega | rfl | (intro _ hjj; omega) | (simp; done) | (simp; omega)),(by exact upto_zero)⟩)
  ·exact Sub.of [] (@cast ((((.calls a : Dat) = .calls a) ∧ (((.calls b : Dat) = .calls b) ∧ (((.int .i64 (0 : Int) : Value) = .int .i64 ((0 : Nat) : Int)) ∧ True))) ∧ (True ∧ ((true = true) ∧ (true = true)))) _ (by kernel_rfl) ⟨⟨rfl,rfl,(congrArg (Value.int .i64) (by first | rfl | omega | assumption | simp | simp_all)),tt⟩,tt,rfl,rfl⟩)
  ·rintro i hC0
   have hC : (i ≤ a.length) ∧ (∀ j,j < i → a.getD j default = b.getD j default) := hC0
   clear hC0
   obtain ⟨hi,hA⟩ := hC
   refine W.to (⟨[(0,.sl (.calls a)),(1,.sl (.calls b)),(5,.i ((i : Nat) : Int))],[],[999]⟩) rfl ?_
   refine W.seq ?_
   refine W.K cok tab12 hnt [] [0,1,5,14] (⟨[(0,.sl (.calls a)),(1,.sl (.calls b)),(5,.i ((i : Nat) : Int)),(14,.b (decide (((i : Nat) : Int) < (a.length : Int))))],[],[999]⟩)
    (True ∧ True ∧ True ∧ (True ∧ True ∧ True) ∧ True) (by kernel_rfl)
    ⟨tt,tt,tt,⟨tt,tt,tt⟩,tt⟩ ?_
   refine W.ifP (((i : Nat) : Int) < (a.length : Int)) (.b (decide (((i : Nat) : Int) < (a.length : Int)))) (by kernel_rfl) rfl trivial ?_ ?_
   ·intro h14
    refine W.skip (thenQ_normal ?_)
    refine W.seq ?_
    refine W.block ?_
    refine W.KA cok tab12 hnt [] [0,1,5,26] (⟨[(0,.sl (.calls a)),(1,.sl (.calls b)),(5,.i ((i : Nat) : Int)),(26,.b (!(decide ((a.getD i default) = (b.getD i default)))))],[],[999]⟩)
     (True ∧ True ∧ (True ∧ True ∧ (0 ≤ ((i : Nat) : Int)) ∧ (((i : Nat) : Int) < (a.length : Int))) ∧ True ∧ True ∧ True ∧ (True ∧ True ∧ (0 ≤ ((i : Nat) : Int)) ∧ (((i : Nat) : Int) < (b.length : Int))) ∧ True ∧ (True ∧ (True ∧ True ∧ True) ∧ True) ∧ True ∧ True) (by kernel_rfl) (by kernel_rfl)
     ⟨tt,tt,⟨tt,tt,(by omega),(by omega)⟩,tt,tt,tt,⟨tt,tt,(by omega),(by omega)⟩,tt,⟨tt,⟨tt,tt,tt⟩,tt⟩,tt,tt⟩ ?_
    refine W.if' (!(decide ((a.getD i default) = (b.getD i default)))) (.b (!(decide ((a.getD i default) = (b.getD i default))))) (by kernel_rfl) rfl trivial ?_ ?_
    ·intro h26
     refine W.K cok tab12 hnt [] [4] (⟨[(4,.b false)],[],[999]⟩)
      (True ∧ True) (by kernel_rfl)
      ⟨tt,tt⟩ ?_
     refine W.ret (blockQ_ret (thenQ_ret (thenQ_ret (blockQ_ret (thenQ_ret ?_)))))
     exact endQ_ret (.b false) (by kernel_rfl) (@cast ((.bool false : Value) = .bool (decide (a = b))) _ (by kernel_rfl) (congrArg Value.bool (by symm; exact decide_eq_false (fun e => by rw [e] at h26; simp at h26))))
    ·intro n26
     refine W.skip (blockQ_normal (thenQ_normal ?_))
     refine W.L cok tab12 hnt [] (⟨[(0,.sl (.calls a)),(1,.sl (.calls b)),(5,.i (((i + 1) : Nat) : Int)),(15,.i ((i : Nat) : Int)),(16,.i (((i + 1) : Nat) : Int)),(26,.b (!(decide ((a.getD i default) = (b.getD i default)))))],[],[999]⟩)
      (True ∧ (True ∧ True ∧ (Fits .i64 (((i + 1) : Nat) : Int))) ∧ True ∧ True) (by kernel_rfl)
      ⟨tt,⟨tt,tt,(by exact fits_i64 (by omega) (by omega))⟩,tt,tt⟩ ?_
     refine thenQ_normal ?_
     refine ⟨((i + 1)),(show ((i + 1) ≤ a.length) ∧ (∀ j,j < (i + 1) → a.getD j default = b.getD j default) from ⟨(by first | assumption | omega | rfl | (intro _ hjj; omega) | (simp; done) | (simp; omega)),(by exact upto_succ hA (by simpa using n26))⟩),(show a.length - (i + 1) < a.length - i from (by first | omega | (simp_all; omega))),?_⟩
     exact Sub.of [] (@cast ((((.calls a : Dat) = .calls a) ∧ (((.calls b : Dat) = .calls b) ∧ (((.int .i64 (((i + 1) : Nat) : Int) : Value) = .int .i64 (((i + 1) : Nat) : Int)) ∧ True))) ∧ (True ∧ ((true = true) ∧ (true = true)))) _ (by kernel_rfl) ⟨⟨rfl,rfl,rfl,tt⟩,tt,rfl,rfl⟩)
   ·intro n14
    refine W.exit (thenQ_exit (thenQ_exit (blockQ_hit ?_)))
    refine thenQ_normal ?_
    refine W.K cok tab12 hnt [] [4] (⟨[(4,.b true)],[],[999]⟩)
     (True ∧ True) (by kernel_rfl)
     ⟨tt,tt⟩ ?_
    refine W.ret ?_
    exact endQ_ret (.b true) (by kernel_rfl) (@cast ((.bool true : Value) = .bool (decide (a = b))) _ (by kernel_rfl) (congrArg Value.bool (by symm; exact decide_eq_true (calls_ext (by omega) (fun j hj => hA j (by omega))))))
theorem ent12 : Entr prog 12 := ⟨_,func12,rfl,by decide⟩
end Go.Proofs.Try

set_option linter.unusedSimpArgs false
set_option linter.unusedVariables false
namespace Go.Proofs.Try
open Go.Ab Go.RowKit
def fs13 : FnS := fnS [.s .ints,.s .ints] [.ints,.ints] (fun _ (a,b,_) => (.b (decide (a = b)),[],True))
abbrev T13 : Tab := lk []
theorem tab13 : TabOK prog T13 := TabOK.nil
set_option maxRecDepth 100000 in
set_option maxHeartbeats 1000000 in
theorem ok13 : FnOK prog 13 fs13 := by
 refine FnOK.mk cok func13 rfl rfl rfl ?_
 rintro fl ⟨(a : List Int),(b : List Int),_⟩ hpre F hnt0 _
 have hnt : F.nt = 26 := hnt0.trans ntmps13
 clear hpre
 refine W.to (⟨[(0,.sl (.ints a)),(1,.sl (.ints b))],[],[999]⟩) rfl ?_
 refine W.lenOf 0 (.ints a) (by kernel_rfl) ?_
 intro hl_a; replace hl_a : List.length a ≤ 9223372036854775807 := hl_a
 refine W.lenOf 1 (.ints b) (by kernel_rfl) ?_
 intro hl_b; replace hl_b : List.length b ≤ 9223372036854775807 := hl_b
 refine W.K cok tab13 hnt [] [0,1] (⟨[(0,.sl (.ints a)),(1,.sl (.ints b))],[],[999]⟩)
  (True ∧ True) (by kernel_rfl)
  ⟨tt,tt⟩ ?_
 refine W.seq ?_
 refine W.K cok tab13 hnt [] [0,1,10] (⟨[(0,.sl (.ints a)),(1,.sl (.ints b)),(10,.b (decide ((a.length : Int) ≠ (b.length : Int))))],[],[999]⟩)
  (True ∧ True ∧ True ∧ True ∧ (True ∧ True ∧ True) ∧ True) (by kernel_rfl)
  ⟨tt,tt,tt,tt,⟨tt,tt,tt⟩,tt⟩ ?_
 refine W.ifP ((a.length : Int) ≠ (b.length : Int)) (.b (decide ((a.length : Int) ≠ (b.length : Int)))) (by kernel_rfl) rfl trivial ?_ ?_
 ·intro h10
  refine W.K cok tab13 hnt [] [4] (⟨[(4,.b false)],[],[999]⟩)
   (True ∧ True) (by kernel_rfl)
   ⟨tt,tt⟩ ?_
  refine W.ret (thenQ_ret ?_)
  exact endQ_ret (.b false) (by kernel_rfl) (@cast ((.bool false : Value) = .bool (decide (a = b))) _ (by kernel_rfl) (congrArg Value.bool (by symm; exact decide_eq_false (fun e => h10 (by rw [e])))))
 ·intro n10
  refine W.skip (thenQ_normal ?_)
  refine W.seq ?_
  refine W.K cok tab13 hnt [] [0,1,5] (⟨[(0,.sl (.ints a)),(1,.sl (.ints b)),(5,.i (0 : Int))],[],[999]⟩)
   (True ∧ True) (by kernel_rfl)
   ⟨tt,tt⟩ ?_
  refine W.block ?_
  refine W.loop (ι := Nat) (fun (i : Nat) => (⟨[(0,.sl (.ints a)),(1,.sl (.ints b)),(5,.i ((i : Nat) : Int))],[],[999]⟩ : St))
   (fun (i : Nat) => (i ≤ a.length) ∧ (∀ j,j < i → a.getD j 0 = b.getD j 0))
   (fun (i : Nat) => (a.length - i : Nat)) (0) ?_ ?_ ?_
  ·exact (show (0 ≤ a.length) ∧ (∀ j,j < 0 → a.getD j 0 = b.getD j 0) from ⟨(by first | assumption | omega | rfl | (intro _ hjj; omega) | (simp; done) | (simp; omega)),(by exact upto_zero)⟩)
  ·exact Sub.of [] (@cast ((((.ints a : Dat) = .ints a) ∧ (((.ints b : Dat) = .ints b) ∧ (((.int .i64 (0 : Int) : Value) = .int .i64 ((0 : Nat) : Int)) ∧ True))) ∧ (True ∧ ((true = true) ∧ (true = true)))) _ (by kernel_rfl) ⟨⟨rfl,rfl,(congrArg (Value.int .i64) (by first | rfl | omega | assumption | simp | simp_all)),tt⟩,tt,rfl,rfl⟩)
  ·rintro i hC0
   have hC : (i ≤ a.length) ∧ (∀ j,j < i → a.getD j 0 = b.getD j 0) := hC0
   clear hC0
   obtain ⟨hi,hA⟩ := hC
   refine W.to (⟨[(0,.sl (.ints a)),(1,.sl (.ints b)),(5,.i ((i : Nat) : Int))],[],[999]⟩) rfl ?_
   refine W.seq ?_
   refine W.K cok tab13 hnt [] [0,1,5,14] (⟨[(0,.sl (.ints a)),(1,.sl (.ints b)),(5,.i ((i : Nat) : Int)),(14,.b (decide (((i : Nat) : Int) < (a.length : Int))))],[],[999]⟩)
    (True ∧ True ∧ True ∧ (True ∧ True ∧ True) ∧ True) (by kernel_rfl)
    ⟨tt,tt,tt,⟨tt,tt,tt⟩,tt⟩ ?_
   refine W.ifP (((i : Nat) : Int) < (a.length : Int)) (.b (decide (((i : Nat) : Int) < (a.length : Int)))) (by kernel_rfl) rfl trivial ?_ ?_
   ·intro h14
    refine W.skip (thenQ_normal ?_)
    refine W.seq ?_
    refine W.block ?_
    refine W.KA cok tab13 hnt [] [0,1,5,25] (⟨[(0,.sl (.ints a)),(1,.sl (.ints b)),(5,.i ((i : Nat) : Int)),(25,.b (decide ((a.getD i 0) ≠ (b.getD i 0))))],[],[999]⟩)
     (True ∧ True ∧ (True ∧ True ∧ (0 ≤ ((i : Nat) : Int)) ∧ (((i : Nat) : Int) < (a.length : Int))) ∧ True ∧ True ∧ True ∧ (True ∧ True ∧ (0 ≤ ((i : Nat) : Int)) ∧ (((i : Nat) : Int) < (b.length : Int))) ∧ True ∧ (True ∧ True ∧ True) ∧ True) (by kernel_rfl) (by kernel_rfl)
     ⟨tt,tt,⟨tt,tt,(by omega),(by omega)⟩,tt,tt,tt,⟨tt,tt,(by omega),(by omega)⟩,tt,⟨tt,tt,tt⟩,tt⟩ ?_
    refine W.ifP ((a.getD i 0) ≠ (b.getD i 0)) (.b (decide ((a.getD i 0) ≠ (b.getD i 0)))) (by kernel_rfl) rfl trivial ?_ ?_
    ·intro h25
     refine W.K cok tab13 hnt [] [4] (⟨[(4,.b false)],[],[999]⟩)
      (True ∧ True) (by kernel_rfl)
      ⟨tt,tt⟩ ?_
     refine W.ret (blockQ_ret (thenQ_ret (thenQ_ret (blockQ_ret (thenQ_ret ?_)))))
     exact endQ_ret (.b false) (by kernel_rfl) (@cast ((.bool false : Value) = .bool (decide (a = b))) _ (by kernel_rfl) (congrArg Value.bool (by symm; exact decide_eq_false (fun e => h25 (by rw [e])))))
    ·intro n25
     refine W.skip (blockQ_normal (thenQ_normal ?_))
     refine W.L cok tab13 hnt [] (⟨[(0,.sl (.ints a)),(1,.sl (.ints b)),(5,.i (((i + 1) : Nat) : Int)),(15,.i ((i : Nat) : Int)),(16,.i (((i + 1) : Nat) : Int)),(25,.b (decide ((a.getD i 0) ≠ (b.getD i 0))))],[],[999]⟩)
      (True ∧ (True ∧ True ∧ (Fits .i64 (((i + 1) : Nat) : Int))) ∧ True ∧ True) (by kernel_rfl)
      ⟨tt,⟨tt,tt,(by exact fits_i64 (by omega) (by omega))⟩,tt,tt⟩ ?_
     refine thenQ_normal ?_
     refine ⟨((i + 1)),(show ((i + 1) ≤ a.length) ∧ (∀ j,j < (i + 1) → a.getD j 0 = b.getD j 0) from ⟨(by first | assumption | omega | rfl | (intro _ hjj; omega) | (simp; done) | (simp; omega)),(by exact upto_succ hA (Decidable.not_not.1 n25))⟩),(show a.length - (i + 1) < a.length - i from (by first | omega | (simp_all; omega))),?_⟩
     exact Sub.of [] (@cast ((((.ints a : Dat) = .ints a) ∧ (((.ints b : Dat) = .ints b) ∧ (((.int .i64 (((i + 1) : Nat) : Int) : Value) = .int .i64 (((i + 1) : Nat) : Int)) ∧ True))) ∧ (True ∧ ((true = true) ∧ (true = true)))) _ (by kernel_rfl) ⟨⟨rfl,rfl,rfl,tt⟩,tt,rfl,rfl⟩)
   ·intro n14
    refine W.exit (thenQ_exit (thenQ_exit (blockQ_hit ?_)))
    refine thenQ_normal ?_
    refine W.K cok tab13 hnt [] [4] (⟨[(4,.b true)],[],[999]⟩)
     (True ∧ True) (by kernel_rfl)
     ⟨tt,tt⟩ ?_
    refine W.ret ?_
    exact endQ_ret (.b true) (by kernel_rfl) (@cast ((.bool true : Value) = .bool (decide (a = b))) _ (by kernel_rfl) (congrArg Value.bool (by symm; exact decide_eq_true (ints_ext (by omega) (fun j hj => hA j (by omega))))))
theorem ent13 : Entr prog 13 := ⟨_,func13,rfl,by decide⟩
end Go.Proofs.Try

set_option linter.unusedSimpArgs false
set_option linter.unusedVariables false
namespace Go.Proofs.Try
open Go.Ab Go.RowKit
def fs3 : FnS := fnS [.o,.s .calls,.s .ints] [.str,.calls,.ints] (fun _ (s,h,o,_) => (.b true,[],True))
abbrev T3 : Tab := lk [(7,fs7),(8,fs8),(9,fs9),(10,fs10),(11,fs11),(12,fs12),(13,fs13)]
theorem tab3 : TabOK prog T3 := (TabOK.cons ok7 ent7 (TabOK.cons ok8 ent8 (TabOK.cons ok9 ent9 (TabOK.cons ok10 ent10 (TabOK.cons ok11 ent11 (TabOK.cons ok12 ent12 (TabOK.cons ok13 ent13 TabOK.nil)))))))
set_option maxRecDepth 100000 in
set_option maxHeartbeats 1000000 in
theorem ok3 : FnOK prog 3 fs3 := by
 refine FnOK.mk cok func3 rfl rfl rfl ?_
 rintro fl ⟨(s : ByteArray),(h : List CallD),(o : List Int),_⟩ hpre F hnt0 _
 have hnt : F.nt = 50 := hnt0.trans ntmps3
 clear hpre
 refine W.to (⟨[(0,.v (.string s)),(1,.sl (.calls h)),(2,.sl (.ints o))],[],[999]⟩) rfl ?_
 refine W.lenOf 1 (.calls h) (by kernel_rfl) ?_
 intro hl_h; replace hl_h : List.length h ≤ 9223372036854775807 := hl_h
 refine W.lenOf 2 (.ints o) (by kernel_rfl) ?_
 intro hl_o; replace hl_o : List.length o ≤ 9223372036854775807 := hl_o
 refine W.K cok tab3 hnt [] [0,1,2] (⟨[(0,.v (.string s)),(1,.sl (.calls h)),(2,.sl (.ints o))],[],[999]⟩)
  (True ∧ True) (by kernel_rfl)
  ⟨tt,tt⟩ ?_
 refine W.seq ?_
 refine W.K cok tab3 hnt [] [0,1,2,14] (⟨[(0,.v (.string s)),(1,.sl (.calls h)),(2,.sl (.ints o)),(14,.b (decide ((1048576 : Int) < ((s.size : Nat) : Int))))],[],[999]⟩)
  (True ∧ True ∧ (True ∧ True ∧ True) ∧ True) (by kernel_rfl)
  ⟨tt,tt,⟨tt,tt,tt⟩,tt⟩ ?_
 refine W.ifP ((1048576 : Int) < ((s.size : Nat) : Int)) (.b (decide ((1048576 : Int) < ((s.size : Nat) : Int)))) (by kernel_rfl) rfl trivial ?_ ?_
 ·intro h14
  refine W.K cok tab3 hnt [] [6] (⟨[(6,.b true)],[],[999]⟩)
   (True ∧ True) (by kernel_rfl)
   ⟨tt,tt⟩ ?_
  refine W.ret (thenQ_ret ?_)
  exact endQ_ret (.b true) (by kernel_rfl) (@cast ((.bool true : Value) = .bool true) _ (by kernel_rfl) rfl)
 ·intro n14
  refine W.skip (thenQ_normal ?_)
  refine W.seq ?_
  refine W.K cok tab3 hnt [] [0,1,2,17] (⟨[(0,.v (.string s)),(1,.sl (.calls h)),(2,.sl (.ints o)),(17,.b (decide ((1048576 : Int) < (o.length : Int))))],[],[999]⟩)
   (True ∧ True ∧ (True ∧ True ∧ True) ∧ True) (by kernel_rfl)
   ⟨tt,tt,⟨tt,tt,tt⟩,tt⟩ ?_
  refine W.ifP ((1048576 : Int) < (o.length : Int)) (.b (decide ((1048576 : Int) < (o.length : Int)))) (by kernel_rfl) rfl trivial ?_ ?_
  ·intro h17
   refine W.K cok tab3 hnt [] [6] (⟨[(6,.b true)],[],[999]⟩)
    (True ∧ True) (by kernel_rfl)
    ⟨tt,tt⟩ ?_
   refine W.ret (thenQ_ret ?_)
   exact endQ_ret (.b true) (by kernel_rfl) (@cast ((.bool true : Value) = .bool true) _ (by kernel_rfl) rfl)
  ·intro n17
   refine W.skip (thenQ_normal ?_)
   refine W.K cok tab3 hnt [] [0,1,2,7] (⟨[(0,.v (.string s)),(1,.sl (.calls h)),(2,.sl (.ints o)),(7,.i (1048576 : Int))],[],[999]⟩)
    (True ∧ True) (by kernel_rfl)
    ⟨tt,tt⟩ ?_
   refine W.K cok tab3 hnt [] [0,1,2,7] (⟨[(0,.v (.string s)),(1,.sl (.calls h)),(2,.sl (.ints o)),(7,.i (szC h (1048576 : Int)))],[],[999]⟩)
    (True ∧ True ∧ (True ∧ (True ∧ True ∧ True) ∧ ((1048576 : Int) = 1048576)) ∧ True ∧ True) (by kernel_rfl)
    ⟨tt,tt,⟨tt,⟨tt,tt,tt⟩,(by omega)⟩,tt,tt⟩ ?_
   refine W.seq ?_
   refine W.K cok tab3 hnt [] [0,1,2,22] (⟨[(0,.v (.string s)),(1,.sl (.calls h)),(2,.sl (.ints o)),(22,.b (decide ((szC h (1048576 : Int)) < (0 : Int))))],[],[999]⟩)
    (True ∧ (True ∧ True ∧ True) ∧ True) (by kernel_rfl)
    ⟨tt,⟨tt,tt,tt⟩,tt⟩ ?_
   refine W.ifP ((szC h (1048576 : Int)) < (0 : Int)) (.b (decide ((szC h (1048576 : Int)) < (0 : Int)))) (by kernel_rfl) rfl trivial ?_ ?_
   ·intro h22
    refine W.K cok tab3 hnt [] [6] (⟨[(6,.b true)],[],[999]⟩)
     (True ∧ True) (by kernel_rfl)
     ⟨tt,tt⟩ ?_
    refine W.ret (thenQ_ret ?_)
    exact endQ_ret (.b true) (by kernel_rfl) (@cast ((.bool true : Value) = .bool true) _ (by kernel_rfl) rfl)
   ·intro n22
    have hn := sz_ok n22
    refine W.skip (thenQ_normal ?_)
    refine W.K cok tab3 hnt [] [0,1,2,8] (⟨[(0,.v (.string s)),(1,.sl (.calls h)),(2,.sl (.ints o)),(8,.b (rightB s h o))],[],[999]⟩)
     (True ∧ True ∧ (True ∧ (True ∧ True) ∧ (h.length ≤ 1048576)) ∧ True ∧ (True ∧ (True ∧ True) ∧ (o.length ≤ 1048576)) ∧ (True ∧ (True ∧ True ∧ True ∧ True) ∧ True) ∧ True ∧ True) (by kernel_rfl)
     ⟨tt,tt,⟨tt,⟨tt,tt⟩,(by omega)⟩,tt,⟨tt,⟨tt,tt⟩,(by omega)⟩,⟨tt,⟨tt,tt,tt,tt⟩,tt⟩,tt,tt⟩ ?_
    refine W.K cok tab3 hnt [] [0,1,2,8,9] (⟨[(0,.v (.string s)),(1,.sl (.calls h)),(2,.sl (.ints o)),(8,.b (rightB s h o)),(9,.sl (.calls h))],[],[999]⟩)
     (True ∧ (True ∧ (True ∧ True) ∧ (h.length ≤ 1048576)) ∧ True ∧ True) (by kernel_rfl)
     ⟨tt,⟨tt,⟨tt,tt⟩,(by omega)⟩,tt,tt⟩ ?_
    refine W.K cok tab3 hnt [] [0,1,2,8,9,10] (⟨[(0,.v (.string s)),(1,.sl (.calls h)),(2,.sl (.ints o)),(8,.b (rightB s h o)),(9,.sl (.calls h)),(10,.sl (.ints o))],[],[999]⟩)
     (True ∧ (True ∧ (True ∧ True) ∧ (o.length ≤ 1048576)) ∧ True ∧ True) (by kernel_rfl)
     ⟨tt,⟨tt,⟨tt,tt⟩,(by omega)⟩,tt,tt⟩ ?_
    refine W.K cok tab3 hnt [] [1,2,8,9,10,11] (⟨[(1,.sl (.calls h)),(2,.sl (.ints o)),(8,.b (rightB s h o)),(9,.sl (.calls h)),(10,.sl (.ints o)),(11,.b (rightB s h o))],[],[999]⟩)
     (True ∧ True ∧ True ∧ (True ∧ (True ∧ True ∧ True ∧ True) ∧ True) ∧ True ∧ True) (by kernel_rfl)
     ⟨tt,tt,tt,⟨tt,⟨tt,tt,tt,tt⟩,tt⟩,tt,tt⟩ ?_
    refine W.seq ?_
    refine W.K cok tab3 hnt [] [1,2,9,10,39] (⟨[(1,.sl (.calls h)),(2,.sl (.ints o)),(9,.sl (.calls h)),(10,.sl (.ints o)),(39,.b ((rightB s h o) != (rightB s h o)))],[],[999]⟩)
     (True ∧ True ∧ (True ∧ True) ∧ True) (by kernel_rfl)
     ⟨tt,tt,⟨tt,tt⟩,tt⟩ ?_
    refine W.if' ((rightB s h o) != (rightB s h o)) (.b ((rightB s h o) != (rightB s h o))) (by kernel_rfl) rfl trivial ?_ ?_
    ·intro h39
     refine W.K cok tab3 hnt [] [6] (⟨[(6,.b false)],[],[999]⟩)
      (True ∧ True) (by kernel_rfl)
      ⟨tt,tt⟩ ?_
     refine W.ret (thenQ_ret ?_)
     exact endQ_ret (.b false) (by kernel_rfl) (@cast ((.bool false : Value) = .bool true) _ (by kernel_rfl) (congrArg Value.bool (by exfalso; simp at h39)))
    ·intro n39
     refine W.skip (thenQ_normal ?_)
     refine W.seq ?_
     refine W.K cok tab3 hnt [] [2,10,44] (⟨[(2,.sl (.ints o)),(10,.sl (.ints o)),(44,.b (!(decide (h = h))))],[],[999]⟩)
      (True ∧ True ∧ (True ∧ (True ∧ True) ∧ (h.length ≤ 1048576)) ∧ (True ∧ (True ∧ True ∧ True) ∧ True) ∧ True ∧ True) (by kernel_rfl)
      ⟨tt,tt,⟨tt,⟨tt,tt⟩,(by omega)⟩,⟨tt,⟨tt,tt,tt⟩,tt⟩,tt,tt⟩ ?_
     refine W.if' (!(decide (h = h))) (.b (!(decide (h = h)))) (by kernel_rfl) rfl trivial ?_ ?_
     ·intro h44
      refine W.K cok tab3 hnt [] [6] (⟨[(6,.b false)],[],[999]⟩)
       (True ∧ True) (by kernel_rfl)
       ⟨tt,tt⟩ ?_
      refine W.ret (thenQ_ret ?_)
      exact endQ_ret (.b false) (by kernel_rfl) (@cast ((.bool false : Value) = .bool true) _ (by kernel_rfl) (congrArg Value.bool (by exfalso; simp at h44)))
     ·intro n44
      refine W.skip (thenQ_normal ?_)
      refine W.seq ?_
      refine W.K cok tab3 hnt [] [49] (⟨[(49,.b (!(decide (o = o))))],[],[999]⟩)
       (True ∧ True ∧ (True ∧ (True ∧ True) ∧ (o.length ≤ 1048576)) ∧ (True ∧ (True ∧ True ∧ True) ∧ True) ∧ True ∧ True) (by kernel_rfl)
       ⟨tt,tt,⟨tt,⟨tt,tt⟩,(by omega)⟩,⟨tt,⟨tt,tt,tt⟩,tt⟩,tt,tt⟩ ?_
      refine W.if' (!(decide (o = o))) (.b (!(decide (o = o)))) (by kernel_rfl) rfl trivial ?_ ?_
      ·intro h49
       refine W.K cok tab3 hnt [] [6] (⟨[(6,.b false)],[],[999]⟩)
        (True ∧ True) (by kernel_rfl)
        ⟨tt,tt⟩ ?_
       refine W.ret (thenQ_ret ?_)
       exact endQ_ret (.b false) (by kernel_rfl) (@cast ((.bool false : Value) = .bool true) _ (by kernel_rfl) (congrArg Value.bool (by exfalso; simp at h49)))
      ·intro n49
       refine W.skip (thenQ_normal ?_)
       refine W.K cok tab3 hnt [] [6] (⟨[(6,.b true)],[],[999]⟩)
        (True ∧ True) (by kernel_rfl)
        ⟨tt,tt⟩ ?_
       refine W.ret ?_
       exact endQ_ret (.b true) (by kernel_rfl) (@cast ((.bool true : Value) = .bool true) _ (by kernel_rfl) rfl)
end Go.Proofs.Try
