import Derived.Test.YtbjllmoklglgeaaLF6S0
import Derived.Test.YtbjllmoklglgeaaLF6S1
import Derived.Test.YtbjllmoklglgeaaLF6S4
import Derived.Test.YtbjllmoklglgeaaLF6S7
set_option linter.unusedSimpArgs false
set_option linter.unusedVariables false
namespace Go.Proofs.Try
open Go.Ab Go.RowKit
def fs6 : FnS := fnS [.o,.s .calls] [.str,.calls] (fun _ (s,h,_) => (.b true,[],True))
abbrev T6 : Tab := lk [(7,fs7),(9,fs9),(12,fs12),(18,fs18),(19,fs19)]
theorem tab6 : TabOK prog T6 := (TabOK.cons ok7 ent7 (TabOK.cons ok9 ent9 (TabOK.cons ok12 ent12 (TabOK.cons ok18 ent18 (TabOK.cons ok19 ent19 TabOK.nil)))))
set_option maxRecDepth 100000 in
set_option maxHeartbeats 1000000 in
theorem ok6 : FnOK prog 6 fs6 := by
 refine FnOK.mk cok func6 rfl rfl rfl ?_
 rintro fl ⟨(s : ByteArray),(h : List CallD),_⟩ hpre F hnt0 _
 have hnt : F.nt = 34 := hnt0.trans ntmps6
 clear hpre
 refine W.to (⟨[(0,.v (.string s)),(1,.sl (.calls h))],[],[999]⟩) rfl ?_
 refine W.lenOf 1 (.calls h) (by kernel_rfl) ?_
 intro hl_h; replace hl_h : List.length h ≤ 9223372036854775807 := hl_h
 refine W.K cok tab6 hnt [] [0,1] (⟨[(0,.v (.string s)),(1,.sl (.calls h))],[],[999]⟩)
  (True ∧ True) (by kernel_rfl)
  ⟨tt,tt⟩ ?_
 refine W.seq ?_
 refine W.K cok tab6 hnt [] [0,1,11] (⟨[(0,.v (.string s)),(1,.sl (.calls h)),(11,.b (decide ((1048576 : Int) < ((s.size : Nat) : Int))))],[],[999]⟩)
  (True ∧ True ∧ (True ∧ True ∧ True) ∧ True) (by kernel_rfl)
  ⟨tt,tt,⟨tt,tt,tt⟩,tt⟩ ?_
 refine W.ifP ((1048576 : Int) < ((s.size : Nat) : Int)) (.b (decide ((1048576 : Int) < ((s.size : Nat) : Int)))) (by kernel_rfl) rfl trivial ?_ ?_
 ·intro h11
  refine W.K cok tab6 hnt [] [4] (⟨[(4,.b true)],[],[999]⟩)
   (True ∧ True) (by kernel_rfl)
   ⟨tt,tt⟩ ?_
  refine W.ret (thenQ_ret ?_)
  exact endQ_ret (.b true) (by kernel_rfl) (@cast ((.bool true : Value) = .bool true) _ (by kernel_rfl) rfl)
 ·intro n11
  refine W.skip (thenQ_normal ?_)
  refine W.K cok tab6 hnt [] [0,1,5] (⟨[(0,.v (.string s)),(1,.sl (.calls h)),(5,.i (1048576 : Int))],[],[999]⟩)
   (True ∧ True) (by kernel_rfl)
   ⟨tt,tt⟩ ?_
  refine W.K cok tab6 hnt [] [0,1,5] (⟨[(0,.v (.string s)),(1,.sl (.calls h)),(5,.i (szC h (1048576 : Int)))],[],[999]⟩)
   (True ∧ True ∧ (True ∧ (True ∧ True ∧ True) ∧ ((1048576 : Int) = 1048576)) ∧ True ∧ True) (by kernel_rfl)
   ⟨tt,tt,⟨tt,⟨tt,tt,tt⟩,(by omega)⟩,tt,tt⟩ ?_
  refine W.seq ?_
  refine W.K cok tab6 hnt [] [0,1,16] (⟨[(0,.v (.string s)),(1,.sl (.calls h)),(16,.b (decide ((szC h (1048576 : Int)) < (0 : Int))))],[],[999]⟩)
   (True ∧ (True ∧ True ∧ True) ∧ True) (by kernel_rfl)
   ⟨tt,⟨tt,tt,tt⟩,tt⟩ ?_
  refine W.ifP ((szC h (1048576 : Int)) < (0 : Int)) (.b (decide ((szC h (1048576 : Int)) < (0 : Int)))) (by kernel_rfl) rfl trivial ?_ ?_
  ·intro h16
   refine W.K cok tab6 hnt [] [4] (⟨[(4,.b true)],[],[999]⟩)
    (True ∧ True) (by kernel_rfl)
    ⟨tt,tt⟩ ?_
   refine W.ret (thenQ_ret ?_)
   exact endQ_ret (.b true) (by kernel_rfl) (@cast ((.bool true : Value) = .bool true) _ (by kernel_rfl) rfl)
  ·intro n16
   have hn := sz_ok n16
   refine W.skip (thenQ_normal ?_)
   refine W.K cok tab6 hnt [] [0,1,6] (⟨[(0,.v (.string s)),(1,.sl (.calls h)),(6,.b (explains s h (quietF h)))],[],[999]⟩)
    (True ∧ True ∧ (True ∧ (True ∧ True) ∧ (h.length ≤ 1048576)) ∧ (True ∧ (True ∧ True ∧ True) ∧ True) ∧ True ∧ True) (by kernel_rfl)
    ⟨tt,tt,⟨tt,⟨tt,tt⟩,(by omega)⟩,⟨tt,⟨tt,tt,tt⟩,tt⟩,tt,tt⟩ ?_
   refine W.K cok tab6 hnt [] [0,1,6,7] (⟨[(0,.v (.string s)),(1,.sl (.calls h)),(6,.b (explains s h (quietF h))),(7,.sl (.calls h))],[],[999]⟩)
    (True ∧ (True ∧ (True ∧ True) ∧ (h.length ≤ 1048576)) ∧ True ∧ True) (by kernel_rfl)
    ⟨tt,⟨tt,⟨tt,tt⟩,(by omega)⟩,tt,tt⟩ ?_
   refine W.K cok tab6 hnt [] [1,6,7,8] (⟨[(1,.sl (.calls h)),(6,.b (explains s h (quietF h))),(7,.sl (.calls h)),(8,.b (explains s h (quietF h)))],[],[999]⟩)
    (True ∧ True ∧ (True ∧ (True ∧ True ∧ True) ∧ True) ∧ True ∧ True) (by kernel_rfl)
    ⟨tt,tt,⟨tt,⟨tt,tt,tt⟩,tt⟩,tt,tt⟩ ?_
   refine W.seq ?_
   refine W.K cok tab6 hnt [] [1,7,28] (⟨[(1,.sl (.calls h)),(7,.sl (.calls h)),(28,.b ((explains s h (quietF h)) != (explains s h (quietF h))))],[],[999]⟩)
    (True ∧ True ∧ (True ∧ True) ∧ True) (by kernel_rfl)
    ⟨tt,tt,⟨tt,tt⟩,tt⟩ ?_
   refine W.if' ((explains s h (quietF h)) != (explains s h (quietF h))) (.b ((explains s h (quietF h)) != (explains s h (quietF h)))) (by kernel_rfl) rfl trivial ?_ ?_
   ·intro h28
    refine W.K cok tab6 hnt [] [4] (⟨[(4,.b false)],[],[999]⟩)
     (True ∧ True) (by kernel_rfl)
     ⟨tt,tt⟩ ?_
    refine W.ret (thenQ_ret ?_)
    exact endQ_ret (.b false) (by kernel_rfl) (@cast ((.bool false : Value) = .bool true) _ (by kernel_rfl) (congrArg Value.bool (by exfalso; simp at h28)))
   ·intro n28
    refine W.skip (thenQ_normal ?_)
    refine W.seq ?_
    refine W.K cok tab6 hnt [] [33] (⟨[(33,.b (!(decide (h = h))))],[],[999]⟩)
     (True ∧ True ∧ (True ∧ (True ∧ True) ∧ (h.length ≤ 1048576)) ∧ (True ∧ (True ∧ True ∧ True) ∧ True) ∧ True ∧ True) (by kernel_rfl)
     ⟨tt,tt,⟨tt,⟨tt,tt⟩,(by omega)⟩,⟨tt,⟨tt,tt,tt⟩,tt⟩,tt,tt⟩ ?_
    refine W.if' (!(decide (h = h))) (.b (!(decide (h = h)))) (by kernel_rfl) rfl trivial ?_ ?_
    ·intro h33
     refine W.K cok tab6 hnt [] [4] (⟨[(4,.b false)],[],[999]⟩)
      (True ∧ True) (by kernel_rfl)
      ⟨tt,tt⟩ ?_
     refine W.ret (thenQ_ret ?_)
     exact endQ_ret (.b false) (by kernel_rfl) (@cast ((.bool false : Value) = .bool true) _ (by kernel_rfl) (congrArg Value.bool (by exfalso; simp at h33)))
    ·intro n33
     refine W.skip (thenQ_normal ?_)
     refine W.K cok tab6 hnt [] [4] (⟨[(4,.b true)],[],[999]⟩)
      (True ∧ True) (by kernel_rfl)
      ⟨tt,tt⟩ ?_
     refine W.ret ?_
     exact endQ_ret (.b true) (by kernel_rfl) (@cast ((.bool true : Value) = .bool true) _ (by kernel_rfl) rfl)
end Go.Proofs.Try
