import Derived.Test.YtbjllmoklglgeaaLF3S0
import Derived.Test.YtbjllmoklglgeaaFrameB
import Derived.Shelf.Slices.Delete
import Derived.Shelf.Slices.Clone
set_option linter.unusedSimpArgs false
set_option linter.unusedVariables false
namespace Go.Proofs.Try
open Go.Ab Go.RowKit
def fs46 : FnS := fnS [.o,.o,.o] [.int,.int,.int] (fun _ (n,low,high,_) => (.b (within n low high),[],True))
abbrev T46 : Tab := lk []
theorem tab46 : TabOK prog T46 := TabOK.nil
set_option maxRecDepth 100000 in
set_option maxHeartbeats 1000000 in
theorem ok46 : FnOK prog 46 fs46 := by
 refine FnOK.mk cok func46 rfl rfl rfl ?_
 rintro fl ⟨(n : Int),(low : Int),(high : Int),_⟩ hpre F hnt0 _
 have hnt : F.nt = 15 := hnt0.trans ntmps46
 clear hpre
 refine W.to (⟨[(0,.i n),(1,.i low),(2,.i high)],[],[999]⟩) rfl ?_
 refine W.K cok tab46 hnt [] [0,1,2] (⟨[(0,.i n),(1,.i low),(2,.i high)],[],[999]⟩)
  (True ∧ True) (by kernel_rfl)
  ⟨tt,tt⟩ ?_
 refine W.K cok tab46 hnt [] [6] (⟨[(6,.b ((decide (low ≤ n)) && (decide (n ≤ high))))],[],[999]⟩)
  (True ∧ True ∧ (True ∧ True ∧ True) ∧ True ∧ ((decide (low ≤ n)) = true → True) ∧ ((decide (low ≤ n)) = true → True) ∧ ((decide (low ≤ n)) = true → ((((decide (low ≤ n)) = true) ∧ True) ∧ (((decide (low ≤ n)) = true) ∧ True) ∧ True)) ∧ (True ∧ ((decide (low ≤ n)) = true → ((decide (low ≤ n)) = true) ∧ True) ∧ ((decide (low ≤ n)) = false → True)) ∧ True ∧ True) (by kernel_rfl)
  ⟨tt,tt,⟨tt,tt,tt⟩,tt,(fun _ => trivial),(fun _ => trivial),(fun hG => ⟨⟨hG,tt⟩,⟨hG,tt⟩,tt⟩),⟨tt,(fun hp => ⟨hp,tt⟩),(fun _ => trivial)⟩,tt,tt⟩ ?_
 refine W.ret ?_
 exact endQ_ret (.b ((decide (low ≤ n)) && (decide (n ≤ high)))) (by kernel_rfl) (@cast ((.bool ((decide (low ≤ n)) && (decide (n ≤ high))) : Value) = .bool (within n low high)) _ (by kernel_rfl) (congrArg Value.bool (by first | rfl | simp_all)))
theorem ent46 : Entr prog 46 := ⟨_,func46,rfl,by decide⟩
end Go.Proofs.Try

set_option linter.unusedSimpArgs false
set_option linter.unusedVariables false
namespace Go.Proofs.Try
open Go.Ab Go.RowKit
def fs44 : FnS := fnS [.o] [.call] (fun _ (c,_) => (.b (isCall c),[],True))
abbrev T44 : Tab := lk [(46,fs46)]
theorem tab44 : TabOK prog T44 := (TabOK.cons ok46 ent46 TabOK.nil)
set_option maxRecDepth 100000 in
set_option maxHeartbeats 1000000 in
theorem ok44 : FnOK prog 44 fs44 := by
 refine FnOK.mk cok func44 rfl rfl rfl ?_
 rintro fl ⟨(c : CallD),_⟩ hpre F hnt0 _
 have hnt : F.nt = 43 := hnt0.trans ntmps44
 clear hpre
 refine W.to (⟨[(0,.agg [.i c.proc,.i c.obj,.i c.kind,.i c.arg,.i c.ret,.i c.frm,.i c.to])],[],[999]⟩) rfl ?_
 refine W.K cok tab44 hnt [] [1] (⟨[(1,.ptr 1 0)],[(1,⟨38,.fix [.i c.proc,.i c.obj,.i c.kind,.i c.arg,.i c.ret,.i c.frm,.i c.to]⟩)],[1,999]⟩)
  (True ∧ True ∧ True) (by kernel_rfl)
  ⟨tt,tt,tt⟩ ?_
 refine W.K cok tab44 hnt [] [2] (⟨[(2,.b ((((((((within c.proc (0 : Int) (2 : Int)) && (within c.obj (0 : Int) (1 : Int))) && (within c.kind (0 : Int) (2 : Int))) && (within c.arg (0 : Int) (3 : Int))) && (within c.ret (-1 : Int) (20 : Int))) && (within c.frm (0 : Int) (30 : Int))) && (within c.to (0 : Int) (30 : Int))) && (decide (c.frm < c.to))))],[(1,⟨38,.fix [.i c.proc,.i c.obj,.i c.kind,.i c.arg,.i c.ret,.i c.frm,.i c.to]⟩)],[1,999]⟩)
  (True ∧ True ∧ (True ∧ (True ∧ True ∧ True ∧ True) ∧ True) ∧ True ∧ ((within c.proc (0 : Int) (2 : Int)) = true → True) ∧ ((within c.proc (0 : Int) (2 : Int)) = true → (((within c.proc (0 : Int) (2 : Int)) = true) ∧ True)) ∧ ((within c.proc (0 : Int) (2 : Int)) = true → (True ∧ ((((within c.proc (0 : Int) (2 : Int)) = true) ∧ True) ∧ True ∧ True ∧ True) ∧ True)) ∧ (True ∧ ((within c.proc (0 : Int) (2 : Int)) = true → ((within c.proc (0 : Int) (2 : Int)) = true) ∧ True) ∧ ((within c.proc (0 : Int) (2 : Int)) = false → True)) ∧ True ∧ (((within c.proc (0 : Int) (2 : Int)) && (within c.obj (0 : Int) (1 : Int))) = true → True) ∧ (((within c.proc (0 : Int) (2 : Int)) && (within c.obj (0 : Int) (1 : Int))) = true → ((((within c.proc (0 : Int) (2 : Int)) && (within c.obj (0 : Int) (1 : Int))) = true) ∧ True)) ∧ (((within c.proc (0 : Int) (2 : Int)) && (within c.obj (0 : Int) (1 : Int))) = true → (True ∧ (((((within c.proc (0 : Int) (2 : Int)) && (within c.obj (0 : Int) (1 : Int))) = true) ∧ True) ∧ True ∧ True ∧ True) ∧ True)) ∧ (True ∧ (((within c.proc (0 : Int) (2 : Int)) && (within c.obj (0 : Int) (1 : Int))) = true → (((within c.proc (0 : Int) (2 : Int)) && (within c.obj (0 : Int) (1 : Int))) = true) ∧ True) ∧ (((within c.proc (0 : Int) (2 : Int)) && (within c.obj (0 : Int) (1 : Int))) = false → True)) ∧ True ∧ ((((within c.proc (0 : Int) (2 : Int)) && (within c.obj (0 : Int) (1 : Int))) && (within c.kind (0 : Int) (2 : Int))) = true → True) ∧ ((((within c.proc (0 : Int) (2 : Int)) && (within c.obj (0 : Int) (1 : Int))) && (within c.kind (0 : Int) (2 : Int))) = true → (((((within c.proc (0 : Int) (2 : Int)) && (within c.obj (0 : Int) (1 : Int))) && (within c.kind (0 : Int) (2 : Int))) = true) ∧ True)) ∧ ((((within c.proc (0 : Int) (2 : Int)) && (within c.obj (0 : Int) (1 : Int))) && (within c.kind (0 : Int) (2 : Int))) = true → (True ∧ ((((((within c.proc (0 : Int) (2 : Int)) && (within c.obj (0 : Int) (1 : Int))) && (within c.kind (0 : Int) (2 : Int))) = true) ∧ True) ∧ True ∧ True ∧ True) ∧ True)) ∧ (True ∧ ((((within c.proc (0 : Int) (2 : Int)) && (within c.obj (0 : Int) (1 : Int))) && (within c.kind (0 : Int) (2 : Int))) = true → ((((within c.proc (0 : Int) (2 : Int)) && (within c.obj (0 : Int) (1 : Int))) && (within c.kind (0 : Int) (2 : Int))) = true) ∧ True) ∧ ((((within c.proc (0 : Int) (2 : Int)) && (within c.obj (0 : Int) (1 : Int))) && (within c.kind (0 : Int) (2 : Int))) = false → True)) ∧ True ∧ (((((within c.proc (0 : Int) (2 : Int)) && (within c.obj (0 : Int) (1 : Int))) && (within c.kind (0 : Int) (2 : Int))) && (within c.arg (0 : Int) (3 : Int))) = true → True) ∧ (((((within c.proc (0 : Int) (2 : Int)) && (within c.obj (0 : Int) (1 : Int))) && (within c.kind (0 : Int) (2 : Int))) && (within c.arg (0 : Int) (3 : Int))) = true → ((((((within c.proc (0 : Int) (2 : Int)) && (within c.obj (0 : Int) (1 : Int))) && (within c.kind (0 : Int) (2 : Int))) && (within c.arg (0 : Int) (3 : Int))) = true) ∧ True)) ∧ (((((within c.proc (0 : Int) (2 : Int)) && (within c.obj (0 : Int) (1 : Int))) && (within c.kind (0 : Int) (2 : Int))) && (within c.arg (0 : Int) (3 : Int))) = true → (True ∧ (((((((within c.proc (0 : Int) (2 : Int)) && (within c.obj (0 : Int) (1 : Int))) && (within c.kind (0 : Int) (2 : Int))) && (within c.arg (0 : Int) (3 : Int))) = true) ∧ True) ∧ True ∧ True ∧ True) ∧ True)) ∧ (True ∧ (((((within c.proc (0 : Int) (2 : Int)) && (within c.obj (0 : Int) (1 : Int))) && (within c.kind (0 : Int) (2 : Int))) && (within c.arg (0 : Int) (3 : Int))) = true → (((((within c.proc (0 : Int) (2 : Int)) && (within c.obj (0 : Int) (1 : Int))) && (within c.kind (0 : Int) (2 : Int))) && (within c.arg (0 : Int) (3 : Int))) = true) ∧ True) ∧ (((((within c.proc (0 : Int) (2 : Int)) && (within c.obj (0 : Int) (1 : Int))) && (within c.kind (0 : Int) (2 : Int))) && (within c.arg (0 : Int) (3 : Int))) = false → True)) ∧ True ∧ ((((((within c.proc (0 : Int) (2 : Int)) && (within c.obj (0 : Int) (1 : Int))) && (within c.kind (0 : Int) (2 : Int))) && (within c.arg (0 : Int) (3 : Int))) && (within c.ret (-1 : Int) (20 : Int))) = true → True) ∧ ((((((within c.proc (0 : Int) (2 : Int)) && (within c.obj (0 : Int) (1 : Int))) && (within c.kind (0 : Int) (2 : Int))) && (within c.arg (0 : Int) (3 : Int))) && (within c.ret (-1 : Int) (20 : Int))) = true → (((((((within c.proc (0 : Int) (2 : Int)) && (within c.obj (0 : Int) (1 : Int))) && (within c.kind (0 : Int) (2 : Int))) && (within c.arg (0 : Int) (3 : Int))) && (within c.ret (-1 : Int) (20 : Int))) = true) ∧ True)) ∧ ((((((within c.proc (0 : Int) (2 : Int)) && (within c.obj (0 : Int) (1 : Int))) && (within c.kind (0 : Int) (2 : Int))) && (within c.arg (0 : Int) (3 : Int))) && (within c.ret (-1 : Int) (20 : Int))) = true → (True ∧ ((((((((within c.proc (0 : Int) (2 : Int)) && (within c.obj (0 : Int) (1 : Int))) && (within c.kind (0 : Int) (2 : Int))) && (within c.arg (0 : Int) (3 : Int))) && (within c.ret (-1 : Int) (20 : Int))) = true) ∧ True) ∧ True ∧ True ∧ True) ∧ True)) ∧ (True ∧ ((((((within c.proc (0 : Int) (2 : Int)) && (within c.obj (0 : Int) (1 : Int))) && (within c.kind (0 : Int) (2 : Int))) && (within c.arg (0 : Int) (3 : Int))) && (within c.ret (-1 : Int) (20 : Int))) = true → ((((((within c.proc (0 : Int) (2 : Int)) && (within c.obj (0 : Int) (1 : Int))) && (within c.kind (0 : Int) (2 : Int))) && (within c.arg (0 : Int) (3 : Int))) && (within c.ret (-1 : Int) (20 : Int))) = true) ∧ True) ∧ ((((((within c.proc (0 : Int) (2 : Int)) && (within c.obj (0 : Int) (1 : Int))) && (within c.kind (0 : Int) (2 : Int))) && (within c.arg (0 : Int) (3 : Int))) && (within c.ret (-1 : Int) (20 : Int))) = false → True)) ∧ True ∧ (((((((within c.proc (0 : Int) (2 : Int)) && (within c.obj (0 : Int) (1 : Int))) && (within c.kind (0 : Int) (2 : Int))) && (within c.arg (0 : Int) (3 : Int))) && (within c.ret (-1 : Int) (20 : Int))) && (within c.frm (0 : Int) (30 : Int))) = true → True) ∧ (((((((within c.proc (0 : Int) (2 : Int)) && (within c.obj (0 : Int) (1 : Int))) && (within c.kind (0 : Int) (2 : Int))) && (within c.arg (0 : Int) (3 : Int))) && (within c.ret (-1 : Int) (20 : Int))) && (within c.frm (0 : Int) (30 : Int))) = true → ((((((((within c.proc (0 : Int) (2 : Int)) && (within c.obj (0 : Int) (1 : Int))) && (within c.kind (0 : Int) (2 : Int))) && (within c.arg (0 : Int) (3 : Int))) && (within c.ret (-1 : Int) (20 : Int))) && (within c.frm (0 : Int) (30 : Int))) = true) ∧ True)) ∧ (((((((within c.proc (0 : Int) (2 : Int)) && (within c.obj (0 : Int) (1 : Int))) && (within c.kind (0 : Int) (2 : Int))) && (within c.arg (0 : Int) (3 : Int))) && (within c.ret (-1 : Int) (20 : Int))) && (within c.frm (0 : Int) (30 : Int))) = true → (True ∧ (((((((((within c.proc (0 : Int) (2 : Int)) && (within c.obj (0 : Int) (1 : Int))) && (within c.kind (0 : Int) (2 : Int))) && (within c.arg (0 : Int) (3 : Int))) && (within c.ret (-1 : Int) (20 : Int))) && (within c.frm (0 : Int) (30 : Int))) = true) ∧ True) ∧ True ∧ True ∧ True) ∧ True)) ∧ (True ∧ (((((((within c.proc (0 : Int) (2 : Int)) && (within c.obj (0 : Int) (1 : Int))) && (within c.kind (0 : Int) (2 : Int))) && (within c.arg (0 : Int) (3 : Int))) && (within c.ret (-1 : Int) (20 : Int))) && (within c.frm (0 : Int) (30 : Int))) = true → (((((((within c.proc (0 : Int) (2 : Int)) && (within c.obj (0 : Int) (1 : Int))) && (within c.kind (0 : Int) (2 : Int))) && (within c.arg (0 : Int) (3 : Int))) && (within c.ret (-1 : Int) (20 : Int))) && (within c.frm (0 : Int) (30 : Int))) = true) ∧ True) ∧ (((((((within c.proc (0 : Int) (2 : Int)) && (within c.obj (0 : Int) (1 : Int))) && (within c.kind (0 : Int) (2 : Int))) && (within c.arg (0 : Int) (3 : Int))) && (within c.ret (-1 : Int) (20 : Int))) && (within c.frm (0 : Int) (30 : Int))) = false → True)) ∧ True ∧ ((((((((within c.proc (0 : Int) (2 : Int)) && (within c.obj (0 : Int) (1 : Int))) && (within c.kind (0 : Int) (2 : Int))) && (within c.arg (0 : Int) (3 : Int))) && (within c.ret (-1 : Int) (20 : Int))) && (within c.frm (0 : Int) (30 : Int))) && (within c.to (0 : Int) (30 : Int))) = true → True) ∧ ((((((((within c.proc (0 : Int) (2 : Int)) && (within c.obj (0 : Int) (1 : Int))) && (within c.kind (0 : Int) (2 : Int))) && (within c.arg (0 : Int) (3 : Int))) && (within c.ret (-1 : Int) (20 : Int))) && (within c.frm (0 : Int) (30 : Int))) && (within c.to (0 : Int) (30 : Int))) = true → (((((((((within c.proc (0 : Int) (2 : Int)) && (within c.obj (0 : Int) (1 : Int))) && (within c.kind (0 : Int) (2 : Int))) && (within c.arg (0 : Int) (3 : Int))) && (within c.ret (-1 : Int) (20 : Int))) && (within c.frm (0 : Int) (30 : Int))) && (within c.to (0 : Int) (30 : Int))) = true) ∧ True)) ∧ ((((((((within c.proc (0 : Int) (2 : Int)) && (within c.obj (0 : Int) (1 : Int))) && (within c.kind (0 : Int) (2 : Int))) && (within c.arg (0 : Int) (3 : Int))) && (within c.ret (-1 : Int) (20 : Int))) && (within c.frm (0 : Int) (30 : Int))) && (within c.to (0 : Int) (30 : Int))) = true → True) ∧ ((((((((within c.proc (0 : Int) (2 : Int)) && (within c.obj (0 : Int) (1 : Int))) && (within c.kind (0 : Int) (2 : Int))) && (within c.arg (0 : Int) (3 : Int))) && (within c.ret (-1 : Int) (20 : Int))) && (within c.frm (0 : Int) (30 : Int))) && (within c.to (0 : Int) (30 : Int))) = true → (((((((((within c.proc (0 : Int) (2 : Int)) && (within c.obj (0 : Int) (1 : Int))) && (within c.kind (0 : Int) (2 : Int))) && (within c.arg (0 : Int) (3 : Int))) && (within c.ret (-1 : Int) (20 : Int))) && (within c.frm (0 : Int) (30 : Int))) && (within c.to (0 : Int) (30 : Int))) = true) ∧ True)) ∧ ((((((((within c.proc (0 : Int) (2 : Int)) && (within c.obj (0 : Int) (1 : Int))) && (within c.kind (0 : Int) (2 : Int))) && (within c.arg (0 : Int) (3 : Int))) && (within c.ret (-1 : Int) (20 : Int))) && (within c.frm (0 : Int) (30 : Int))) && (within c.to (0 : Int) (30 : Int))) = true → ((((((((((within c.proc (0 : Int) (2 : Int)) && (within c.obj (0 : Int) (1 : Int))) && (within c.kind (0 : Int) (2 : Int))) && (within c.arg (0 : Int) (3 : Int))) && (within c.ret (-1 : Int) (20 : Int))) && (within c.frm (0 : Int) (30 : Int))) && (within c.to (0 : Int) (30 : Int))) = true) ∧ True) ∧ (((((((((within c.proc (0 : Int) (2 : Int)) && (within c.obj (0 : Int) (1 : Int))) && (within c.kind (0 : Int) (2 : Int))) && (within c.arg (0 : Int) (3 : Int))) && (within c.ret (-1 : Int) (20 : Int))) && (within c.frm (0 : Int) (30 : Int))) && (within c.to (0 : Int) (30 : Int))) = true) ∧ True) ∧ True)) ∧ (True ∧ ((((((((within c.proc (0 : Int) (2 : Int)) && (within c.obj (0 : Int) (1 : Int))) && (within c.kind (0 : Int) (2 : Int))) && (within c.arg (0 : Int) (3 : Int))) && (within c.ret (-1 : Int) (20 : Int))) && (within c.frm (0 : Int) (30 : Int))) && (within c.to (0 : Int) (30 : Int))) = true → ((((((((within c.proc (0 : Int) (2 : Int)) && (within c.obj (0 : Int) (1 : Int))) && (within c.kind (0 : Int) (2 : Int))) && (within c.arg (0 : Int) (3 : Int))) && (within c.ret (-1 : Int) (20 : Int))) && (within c.frm (0 : Int) (30 : Int))) && (within c.to (0 : Int) (30 : Int))) = true) ∧ True) ∧ ((((((((within c.proc (0 : Int) (2 : Int)) && (within c.obj (0 : Int) (1 : Int))) && (within c.kind (0 : Int) (2 : Int))) && (within c.arg (0 : Int) (3 : Int))) && (within c.ret (-1 : Int) (20 : Int))) && (within c.frm (0 : Int) (30 : Int))) && (within c.to (0 : Int) (30 : Int))) = false → True)) ∧ True ∧ True) (by kernel_rfl)
  ⟨tt,tt,⟨tt,⟨tt,tt,tt,tt⟩,tt⟩,tt,(fun _ => trivial),(fun hG => ⟨hG,tt⟩),(fun hG => ⟨tt,⟨⟨hG,tt⟩,tt,tt,tt⟩,tt⟩),⟨tt,(fun hp => ⟨hp,tt⟩),(fun _ => trivial)⟩,tt,(fun _ => trivial),(fun hG => ⟨hG,tt⟩),(fun hG => ⟨tt,⟨⟨hG,tt⟩,tt,tt,tt⟩,tt⟩),⟨tt,(fun hp => ⟨hp,tt⟩),(fun _ => trivial)⟩,tt,(fun _ => trivial),(fun hG => ⟨hG,tt⟩),(fun hG => ⟨tt,⟨⟨hG,tt⟩,tt,tt,tt⟩,tt⟩),⟨tt,(fun hp => ⟨hp,tt⟩),(fun _ => trivial)⟩,tt,(fun _ => trivial),(fun hG => ⟨hG,tt⟩),(fun hG => ⟨tt,⟨⟨hG,tt⟩,tt,tt,tt⟩,tt⟩),⟨tt,(fun hp => ⟨hp,tt⟩),(fun _ => trivial)⟩,tt,(fun _ => trivial),(fun hG => ⟨hG,tt⟩),(fun hG => ⟨tt,⟨⟨hG,tt⟩,tt,tt,tt⟩,tt⟩),⟨tt,(fun hp => ⟨hp,tt⟩),(fun _ => trivial)⟩,tt,(fun _ => trivial),(fun hG => ⟨hG,tt⟩),(fun hG => ⟨tt,⟨⟨hG,tt⟩,tt,tt,tt⟩,tt⟩),⟨tt,(fun hp => ⟨hp,tt⟩),(fun _ => trivial)⟩,tt,(fun _ => trivial),(fun hG => ⟨hG,tt⟩),(fun _ => trivial),(fun hG => ⟨hG,tt⟩),(fun hG => ⟨⟨hG,tt⟩,⟨hG,tt⟩,tt⟩),⟨tt,(fun hp => ⟨hp,tt⟩),(fun _ => trivial)⟩,tt,tt⟩ ?_
 refine W.ret ?_
 exact endQ_ret (.b ((((((((within c.proc (0 : Int) (2 : Int)) && (within c.obj (0 : Int) (1 : Int))) && (within c.kind (0 : Int) (2 : Int))) && (within c.arg (0 : Int) (3 : Int))) && (within c.ret (-1 : Int) (20 : Int))) && (within c.frm (0 : Int) (30 : Int))) && (within c.to (0 : Int) (30 : Int))) && (decide (c.frm < c.to)))) (by kernel_rfl) (@cast ((.bool ((((((((within c.proc (0 : Int) (2 : Int)) && (within c.obj (0 : Int) (1 : Int))) && (within c.kind (0 : Int) (2 : Int))) && (within c.arg (0 : Int) (3 : Int))) && (within c.ret (-1 : Int) (20 : Int))) && (within c.frm (0 : Int) (30 : Int))) && (within c.to (0 : Int) (30 : Int))) && (decide (c.frm < c.to))) : Value) = .bool (isCall c)) _ (by kernel_rfl) (congrArg Value.bool (by first | rfl | simp_all)))
theorem ent44 : Entr prog 44 := ⟨_,func44,rfl,by decide⟩
end Go.Proofs.Try

set_option linter.unusedSimpArgs false
set_option linter.unusedVariables false
namespace Go.Proofs.Try
open Go.Ab Go.RowKit
def fs59 : FnS := fnS [.o,.o] [.call,.call] (fun _ (a,b,_) => (.b (isBefore a b),[],True))
abbrev T59 : Tab := lk []
theorem tab59 : TabOK prog T59 := TabOK.nil
set_option maxRecDepth 100000 in
set_option maxHeartbeats 1000000 in
theorem ok59 : FnOK prog 59 fs59 := by
 refine FnOK.mk cok func59 rfl rfl rfl ?_
 rintro fl ⟨(a : CallD),(b : CallD),_⟩ hpre F hnt0 _
 have hnt : F.nt = 10 := hnt0.trans ntmps59
 clear hpre
 refine W.to (⟨[(0,.agg [.i a.proc,.i a.obj,.i a.kind,.i a.arg,.i a.ret,.i a.frm,.i a.to]),(1,.agg [.i b.proc,.i b.obj,.i b.kind,.i b.arg,.i b.ret,.i b.frm,.i b.to])],[],[999]⟩) rfl ?_
 refine W.K cok tab59 hnt [] [2,3] (⟨[(2,.ptr 2 0),(3,.ptr 3 0)],[(2,⟨38,.fix [.i a.proc,.i a.obj,.i a.kind,.i a.arg,.i a.ret,.i a.frm,.i a.to]⟩),(3,⟨38,.fix [.i b.proc,.i b.obj,.i b.kind,.i b.arg,.i b.ret,.i b.frm,.i b.to]⟩)],[3,2,999]⟩)
  (True ∧ True ∧ True ∧ True) (by kernel_rfl)
  ⟨tt,tt,tt,tt⟩ ?_
 refine W.K cok tab59 hnt [] [4] (⟨[(4,.b (decide (a.to < b.frm)))],[(2,⟨38,.fix [.i a.proc,.i a.obj,.i a.kind,.i a.arg,.i a.ret,.i a.frm,.i a.to]⟩),(3,⟨38,.fix [.i b.proc,.i b.obj,.i b.kind,.i b.arg,.i b.ret,.i b.frm,.i b.to]⟩)],[3,2,999]⟩)
  (True ∧ True ∧ True ∧ True ∧ (True ∧ True ∧ True) ∧ True ∧ True) (by kernel_rfl)
  ⟨tt,tt,tt,tt,⟨tt,tt,tt⟩,tt,tt⟩ ?_
 refine W.ret ?_
 exact endQ_ret (.b (decide (a.to < b.frm))) (by kernel_rfl) (@cast ((.bool (decide (a.to < b.frm)) : Value) = .bool (isBefore a b)) _ (by kernel_rfl) (congrArg Value.bool (by first | rfl | simp_all)))
theorem ent59 : Entr prog 59 := ⟨_,func59,rfl,by decide⟩
end Go.Proofs.Try

set_option linter.unusedSimpArgs false
set_option linter.unusedVariables false
namespace Go.Proofs.Try
open Go.Ab Go.RowKit
def fs45 : FnS := fnS [.o,.o] [.call,.call] (fun _ (a,b,_) => (.b (doOverlap a b),[],True))
abbrev T45 : Tab := lk [(59,fs59)]
theorem tab45 : TabOK prog T45 := (TabOK.cons ok59 ent59 TabOK.nil)
set_option maxRecDepth 100000 in
set_option maxHeartbeats 1000000 in
theorem ok45 : FnOK prog 45 fs45 := by
 refine FnOK.mk cok func45 rfl rfl rfl ?_
 rintro fl ⟨(a : CallD),(b : CallD),_⟩ hpre F hnt0 _
 have hnt : F.nt = 15 := hnt0.trans ntmps45
 clear hpre
 refine W.to (⟨[(0,.agg [.i a.proc,.i a.obj,.i a.kind,.i a.arg,.i a.ret,.i a.frm,.i a.to]),(1,.agg [.i b.proc,.i b.obj,.i b.kind,.i b.arg,.i b.ret,.i b.frm,.i b.to])],[],[999]⟩) rfl ?_
 refine W.K cok tab45 hnt [] [2,3] (⟨[(2,.ptr 2 0),(3,.ptr 3 0)],[(2,⟨38,.fix [.i a.proc,.i a.obj,.i a.kind,.i a.arg,.i a.ret,.i a.frm,.i a.to]⟩),(3,⟨38,.fix [.i b.proc,.i b.obj,.i b.kind,.i b.arg,.i b.ret,.i b.frm,.i b.to]⟩)],[3,2,999]⟩)
  (True ∧ True ∧ True ∧ True) (by kernel_rfl)
  ⟨tt,tt,tt,tt⟩ ?_
 refine W.K cok tab45 hnt [] [4] (⟨[(4,.b ((!(isBefore a b)) && (!(isBefore b a))))],[(2,⟨38,.fix [.i a.proc,.i a.obj,.i a.kind,.i a.arg,.i a.ret,.i a.frm,.i a.to]⟩),(3,⟨38,.fix [.i b.proc,.i b.obj,.i b.kind,.i b.arg,.i b.ret,.i b.frm,.i b.to]⟩)],[3,2,999]⟩)
  (True ∧ True ∧ (True ∧ (True ∧ True ∧ True) ∧ True) ∧ True ∧ True ∧ ((!(isBefore a b)) = true → True) ∧ ((!(isBefore a b)) = true → True) ∧ ((!(isBefore a b)) = true → (True ∧ ((((!(isBefore a b)) = true) ∧ True) ∧ (((!(isBefore a b)) = true) ∧ True) ∧ True) ∧ True)) ∧ ((!(isBefore a b)) = true → (((!(isBefore a b)) = true) ∧ True)) ∧ (True ∧ ((!(isBefore a b)) = true → ((!(isBefore a b)) = true) ∧ True) ∧ ((!(isBefore a b)) = false → True)) ∧ True ∧ True) (by kernel_rfl)
  ⟨tt,tt,⟨tt,⟨tt,tt,tt⟩,tt⟩,tt,tt,(fun _ => trivial),(fun _ => trivial),(fun hG => ⟨tt,⟨⟨hG,tt⟩,⟨hG,tt⟩,tt⟩,tt⟩),(fun hG => ⟨hG,tt⟩),⟨tt,(fun hp => ⟨hp,tt⟩),(fun _ => trivial)⟩,tt,tt⟩ ?_
 refine W.ret ?_
 exact endQ_ret (.b ((!(isBefore a b)) && (!(isBefore b a)))) (by kernel_rfl) (@cast ((.bool ((!(isBefore a b)) && (!(isBefore b a))) : Value) = .bool (doOverlap a b)) _ (by kernel_rfl) (congrArg Value.bool (by first | rfl | simp_all)))
theorem ent45 : Entr prog 45 := ⟨_,func45,rfl,by decide⟩
end Go.Proofs.Try

set_option linter.unusedSimpArgs false
set_option linter.unusedVariables false
namespace Go.Proofs.Try
open Go.Ab Go.RowKit
def fs26 : FnS := fnS [.s .calls] [.calls] (fun _ (h,_) => (.b (validHistory h),[],True))
abbrev T26 : Tab := lk [(44,fs44),(45,fs45)]
theorem tab26 : TabOK prog T26 := (TabOK.cons ok44 ent44 (TabOK.cons ok45 ent45 TabOK.nil))
set_option maxRecDepth 100000 in
set_option maxHeartbeats 1000000 in
theorem ok26 : FnOK prog 26 fs26 := by
 refine FnOK.mk cok func26 rfl rfl rfl ?_
 rintro fl ⟨(h : List CallD),_⟩ hpre F hnt0 _
 have hnt : F.nt = 68 := hnt0.trans ntmps26
 clear hpre
 refine W.to (⟨[(0,.sl (.calls h))],[],[999]⟩) rfl ?_
 refine W.lenOf 0 (.calls h) (by kernel_rfl) ?_
 intro hl_h; replace hl_h : List.length h ≤ 9223372036854775807 := hl_h
 refine W.K cok tab26 hnt [] [0] (⟨[(0,.sl (.calls h))],[],[999]⟩)
  (True ∧ True) (by kernel_rfl)
  ⟨tt,tt⟩ ?_
 refine W.seq ?_
 refine W.K cok tab26 hnt [] [0,9] (⟨[(0,.sl (.calls h)),(9,.b (decide ((6 : Int) < (h.length : Int))))],[],[999]⟩)
  (True ∧ True ∧ (True ∧ True ∧ True) ∧ True) (by kernel_rfl)
  ⟨tt,tt,⟨tt,tt,tt⟩,tt⟩ ?_
 refine W.ifP ((6 : Int) < (h.length : Int)) (.b (decide ((6 : Int) < (h.length : Int)))) (by kernel_rfl) rfl trivial ?_ ?_
 ·intro h9
  refine W.K cok tab26 hnt [] [2] (⟨[(2,.b false)],[],[999]⟩)
   (True ∧ True) (by kernel_rfl)
   ⟨tt,tt⟩ ?_
  refine W.ret (thenQ_ret ?_)
  exact endQ_ret (.b false) (by kernel_rfl) (@cast ((.bool false : Value) = .bool (validHistory h)) _ (by kernel_rfl) (congrArg Value.bool (by unfold validHistory; symm; exact and_fl (decide_eq_false (by omega)))))
 ·intro n9
  refine W.skip (thenQ_normal ?_)
  refine W.seq ?_
  refine W.K cok tab26 hnt [] [0,10,11,12] (⟨[(0,.sl (.calls h)),(10,.sl (.calls h)),(11,.i (h.length : Int)),(12,.i (0 : Int))],[],[999]⟩)
   (True ∧ True ∧ True ∧ True) (by kernel_rfl)
   ⟨tt,tt,tt,tt⟩ ?_
  refine W.block ?_
  refine W.loop (ι := Nat) (fun (i : Nat) => (⟨[(0,.sl (.calls h)),(10,.sl (.calls h)),(11,.i (h.length : Int)),(12,.i ((i : Nat) : Int))],[],[999]⟩ : St))
   (fun (i : Nat) => (i ≤ h.length) ∧ (∀ j,j < i → (isCall (callAt h j) && allN j (fun k => !clash (callAt h j) (callAt h k))) = true))
   (fun (i : Nat) => (h.length - i : Nat)) (0) ?_ ?_ ?_
  ·exact (show (0 ≤ h.length) ∧ (∀ j,j < 0 → (isCall (callAt h j) && allN j (fun k => !clash (callAt h j) (callAt h k))) = true) from ⟨(by first | assumption | omega | rfl | (intro _ hjj; omega) | (simp; done) | (simp; omega)),(by exact upto_zero)⟩)
  ·exact Sub.of [] (@cast ((((.calls h : Dat) = .calls h) ∧ (((.calls h : Dat) = .calls h) ∧ (((.int .i64 (h.length : Int) : Value) = .int .i64 (h.length : Int)) ∧ (((.int .i64 (0 : Int) : Value) = .int .i64 ((0 : Nat) : Int)) ∧ True)))) ∧ (True ∧ ((true = true) ∧ (true = true)))) _ (by kernel_rfl) ⟨⟨rfl,rfl,rfl,(congrArg (Value.int .i64) (by first | rfl | omega | assumption | simp | simp_all)),tt⟩,tt,rfl,rfl⟩)
  ·rintro i hC0
   have hC : (i ≤ h.length) ∧ (∀ j,j < i → (isCall (callAt h j) && allN j (fun k => !clash (callAt h j) (callAt h k))) = true) := hC0
   clear hC0
   obtain ⟨hi,hA⟩ := hC
   refine W.to (⟨[(0,.sl (.calls h)),(10,.sl (.calls h)),(11,.i (h.length : Int)),(12,.i ((i : Nat) : Int))],[],[999]⟩) rfl ?_
   refine W.K cok tab26 hnt [] [0,10,11,12,13] (⟨[(0,.sl (.calls h)),(10,.sl (.calls h)),(11,.i (h.length : Int)),(12,.i ((i : Nat) : Int)),(13,.b (decide (((i : Nat) : Int) < (h.length : Int))))],[],[999]⟩)
    ((True ∧ True ∧ True) ∧ True) (by kernel_rfl)
    ⟨⟨tt,tt,tt⟩,tt⟩ ?_
   refine W.seq ?_
   refine W.ifP (((i : Nat) : Int) < (h.length : Int)) (.b (decide (((i : Nat) : Int) < (h.length : Int)))) (by kernel_rfl) rfl trivial ?_ ?_
   ·intro h13
    refine W.skip (thenQ_normal ?_)
    refine W.seq ?_
    refine W.block ?_
    refine W.K cok tab26 hnt [] [0,3,4,10,11,12] (⟨[(0,.sl (.calls h)),(3,.i ((i : Nat) : Int)),(4,.ptr 4 0),(10,.sl (.calls h)),(11,.i (h.length : Int)),(12,.i ((i : Nat) : Int))],[(4,⟨38,.fix [.i ((h.getD i default).proc),.i ((h.getD i default).obj),.i ((h.getD i default).kind),.i ((h.getD i default).arg),.i ((h.getD i default).ret),.i ((h.getD i default).frm),.i ((h.getD i default).to)]⟩)],[4,999]⟩)
     (True ∧ (True ∧ True ∧ (0 ≤ ((i : Nat) : Int)) ∧ (((i : Nat) : Int) < (h.length : Int))) ∧ True ∧ True ∧ True ∧ (True ∧ True) ∧ True) (by kernel_rfl)
     ⟨tt,⟨tt,tt,(by omega),(by omega)⟩,tt,tt,tt,⟨tt,tt⟩,tt⟩ ?_
    refine W.seq ?_
    refine W.K cok tab26 hnt [] [0,3,4,10,11,12,19] (⟨[(0,.sl (.calls h)),(3,.i ((i : Nat) : Int)),(4,.ptr 4 0),(10,.sl (.calls h)),(11,.i (h.length : Int)),(12,.i ((i : Nat) : Int)),(19,.b (!(isCall (h.getD i default))))],[(4,⟨38,.fix [.i ((h.getD i default).proc),.i ((h.getD i default).obj),.i ((h.getD i default).kind),.i ((h.getD i default).arg),.i ((h.getD i default).ret),.i ((h.getD i default).frm),.i ((h.getD i default).to)]⟩)],[4,999]⟩)
     (True ∧ (True ∧ (True ∧ True) ∧ True) ∧ True ∧ True) (by kernel_rfl)
     ⟨tt,⟨tt,⟨tt,tt⟩,tt⟩,tt,tt⟩ ?_
    refine W.if' (!(isCall (h.getD i default))) (.b (!(isCall (h.getD i default)))) (by kernel_rfl) rfl trivial ?_ ?_
    ·intro h19
     refine W.K cok tab26 hnt [] [2] (⟨[(2,.b false)],[(4,⟨38,.fix [.i ((h.getD i default).proc),.i ((h.getD i default).obj),.i ((h.getD i default).kind),.i ((h.getD i default).arg),.i ((h.getD i default).ret),.i ((h.getD i default).frm),.i ((h.getD i default).to)]⟩)],[4,999]⟩)
      (True ∧ True) (by kernel_rfl)
      ⟨tt,tt⟩ ?_
     refine W.ret (thenQ_ret (blockQ_ret (thenQ_ret (thenQ_ret (blockQ_ret (thenQ_ret ?_))))))
     exact endQ_ret (.b false) (by kernel_rfl) (@cast ((.bool false : Value) = .bool (validHistory h)) _ (by kernel_rfl) (congrArg Value.bool (by unfold validHistory; symm; exact and_fr (allN_false (i := i) (by omega) (and_fl (not_f h19))))))
    ·intro n19
     refine W.skip (thenQ_normal ?_)
     refine W.K cok tab26 hnt [] [0,4,10,11,12,22,23,24] (⟨[(0,.sl (.calls h)),(4,.ptr 4 0),(10,.sl (.calls h)),(11,.i (h.length : Int)),(12,.i ((i : Nat) : Int)),(22,.sl (.calls (List.take i h))),(23,.i (((List.length (List.take i h)) : Nat) : Int)),(24,.i (0 : Int))],[(4,⟨38,.fix [.i ((h.getD i default).proc),.i ((h.getD i default).obj),.i ((h.getD i default).kind),.i ((h.getD i default).arg),.i ((h.getD i default).ret),.i ((h.getD i default).frm),.i ((h.getD i default).to)]⟩)],[4,999]⟩)
      (True ∧ True ∧ (True ∧ True ∧ True ∧ (0 ≤ (0 : Int)) ∧ ((0 : Int) ≤ ((i : Nat) : Int)) ∧ (((i : Nat) : Int) ≤ (h.length : Int))) ∧ True ∧ True ∧ True) (by kernel_rfl)
      ⟨tt,tt,⟨tt,tt,tt,(by omega),(by omega),(by omega)⟩,tt,tt,tt⟩ ?_
     refine W.block ?_
     refine W.loop (ι := Nat) (fun (k : Nat) => (⟨[(0,.sl (.calls h)),(4,.ptr 4 0),(10,.sl (.calls h)),(11,.i (h.length : Int)),(12,.i ((i : Nat) : Int)),(22,.sl (.calls (List.take i h))),(23,.i (((List.length (List.take i h)) : Nat) : Int)),(24,.i ((k : Nat) : Int))],[(4,⟨38,.fix [.i ((h.getD i default).proc),.i ((h.getD i default).obj),.i ((h.getD i default).kind),.i ((h.getD i default).arg),.i ((h.getD i default).ret),.i ((h.getD i default).frm),.i ((h.getD i default).to)]⟩)],[4,999]⟩ : St))
      (fun (k : Nat) => (k ≤ i) ∧ (∀ j,j < k → (!clash (callAt h i) (callAt h j)) = true))
      (fun (k : Nat) => (i - k : Nat)) (0) ?_ ?_ ?_
     ·exact (show (0 ≤ i) ∧ (∀ j,j < 0 → (!clash (callAt h i) (callAt h j)) = true) from ⟨(by first | assumption | omega | rfl | (intro _ hjj; omega) | (simp; done) | (simp; omega)),(by exact upto_zero)⟩)
     ·exact Sub.of [] (@cast ((((.calls h : Dat) = .calls h) ∧ ((((4 : Nat) = 4) ∧ (((0 : Nat) = 0) ∧ ((4 : Nat) ∈ ([4,999] : List Nat)))) ∧ (((.calls h : Dat) = .calls h) ∧ (((.int .i64 (h.length : Int) : Value) = .int .i64 (h.length : Int)) ∧ (((.int .i64 ((i : Nat) : Int) : Value) = .int .i64 ((i : Nat) : Int)) ∧ (((.calls (List.take i h) : Dat) = .calls (List.take i h)) ∧ (((.int .i64 (((List.length (List.take i h)) : Nat) : Int) : Value) = .int .i64 (((List.length (List.take i h)) : Nat) : Int)) ∧ (((.int .i64 (0 : Int) : Value) = .int .i64 ((0 : Nat) : Int)) ∧ True)))))))) ∧ (((((38 : Nat) = 38) ∧ ((((.int .i64 ((h.getD i default).proc) : Value) = .int .i64 ((h.getD i default).proc)) ∧ (((.int .i64 ((h.getD i default).obj) : Value) = .int .i64 ((h.getD i default).obj)) ∧ (((.int .i64 ((h.getD i default).kind) : Value) = .int .i64 ((h.getD i default).kind)) ∧ (((.int .i64 ((h.getD i default).arg) : Value) = .int .i64 ((h.getD i default).arg)) ∧ (((.int .i64 ((h.getD i default).ret) : Value) = .int .i64 ((h.getD i default).ret)) ∧ (((.int .i64 ((h.getD i default).frm) : Value) = .int .i64 ((h.getD i default).frm)) ∧ (((.int .i64 ((h.getD i default).to) : Value) = .int .i64 ((h.getD i default).to)) ∧ True))))))) ∧ ((4 : Nat) ∈ ([4,999] : List Nat)))) ∧ True) ∧ ((true = true) ∧ (true = true)))) _ (by kernel_rfl) ⟨⟨rfl,⟨rfl,rfl,(by decide)⟩,rfl,rfl,rfl,rfl,rfl,(congrArg (Value.int .i64) (by first | rfl | omega | assumption | simp | simp_all)),tt⟩,⟨⟨rfl,⟨rfl,rfl,rfl,rfl,rfl,rfl,rfl,tt⟩,(by decide)⟩,tt⟩,rfl,rfl⟩)
     ·rintro k hC0
      have hC : (k ≤ i) ∧ (∀ j,j < k → (!clash (callAt h i) (callAt h j)) = true) := hC0
      clear hC0
      obtain ⟨hk,hB⟩ := hC
      refine W.to (⟨[(0,.sl (.calls h)),(4,.ptr 4 0),(10,.sl (.calls h)),(11,.i (h.length : Int)),(12,.i ((i : Nat) : Int)),(22,.sl (.calls (List.take i h))),(23,.i (((List.length (List.take i h)) : Nat) : Int)),(24,.i ((k : Nat) : Int))],[(4,⟨38,.fix [.i ((h.getD i default).proc),.i ((h.getD i default).obj),.i ((h.getD i default).kind),.i ((h.getD i default).arg),.i ((h.getD i default).ret),.i ((h.getD i default).frm),.i ((h.getD i default).to)]⟩)],[4,999]⟩) rfl ?_
      refine W.K cok tab26 hnt [] [0,4,10,11,12,22,23,24,25] (⟨[(0,.sl (.calls h)),(4,.ptr 4 0),(10,.sl (.calls h)),(11,.i (h.length : Int)),(12,.i ((i : Nat) : Int)),(22,.sl (.calls (List.take i h))),(23,.i (((List.length (List.take i h)) : Nat) : Int)),(24,.i ((k : Nat) : Int)),(25,.b (decide (((k : Nat) : Int) < (((List.length (List.take i h)) : Nat) : Int))))],[(4,⟨38,.fix [.i ((h.getD i default).proc),.i ((h.getD i default).obj),.i ((h.getD i default).kind),.i ((h.getD i default).arg),.i ((h.getD i default).ret),.i ((h.getD i default).frm),.i ((h.getD i default).to)]⟩)],[4,999]⟩)
       ((True ∧ True ∧ True) ∧ True) (by kernel_rfl)
       ⟨⟨tt,tt,tt⟩,tt⟩ ?_
      refine W.seq ?_
      refine W.ifP (((k : Nat) : Int) < (((List.length (List.take i h)) : Nat) : Int)) (.b (decide (((k : Nat) : Int) < (((List.length (List.take i h)) : Nat) : Int)))) (by kernel_rfl) rfl trivial ?_ ?_
      ·intro h25
       have h25' := h25
       simp only [List.length_append,List.length_cons,List.length_nil,List.length_take,List.length_drop,List.length_set,List.length_replicate,List.length_map] at h25'
       refine W.skip (thenQ_normal ?_)
       refine W.seq ?_
       refine W.block ?_
       refine W.K cok tab26 hnt [] [0,4,6,10,11,12,22,23,24] (⟨[(0,.sl (.calls h)),(4,.ptr 4 0),(6,.ptr 6 0),(10,.sl (.calls h)),(11,.i (h.length : Int)),(12,.i ((i : Nat) : Int)),(22,.sl (.calls (List.take i h))),(23,.i (((List.length (List.take i h)) : Nat) : Int)),(24,.i ((k : Nat) : Int))],[(4,⟨38,.fix [.i ((h.getD i default).proc),.i ((h.getD i default).obj),.i ((h.getD i default).kind),.i ((h.getD i default).arg),.i ((h.getD i default).ret),.i ((h.getD i default).frm),.i ((h.getD i default).to)]⟩),(6,⟨38,.fix [.i ((List.getD (List.take i h) k default).proc),.i ((List.getD (List.take i h) k default).obj),.i ((List.getD (List.take i h) k default).kind),.i ((List.getD (List.take i h) k default).arg),.i ((List.getD (List.take i h) k default).ret),.i ((List.getD (List.take i h) k default).frm),.i ((List.getD (List.take i h) k default).to)]⟩)],[6,4,999]⟩)
        ((True ∧ True ∧ (0 ≤ ((k : Nat) : Int)) ∧ (((k : Nat) : Int) < (((List.length (List.take i h)) : Nat) : Int))) ∧ True ∧ True ∧ (True ∧ True) ∧ True) (by kernel_rfl)
        ⟨⟨tt,tt,(by omega),(by (first | omega | (simp only [List.length_append,List.length_cons,List.length_nil,List.length_take,List.length_drop,List.length_set,List.length_replicate,List.length_map] at *; omega) | assumption))⟩,tt,tt,⟨tt,tt⟩,tt⟩ ?_
       refine W.K cok tab26 hnt [] [0,4,10,11,12,22,23,24,65] (⟨[(0,.sl (.calls h)),(4,.ptr 4 0),(10,.sl (.calls h)),(11,.i (h.length : Int)),(12,.i ((i : Nat) : Int)),(22,.sl (.calls (List.take i h))),(23,.i (((List.length (List.take i h)) : Nat) : Int)),(24,.i ((k : Nat) : Int)),(65,.b (((((decide (((h.getD i default).frm) = ((List.getD (List.take i h) k default).frm))) || (decide (((h.getD i default).frm) = ((List.getD (List.take i h) k default).to)))) || (decide (((h.getD i default).to) = ((List.getD (List.take i h) k default).frm)))) || (decide (((h.getD i default).to) = ((List.getD (List.take i h) k default).to)))) || ((decide (((h.getD i default).proc) = ((List.getD (List.take i h) k default).proc))) && (doOverlap (h.getD i default) (List.getD (List.take i h) k default)))))],[(4,⟨38,.fix [.i ((h.getD i default).proc),.i ((h.getD i default).obj),.i ((h.getD i default).kind),.i ((h.getD i default).arg),.i ((h.getD i default).ret),.i ((h.getD i default).frm),.i ((h.getD i default).to)]⟩),(6,⟨38,.fix [.i ((List.getD (List.take i h) k default).proc),.i ((List.getD (List.take i h) k default).obj),.i ((List.getD (List.take i h) k default).kind),.i ((List.getD (List.take i h) k default).arg),.i ((List.getD (List.take i h) k default).ret),.i ((List.getD (List.take i h) k default).frm),.i ((List.getD (List.take i h) k default).to)]⟩)],[6,4,999]⟩)
        (True ∧ True ∧ True ∧ True ∧ (True ∧ True ∧ True) ∧ True ∧ ((!(decide (((h.getD i default).frm) = ((List.getD (List.take i h) k default).frm)))) = true → True) ∧ ((!(decide (((h.getD i default).frm) = ((List.getD (List.take i h) k default).frm)))) = true → (((!(decide (((h.getD i default).frm) = ((List.getD (List.take i h) k default).frm)))) = true) ∧ True)) ∧ ((!(decide (((h.getD i default).frm) = ((List.getD (List.take i h) k default).frm)))) = true → True) ∧ ((!(decide (((h.getD i default).frm) = ((List.getD (List.take i h) k default).frm)))) = true → (((!(decide (((h.getD i default).frm) = ((List.getD (List.take i h) k default).frm)))) = true) ∧ True)) ∧ ((!(decide (((h.getD i default).frm) = ((List.getD (List.take i h) k default).frm)))) = true → ((((!(decide (((h.getD i default).frm) = ((List.getD (List.take i h) k default).frm)))) = true) ∧ True) ∧ (((!(decide (((h.getD i default).frm) = ((List.getD (List.take i h) k default).frm)))) = true) ∧ True) ∧ True)) ∧ (True ∧ ((decide (((h.getD i default).frm) = ((List.getD (List.take i h) k default).frm))) = true → True) ∧ ((decide (((h.getD i default).frm) = ((List.getD (List.take i h) k default).frm))) = false → ((!(decide (((h.getD i default).frm) = ((List.getD (List.take i h) k default).frm)))) = true) ∧ True)) ∧ True ∧ ((!((decide (((h.getD i default).frm) = ((List.getD (List.take i h) k default).frm))) || (decide (((h.getD i default).frm) = ((List.getD (List.take i h) k default).to))))) = true → True) ∧ ((!((decide (((h.getD i default).frm) = ((List.getD (List.take i h) k default).frm))) || (decide (((h.getD i default).frm) = ((List.getD (List.take i h) k default).to))))) = true → (((!((decide (((h.getD i default).frm) = ((List.getD (List.take i h) k default).frm))) || (decide (((h.getD i default).frm) = ((List.getD (List.take i h) k default).to))))) = true) ∧ True)) ∧ ((!((decide (((h.getD i default).frm) = ((List.getD (List.take i h) k default).frm))) || (decide (((h.getD i default).frm) = ((List.getD (List.take i h) k default).to))))) = true → True) ∧ ((!((decide (((h.getD i default).frm) = ((List.getD (List.take i h) k default).frm))) || (decide (((h.getD i default).frm) = ((List.getD (List.take i h) k default).to))))) = true → (((!((decide (((h.getD i default).frm) = ((List.getD (List.take i h) k default).frm))) || (decide (((h.getD i default).frm) = ((List.getD (List.take i h) k default).to))))) = true) ∧ True)) ∧ ((!((decide (((h.getD i default).frm) = ((List.getD (List.take i h) k default).frm))) || (decide (((h.getD i default).frm) = ((List.getD (List.take i h) k default).to))))) = true → ((((!((decide (((h.getD i default).frm) = ((List.getD (List.take i h) k default).frm))) || (decide (((h.getD i default).frm) = ((List.getD (List.take i h) k default).to))))) = true) ∧ True) ∧ (((!((decide (((h.getD i default).frm) = ((List.getD (List.take i h) k default).frm))) || (decide (((h.getD i default).frm) = ((List.getD (List.take i h) k default).to))))) = true) ∧ True) ∧ True)) ∧ (True ∧ (((decide (((h.getD i default).frm) = ((List.getD (List.take i h) k default).frm))) || (decide (((h.getD i default).frm) = ((List.getD (List.take i h) k default).to)))) = true → True) ∧ (((decide (((h.getD i default).frm) = ((List.getD (List.take i h) k default).frm))) || (decide (((h.getD i default).frm) = ((List.getD (List.take i h) k default).to)))) = false → ((!((decide (((h.getD i default).frm) = ((List.getD (List.take i h) k default).frm))) || (decide (((h.getD i default).frm) = ((List.getD (List.take i h) k default).to))))) = true) ∧ True)) ∧ True ∧ ((!(((decide (((h.getD i default).frm) = ((List.getD (List.take i h) k default).frm))) || (decide (((h.getD i default).frm) = ((List.getD (List.take i h) k default).to)))) || (decide (((h.getD i default).to) = ((List.getD (List.take i h) k default).frm))))) = true → True) ∧ ((!(((decide (((h.getD i default).frm) = ((List.getD (List.take i h) k default).frm))) || (decide (((h.getD i default).frm) = ((List.getD (List.take i h) k default).to)))) || (decide (((h.getD i default).to) = ((List.getD (List.take i h) k default).frm))))) = true → (((!(((decide (((h.getD i default).frm) = ((List.getD (List.take i h) k default).frm))) || (decide (((h.getD i default).frm) = ((List.getD (List.take i h) k default).to)))) || (decide (((h.getD i default).to) = ((List.getD (List.take i h) k default).frm))))) = true) ∧ True)) ∧ ((!(((decide (((h.getD i default).frm) = ((List.getD (List.take i h) k default).frm))) || (decide (((h.getD i default).frm) = ((List.getD (List.take i h) k default).to)))) || (decide (((h.getD i default).to) = ((List.getD (List.take i h) k default).frm))))) = true → True) ∧ ((!(((decide (((h.getD i default).frm) = ((List.getD (List.take i h) k default).frm))) || (decide (((h.getD i default).frm) = ((List.getD (List.take i h) k default).to)))) || (decide (((h.getD i default).to) = ((List.getD (List.take i h) k default).frm))))) = true → (((!(((decide (((h.getD i default).frm) = ((List.getD (List.take i h) k default).frm))) || (decide (((h.getD i default).frm) = ((List.getD (List.take i h) k default).to)))) || (decide (((h.getD i default).to) = ((List.getD (List.take i h) k default).frm))))) = true) ∧ True)) ∧ ((!(((decide (((h.getD i default).frm) = ((List.getD (List.take i h) k default).frm))) || (decide (((h.getD i default).frm) = ((List.getD (List.take i h) k default).to)))) || (decide (((h.getD i default).to) = ((List.getD (List.take i h) k default).frm))))) = true → ((((!(((decide (((h.getD i default).frm) = ((List.getD (List.take i h) k default).frm))) || (decide (((h.getD i default).frm) = ((List.getD (List.take i h) k default).to)))) || (decide (((h.getD i default).to) = ((List.getD (List.take i h) k default).frm))))) = true) ∧ True) ∧ (((!(((decide (((h.getD i default).frm) = ((List.getD (List.take i h) k default).frm))) || (decide (((h.getD i default).frm) = ((List.getD (List.take i h) k default).to)))) || (decide (((h.getD i default).to) = ((List.getD (List.take i h) k default).frm))))) = true) ∧ True) ∧ True)) ∧ (True ∧ ((((decide (((h.getD i default).frm) = ((List.getD (List.take i h) k default).frm))) || (decide (((h.getD i default).frm) = ((List.getD (List.take i h) k default).to)))) || (decide (((h.getD i default).to) = ((List.getD (List.take i h) k default).frm)))) = true → True) ∧ ((((decide (((h.getD i default).frm) = ((List.getD (List.take i h) k default).frm))) || (decide (((h.getD i default).frm) = ((List.getD (List.take i h) k default).to)))) || (decide (((h.getD i default).to) = ((List.getD (List.take i h) k default).frm)))) = false → ((!(((decide (((h.getD i default).frm) = ((List.getD (List.take i h) k default).frm))) || (decide (((h.getD i default).frm) = ((List.getD (List.take i h) k default).to)))) || (decide (((h.getD i default).to) = ((List.getD (List.take i h) k default).frm))))) = true) ∧ True)) ∧ True ∧ ((!((((decide (((h.getD i default).frm) = ((List.getD (List.take i h) k default).frm))) || (decide (((h.getD i default).frm) = ((List.getD (List.take i h) k default).to)))) || (decide (((h.getD i default).to) = ((List.getD (List.take i h) k default).frm)))) || (decide (((h.getD i default).to) = ((List.getD (List.take i h) k default).to))))) = true → True) ∧ ((!((((decide (((h.getD i default).frm) = ((List.getD (List.take i h) k default).frm))) || (decide (((h.getD i default).frm) = ((List.getD (List.take i h) k default).to)))) || (decide (((h.getD i default).to) = ((List.getD (List.take i h) k default).frm)))) || (decide (((h.getD i default).to) = ((List.getD (List.take i h) k default).to))))) = true → (((!((((decide (((h.getD i default).frm) = ((List.getD (List.take i h) k default).frm))) || (decide (((h.getD i default).frm) = ((List.getD (List.take i h) k default).to)))) || (decide (((h.getD i default).to) = ((List.getD (List.take i h) k default).frm)))) || (decide (((h.getD i default).to) = ((List.getD (List.take i h) k default).to))))) = true) ∧ True)) ∧ ((!((((decide (((h.getD i default).frm) = ((List.getD (List.take i h) k default).frm))) || (decide (((h.getD i default).frm) = ((List.getD (List.take i h) k default).to)))) || (decide (((h.getD i default).to) = ((List.getD (List.take i h) k default).frm)))) || (decide (((h.getD i default).to) = ((List.getD (List.take i h) k default).to))))) = true → True) ∧ ((!((((decide (((h.getD i default).frm) = ((List.getD (List.take i h) k default).frm))) || (decide (((h.getD i default).frm) = ((List.getD (List.take i h) k default).to)))) || (decide (((h.getD i default).to) = ((List.getD (List.take i h) k default).frm)))) || (decide (((h.getD i default).to) = ((List.getD (List.take i h) k default).to))))) = true → (((!((((decide (((h.getD i default).frm) = ((List.getD (List.take i h) k default).frm))) || (decide (((h.getD i default).frm) = ((List.getD (List.take i h) k default).to)))) || (decide (((h.getD i default).to) = ((List.getD (List.take i h) k default).frm)))) || (decide (((h.getD i default).to) = ((List.getD (List.take i h) k default).to))))) = true) ∧ True)) ∧ ((!((((decide (((h.getD i default).frm) = ((List.getD (List.take i h) k default).frm))) || (decide (((h.getD i default).frm) = ((List.getD (List.take i h) k default).to)))) || (decide (((h.getD i default).to) = ((List.getD (List.take i h) k default).frm)))) || (decide (((h.getD i default).to) = ((List.getD (List.take i h) k default).to))))) = true → ((((!((((decide (((h.getD i default).frm) = ((List.getD (List.take i h) k default).frm))) || (decide (((h.getD i default).frm) = ((List.getD (List.take i h) k default).to)))) || (decide (((h.getD i default).to) = ((List.getD (List.take i h) k default).frm)))) || (decide (((h.getD i default).to) = ((List.getD (List.take i h) k default).to))))) = true) ∧ True) ∧ (((!((((decide (((h.getD i default).frm) = ((List.getD (List.take i h) k default).frm))) || (decide (((h.getD i default).frm) = ((List.getD (List.take i h) k default).to)))) || (decide (((h.getD i default).to) = ((List.getD (List.take i h) k default).frm)))) || (decide (((h.getD i default).to) = ((List.getD (List.take i h) k default).to))))) = true) ∧ True) ∧ True)) ∧ ((!((((decide (((h.getD i default).frm) = ((List.getD (List.take i h) k default).frm))) || (decide (((h.getD i default).frm) = ((List.getD (List.take i h) k default).to)))) || (decide (((h.getD i default).to) = ((List.getD (List.take i h) k default).frm)))) || (decide (((h.getD i default).to) = ((List.getD (List.take i h) k default).to))))) = true → True) ∧ (((!((((decide (((h.getD i default).frm) = ((List.getD (List.take i h) k default).frm))) || (decide (((h.getD i default).frm) = ((List.getD (List.take i h) k default).to)))) || (decide (((h.getD i default).to) = ((List.getD (List.take i h) k default).frm)))) || (decide (((h.getD i default).to) = ((List.getD (List.take i h) k default).to))))) && ((!((((decide (((h.getD i default).frm) = ((List.getD (List.take i h) k default).frm))) || (decide (((h.getD i default).frm) = ((List.getD (List.take i h) k default).to)))) || (decide (((h.getD i default).to) = ((List.getD (List.take i h) k default).frm)))) || (decide (((h.getD i default).to) = ((List.getD (List.take i h) k default).to))))) && (decide (((h.getD i default).proc) = ((List.getD (List.take i h) k default).proc))))) = true → True) ∧ (((!((((decide (((h.getD i default).frm) = ((List.getD (List.take i h) k default).frm))) || (decide (((h.getD i default).frm) = ((List.getD (List.take i h) k default).to)))) || (decide (((h.getD i default).to) = ((List.getD (List.take i h) k default).frm)))) || (decide (((h.getD i default).to) = ((List.getD (List.take i h) k default).to))))) && ((!((((decide (((h.getD i default).frm) = ((List.getD (List.take i h) k default).frm))) || (decide (((h.getD i default).frm) = ((List.getD (List.take i h) k default).to)))) || (decide (((h.getD i default).to) = ((List.getD (List.take i h) k default).frm)))) || (decide (((h.getD i default).to) = ((List.getD (List.take i h) k default).to))))) && (decide (((h.getD i default).proc) = ((List.getD (List.take i h) k default).proc))))) = true → True) ∧ (((!((((decide (((h.getD i default).frm) = ((List.getD (List.take i h) k default).frm))) || (decide (((h.getD i default).frm) = ((List.getD (List.take i h) k default).to)))) || (decide (((h.getD i default).to) = ((List.getD (List.take i h) k default).frm)))) || (decide (((h.getD i default).to) = ((List.getD (List.take i h) k default).to))))) && ((!((((decide (((h.getD i default).frm) = ((List.getD (List.take i h) k default).frm))) || (decide (((h.getD i default).frm) = ((List.getD (List.take i h) k default).to)))) || (decide (((h.getD i default).to) = ((List.getD (List.take i h) k default).frm)))) || (decide (((h.getD i default).to) = ((List.getD (List.take i h) k default).to))))) && (decide (((h.getD i default).proc) = ((List.getD (List.take i h) k default).proc))))) = true → (True ∧ (((((!((((decide (((h.getD i default).frm) = ((List.getD (List.take i h) k default).frm))) || (decide (((h.getD i default).frm) = ((List.getD (List.take i h) k default).to)))) || (decide (((h.getD i default).to) = ((List.getD (List.take i h) k default).frm)))) || (decide (((h.getD i default).to) = ((List.getD (List.take i h) k default).to))))) && ((!((((decide (((h.getD i default).frm) = ((List.getD (List.take i h) k default).frm))) || (decide (((h.getD i default).frm) = ((List.getD (List.take i h) k default).to)))) || (decide (((h.getD i default).to) = ((List.getD (List.take i h) k default).frm)))) || (decide (((h.getD i default).to) = ((List.getD (List.take i h) k default).to))))) && (decide (((h.getD i default).proc) = ((List.getD (List.take i h) k default).proc))))) = true) ∧ True) ∧ ((((!((((decide (((h.getD i default).frm) = ((List.getD (List.take i h) k default).frm))) || (decide (((h.getD i default).frm) = ((List.getD (List.take i h) k default).to)))) || (decide (((h.getD i default).to) = ((List.getD (List.take i h) k default).frm)))) || (decide (((h.getD i default).to) = ((List.getD (List.take i h) k default).to))))) && ((!((((decide (((h.getD i default).frm) = ((List.getD (List.take i h) k default).frm))) || (decide (((h.getD i default).frm) = ((List.getD (List.take i h) k default).to)))) || (decide (((h.getD i default).to) = ((List.getD (List.take i h) k default).frm)))) || (decide (((h.getD i default).to) = ((List.getD (List.take i h) k default).to))))) && (decide (((h.getD i default).proc) = ((List.getD (List.take i h) k default).proc))))) = true) ∧ True) ∧ True) ∧ True)) ∧ ((!((((decide (((h.getD i default).frm) = ((List.getD (List.take i h) k default).frm))) || (decide (((h.getD i default).frm) = ((List.getD (List.take i h) k default).to)))) || (decide (((h.getD i default).to) = ((List.getD (List.take i h) k default).frm)))) || (decide (((h.getD i default).to) = ((List.getD (List.take i h) k default).to))))) = true → ((((!((((decide (((h.getD i default).frm) = ((List.getD (List.take i h) k default).frm))) || (decide (((h.getD i default).frm) = ((List.getD (List.take i h) k default).to)))) || (decide (((h.getD i default).to) = ((List.getD (List.take i h) k default).frm)))) || (decide (((h.getD i default).to) = ((List.getD (List.take i h) k default).to))))) = true) ∧ ((!((((decide (((h.getD i default).frm) = ((List.getD (List.take i h) k default).frm))) || (decide (((h.getD i default).frm) = ((List.getD (List.take i h) k default).to)))) || (decide (((h.getD i default).to) = ((List.getD (List.take i h) k default).frm)))) || (decide (((h.getD i default).to) = ((List.getD (List.take i h) k default).to))))) = true) ∧ True) ∧ ((decide (((h.getD i default).proc) = ((List.getD (List.take i h) k default).proc))) = true → (((!((((decide (((h.getD i default).frm) = ((List.getD (List.take i h) k default).frm))) || (decide (((h.getD i default).frm) = ((List.getD (List.take i h) k default).to)))) || (decide (((h.getD i default).to) = ((List.getD (List.take i h) k default).frm)))) || (decide (((h.getD i default).to) = ((List.getD (List.take i h) k default).to))))) && ((!((((decide (((h.getD i default).frm) = ((List.getD (List.take i h) k default).frm))) || (decide (((h.getD i default).frm) = ((List.getD (List.take i h) k default).to)))) || (decide (((h.getD i default).to) = ((List.getD (List.take i h) k default).frm)))) || (decide (((h.getD i default).to) = ((List.getD (List.take i h) k default).to))))) && (decide (((h.getD i default).proc) = ((List.getD (List.take i h) k default).proc))))) = true) ∧ True) ∧ ((decide (((h.getD i default).proc) = ((List.getD (List.take i h) k default).proc))) = false → True))) ∧ (True ∧ (((((decide (((h.getD i default).frm) = ((List.getD (List.take i h) k default).frm))) || (decide (((h.getD i default).frm) = ((List.getD (List.take i h) k default).to)))) || (decide (((h.getD i default).to) = ((List.getD (List.take i h) k default).frm)))) || (decide (((h.getD i default).to) = ((List.getD (List.take i h) k default).to)))) = true → True) ∧ (((((decide (((h.getD i default).frm) = ((List.getD (List.take i h) k default).frm))) || (decide (((h.getD i default).frm) = ((List.getD (List.take i h) k default).to)))) || (decide (((h.getD i default).to) = ((List.getD (List.take i h) k default).frm)))) || (decide (((h.getD i default).to) = ((List.getD (List.take i h) k default).to)))) = false → ((!((((decide (((h.getD i default).frm) = ((List.getD (List.take i h) k default).frm))) || (decide (((h.getD i default).frm) = ((List.getD (List.take i h) k default).to)))) || (decide (((h.getD i default).to) = ((List.getD (List.take i h) k default).frm)))) || (decide (((h.getD i default).to) = ((List.getD (List.take i h) k default).to))))) = true) ∧ True)) ∧ True) (by kernel_rfl)
        ⟨tt,tt,tt,tt,⟨tt,tt,tt⟩,tt,(fun _ => trivial),(fun hG => ⟨hG,tt⟩),(fun _ => trivial),(fun hG => ⟨hG,tt⟩),(fun hG => ⟨⟨hG,tt⟩,⟨hG,tt⟩,tt⟩),⟨tt,(fun _ => trivial),(fun hp => ⟨(not_t hp),tt⟩)⟩,tt,(fun _ => trivial),(fun hG => ⟨hG,tt⟩),(fun _ => trivial),(fun hG => ⟨hG,tt⟩),(fun hG => ⟨⟨hG,tt⟩,⟨hG,tt⟩,tt⟩),⟨tt,(fun _ => trivial),(fun hp => ⟨(not_t hp),tt⟩)⟩,tt,(fun _ => trivial),(fun hG => ⟨hG,tt⟩),(fun _ => trivial),(fun hG => ⟨hG,tt⟩),(fun hG => ⟨⟨hG,tt⟩,⟨hG,tt⟩,tt⟩),⟨tt,(fun _ => trivial),(fun hp => ⟨(not_t hp),tt⟩)⟩,tt,(fun _ => trivial),(fun hG => ⟨hG,tt⟩),(fun _ => trivial),(fun hG => ⟨hG,tt⟩),(fun hG => ⟨⟨hG,tt⟩,⟨hG,tt⟩,tt⟩),(fun _ => trivial),(fun _ => trivial),(fun _ => trivial),(fun hG => ⟨tt,⟨⟨hG,tt⟩,⟨hG,tt⟩,tt⟩,tt⟩),(fun hG => ⟨⟨hG,hG,tt⟩,(fun hp => ⟨(and_t hG (and_t hG hp)),tt⟩),(fun _ => trivial)⟩),⟨tt,(fun _ => trivial),(fun hp => ⟨(not_t hp),tt⟩)⟩,tt⟩ ?_
       refine W.if' (((((decide (((h.getD i default).frm) = ((List.getD (List.take i h) k default).frm))) || (decide (((h.getD i default).frm) = ((List.getD (List.take i h) k default).to)))) || (decide (((h.getD i default).to) = ((List.getD (List.take i h) k default).frm)))) || (decide (((h.getD i default).to) = ((List.getD (List.take i h) k default).to)))) || ((decide (((h.getD i default).proc) = ((List.getD (List.take i h) k default).proc))) && (doOverlap (h.getD i default) (List.getD (List.take i h) k default)))) (.b (((((decide (((h.getD i default).frm) = ((List.getD (List.take i h) k default).frm))) || (decide (((h.getD i default).frm) = ((List.getD (List.take i h) k default).to)))) || (decide (((h.getD i default).to) = ((List.getD (List.take i h) k default).frm)))) || (decide (((h.getD i default).to) = ((List.getD (List.take i h) k default).to)))) || ((decide (((h.getD i default).proc) = ((List.getD (List.take i h) k default).proc))) && (doOverlap (h.getD i default) (List.getD (List.take i h) k default))))) (by kernel_rfl) rfl trivial ?_ ?_
       ·intro h65
        refine W.K cok tab26 hnt [] [2] (⟨[(2,.b false)],[(4,⟨38,.fix [.i ((h.getD i default).proc),.i ((h.getD i default).obj),.i ((h.getD i default).kind),.i ((h.getD i default).arg),.i ((h.getD i default).ret),.i ((h.getD i default).frm),.i ((h.getD i default).to)]⟩),(6,⟨38,.fix [.i ((List.getD (List.take i h) k default).proc),.i ((List.getD (List.take i h) k default).obj),.i ((List.getD (List.take i h) k default).kind),.i ((List.getD (List.take i h) k default).arg),.i ((List.getD (List.take i h) k default).ret),.i ((List.getD (List.take i h) k default).frm),.i ((List.getD (List.take i h) k default).to)]⟩)],[6,4,999]⟩)
         (True ∧ True) (by kernel_rfl)
         ⟨tt,tt⟩ ?_
        refine W.ret (blockQ_ret (thenQ_ret (thenQ_ret (blockQ_ret (blockQ_ret (thenQ_ret (thenQ_ret (blockQ_ret (thenQ_ret ?_)))))))))
        exact endQ_ret (.b false) (by kernel_rfl) (@cast ((.bool false : Value) = .bool (validHistory h)) _ (by kernel_rfl) (congrArg Value.bool (by unfold validHistory; symm; exact and_fr (allN_false (i := i) (by omega) (and_fr (allN_false (i := k) (by omega) (not_h (by rw [← h65,getD_take h (default : CallD) (show k < i by omega)]; rfl))))))))
       ·intro n65
        have n65_0 : ¬ (((h.getD i default).frm) = ((List.getD (List.take i h) k default).frm)) := of_decide_eq_false (or_l (or_l (or_l (or_l n65))))
        have n65_1 : ¬ (((h.getD i default).frm) = ((List.getD (List.take i h) k default).to)) := of_decide_eq_false (or_r (or_l (or_l (or_l n65))))
        have n65_2 : ¬ (((h.getD i default).to) = ((List.getD (List.take i h) k default).frm)) := of_decide_eq_false (or_r (or_l (or_l n65)))
        have n65_3 : ¬ (((h.getD i default).to) = ((List.getD (List.take i h) k default).to)) := of_decide_eq_false (or_r (or_l n65))
        refine W.skip (blockQ_normal (thenQ_normal ?_))
        refine W.L cok tab26 hnt [] (⟨[(0,.sl (.calls h)),(4,.ptr 4 0),(10,.sl (.calls h)),(11,.i (h.length : Int)),(12,.i ((i : Nat) : Int)),(22,.sl (.calls (List.take i h))),(23,.i (((List.length (List.take i h)) : Nat) : Int)),(24,.i (((k + 1) : Nat) : Int)),(65,.b (((((decide (((h.getD i default).frm) = ((List.getD (List.take i h) k default).frm))) || (decide (((h.getD i default).frm) = ((List.getD (List.take i h) k default).to)))) || (decide (((h.getD i default).to) = ((List.getD (List.take i h) k default).frm)))) || (decide (((h.getD i default).to) = ((List.getD (List.take i h) k default).to)))) || ((decide (((h.getD i default).proc) = ((List.getD (List.take i h) k default).proc))) && (doOverlap (h.getD i default) (List.getD (List.take i h) k default))))),(66,.i (((k + 1) : Nat) : Int))],[(4,⟨38,.fix [.i ((h.getD i default).proc),.i ((h.getD i default).obj),.i ((h.getD i default).kind),.i ((h.getD i default).arg),.i ((h.getD i default).ret),.i ((h.getD i default).frm),.i ((h.getD i default).to)]⟩),(6,⟨38,.fix [.i ((List.getD (List.take i h) k default).proc),.i ((List.getD (List.take i h) k default).obj),.i ((List.getD (List.take i h) k default).kind),.i ((List.getD (List.take i h) k default).arg),.i ((List.getD (List.take i h) k default).ret),.i ((List.getD (List.take i h) k default).frm),.i ((List.getD (List.take i h) k default).to)]⟩)],[6,4,999]⟩)
         ((True ∧ True ∧ (Fits .i64 (((k + 1) : Nat) : Int))) ∧ True ∧ True) (by kernel_rfl)
         ⟨⟨tt,tt,(by exact fits_i64 (by omega) (by omega))⟩,tt,tt⟩ ?_
        refine thenQ_normal ?_
        refine ⟨((k + 1)),(show ((k + 1) ≤ i) ∧ (∀ j,j < (k + 1) → (!clash (callAt h i) (callAt h j)) = true) from ⟨(by first | assumption | omega | rfl | (intro _ hjj; omega) | (simp; done) | (simp; omega)),(by exact upto_succ hB (not_t (by rw [← n65,getD_take h (default : CallD) (show k < i by omega)]; rfl)))⟩),(show i - (k + 1) < i - k from (by first | omega | (simp_all; omega))),?_⟩
        exact Sub.of [] (@cast ((((.calls h : Dat) = .calls h) ∧ ((((4 : Nat) = 4) ∧ (((0 : Nat) = 0) ∧ ((4 : Nat) ∈ ([4,999] : List Nat)))) ∧ (((.calls h : Dat) = .calls h) ∧ (((.int .i64 (h.length : Int) : Value) = .int .i64 (h.length : Int)) ∧ (((.int .i64 ((i : Nat) : Int) : Value) = .int .i64 ((i : Nat) : Int)) ∧ (((.calls (List.take i h) : Dat) = .calls (List.take i h)) ∧ (((.int .i64 (((List.length (List.take i h)) : Nat) : Int) : Value) = .int .i64 (((List.length (List.take i h)) : Nat) : Int)) ∧ (((.int .i64 (((k + 1) : Nat) : Int) : Value) = .int .i64 (((k + 1) : Nat) : Int)) ∧ True)))))))) ∧ (((((38 : Nat) = 38) ∧ ((((.int .i64 ((h.getD i default).proc) : Value) = .int .i64 ((h.getD i default).proc)) ∧ (((.int .i64 ((h.getD i default).obj) : Value) = .int .i64 ((h.getD i default).obj)) ∧ (((.int .i64 ((h.getD i default).kind) : Value) = .int .i64 ((h.getD i default).kind)) ∧ (((.int .i64 ((h.getD i default).arg) : Value) = .int .i64 ((h.getD i default).arg)) ∧ (((.int .i64 ((h.getD i default).ret) : Value) = .int .i64 ((h.getD i default).ret)) ∧ (((.int .i64 ((h.getD i default).frm) : Value) = .int .i64 ((h.getD i default).frm)) ∧ (((.int .i64 ((h.getD i default).to) : Value) = .int .i64 ((h.getD i default).to)) ∧ True))))))) ∧ ((4 : Nat) ∈ ([4,999] : List Nat)))) ∧ True) ∧ ((true = true) ∧ (true = true)))) _ (by kernel_rfl) ⟨⟨rfl,⟨rfl,rfl,(by decide)⟩,rfl,rfl,rfl,rfl,rfl,rfl,tt⟩,⟨⟨rfl,⟨rfl,rfl,rfl,rfl,rfl,rfl,rfl,tt⟩,(by decide)⟩,tt⟩,rfl,rfl⟩)
      ·intro n25
       have n25' := n25
       simp only [List.length_append,List.length_cons,List.length_nil,List.length_take,List.length_drop,List.length_set,List.length_replicate,List.length_map] at n25'
       refine W.exit (thenQ_exit (thenQ_exit (blockQ_hit ?_)))
       refine blockQ_normal (thenQ_normal ?_)
       refine W.L cok tab26 hnt [] (⟨[(0,.sl (.calls h)),(4,.ptr 4 0),(10,.sl (.calls h)),(11,.i (h.length : Int)),(12,.i (((i + 1) : Nat) : Int)),(22,.sl (.calls (List.take i h))),(23,.i (((List.length (List.take i h)) : Nat) : Int)),(24,.i ((k : Nat) : Int)),(25,.b (decide (((k : Nat) : Int) < (((List.length (List.take i h)) : Nat) : Int)))),(67,.i (((i + 1) : Nat) : Int))],[(4,⟨38,.fix [.i ((h.getD i default).proc),.i ((h.getD i default).obj),.i ((h.getD i default).kind),.i ((h.getD i default).arg),.i ((h.getD i default).ret),.i ((h.getD i default).frm),.i ((h.getD i default).to)]⟩)],[4,999]⟩)
        ((True ∧ True ∧ (Fits .i64 (((i + 1) : Nat) : Int))) ∧ True ∧ True) (by kernel_rfl)
        ⟨⟨tt,tt,(by exact fits_i64 (by omega) (by omega))⟩,tt,tt⟩ ?_
       refine thenQ_normal ?_
       refine ⟨((i + 1)),(show ((i + 1) ≤ h.length) ∧ (∀ j,j < (i + 1) → (isCall (callAt h j) && allN j (fun k => !clash (callAt h j) (callAt h k))) = true) from ⟨(by first | assumption | omega | rfl | (intro _ hjj; omega) | (simp; done) | (simp; omega)),(by exact upto_succ hA (and_t (not_g n19) (allN_true (fun j hj => hB j (by omega)))))⟩),(show h.length - (i + 1) < h.length - i from (by first | omega | (simp_all; omega))),?_⟩
       exact Sub.of [] (@cast ((((.calls h : Dat) = .calls h) ∧ (((.calls h : Dat) = .calls h) ∧ (((.int .i64 (h.length : Int) : Value) = .int .i64 (h.length : Int)) ∧ (((.int .i64 (((i + 1) : Nat) : Int) : Value) = .int .i64 (((i + 1) : Nat) : Int)) ∧ True)))) ∧ (True ∧ ((true = true) ∧ (true = true)))) _ (by kernel_rfl) ⟨⟨rfl,rfl,rfl,rfl,tt⟩,tt,rfl,rfl⟩)
   ·intro n13
    refine W.exit (thenQ_exit (thenQ_exit (blockQ_hit ?_)))
    refine thenQ_normal ?_
    refine W.K cok tab26 hnt [] [2] (⟨[(2,.b true)],[],[999]⟩)
     (True ∧ True) (by kernel_rfl)
     ⟨tt,tt⟩ ?_
    refine W.ret ?_
    exact endQ_ret (.b true) (by kernel_rfl) (@cast ((.bool true : Value) = .bool (validHistory h)) _ (by kernel_rfl) (congrArg Value.bool (by unfold validHistory; symm; exact and_t (decide_eq_true (by omega)) (allN_true (fun j hj => hA j (by omega))))))
theorem ent26 : Entr prog 26 := ⟨_,func26,rfl,by decide⟩
end Go.Proofs.Try

set_option linter.unusedSimpArgs false
set_option linter.unusedVariables false
namespace Go.Proofs.Try
open Go.Ab Go.RowKit
def fs60 : FnS := fnS [.s .ints,.o] [.ints,.int] (fun _ (l,x,_) => (.i (findI l x),[],True))
abbrev T60 : Tab := lk []
theorem tab60 : TabOK prog T60 := TabOK.nil
set_option maxRecDepth 100000 in
set_option maxHeartbeats 1000000 in
theorem ok60 : FnOK prog 60 fs60 := by
 refine FnOK.mk cok func60 rfl rfl rfl ?_
 rintro fl ⟨(l : List Int),(x : Int),_⟩ hpre F hnt0 _
 have hnt : F.nt = 19 := hnt0.trans ntmps60
 clear hpre
 refine W.to (⟨[(0,.sl (.ints l)),(1,.i x)],[],[999]⟩) rfl ?_
 refine W.lenOf 0 (.ints l) (by kernel_rfl) ?_
 intro hl_l; replace hl_l : List.length l ≤ 9223372036854775807 := hl_l
 refine W.K cok tab60 hnt [] [0,1] (⟨[(0,.sl (.ints l)),(1,.i x)],[],[999]⟩)
  (True ∧ True) (by kernel_rfl)
  ⟨tt,tt⟩ ?_
 refine W.seq ?_
 refine W.K cok tab60 hnt [] [0,1,7,8] (⟨[(0,.sl (.ints l)),(1,.i x),(7,.i (l.length : Int)),(8,.i (0 : Int))],[],[999]⟩)
  (True ∧ True ∧ True ∧ True) (by kernel_rfl)
  ⟨tt,tt,tt,tt⟩ ?_
 refine W.block ?_
 refine W.loop (ι := Nat) (fun (i : Nat) => (⟨[(0,.sl (.ints l)),(1,.i x),(7,.i (l.length : Int)),(8,.i ((i : Nat) : Int))],[],[999]⟩ : St))
  (fun (i : Nat) => (i ≤ l.length) ∧ (∀ j,j < i → ¬ l.getD j 0 = x))
  (fun (i : Nat) => (l.length - i : Nat)) (0) ?_ ?_ ?_
 ·exact (show (0 ≤ l.length) ∧ (∀ j,j < 0 → ¬ l.getD j 0 = x) from ⟨(by first | assumption | omega | rfl | (intro _ hjj; omega) | (simp; done) | (simp; omega)),(by exact upto_zero)⟩)
 ·exact Sub.of [] (@cast ((((.ints l : Dat) = .ints l) ∧ (((.int .i64 x : Value) = .int .i64 x) ∧ (((.int .i64 (l.length : Int) : Value) = .int .i64 (l.length : Int)) ∧ (((.int .i64 (0 : Int) : Value) = .int .i64 ((0 : Nat) : Int)) ∧ True)))) ∧ (True ∧ ((true = true) ∧ (true = true)))) _ (by kernel_rfl) ⟨⟨rfl,rfl,rfl,(congrArg (Value.int .i64) (by first | rfl | omega | assumption | simp | simp_all)),tt⟩,tt,rfl,rfl⟩)
 ·rintro i hC0
  have hC : (i ≤ l.length) ∧ (∀ j,j < i → ¬ l.getD j 0 = x) := hC0
  clear hC0
  obtain ⟨hi,hA⟩ := hC
  refine W.to (⟨[(0,.sl (.ints l)),(1,.i x),(7,.i (l.length : Int)),(8,.i ((i : Nat) : Int))],[],[999]⟩) rfl ?_
  refine W.K cok tab60 hnt [] [0,1,7,8,9] (⟨[(0,.sl (.ints l)),(1,.i x),(7,.i (l.length : Int)),(8,.i ((i : Nat) : Int)),(9,.b (decide (((i : Nat) : Int) < (l.length : Int))))],[],[999]⟩)
   ((True ∧ True ∧ True) ∧ True) (by kernel_rfl)
   ⟨⟨tt,tt,tt⟩,tt⟩ ?_
  refine W.seq ?_
  refine W.ifP (((i : Nat) : Int) < (l.length : Int)) (.b (decide (((i : Nat) : Int) < (l.length : Int)))) (by kernel_rfl) rfl trivial ?_ ?_
  ·intro h9
   refine W.skip (thenQ_normal ?_)
   refine W.seq ?_
   refine W.block ?_
   refine W.K cok tab60 hnt [] [0,1,5,7,8] (⟨[(0,.sl (.ints l)),(1,.i x),(5,.i ((i : Nat) : Int)),(7,.i (l.length : Int)),(8,.i ((i : Nat) : Int))],[],[999]⟩)
    (True ∧ True ∧ True) (by kernel_rfl)
    ⟨tt,tt,tt⟩ ?_
   refine W.K cok tab60 hnt [] [0,1,5,7,8,16] (⟨[(0,.sl (.ints l)),(1,.i x),(5,.i ((i : Nat) : Int)),(7,.i (l.length : Int)),(8,.i ((i : Nat) : Int)),(16,.b (decide (x = (l.getD i 0))))],[],[999]⟩)
    (True ∧ True ∧ True ∧ (True ∧ True ∧ (0 ≤ ((i : Nat) : Int)) ∧ (((i : Nat) : Int) < (l.length : Int))) ∧ True ∧ (True ∧ True ∧ True) ∧ True) (by kernel_rfl)
    ⟨tt,tt,tt,⟨tt,tt,(by omega),(by omega)⟩,tt,⟨tt,tt,tt⟩,tt⟩ ?_
   refine W.ifP (x = (l.getD i 0)) (.b (decide (x = (l.getD i 0)))) (by kernel_rfl) rfl trivial ?_ ?_
   ·intro h16
    refine W.K cok tab60 hnt [] [4] (⟨[(4,.i ((i : Nat) : Int))],[],[999]⟩)
     (True ∧ True ∧ True) (by kernel_rfl)
     ⟨tt,tt,tt⟩ ?_
    refine W.ret (blockQ_ret (thenQ_ret (thenQ_ret (blockQ_ret (thenQ_ret ?_)))))
    exact endQ_ret (.i ((i : Nat) : Int)) (by kernel_rfl) (@cast ((.int .i64 ((i : Nat) : Int) : Value) = .int .i64 (findI l x)) _ (by kernel_rfl) (congrArg (Value.int .i64) (by exact (findI_yes (by omega) h16 hA).symm)))
   ·intro n16
    refine W.skip (blockQ_normal (thenQ_normal ?_))
    refine W.L cok tab60 hnt [] (⟨[(0,.sl (.ints l)),(1,.i x),(5,.i ((i : Nat) : Int)),(7,.i (l.length : Int)),(8,.i (((i + 1) : Nat) : Int)),(16,.b (decide (x = (l.getD i 0)))),(18,.i (((i + 1) : Nat) : Int))],[],[999]⟩)
     ((True ∧ True ∧ (Fits .i64 (((i + 1) : Nat) : Int))) ∧ True ∧ True) (by kernel_rfl)
     ⟨⟨tt,tt,(by exact fits_i64 (by omega) (by omega))⟩,tt,tt⟩ ?_
    refine thenQ_normal ?_
    refine ⟨((i + 1)),(show ((i + 1) ≤ l.length) ∧ (∀ j,j < (i + 1) → ¬ l.getD j 0 = x) from ⟨(by first | assumption | omega | rfl | (intro _ hjj; omega) | (simp; done) | (simp; omega)),(by exact upto_succ hA (fun e => n16 e.symm))⟩),(show l.length - (i + 1) < l.length - i from (by first | omega | (simp_all; omega))),?_⟩
    exact Sub.of [] (@cast ((((.ints l : Dat) = .ints l) ∧ (((.int .i64 x : Value) = .int .i64 x) ∧ (((.int .i64 (l.length : Int) : Value) = .int .i64 (l.length : Int)) ∧ (((.int .i64 (((i + 1) : Nat) : Int) : Value) = .int .i64 (((i + 1) : Nat) : Int)) ∧ True)))) ∧ (True ∧ ((true = true) ∧ (true = true)))) _ (by kernel_rfl) ⟨⟨rfl,rfl,rfl,rfl,tt⟩,tt,rfl,rfl⟩)
  ·intro n9
   refine W.exit (thenQ_exit (thenQ_exit (blockQ_hit ?_)))
   refine thenQ_normal ?_
   refine W.K cok tab60 hnt [] [4] (⟨[(4,.i (-1 : Int))],[],[999]⟩)
    (True ∧ True) (by kernel_rfl)
    ⟨tt,tt⟩ ?_
   refine W.ret ?_
   exact endQ_ret (.i (-1 : Int)) (by kernel_rfl) (@cast ((.int .i64 (-1 : Int) : Value) = .int .i64 (findI l x)) _ (by kernel_rfl) (congrArg (Value.int .i64) (by exact (findI_no (fun j hj => hA j (by omega))).symm)))
theorem ent60 : Entr prog 60 := ⟨_,func60,rfl,by decide⟩
end Go.Proofs.Try

set_option linter.unusedSimpArgs false
set_option linter.unusedVariables false
namespace Go.Proofs.Try
open Go.Ab Go.RowKit
def fs47 : FnS := fnS [.s .ints,.o] [.ints,.int] (fun _ (l,x,_) => (.b (hasInt l x),[],True))
abbrev T47 : Tab := lk [(60,fs60)]
theorem tab47 : TabOK prog T47 := (TabOK.cons ok60 ent60 TabOK.nil)
set_option maxRecDepth 100000 in
set_option maxHeartbeats 1000000 in
theorem ok47 : FnOK prog 47 fs47 := by
 refine FnOK.mk cok func47 rfl rfl rfl ?_
 rintro fl ⟨(l : List Int),(x : Int),_⟩ hpre F hnt0 _
 have hnt : F.nt = 9 := hnt0.trans ntmps47
 clear hpre
 refine W.to (⟨[(0,.sl (.ints l)),(1,.i x)],[],[999]⟩) rfl ?_
 refine W.lenOf 0 (.ints l) (by kernel_rfl) ?_
 intro hl_l; replace hl_l : List.length l ≤ 9223372036854775807 := hl_l
 refine W.K cok tab47 hnt [] [0,1] (⟨[(0,.sl (.ints l)),(1,.i x)],[],[999]⟩)
  (True ∧ True) (by kernel_rfl)
  ⟨tt,tt⟩ ?_
 refine W.K cok tab47 hnt [] [4] (⟨[(4,.b (decide ((0 : Int) ≤ (findI l x))))],[],[999]⟩)
  (True ∧ True ∧ (True ∧ (True ∧ True ∧ True) ∧ True) ∧ (True ∧ True ∧ True) ∧ True ∧ True) (by kernel_rfl)
  ⟨tt,tt,⟨tt,⟨tt,tt,tt⟩,tt⟩,⟨tt,tt,tt⟩,tt,tt⟩ ?_
 refine W.ret ?_
 exact endQ_ret (.b (decide ((0 : Int) ≤ (findI l x)))) (by kernel_rfl) (@cast ((.bool (decide ((0 : Int) ≤ (findI l x))) : Value) = .bool (hasInt l x)) _ (by kernel_rfl) (congrArg Value.bool (by exact findI_has l x)))
theorem ent47 : Entr prog 47 := ⟨_,func47,rfl,by decide⟩
end Go.Proofs.Try

set_option linter.unusedSimpArgs false
set_option linter.unusedVariables false
namespace Go.Proofs.Try
open Go.Ab Go.RowKit
def fs27 : FnS := fnS [.s .ints,.o] [.ints,.int] (fun _ (l,n,_) => (.b (isOrd l n),[],(0 ≤ n ∧ n ≤ 9223372036854775807)))
abbrev T27 : Tab := lk [(46,fs46),(47,fs47)]
theorem tab27 : TabOK prog T27 := (TabOK.cons ok46 ent46 (TabOK.cons ok47 ent47 TabOK.nil))
set_option maxRecDepth 100000 in
set_option maxHeartbeats 1000000 in
theorem ok27 : FnOK prog 27 fs27 := by
 refine FnOK.mk cok func27 rfl rfl rfl ?_
 rintro fl ⟨(l : List Int),(n : Int),_⟩ hpre F hnt0 _
 have hnt : F.nt = 31 := hnt0.trans ntmps27
 replace hpre : (0 ≤ n ∧ n ≤ 9223372036854775807) := hpre
 have hn := hpre
 refine W.to (⟨[(0,.sl (.ints l)),(1,.i n)],[],[999]⟩) rfl ?_
 refine W.lenOf 0 (.ints l) (by kernel_rfl) ?_
 intro hl_l; replace hl_l : List.length l ≤ 9223372036854775807 := hl_l
 refine W.K cok tab27 hnt [] [0,1] (⟨[(0,.sl (.ints l)),(1,.i n)],[],[999]⟩)
  (True ∧ True) (by kernel_rfl)
  ⟨tt,tt⟩ ?_
 refine W.seq ?_
 refine W.K cok tab27 hnt [] [0,1,7,8,9] (⟨[(0,.sl (.ints l)),(1,.i n),(7,.sl (.ints l)),(8,.i (l.length : Int)),(9,.i (0 : Int))],[],[999]⟩)
  (True ∧ True ∧ True ∧ True) (by kernel_rfl)
  ⟨tt,tt,tt,tt⟩ ?_
 refine W.block ?_
 refine W.loop (ι := Nat) (fun (i : Nat) => (⟨[(0,.sl (.ints l)),(1,.i n),(7,.sl (.ints l)),(8,.i (l.length : Int)),(9,.i ((i : Nat) : Int))],[],[999]⟩ : St))
  (fun (i : Nat) => (i ≤ l.length) ∧ (∀ j,j < i → ordOK l n j = true))
  (fun (i : Nat) => (l.length - i : Nat)) (0) ?_ ?_ ?_
 ·exact (show (0 ≤ l.length) ∧ (∀ j,j < 0 → ordOK l n j = true) from ⟨(by first | assumption | omega | rfl | (intro _ hjj; omega) | (simp; done) | (simp; omega)),(by exact upto_zero)⟩)
 ·exact Sub.of [] (@cast ((((.ints l : Dat) = .ints l) ∧ (((.int .i64 n : Value) = .int .i64 n) ∧ (((.ints l : Dat) = .ints l) ∧ (((.int .i64 (l.length : Int) : Value) = .int .i64 (l.length : Int)) ∧ (((.int .i64 (0 : Int) : Value) = .int .i64 ((0 : Nat) : Int)) ∧ True))))) ∧ (True ∧ ((true = true) ∧ (true = true)))) _ (by kernel_rfl) ⟨⟨rfl,rfl,rfl,rfl,(congrArg (Value.int .i64) (by first | rfl | omega | assumption | simp | simp_all)),tt⟩,tt,rfl,rfl⟩)
 ·rintro i hC0
  have hC : (i ≤ l.length) ∧ (∀ j,j < i → ordOK l n j = true) := hC0
  clear hC0
  obtain ⟨hi,hA⟩ := hC
  refine W.to (⟨[(0,.sl (.ints l)),(1,.i n),(7,.sl (.ints l)),(8,.i (l.length : Int)),(9,.i ((i : Nat) : Int))],[],[999]⟩) rfl ?_
  refine W.K cok tab27 hnt [] [0,1,7,8,9,10] (⟨[(0,.sl (.ints l)),(1,.i n),(7,.sl (.ints l)),(8,.i (l.length : Int)),(9,.i ((i : Nat) : Int)),(10,.b (decide (((i : Nat) : Int) < (l.length : Int))))],[],[999]⟩)
   ((True ∧ True ∧ True) ∧ True) (by kernel_rfl)
   ⟨⟨tt,tt,tt⟩,tt⟩ ?_
  refine W.seq ?_
  refine W.ifP (((i : Nat) : Int) < (l.length : Int)) (.b (decide (((i : Nat) : Int) < (l.length : Int)))) (by kernel_rfl) rfl trivial ?_ ?_
  ·intro h10
   refine W.skip (thenQ_normal ?_)
   refine W.seq ?_
   refine W.block ?_
   refine W.K cok tab27 hnt [] [0,1,5,6,7,8,9] (⟨[(0,.sl (.ints l)),(1,.i n),(5,.i ((i : Nat) : Int)),(6,.i (l.getD i 0)),(7,.sl (.ints l)),(8,.i (l.length : Int)),(9,.i ((i : Nat) : Int))],[],[999]⟩)
    (True ∧ (True ∧ True ∧ (0 ≤ ((i : Nat) : Int)) ∧ (((i : Nat) : Int) < (l.length : Int))) ∧ True ∧ True ∧ True ∧ True) (by kernel_rfl)
    ⟨tt,⟨tt,tt,(by omega),(by omega)⟩,tt,tt,tt,tt⟩ ?_
   refine W.K cok tab27 hnt [] [0,1,7,8,9,25] (⟨[(0,.sl (.ints l)),(1,.i n),(7,.sl (.ints l)),(8,.i (l.length : Int)),(9,.i ((i : Nat) : Int)),(25,.b ((!(within (l.getD i 0) (0 : Int) (n - (1 : Int)))) || (hasInt (List.take i l) (l.getD i 0))))],[],[999]⟩)
    (True ∧ True ∧ (True ∧ True ∧ (Fits .i64 (n - (1 : Int)))) ∧ (True ∧ (True ∧ True ∧ True ∧ True) ∧ True) ∧ True ∧ True ∧ ((!(!(within (l.getD i 0) (0 : Int) (n - (1 : Int))))) = true → True) ∧ ((!(!(within (l.getD i 0) (0 : Int) (n - (1 : Int))))) = true → True) ∧ ((!(!(within (l.getD i 0) (0 : Int) (n - (1 : Int))))) = true → ((((!(!(within (l.getD i 0) (0 : Int) (n - (1 : Int))))) = true) ∧ True) ∧ True ∧ (((!(!(within (l.getD i 0) (0 : Int) (n - (1 : Int))))) = true) ∧ True) ∧ (0 ≤ (0 : Int)) ∧ ((0 : Int) ≤ ((i : Nat) : Int)) ∧ (((i : Nat) : Int) ≤ (l.length : Int)))) ∧ ((!(!(within (l.getD i 0) (0 : Int) (n - (1 : Int))))) = true → True) ∧ ((!(!(within (l.getD i 0) (0 : Int) (n - (1 : Int))))) = true → (True ∧ ((((!(!(within (l.getD i 0) (0 : Int) (n - (1 : Int))))) = true) ∧ True) ∧ (((!(!(within (l.getD i 0) (0 : Int) (n - (1 : Int))))) = true) ∧ True) ∧ True) ∧ True)) ∧ (True ∧ ((!(within (l.getD i 0) (0 : Int) (n - (1 : Int)))) = true → True) ∧ ((!(within (l.getD i 0) (0 : Int) (n - (1 : Int)))) = false → ((!(!(within (l.getD i 0) (0 : Int) (n - (1 : Int))))) = true) ∧ True)) ∧ True) (by kernel_rfl)
    ⟨tt,tt,⟨tt,tt,(by exact fits_i64 (by omega) (by omega))⟩,⟨tt,⟨tt,tt,tt,tt⟩,tt⟩,tt,tt,(fun _ => trivial),(fun _ => trivial),(fun hG => ⟨⟨hG,tt⟩,tt,⟨hG,tt⟩,(by omega),(by omega),(by omega)⟩),(fun _ => trivial),(fun hG => ⟨tt,⟨⟨hG,tt⟩,⟨hG,tt⟩,tt⟩,tt⟩),⟨tt,(fun _ => trivial),(fun hp => ⟨(not_t hp),tt⟩)⟩,tt⟩ ?_
   refine W.if' ((!(within (l.getD i 0) (0 : Int) (n - (1 : Int)))) || (hasInt (List.take i l) (l.getD i 0))) (.b ((!(within (l.getD i 0) (0 : Int) (n - (1 : Int)))) || (hasInt (List.take i l) (l.getD i 0)))) (by kernel_rfl) rfl trivial ?_ ?_
   ·intro h25
    refine W.K cok tab27 hnt [] [4] (⟨[(4,.b false)],[],[999]⟩)
     (True ∧ True) (by kernel_rfl)
     ⟨tt,tt⟩ ?_
    refine W.ret (blockQ_ret (thenQ_ret (thenQ_ret (blockQ_ret (thenQ_ret ?_)))))
    exact endQ_ret (.b false) (by kernel_rfl) (@cast ((.bool false : Value) = .bool (isOrd l n)) _ (by kernel_rfl) (congrArg Value.bool (by exact (ord_no (i := i) (by omega) h25).symm)))
   ·intro n25
    refine W.skip (blockQ_normal (thenQ_normal ?_))
    refine W.L cok tab27 hnt [] (⟨[(0,.sl (.ints l)),(1,.i n),(7,.sl (.ints l)),(8,.i (l.length : Int)),(9,.i (((i + 1) : Nat) : Int)),(25,.b ((!(within (l.getD i 0) (0 : Int) (n - (1 : Int)))) || (hasInt (List.take i l) (l.getD i 0)))),(26,.i (((i + 1) : Nat) : Int))],[],[999]⟩)
     ((True ∧ True ∧ (Fits .i64 (((i + 1) : Nat) : Int))) ∧ True ∧ True) (by kernel_rfl)
     ⟨⟨tt,tt,(by exact fits_i64 (by omega) (by omega))⟩,tt,tt⟩ ?_
    refine thenQ_normal ?_
    refine ⟨((i + 1)),(show ((i + 1) ≤ l.length) ∧ (∀ j,j < (i + 1) → ordOK l n j = true) from ⟨(by first | assumption | omega | rfl | (intro _ hjj; omega) | (simp; done) | (simp; omega)),(by exact upto_succ hA (ord_ok n25))⟩),(show l.length - (i + 1) < l.length - i from (by first | omega | (simp_all; omega))),?_⟩
    exact Sub.of [] (@cast ((((.ints l : Dat) = .ints l) ∧ (((.int .i64 n : Value) = .int .i64 n) ∧ (((.ints l : Dat) = .ints l) ∧ (((.int .i64 (l.length : Int) : Value) = .int .i64 (l.length : Int)) ∧ (((.int .i64 (((i + 1) : Nat) : Int) : Value) = .int .i64 (((i + 1) : Nat) : Int)) ∧ True))))) ∧ (True ∧ ((true = true) ∧ (true = true)))) _ (by kernel_rfl) ⟨⟨rfl,rfl,rfl,rfl,rfl,tt⟩,tt,rfl,rfl⟩)
  ·intro n10
   refine W.exit (thenQ_exit (thenQ_exit (blockQ_hit ?_)))
   refine thenQ_normal ?_
   refine W.K cok tab27 hnt [] [4] (⟨[(4,.b (decide ((l.length : Int) = n)))],[],[999]⟩)
    (True ∧ True ∧ True ∧ (True ∧ True ∧ True) ∧ True ∧ True) (by kernel_rfl)
    ⟨tt,tt,tt,⟨tt,tt,tt⟩,tt,tt⟩ ?_
   refine W.ret ?_
   exact endQ_ret (.b (decide ((l.length : Int) = n))) (by kernel_rfl) (@cast ((.bool (decide ((l.length : Int) = n)) : Value) = .bool (isOrd l n)) _ (by kernel_rfl) (congrArg Value.bool (by exact ord_end (fun j hj => hA j (by omega)))))
theorem ent27 : Entr prog 27 := ⟨_,func27,rfl,by decide⟩
end Go.Proofs.Try

namespace Go.Ab
open Go.RowKit Go.Shelf Go.Proofs
theorem elem_ints (l : List Int) (k : Nat) : (Dat.ints l).elem k = [.v (.int .i64 (l.getD k 0))] := rfl
theorem delete_core {P : Program} {ρ : Ren} (L : Lays2.n23 P ρ) {t : TypeId} (l : List Int) (i j : Int) (hi0 : 0 ≤ i) (hij : i < j) (hjl : j ≤ ((l.length : Nat) : Int)) (w : World) (T : Nat → Prop) (vals : List Value) (bC : Option Nat)
  (hargs' : ArgsRep w T [.c .ints t, .o, .o] [.sl (.ints l), .v (.int .i64 i), .v (.int .i64 j)] vals bC) :
  Calls P (ρ.f 23) vals.toArray w fun en w' => ∃ y β', en = .returned y ∧ PostF w T bC w' β' (.own 0 (List.length (l.take i.toNat ++ l.drop j.toNat))) [(t, .ints (l.take i.toNat ++ l.drop j.toNat))] y := by
  match vals, hargs' with
  | [y0, y1, y2], h =>
   simp only [ArgsRep] at h
   obtain ⟨⟨d, hd, _, hc⟩, h1, h2, _⟩ := h
   cases hd
   simp only [Rep] at h1 h2
   subst h1
   subst h2
   rcases hc with ⟨_, hz, _⟩ | ⟨g, cap, cur, rfl, rfl, hgw, hTg, hcell, hlen, hcap, hsz, hrow⟩
   ·simp only [Dat.len] at hz; omega
   ·have hm : maxLen = 9223372036854775807 := by decide
    have hsz' : cur.size = cap := by simpa [Dat.esz] using hsz
    have hlen' : l.length ≤ cap := hlen
    have hH : Sort.Holds (Value.int .i64) w g 0 l.toArray := by
     intro k hk
     have hk' : k < l.length := by simpa using hk
     obtain ⟨y, hy1, hy2⟩ := hrow k 0 _ hk' (by rw [elem_ints]; rfl)
     simp only [Rep] at hy2
     subst hy2
     have e1 : cur[k]? = some (.int .i64 (l.getD k 0)) := by simpa [Dat.esz] using hy1
     constructor
     ·unfold World.cell?
      simp only [hcell, Nat.zero_add]
      rw [if_neg (by simp), e1]
      simp [List.getD_eq_getElem?_getD, hk']
     ·unfold World.frozen?
      simp only [hcell]
      simp
    have hcall := Any.slices_Delete_int L g 0 cap i.toNat j.toNat l w hH hlen' (by omega) (by omega) (by omega)
    rw [show ((i.toNat : Nat) : Int) = i by omega, show ((j.toNat : Nat) : Int) = j by omega] at hcall
    refine hcall.mono ?_
    rintro e w' ⟨rfl, q, rfl⟩
    let res := l.take i.toNat ++ l.drop j.toNat
    have hrl : res.length = l.length - (j.toNat - i.toNat) := by
     simp only [res, List.length_append, List.length_take, List.length_drop]; omega
    let all := (l.take i.toNat ++ l.drop j.toNat ++ List.replicate (j.toNat - i.toNat) 0)
    have hal : all.length = l.length := by
     simp only [all, List.length_append, List.length_take, List.length_drop, List.length_replicate]; omega
    have hcell' : (Sort.putRow (Value.int .i64) (Sort.ahead w q) g 0 all.toArray).heap[g]? = some (.cells (Sort.putCells (Value.int .i64) 0 all.toArray cur) t (0, 0)) := by
     show (w.heap.modify g _)[g]? = _
     rw [Array.getElem?_modify, if_pos rfl, hcell]
     rfl
    refine ⟨_, fun k => if k = 0 then some (.blk g cap) else none, rfl, ?_⟩
    refine ⟨rfl, rfl, rfl, ?_, ?_, ?_, ?_, ?_, ?_, ?_⟩
    ·simp [Sort.ahead]
    ·intro b hb hne
     show (w.heap.modify g _)[b]? = _
     rw [Array.getElem?_modify, if_neg (fun hh => hne (by rw [hh]))]
    ·simp only [Rep, OwnRep]
     exact .inr ⟨g, cap, rfl, (show res.length ≤ cap by omega), by rw [← hrl]⟩
    ·intro k c hk
     cases k with
     | succ k => simp [rowsHeap] at hk
     | zero =>
      simp only [rowsHeap, List.getElem?_cons_zero, Option.map_some, Option.some.injEq] at hk
      subst hk
      simp only [LocOK, CellsOK]
      refine .inr ⟨g, cap, _, rfl, hcell', ?_, hcap, ?_, ?_⟩
      ·show res.length ≤ cap
       omega
      ·simp [Sort.putCells, hsz', Dat.esz]
      ·intro k jj x hk hx
       have hk' : k < res.length := hk
       rw [elem_ints] at hx
       cases jj with
       | succ jj => simp at hx
       | zero =>
        simp only [List.getElem?_cons_zero, Option.some.injEq] at hx
        subst hx
        refine ⟨.int .i64 (res.getD k 0), ?_, by simp only [Rep]; rfl⟩
        have hkc : k < cur.size := by omega
        have hka : k < all.length := by omega
        simp only [Dat.esz, Nat.mul_one, Nat.add_zero, Sort.putCells, Array.getElem?_mapIdx]
        rw [Array.getElem?_eq_getElem hkc, Option.map_some, if_pos (by constructor <;> simp <;> omega)]
        have e2 : all.getD k 0 = res.getD k 0 := by
         simp only [List.getD_eq_getElem?_getD]
         show (res ++ _)[k]?.getD 0 = _
         rw [List.getElem?_append_left hk']
        rw [← e2]
        simp [List.getD_eq_getElem?_getD, hka]
    ·intro k k' c c' g1 cap1 cap2 e1 e2 _ _
     cases k with
     | succ k => simp [rowsHeap] at e1
     | zero =>
      cases k' with
      | succ k' => simp [rowsHeap] at e2
      | zero => rfl
    ·intro k c g1 cap1 _ hb
     by_cases hk : k = 0
     ·subst hk
      simp only [if_true, Option.some.injEq, Bl.blk.injEq] at hb
      left; rw [hb.1]
     ·rw [if_neg hk] at hb; cases hb
    ·intro k p hp
     by_cases hk : k = 0
     ·subst hk; simp
     ·rw [if_neg hk] at hp; cases hp
theorem delete_ok {P : Program} {ρ : Ren} (L : Lays2.n23 P ρ) {t : TypeId} :
  FnOK P (ρ.f 23) (fnS [.c .ints t, .o, .o] [.ints, .int, .int] (fun _ (l, i, j, _) => (.own 0 (List.length (l.take i.toNat ++ l.drop j.toNat)), [(t, .ints (l.take i.toNat ++ l.drop j.toNat))], 0 ≤ i ∧ i < j ∧ j ≤ ((List.length l : Nat) : Int)))) := by
 intro fl args r rows φ hg hφ w T vals bC hT hargs
 simp only [fnS] at hg
 split at hg
 ·rename_i a ha
  simp only [Option.some.injEq] at hg
  have hx := decL_encL ha
  subst hx
  obtain ⟨l, i, j, u⟩ := a
  simp only [Prod.mk.injEq] at hg
  obtain ⟨rfl, rfl, rfl⟩ := hg
  exact delete_core L l i j hφ.1 hφ.2.1 hφ.2.2 w T vals bC hargs
 ·cases hg
end Go.Ab

namespace Go.Ab
open Go.RowKit Go.Shelf Go.Proofs
theorem clone_post {w w' : World} {T : Nat → Prop} {t : TypeId} {l : List Int} {v' : Value} (hown : w'.ownsRow w.heap.size t 1 v' l.length (l.map (Value.int .i64))) (hb : Below w.heap.size w w') :
  ∃ β', PostF w T none w' β' (.own 0 l.length) [(t, .ints l)] v' := by
 obtain ⟨_, h⟩ := hown
 rcases h with ⟨rfl, hn⟩ | ⟨g, cap, cur, rfl, hg, hcell, hlen, hcap, hsz, htake⟩
 ·refine ⟨fun k => if k = 0 then some .nil else none, hb.os, hb.tape, hb.output, hb.size, fun b hb' _ => hb.block b hb', ?_, ?_, ?_, ?_, ?_⟩
  ·simp only [Rep]; exact Or.inl ⟨rfl, hn, rfl⟩
  ·intro k c hk
   cases k with
   | succ k => simp [rowsHeap] at hk
   | zero =>
    simp only [rowsHeap, List.getElem?_cons_zero, Option.map_some, Option.some.injEq] at hk
    subst hk
    simp only [LocOK, CellsOK]
    exact .inl ⟨rfl, hn⟩
  ·intro k k' c c' g1 cap1 cap2 e1 e2 hb1 _
   by_cases hk : k = 0
   ·rw [hk] at hb1; simp at hb1
   ·rw [if_neg hk] at hb1; cases hb1
  ·intro k c g1 cap1 _ hb1
   by_cases hk : k = 0
   ·rw [hk] at hb1; simp at hb1
   ·rw [if_neg hk] at hb1; cases hb1
  ·intro k p hp
   by_cases hk : k = 0
   ·subst hk; simp
   ·rw [if_neg hk] at hp; cases hp
 ·refine ⟨fun k => if k = 0 then some (.blk g cap) else none, hb.os, hb.tape, hb.output, hb.size, fun b hb' _ => hb.block b hb', ?_, ?_, ?_, ?_, ?_⟩
  ·simp only [Rep, OwnRep]; exact .inr ⟨g, cap, rfl, hlen, rfl⟩
  ·intro k c hk
   cases k with
   | succ k => simp [rowsHeap] at hk
   | zero =>
    simp only [rowsHeap, List.getElem?_cons_zero, Option.map_some, Option.some.injEq] at hk
    subst hk
    simp only [LocOK, CellsOK]
    refine .inr ⟨g, cap, cur, rfl, hcell, hlen, hcap, hsz, ?_⟩
    intro k jj x hk hx
    have hk' : k < l.length := hk
    rw [elem_ints] at hx
    cases jj with
    | succ jj => simp at hx
    | zero =>
     simp only [List.getElem?_cons_zero, Option.some.injEq] at hx
     subst hx
     refine ⟨.int .i64 (l.getD k 0), ?_, by simp only [Rep]⟩
     have e1 : (cur.toList.take (l.length * 1))[k]? = some (.int .i64 (l.getD k 0)) := by
      rw [htake, List.getElem?_map, List.getElem?_eq_getElem hk']
      simp [List.getD_eq_getElem?_getD, hk']
     rw [List.getElem?_take, if_pos (by omega)] at e1
     simpa [Dat.esz] using e1
  ·intro k k' c c' g1 cap1 cap2 e1 e2 _ _
   cases k with
   | succ k => simp [rowsHeap] at e1
   | zero =>
    cases k' with
    | succ k' => simp [rowsHeap] at e2
    | zero => rfl
  ·intro k c g1 cap1 _ hb1
   by_cases hk : k = 0
   ·subst hk
    simp only [if_true, Option.some.injEq, Bl.blk.injEq] at hb1
    right; omega
   ·rw [if_neg hk] at hb1; cases hb1
  ·intro k p hp
   by_cases hk : k = 0
   ·subst hk; simp
   ·rw [if_neg hk] at hp; cases hp
theorem clone_core {P : Program} {ρ : Ren} (L : Lays2.n15 P ρ) (l : List Int) (hbig : l.length * 8 ≤ 140737488355328) (w : World) (T : Nat → Prop) (vals : List Value) (bC : Option Nat)
  (hargs : ArgsRep w T [.s .ints] [.sl (.ints l)] vals bC) :
  Calls P (ρ.f 15) vals.toArray w fun en w' => ∃ y β', en = .returned y ∧ PostF w T bC w' β' (.own 0 (List.length l)) [(ρ.t 3, .ints l)] y := by
 match vals, hargs with
 | [y0], h =>
  simp only [ArgsRep] at h
  obtain ⟨h1, rfl⟩ := h
  simp only [Rep, SlRep, FlatRep] at h1
  obtain ⟨a, c, rfl, hlc, hcm, hd⟩ := h1
  cases l with
  | nil =>
   cases a with
   | none =>
    refine (Any.slices_Clone_int_nil L 0 c w).mono ?_
    rintro e w' ⟨rfl, rfl⟩
    obtain ⟨β', h⟩ := clone_post (T := T) (t := ρ.t 3) (l := []) (World.ownsRow_nil w' w'.heap.size (ρ.t 3) 1) (Below.refl w'.heap.size w')
    exact ⟨_, β', rfl, h⟩
   | some ad =>
    refine (Any.slices_Clone_int_zero L ad c w).mono ?_
    rintro e w' ⟨v', rfl, hown, _, hb⟩
    obtain ⟨β', h⟩ := clone_post (T := T) (t := ρ.t 3) (l := []) hown hb
    exact ⟨_, β', rfl, h⟩
  | cons x0 l0 =>
   rcases hd with hd | ⟨ad, rfl, hT, hc⟩
   ·simp at hd
   ·have hcc : ∀ k, k < (x0 :: l0).length → w.cell? (ad.add k) = some (.int .i64 ((x0 :: l0).getD k 0)) := fun k hk => by
     have := hc k 0 _ hk (show ((Dat.ints (x0 :: l0)).flat k)[0]? = some (.int .i64 ((x0 :: l0).getD k 0)) from rfl)
     simpa using this
    obtain ⟨b, off, sp⟩ := ad
    cases sp with
    | some s0 =>
     have := hcc 0 (by simp)
     rw [Addr.add_zero'] at this
     unfold World.cell? at this
     simp at this
     split at this <;> cases this
    | none =>
     refine (Any.slices_Clone_int L b off (x0 :: l0).length c (x0 :: l0) w (Nat.le_refl _) hbig (fun j hj => by
      have := hcc j hj
      rwa [Addr.add_lit] at this)).mono ?_
     rintro e w' ⟨v', rfl, hown, _, hb⟩
     rw [List.take_length] at hown
     obtain ⟨β', h⟩ := clone_post (T := T) (t := ρ.t 3) (l := x0 :: l0) hown hb
     exact ⟨_, β', rfl, h⟩
theorem clone_ok {P : Program} {ρ : Ren} (L : Lays2.n15 P ρ) :
  FnOK P (ρ.f 15) (fnS [.s .ints] [.ints] (fun _ (l, _) => (.own 0 (List.length l), [(ρ.t 3, .ints l)], List.length l * 8 ≤ 140737488355328))) := by
 intro fl args r rows φ hg hφ w T vals bC hT hargs
 simp only [fnS] at hg
 split at hg
 ·rename_i a ha
  simp only [Option.some.injEq] at hg
  have hx := decL_encL ha
  subst hx
  obtain ⟨l, u⟩ := a
  simp only [Prod.mk.injEq] at hg
  obtain ⟨rfl, rfl, rfl⟩ := hg
  exact clone_core L l hφ w T vals bC hargs
 ·cases hg
end Go.Ab
