import Derived.Test.YtmmndgfkaccgfaaNF4S0
import Derived.Test.YtmmndgfkaccgfaaNF4S4
set_option linter.unusedSimpArgs false
set_option linter.unusedVariables false
namespace Go.Proofs.Try
open Go.Ab Go.RowKit
def fs54 : FnS := fnS [.o] [.call] (fun _ (c,_) => (.b (isCall c),[],True))
abbrev T54 : Tab := lk [(34,fs34)]
theorem tab54 : TabOK prog T54 := (TabOK.cons ok34 ent34 TabOK.nil)
set_option maxRecDepth 100000 in
set_option maxHeartbeats 1000000 in
theorem ok54 : FnOK prog 54 fs54 := by
 refine FnOK.mk cok func54 rfl rfl rfl ?_
 rintro fl ⟨(c : CallD),_⟩ hpre F hnt0 _
 have hnt : F.nt = 43 := hnt0.trans ntmps54
 clear hpre
 refine W.to (⟨[(0,.agg [.i c.proc,.i c.obj,.i c.kind,.i c.arg,.i c.ret,.i c.frm,.i c.to])],[],[999]⟩) rfl ?_
 refine W.K cok tab54 hnt [] [1] (⟨[(1,.ptr 1 0)],[(1,⟨47,.fix [.i c.proc,.i c.obj,.i c.kind,.i c.arg,.i c.ret,.i c.frm,.i c.to]⟩)],[1,999]⟩)
  (True ∧ True ∧ True) (by kernel_rfl)
  ⟨tt,tt,tt⟩ ?_
 refine W.K cok tab54 hnt [] [2] (⟨[(2,.b ((((((((within c.proc (0 : Int) (2 : Int)) && (within c.obj (0 : Int) (1 : Int))) && (within c.kind (0 : Int) (2 : Int))) && (within c.arg (0 : Int) (3 : Int))) && (within c.ret (-1 : Int) (20 : Int))) && (within c.frm (0 : Int) (30 : Int))) && (within c.to (0 : Int) (30 : Int))) && (decide (c.frm < c.to))))],[(1,⟨47,.fix [.i c.proc,.i c.obj,.i c.kind,.i c.arg,.i c.ret,.i c.frm,.i c.to]⟩)],[1,999]⟩)
  (True ∧ True ∧ (True ∧ (True ∧ True ∧ True ∧ True) ∧ True) ∧ True ∧ ((within c.proc (0 : Int) (2 : Int)) = true → True) ∧ ((within c.proc (0 : Int) (2 : Int)) = true → (((within c.proc (0 : Int) (2 : Int)) = true) ∧ True)) ∧ ((within c.proc (0 : Int) (2 : Int)) = true → (True ∧ ((((within c.proc (0 : Int) (2 : Int)) = true) ∧ True) ∧ True ∧ True ∧ True) ∧ True)) ∧ (True ∧ ((within c.proc (0 : Int) (2 : Int)) = true → ((within c.proc (0 : Int) (2 : Int)) = true) ∧ True) ∧ ((within c.proc (0 : Int) (2 : Int)) = false → True)) ∧ True ∧ (((within c.proc (0 : Int) (2 : Int)) && (within c.obj (0 : Int) (1 : Int))) = true → True) ∧ (((within c.proc (0 : Int) (2 : Int)) && (within c.obj (0 : Int) (1 : Int))) = true → ((((within c.proc (0 : Int) (2 : Int)) && (within c.obj (0 : Int) (1 : Int))) = true) ∧ True)) ∧ (((within c.proc (0 : Int) (2 : Int)) && (within c.obj (0 : Int) (1 : Int))) = true → (True ∧ (((((within c.proc (0 : Int) (2 : Int)) && (within c.obj (0 : Int) (1 : Int))) = true) ∧ True) ∧ True ∧ True ∧ True) ∧ True)) ∧ (True ∧ (((within c.proc (0 : Int) (2 : Int)) && (within c.obj (0 : Int) (1 : Int))) = true → (((within c.proc (0 : Int) (2 : Int)) && (within c.obj (0 : Int) (1 : Int))) = true) ∧ True) ∧ (((within c.proc (0 : Int) (2 : Int)) && (within c.obj (0 : Int) (1 : Int))) = false → True)) ∧ True ∧ ((((within c.proc (0 : Int) (2 : Int)) && (within c.obj (0 : Int) (1 : Int))) && (within c.kind (0 : Int) (2 : Int))) = true → True) ∧ ((((within c.proc (0 : Int) (2 : Int)) && (within c.obj (0 : Int) (1 : Int))) && (within c.kind (0 : Int) (2 : Int))) = true → (((((within c.proc (0 : Int) (2 : Int)) && (within c.obj (0 : Int) (1 : Int))) && (within c.kind (0 : Int) (2 : Int))) = true) ∧ True)) ∧ ((((within c.proc (0 : Int) (2 : Int)) && (within c.obj (0 : Int) (1 : Int))) && (within c.kind (0 : Int) (2 : Int))) = true → (True ∧ ((((((within c.proc (0 : Int) (2 : Int)) && (within c.obj (0 : Int) (1 : Int))) && (within c.kind (0 : Int) (2 : Int))) = true) ∧ True) ∧ True ∧ True ∧ True) ∧ True)) ∧ (True ∧ ((((within c.proc (0 : Int) (2 : Int)) && (within c.obj (0 : Int) (1 : Int))) && (within c.kind (0 : Int) (2 : Int))) = true → ((((within c.proc (0 : Int) (2 : Int)) && (within c.obj (0 : Int) (1 : Int))) && (within c.kind (0 : Int) (2 : Int))) = true) ∧ True) ∧ ((((within c.proc (0 : Int) (2 : Int)) && (within c.obj (0 : Int) (1 : Int))) && (within c.kind (0 : Int) (2 : Int))) = false → True)) ∧ True ∧ (((((within c.proc (0 : Int) (2 : Int)) && (within c.obj (0 : Int) (1 : Int))) && (within c.kind (0 : Int) (2 : Int))) && (within c.arg (0 : Int) (3 : Int))) = true → True) ∧ (((((within c.proc (0 : Int) (2 : Int)) && (within c.obj (0 : Int) (1 : Int))) && (within c.kind (0 : Int) (2 : Int))) && (within c.arg (0 : Int) (3 : Int))) = true → ((((((within c.proc (0 : Int) (2 : Int)) && (within c.obj (0 : Int) (1 : Int))) && (within c.kind (0 : Int) (2 : Int))) && (within c.arg (0 : Int) (3 : Int))) = true) ∧ True)) ∧ (((((within c.proc (0 : Int) (2 : Int)) && (within c.obj (0 : Int) (1 : Int))) && (within c.kind (0 : Int) (2 : Int))) && (within c.arg (0 : Int) (3 : Int))) = true → (True ∧ (((((((within c.proc (0 : Int) (2 : Int)) && (within c.obj (0 : Int) (1 : Int))) && (within c.kind (0 : Int) (2 : Int))) && (within c.arg (0 : Int) (3 : Int))) = true) ∧ True) ∧ True ∧ True ∧ True) ∧ True)) ∧ (True ∧ (((((within c.proc (0 : Int) (2 : Int)) && (within c.obj (0 : Int) (1 : Int))) && (within c.kind (0 : Int) (2 : Int))) && (within c.arg (0 : Int) (3 : Int))) = true → (((((within c.proc (0 : Int) (2 : Int)) && (within c.obj (0 : Int) (1 : Int))) && (within c.kind (0 : Int) (2 : Int))) && (within c.arg (0 : Int) (3 : Int))) = true) ∧ True) ∧ (((((within c.proc (0 : Int) (2 : Int)) && (within c.obj (0 : Int) (1 : Int))) && (within c.kind (0 : Int) (2 : Int))) && (within c.arg (0 : Int) (3 : Int))) = false → True)) ∧ True ∧ ((((((within c.proc (0 : Int) (2 : Int)) && (within c.obj (0 : Int) (1 : Int))) && (within c.kind (0 : Int) (2 : Int))) && (within c.arg (0 : Int) (3 : Int))) && (within c.ret (-1 : Int) (20 : Int))) = true → True) ∧ ((((((within c.proc (0 : Int) (2 : Int)) && (within c.obj (0 : Int) (1 : Int))) && (within c.kind (0 : Int) (2 : Int))) && (within c.arg (0 : Int) (3 : Int))) && (within c.ret (-1 : Int) (20 : Int))) = true → (((((((within c.proc (0 : Int) (2 : Int)) && (within c.obj (0 : Int) (1 : Int))) && (within c.kind (0 : Int) (2 : Int))) && (within c.arg (0 : Int) (3 : Int))) && (within c.ret (-1 : Int) (20 : Int))) = true) ∧ True)) ∧ ((((((within c.proc (0 : Int) (2 : Int)) && (within c.obj (0 : Int) (1 : Int))) && (within c.kind (0 : Int) (2 : Int))) && (within c.arg (0 : Int) (3 : Int))) && (within c.ret (-1 : Int) (20 : Int))) = true → (True ∧ ((((((((within c.proc (0 : Int) (2 : Int)) && (within c.obj (0 : Int) (1 : Int))) && (within c.kind (0 : Int) (2 : Int))) && (within c.arg (0 : Int) (3 : Int))) && (within c.ret (-1 : Int) (20 : Int))) = true) ∧ True) ∧ True ∧ True ∧ True) ∧ True)) ∧ (True ∧ ((((((within c.proc (0 : Int) (2 : Int)) && (within c.obj (0 : Int) (1 : Int))) && (within c.kind (0 : Int) (2 : Int))) && (within c.arg (0 : Int) (3 : Int))) && (within c.ret (-1 : Int) (20 : Int))) = true → ((((((within c.proc (0 : Int) (2 : Int)) && (within c.obj (0 : Int) (1 : Int))) && (within c.kind (0 : Int) (2 : Int))) && (within c.arg (0 : Int) (3 : Int))) && (within c.ret (-1 : Int) (20 : Int))) = true) ∧ True) ∧ ((((((within c.proc (0 : Int) (2 : Int)) && (within c.obj (0 : Int) (1 : Int))) && (within c.kind (0 : Int) (2 : Int))) && (within c.arg (0 : Int) (3 : Int))) && (within c.ret (-1 : Int) (20 : Int))) = false → True)) ∧ True ∧ (((((((within c.proc (0 : Int) (2 : Int)) && (within c.obj (0 : Int) (1 : Int))) && (within c.kind (0 : Int) (2 : Int))) && (within c.arg (0 : Int) (3 : Int))) && (within c.ret (-1 : Int) (20 : Int))) && (within c.frm (0 : Int) (30 : Int))) = true → True) ∧ (((((((within c.proc (0 : Int) (2 : Int)) && (within c.obj (0 : Int) (1 : Int))) && (within c.kind (0 : Int) (2 : Int))) && (within c.arg (0 : Int) (3 : Int))) && (within c.ret (-1 : Int) (20 : Int))) && (within c.frm (0 : Int) (30 : Int))) = true → ((((((((within c.proc (0 : Int) (2 : Int)) && (within c.obj (0 : Int) (1 : Int))) && (within c.kind (0 : Int) (2 : Int))) && (within c.arg (0 : Int) (3 : Int))) && (within c.ret (-1 : Int) (20 : Int))) && (within c.frm (0 : Int) (30 : Int))) = true) ∧ True)) ∧ (((((((within c.proc (0 : Int) (2 : Int)) && (within c.obj (0 : Int) (1 : Int))) && (within c.kind (0 : Int) (2 : Int))) && (within c.arg (0 : Int) (3 : Int))) && (within c.ret (-1 : Int) (20 : Int))) && (within c.frm (0 : Int) (30 : Int))) = true → (True ∧ (((((((((within c.proc (0 : Int) (2 : Int)) && (within c.obj (0 : Int) (1 : Int))) && (within c.kind (0 : Int) (2 : Int))) && (within c.arg (0 : Int) (3 : Int))) && (within c.ret (-1 : Int) (20 : Int))) && (within c.frm (0 : Int) (30 : Int))) = true) ∧ True) ∧ True ∧ True ∧ True) ∧ True)) ∧ (True ∧ (((((((within c.proc (0 : Int) (2 : Int)) && (within c.obj (0 : Int) (1 : Int))) && (within c.kind (0 : Int) (2 : Int))) && (within c.arg (0 : Int) (3 : Int))) && (within c.ret (-1 : Int) (20 : Int))) && (within c.frm (0 : Int) (30 : Int))) = true → (((((((within c.proc (0 : Int) (2 : Int)) && (within c.obj (0 : Int) (1 : Int))) && (within c.kind (0 : Int) (2 : Int))) && (within c.arg (0 : Int) (3 : Int))) && (within c.ret (-1 : Int) (20 : Int))) && (within c.frm (0 : Int) (30 : Int))) = true) ∧ True) ∧ (((((((within c.proc (0 : Int) (2 : Int)) && (within c.obj (0 : Int) (1 : Int))) && (within c.kind (0 : Int) (2 : Int))) && (within c.arg (0 : Int) (3 : Int))) && (within c.ret (-1 : Int) (20 : Int))) && (within c.frm (0 : Int) (30 : Int))) = false → True)) ∧ True ∧ ((((((((within c.proc (0 : Int) (2 : Int)) && (within c.obj (0 : Int) (1 : Int))) && (within c.kind (0 : Int) (2 : Int))) && (within c.arg (0 : Int) (3 : Int))) && (within c.ret (-1 : Int) (20 : Int))) && (within c.frm (0 : Int) (30 : Int))) && (within c.to (0 : Int) (30 : Int))) = true → True) ∧ ((((((((within c.proc (0 : Int) (2 : Int)) && (within c.obj (0 : Int) (1 : Int))) && (within c.kind (0 : Int) (2 : Int))) && (within c.arg (0 : Int) (3 : Int))) && (within c.ret (-1 : Int) (20 : Int))) && (within c.frm (0 : Int) (30 : Int))) && (within c.to (0 : Int) (30 : Int))) = true → (((((((((within c.proc (0 : Int) (2 : Int)) && (within c.obj (0 : Int) (1 : Int))) && (within c.kind (0 : Int) (2 : Int))) && (within c.arg (0 : Int) (3 : Int))) && (within c.ret (-1 : Int) (20 : Int))) && (within c.frm (0 : Int) (30 : Int))) && (within c.to (0 : Int) (30 : Int))) = true) ∧ True)) ∧ ((((((((within c.proc (0 : Int) (2 : Int)) && (within c.obj (0 : Int) (1 : Int))) && (within c.kind (0 : Int) (2 : Int))) && (within c.arg (0 : Int) (3 : Int))) && (within c.ret (-1 : Int) (20 : Int))) && (within c.frm (0 : Int) (30 : Int))) && (within c.to (0 : Int) (30 : Int))) = true → True) ∧ ((((((((within c.proc (0 : Int) (2 : Int)) && (within c.obj (0 : Int) (1 : Int))) && (within c.kind (0 : Int) (2 : Int))) && (within c.arg (0 : Int) (3 : Int))) && (within c.ret (-1 : Int) (20 : Int))) && (within c.frm (0 : Int) (30 : Int))) && (within c.to (0 : Int) (30 : Int))) = true → (((((((((within c.proc (0 : Int) (2 : Int)) && (within c.obj (0 : Int) (1 : Int))) && (within c.kind (0 : Int) (2 : Int))) && (within c.arg (0 : Int) (3 : Int))) && (within c.ret (-1 : Int) (20 : Int))) && (within c.frm (0 : Int) (30 : Int))) && (within c.to (0 : Int) (30 : Int))) = true) ∧ True)) ∧ ((((((((within c.proc (0 : Int) (2 : Int)) && (within c.obj (0 : Int) (1 : Int))) && (within c.kind (0 : Int) (2 : Int))) && (within c.arg (0 : Int) (3 : Int))) && (within c.ret (-1 : Int) (20 : Int))) && (within c.frm (0 : Int) (30 : Int))) && (within c.to (0 : Int) (30 : Int))) = true → ((((((((((within c.proc (0 : Int) (2 : Int)) && (within c.obj (0 : Int) (1 : Int))) && (within c.kind (0 : Int) (2 : Int))) && (within c.arg (0 : Int) (3 : Int))) && (within c.ret (-1 : Int) (20 : Int))) && (within c.frm (0 : Int) (30 : Int))) && (within c.to (0 : Int) (30 : Int))) = true) ∧ True) ∧ (((((((((within c.proc (0 : Int) (2 : Int)) && (within c.obj (0 : Int) (1 : Int))) && (within c.kind (0 : Int) (2 : Int))) && (within c.arg (0 : Int) (3 : Int))) && (within c.ret (-1 : Int) (20 : Int))) && (within c.frm (0 : Int) (30 : Int))) && (within c.to (0 : Int) (30 : Int))) = true) ∧ True) ∧ True)) ∧ (True ∧ ((((((((within c.proc (0 : Int) (2 : Int)) && (within c.obj (0 : Int) (1 : Int))) && (within c.kind (0 : Int) (2 : Int))) && (within c.arg (0 : Int) (3 : Int))) && (within c.ret (-1 : Int) (20 : Int))) && (within c.frm (0 : Int) (30 : Int))) && (within c.to (0 : Int) (30 : Int))) = true → ((((((((within c.proc (0 : Int) (2 : Int)) && (within c.obj (0 : Int) (1 : Int))) && (within c.kind (0 : Int) (2 : Int))) && (within c.arg (0 : Int) (3 : Int))) && (within c.ret (-1 : Int) (20 : Int))) && (within c.frm (0 : Int) (30 : Int))) && (within c.to (0 : Int) (30 : Int))) = true) ∧ True) ∧ ((((((((within c.proc (0 : Int) (2 : Int)) && (within c.obj (0 : Int) (1 : Int))) && (within c.kind (0 : Int) (2 : Int))) && (within c.arg (0 : Int) (3 : Int))) && (within c.ret (-1 : Int) (20 : Int))) && (within c.frm (0 : Int) (30 : Int))) && (within c.to (0 : Int) (30 : Int))) = false → True)) ∧ True ∧ True) (by kernel_rfl)
  ⟨tt,tt,⟨tt,⟨tt,tt,tt,tt⟩,tt⟩,tt,(fun _ => trivial),(fun hG => ⟨hG,tt⟩),(fun hG => ⟨tt,⟨⟨hG,tt⟩,tt,tt,tt⟩,tt⟩),⟨tt,(fun hp => ⟨hp,tt⟩),(fun _ => trivial)⟩,tt,(fun _ => trivial),(fun hG => ⟨hG,tt⟩),(fun hG => ⟨tt,⟨⟨hG,tt⟩,tt,tt,tt⟩,tt⟩),⟨tt,(fun hp => ⟨hp,tt⟩),(fun _ => trivial)⟩,tt,(fun _ => trivial),(fun hG => ⟨hG,tt⟩),(fun hG => ⟨tt,⟨⟨hG,tt⟩,tt,tt,tt⟩,tt⟩),⟨tt,(fun hp => ⟨hp,tt⟩),(fun _ => trivial)⟩,tt,(fun _ => trivial),(fun hG => ⟨hG,tt⟩),(fun hG => ⟨tt,⟨⟨hG,tt⟩,tt,tt,tt⟩,tt⟩),⟨tt,(fun hp => ⟨hp,tt⟩),(fun _ => trivial)⟩,tt,(fun _ => trivial),(fun hG => ⟨hG,tt⟩),(fun hG => ⟨tt,⟨⟨hG,tt⟩,tt,tt,tt⟩,tt⟩),⟨tt,(fun hp => ⟨hp,tt⟩),(fun _ => trivial)⟩,tt,(fun _ => trivial),(fun hG => ⟨hG,tt⟩),(fun hG => ⟨tt,⟨⟨hG,tt⟩,tt,tt,tt⟩,tt⟩),⟨tt,(fun hp => ⟨hp,tt⟩),(fun _ => trivial)⟩,tt,(fun _ => trivial),(fun hG => ⟨hG,tt⟩),(fun _ => trivial),(fun hG => ⟨hG,tt⟩),(fun hG => ⟨⟨hG,tt⟩,⟨hG,tt⟩,tt⟩),⟨tt,(fun hp => ⟨hp,tt⟩),(fun _ => trivial)⟩,tt,tt⟩ ?_
 refine W.ret ?_
 exact endQ_ret (.b ((((((((within c.proc (0 : Int) (2 : Int)) && (within c.obj (0 : Int) (1 : Int))) && (within c.kind (0 : Int) (2 : Int))) && (within c.arg (0 : Int) (3 : Int))) && (within c.ret (-1 : Int) (20 : Int))) && (within c.frm (0 : Int) (30 : Int))) && (within c.to (0 : Int) (30 : Int))) && (decide (c.frm < c.to)))) (by kernel_rfl) (@cast ((.bool ((((((((within c.proc (0 : Int) (2 : Int)) && (within c.obj (0 : Int) (1 : Int))) && (within c.kind (0 : Int) (2 : Int))) && (within c.arg (0 : Int) (3 : Int))) && (within c.ret (-1 : Int) (20 : Int))) && (within c.frm (0 : Int) (30 : Int))) && (within c.to (0 : Int) (30 : Int))) && (decide (c.frm < c.to))) : Value) = .bool (isCall c)) _ (by kernel_rfl) (congrArg Value.bool (by first | rfl | simp_all)))
theorem ent54 : Entr prog 54 := ⟨_,func54,rfl,by decide⟩
end Go.Proofs.Try

set_option linter.unusedSimpArgs false
set_option linter.unusedVariables false
namespace Go.Proofs.Try
open Go.Ab Go.RowKit
def fs63 : FnS := fnS [.o,.o] [.call,.call] (fun _ (a,b,_) => (.b (isBefore a b),[],True))
abbrev T63 : Tab := lk []
theorem tab63 : TabOK prog T63 := TabOK.nil
set_option maxRecDepth 100000 in
set_option maxHeartbeats 1000000 in
theorem ok63 : FnOK prog 63 fs63 := by
 refine FnOK.mk cok func63 rfl rfl rfl ?_
 rintro fl ⟨(a : CallD),(b : CallD),_⟩ hpre F hnt0 _
 have hnt : F.nt = 10 := hnt0.trans ntmps63
 clear hpre
 refine W.to (⟨[(0,.agg [.i a.proc,.i a.obj,.i a.kind,.i a.arg,.i a.ret,.i a.frm,.i a.to]),(1,.agg [.i b.proc,.i b.obj,.i b.kind,.i b.arg,.i b.ret,.i b.frm,.i b.to])],[],[999]⟩) rfl ?_
 refine W.K cok tab63 hnt [] [2,3] (⟨[(2,.ptr 2 0),(3,.ptr 3 0)],[(2,⟨47,.fix [.i a.proc,.i a.obj,.i a.kind,.i a.arg,.i a.ret,.i a.frm,.i a.to]⟩),(3,⟨47,.fix [.i b.proc,.i b.obj,.i b.kind,.i b.arg,.i b.ret,.i b.frm,.i b.to]⟩)],[3,2,999]⟩)
  (True ∧ True ∧ True ∧ True) (by kernel_rfl)
  ⟨tt,tt,tt,tt⟩ ?_
 refine W.K cok tab63 hnt [] [4] (⟨[(4,.b (decide (a.to < b.frm)))],[(2,⟨47,.fix [.i a.proc,.i a.obj,.i a.kind,.i a.arg,.i a.ret,.i a.frm,.i a.to]⟩),(3,⟨47,.fix [.i b.proc,.i b.obj,.i b.kind,.i b.arg,.i b.ret,.i b.frm,.i b.to]⟩)],[3,2,999]⟩)
  (True ∧ True ∧ True ∧ True ∧ (True ∧ True ∧ True) ∧ True ∧ True) (by kernel_rfl)
  ⟨tt,tt,tt,tt,⟨tt,tt,tt⟩,tt,tt⟩ ?_
 refine W.ret ?_
 exact endQ_ret (.b (decide (a.to < b.frm))) (by kernel_rfl) (@cast ((.bool (decide (a.to < b.frm)) : Value) = .bool (isBefore a b)) _ (by kernel_rfl) (congrArg Value.bool (by first | rfl | simp_all)))
theorem ent63 : Entr prog 63 := ⟨_,func63,rfl,by decide⟩
end Go.Proofs.Try

set_option linter.unusedSimpArgs false
set_option linter.unusedVariables false
namespace Go.Proofs.Try
open Go.Ab Go.RowKit
def fs55 : FnS := fnS [.o,.o] [.call,.call] (fun _ (a,b,_) => (.b (doOverlap a b),[],True))
abbrev T55 : Tab := lk [(63,fs63)]
theorem tab55 : TabOK prog T55 := (TabOK.cons ok63 ent63 TabOK.nil)
set_option maxRecDepth 100000 in
set_option maxHeartbeats 1000000 in
theorem ok55 : FnOK prog 55 fs55 := by
 refine FnOK.mk cok func55 rfl rfl rfl ?_
 rintro fl ⟨(a : CallD),(b : CallD),_⟩ hpre F hnt0 _
 have hnt : F.nt = 15 := hnt0.trans ntmps55
 clear hpre
 refine W.to (⟨[(0,.agg [.i a.proc,.i a.obj,.i a.kind,.i a.arg,.i a.ret,.i a.frm,.i a.to]),(1,.agg [.i b.proc,.i b.obj,.i b.kind,.i b.arg,.i b.ret,.i b.frm,.i b.to])],[],[999]⟩) rfl ?_
 refine W.K cok tab55 hnt [] [2,3] (⟨[(2,.ptr 2 0),(3,.ptr 3 0)],[(2,⟨47,.fix [.i a.proc,.i a.obj,.i a.kind,.i a.arg,.i a.ret,.i a.frm,.i a.to]⟩),(3,⟨47,.fix [.i b.proc,.i b.obj,.i b.kind,.i b.arg,.i b.ret,.i b.frm,.i b.to]⟩)],[3,2,999]⟩)
  (True ∧ True ∧ True ∧ True) (by kernel_rfl)
  ⟨tt,tt,tt,tt⟩ ?_
 refine W.K cok tab55 hnt [] [4] (⟨[(4,.b ((!(isBefore a b)) && (!(isBefore b a))))],[(2,⟨47,.fix [.i a.proc,.i a.obj,.i a.kind,.i a.arg,.i a.ret,.i a.frm,.i a.to]⟩),(3,⟨47,.fix [.i b.proc,.i b.obj,.i b.kind,.i b.arg,.i b.ret,.i b.frm,.i b.to]⟩)],[3,2,999]⟩)
  (True ∧ True ∧ (True ∧ (True ∧ True ∧ True) ∧ True) ∧ True ∧ True ∧ ((!(isBefore a b)) = true → True) ∧ ((!(isBefore a b)) = true → True) ∧ ((!(isBefore a b)) = true → (True ∧ ((((!(isBefore a b)) = true) ∧ True) ∧ (((!(isBefore a b)) = true) ∧ True) ∧ True) ∧ True)) ∧ ((!(isBefore a b)) = true → (((!(isBefore a b)) = true) ∧ True)) ∧ (True ∧ ((!(isBefore a b)) = true → ((!(isBefore a b)) = true) ∧ True) ∧ ((!(isBefore a b)) = false → True)) ∧ True ∧ True) (by kernel_rfl)
  ⟨tt,tt,⟨tt,⟨tt,tt,tt⟩,tt⟩,tt,tt,(fun _ => trivial),(fun _ => trivial),(fun hG => ⟨tt,⟨⟨hG,tt⟩,⟨hG,tt⟩,tt⟩,tt⟩),(fun hG => ⟨hG,tt⟩),⟨tt,(fun hp => ⟨hp,tt⟩),(fun _ => trivial)⟩,tt,tt⟩ ?_
 refine W.ret ?_
 exact endQ_ret (.b ((!(isBefore a b)) && (!(isBefore b a)))) (by kernel_rfl) (@cast ((.bool ((!(isBefore a b)) && (!(isBefore b a))) : Value) = .bool (doOverlap a b)) _ (by kernel_rfl) (congrArg Value.bool (by first | rfl | simp_all)))
theorem ent55 : Entr prog 55 := ⟨_,func55,rfl,by decide⟩
end Go.Proofs.Try

set_option linter.unusedSimpArgs false
set_option linter.unusedVariables false
namespace Go.Proofs.Try
open Go.Ab Go.RowKit
def fs41 : FnS := fnS [.s .calls] [.calls] (fun _ (h,_) => (.b (validHistory h),[],True))
abbrev T41 : Tab := lk [(54,fs54),(55,fs55)]
theorem tab41 : TabOK prog T41 := (TabOK.cons ok54 ent54 (TabOK.cons ok55 ent55 TabOK.nil))
set_option maxRecDepth 100000 in
set_option maxHeartbeats 1000000 in
theorem ok41 : FnOK prog 41 fs41 := by
 refine FnOK.mk cok func41 rfl rfl rfl ?_
 rintro fl ⟨(h : List CallD),_⟩ hpre F hnt0 _
 have hnt : F.nt = 68 := hnt0.trans ntmps41
 clear hpre
 refine W.to (⟨[(0,.sl (.calls h))],[],[999]⟩) rfl ?_
 refine W.lenOf 0 (.calls h) (by kernel_rfl) ?_
 intro hl_h; replace hl_h : List.length h ≤ 9223372036854775807 := hl_h
 refine W.K cok tab41 hnt [] [0] (⟨[(0,.sl (.calls h))],[],[999]⟩)
  (True ∧ True) (by kernel_rfl)
  ⟨tt,tt⟩ ?_
 refine W.seq ?_
 refine W.K cok tab41 hnt [] [0,9] (⟨[(0,.sl (.calls h)),(9,.b (decide ((6 : Int) < (h.length : Int))))],[],[999]⟩)
  (True ∧ True ∧ (True ∧ True ∧ True) ∧ True) (by kernel_rfl)
  ⟨tt,tt,⟨tt,tt,tt⟩,tt⟩ ?_
 refine W.ifP ((6 : Int) < (h.length : Int)) (.b (decide ((6 : Int) < (h.length : Int)))) (by kernel_rfl) rfl trivial ?_ ?_
 ·intro h9
  refine W.K cok tab41 hnt [] [2] (⟨[(2,.b false)],[],[999]⟩)
   (True ∧ True) (by kernel_rfl)
   ⟨tt,tt⟩ ?_
  refine W.ret (thenQ_ret ?_)
  exact endQ_ret (.b false) (by kernel_rfl) (@cast ((.bool false : Value) = .bool (validHistory h)) _ (by kernel_rfl) (congrArg Value.bool (by unfold validHistory; symm; exact and_fl (decide_eq_false (by omega)))))
 ·intro n9
  refine W.skip (thenQ_normal ?_)
  refine W.seq ?_
  refine W.K cok tab41 hnt [] [0,10,11,12] (⟨[(0,.sl (.calls h)),(10,.sl (.calls h)),(11,.i (h.length : Int)),(12,.i (0 : Int))],[],[999]⟩)
   (True ∧ True ∧ True ∧ True) (by kernel_rfl)
   ⟨tt,tt,tt,tt⟩ ?_
  refine W.block ?_
  refine W.loop (ι := Nat) (fun (i : Nat) => (⟨[(0,.sl (.calls h)),(10,.sl (.calls h)),(11,.i (h.length : Int)),(12,.i ((i : Nat) : Int))],[],[999]⟩ : St))
   (fun (i : Nat) => (i ≤ h.length) ∧ (∀ j,j < i → (isCall (callAt h j) && allN j (fun k => !clash (callAt h j) (callAt h k))) = true))
   (fun (i : Nat) => (h.length - i : Nat)) (0) ?_ ?_ ?_
  ·exact (show (0 ≤ h.length) ∧ (∀ j,j < 0 → (isCall (callAt h j) && allN j (fun k => !clash (callAt h j) (callAt h k))) = true) from ⟨(by first | assumption | omega | rfl | (intro _ hjj; omega) | (simp; done) | (simp; omega)),(by exact upto_zero)⟩)
  ·exact Sub.of [] (@cast ((((.calls h : Dat) = .calls h) ∧ (((.calls h : Dat) = .calls h) ∧ (((.int .i64 (h.length : Int) : Value) = .int .i64 (h.length : Int)) ∧ (((.int .i64 (0 : Int) : Value) = .int .i64 ((0 : Nat) : Int)) ∧ True)))) ∧ (True ∧ ((true = true) ∧ (true = true)))) _ (by kernel_rfl) ⟨⟨rfl,rfl,rfl,(congrArg (Value.int .i64) (by first | rfl | omega | assumption | simp | simp_all)),tt⟩,tt,rfl,rfl⟩)
  ·rintro i hC0
   have hC : (i ≤ h.length) ∧ (∀ j,j < i → (isCall (callAt h j) && allN j (fun k => !clash (callAt h j) (callAt h k))) = true) := hC0
   clear hC0
   obtain ⟨hi,hA⟩ := hC
   refine W.to (⟨[(0,.sl (.calls h)),(10,.sl (.calls h)),(11,.i (h.length : Int)),(12,.i ((i : Nat) : Int))],[],[999]⟩) rfl ?_
   refine W.K cok tab41 hnt [] [0,10,11,12,13] (⟨[(0,.sl (.calls h)),(10,.sl (.calls h)),(11,.i (h.length : Int)),(12,.i ((i : Nat) : Int)),(13,.b (decide (((i : Nat) : Int) < (h.length : Int))))],[],[999]⟩)
    ((True ∧ True ∧ True) ∧ True) (by kernel_rfl)
    ⟨⟨tt,tt,tt⟩,tt⟩ ?_
   refine W.seq ?_
   refine W.ifP (((i : Nat) : Int) < (h.length : Int)) (.b (decide (((i : Nat) : Int) < (h.length : Int)))) (by kernel_rfl) rfl trivial ?_ ?_
   ·intro h13
    refine W.skip (thenQ_normal ?_)
    refine W.seq ?_
    refine W.block ?_
    refine W.K cok tab41 hnt [] [0,3,4,10,11,12] (⟨[(0,.sl (.calls h)),(3,.i ((i : Nat) : Int)),(4,.ptr 4 0),(10,.sl (.calls h)),(11,.i (h.length : Int)),(12,.i ((i : Nat) : Int))],[(4,⟨47,.fix [.i ((h.getD i default).proc),.i ((h.getD i default).obj),.i ((h.getD i default).kind),.i ((h.getD i default).arg),.i ((h.getD i default).ret),.i ((h.getD i default).frm),.i ((h.getD i default).to)]⟩)],[4,999]⟩)
     (True ∧ (True ∧ True ∧ (0 ≤ ((i : Nat) : Int)) ∧ (((i : Nat) : Int) < (h.length : Int))) ∧ True ∧ True ∧ True ∧ (True ∧ True) ∧ True) (by kernel_rfl)
     ⟨tt,⟨tt,tt,(by omega),(by omega)⟩,tt,tt,tt,⟨tt,tt⟩,tt⟩ ?_
    refine W.seq ?_
    refine W.K cok tab41 hnt [] [0,3,4,10,11,12,19] (⟨[(0,.sl (.calls h)),(3,.i ((i : Nat) : Int)),(4,.ptr 4 0),(10,.sl (.calls h)),(11,.i (h.length : Int)),(12,.i ((i : Nat) : Int)),(19,.b (!(isCall (h.getD i default))))],[(4,⟨47,.fix [.i ((h.getD i default).proc),.i ((h.getD i default).obj),.i ((h.getD i default).kind),.i ((h.getD i default).arg),.i ((h.getD i default).ret),.i ((h.getD i default).frm),.i ((h.getD i default).to)]⟩)],[4,999]⟩)
     (True ∧ (True ∧ (True ∧ True) ∧ True) ∧ True ∧ True) (by kernel_rfl)
     ⟨tt,⟨tt,⟨tt,tt⟩,tt⟩,tt,tt⟩ ?_
    refine W.if' (!(isCall (h.getD i default))) (.b (!(isCall (h.getD i default)))) (by kernel_rfl) rfl trivial ?_ ?_
    ·intro h19
     refine W.K cok tab41 hnt [] [2] (⟨[(2,.b false)],[(4,⟨47,.fix [.i ((h.getD i default).proc),.i ((h.getD i default).obj),.i ((h.getD i default).kind),.i ((h.getD i default).arg),.i ((h.getD i default).ret),.i ((h.getD i default).frm),.i ((h.getD i default).to)]⟩)],[4,999]⟩)
      (True ∧ True) (by kernel_rfl)
      ⟨tt,tt⟩ ?_
     refine W.ret (thenQ_ret (blockQ_ret (thenQ_ret (thenQ_ret (blockQ_ret (thenQ_ret ?_))))))
     exact endQ_ret (.b false) (by kernel_rfl) (@cast ((.bool false : Value) = .bool (validHistory h)) _ (by kernel_rfl) (congrArg Value.bool (by unfold validHistory; symm; exact and_fr (allN_false (i := i) (by omega) (and_fl (not_f h19))))))
    ·intro n19
     refine W.skip (thenQ_normal ?_)
     refine W.K cok tab41 hnt [] [0,4,10,11,12,22,23,24] (⟨[(0,.sl (.calls h)),(4,.ptr 4 0),(10,.sl (.calls h)),(11,.i (h.length : Int)),(12,.i ((i : Nat) : Int)),(22,.sl (.calls (List.take i h))),(23,.i (((List.length (List.take i h)) : Nat) : Int)),(24,.i (0 : Int))],[(4,⟨47,.fix [.i ((h.getD i default).proc),.i ((h.getD i default).obj),.i ((h.getD i default).kind),.i ((h.getD i default).arg),.i ((h.getD i default).ret),.i ((h.getD i default).frm),.i ((h.getD i default).to)]⟩)],[4,999]⟩)
      (True ∧ True ∧ (True ∧ True ∧ True ∧ (0 ≤ (0 : Int)) ∧ ((0 : Int) ≤ ((i : Nat) : Int)) ∧ (((i : Nat) : Int) ≤ (h.length : Int))) ∧ True ∧ True ∧ True) (by kernel_rfl)
      ⟨tt,tt,⟨tt,tt,tt,(by omega),(by omega),(by omega)⟩,tt,tt,tt⟩ ?_
     refine W.block ?_
     refine W.loop (ι := Nat) (fun (k : Nat) => (⟨[(0,.sl (.calls h)),(4,.ptr 4 0),(10,.sl (.calls h)),(11,.i (h.length : Int)),(12,.i ((i : Nat) : Int)),(22,.sl (.calls (List.take i h))),(23,.i (((List.length (List.take i h)) : Nat) : Int)),(24,.i ((k : Nat) : Int))],[(4,⟨47,.fix [.i ((h.getD i default).proc),.i ((h.getD i default).obj),.i ((h.getD i default).kind),.i ((h.getD i default).arg),.i ((h.getD i default).ret),.i ((h.getD i default).frm),.i ((h.getD i default).to)]⟩)],[4,999]⟩ : St))
      (fun (k : Nat) => (k ≤ i) ∧ (∀ j,j < k → (!clash (callAt h i) (callAt h j)) = true))
      (fun (k : Nat) => (i - k : Nat)) (0) ?_ ?_ ?_
     ·exact (show (0 ≤ i) ∧ (∀ j,j < 0 → (!clash (callAt h i) (callAt h j)) = true) from ⟨(by first | assumption | omega | rfl | (intro _ hjj; omega) | (simp; done) | (simp; omega)),(by exact upto_zero)⟩)
     ·exact Sub.of [] (@cast ((((.calls h : Dat) = .calls h) ∧ ((((4 : Nat) = 4) ∧ (((0 : Nat) = 0) ∧ ((4 : Nat) ∈ ([4,999] : List Nat)))) ∧ (((.calls h : Dat) = .calls h) ∧ (((.int .i64 (h.length : Int) : Value) = .int .i64 (h.length : Int)) ∧ (((.int .i64 ((i : Nat) : Int) : Value) = .int .i64 ((i : Nat) : Int)) ∧ (((.calls (List.take i h) : Dat) = .calls (List.take i h)) ∧ (((.int .i64 (((List.length (List.take i h)) : Nat) : Int) : Value) = .int .i64 (((List.length (List.take i h)) : Nat) : Int)) ∧ (((.int .i64 (0 : Int) : Value) = .int .i64 ((0 : Nat) : Int)) ∧ True)))))))) ∧ (((((47 : Nat) = 47) ∧ ((((.int .i64 ((h.getD i default).proc) : Value) = .int .i64 ((h.getD i default).proc)) ∧ (((.int .i64 ((h.getD i default).obj) : Value) = .int .i64 ((h.getD i default).obj)) ∧ (((.int .i64 ((h.getD i default).kind) : Value) = .int .i64 ((h.getD i default).kind)) ∧ (((.int .i64 ((h.getD i default).arg) : Value) = .int .i64 ((h.getD i default).arg)) ∧ (((.int .i64 ((h.getD i default).ret) : Value) = .int .i64 ((h.getD i default).ret)) ∧ (((.int .i64 ((h.getD i default).frm) : Value) = .int .i64 ((h.getD i default).frm)) ∧ (((.int .i64 ((h.getD i default).to) : Value) = .int .i64 ((h.getD i default).to)) ∧ True))))))) ∧ ((4 : Nat) ∈ ([4,999] : List Nat)))) ∧ True) ∧ ((true = true) ∧ (true = true)))) _ (by kernel_rfl) ⟨⟨rfl,⟨rfl,rfl,(by decide)⟩,rfl,rfl,rfl,rfl,rfl,(congrArg (Value.int .i64) (by first | rfl | omega | assumption | simp | simp_all)),tt⟩,⟨⟨rfl,⟨rfl,rfl,rfl,rfl,rfl,rfl,rfl,tt⟩,(by decide)⟩,tt⟩,rfl,rfl⟩)
     ·rintro k hC0
      have hC : (k ≤ i) ∧ (∀ j,j < k → (!clash (callAt h i) (callAt h j)) = true) := hC0
      clear hC0
      obtain ⟨hk,hB⟩ := hC
      refine W.to (⟨[(0,.sl (.calls h)),(4,.ptr 4 0),(10,.sl (.calls h)),(11,.i (h.length : Int)),(12,.i ((i : Nat) : Int)),(22,.sl (.calls (List.take i h))),(23,.i (((List.length (List.take i h)) : Nat) : Int)),(24,.i ((k : Nat) : Int))],[(4,⟨47,.fix [.i ((h.getD i default).proc),.i ((h.getD i default).obj),.i ((h.getD i default).kind),.i ((h.getD i default).arg),.i ((h.getD i default).ret),.i ((h.getD i default).frm),.i ((h.getD i default).to)]⟩)],[4,999]⟩) rfl ?_
      refine W.K cok tab41 hnt [] [0,4,10,11,12,22,23,24,25] (⟨[(0,.sl (.calls h)),(4,.ptr 4 0),(10,.sl (.calls h)),(11,.i (h.length : Int)),(12,.i ((i : Nat) : Int)),(22,.sl (.calls (List.take i h))),(23,.i (((List.length (List.take i h)) : Nat) : Int)),(24,.i ((k : Nat) : Int)),(25,.b (decide (((k : Nat) : Int) < (((List.length (List.take i h)) : Nat) : Int))))],[(4,⟨47,.fix [.i ((h.getD i default).proc),.i ((h.getD i default).obj),.i ((h.getD i default).kind),.i ((h.getD i default).arg),.i ((h.getD i default).ret),.i ((h.getD i default).frm),.i ((h.getD i default).to)]⟩)],[4,999]⟩)
       ((True ∧ True ∧ True) ∧ True) (by kernel_rfl)
       ⟨⟨tt,tt,tt⟩,tt⟩ ?_
      refine W.seq ?_
      refine W.ifP (((k : Nat) : Int) < (((List.length (List.take i h)) : Nat) : Int)) (.b (decide (((k : Nat) : Int) < (((List.length (List.take i h)) : Nat) : Int)))) (by kernel_rfl) rfl trivial ?_ ?_
      ·intro h25
       have h25' := h25
       simp only [List.length_append,List.length_cons,List.length_nil,List.length_take,List.length_drop,List.length_set,List.length_replicate,List.length_map] at h25'
       refine W.skip (thenQ_normal ?_)
       refine W.seq ?_
       refine W.block ?_
       refine W.K cok tab41 hnt [] [0,4,6,10,11,12,22,23,24] (⟨[(0,.sl (.calls h)),(4,.ptr 4 0),(6,.ptr 6 0),(10,.sl (.calls h)),(11,.i (h.length : Int)),(12,.i ((i : Nat) : Int)),(22,.sl (.calls (List.take i h))),(23,.i (((List.length (List.take i h)) : Nat) : Int)),(24,.i ((k : Nat) : Int))],[(4,⟨47,.fix [.i ((h.getD i default).proc),.i ((h.getD i default).obj),.i ((h.getD i default).kind),.i ((h.getD i default).arg),.i ((h.getD i default).ret),.i ((h.getD i default).frm),.i ((h.getD i default).to)]⟩),(6,⟨47,.fix [.i ((List.getD (List.take i h) k default).proc),.i ((List.getD (List.take i h) k default).obj),.i ((List.getD (List.take i h) k default).kind),.i ((List.getD (List.take i h) k default).arg),.i ((List.getD (List.take i h) k default).ret),.i ((List.getD (List.take i h) k default).frm),.i ((List.getD (List.take i h) k default).to)]⟩)],[6,4,999]⟩)
        ((True ∧ True ∧ (0 ≤ ((k : Nat) : Int)) ∧ (((k : Nat) : Int) < (((List.length (List.take i h)) : Nat) : Int))) ∧ True ∧ True ∧ (True ∧ True) ∧ True) (by kernel_rfl)
        ⟨⟨tt,tt,(by omega),(by (first | omega | (simp only [List.length_append,List.length_cons,List.length_nil,List.length_take,List.length_drop,List.length_set,List.length_replicate,List.length_map] at *; omega) | assumption))⟩,tt,tt,⟨tt,tt⟩,tt⟩ ?_
       refine W.K cok tab41 hnt [] [0,4,10,11,12,22,23,24,65] (⟨[(0,.sl (.calls h)),(4,.ptr 4 0),(10,.sl (.calls h)),(11,.i (h.length : Int)),(12,.i ((i : Nat) : Int)),(22,.sl (.calls (List.take i h))),(23,.i (((List.length (List.take i h)) : Nat) : Int)),(24,.i ((k : Nat) : Int)),(65,.b (((((decide (((h.getD i default).frm) = ((List.getD (List.take i h) k default).frm))) || (decide (((h.getD i default).frm) = ((List.getD (List.take i h) k default).to)))) || (decide (((h.getD i default).to) = ((List.getD (List.take i h) k default).frm)))) || (decide (((h.getD i default).to) = ((List.getD (List.take i h) k default).to)))) || ((decide (((h.getD i default).proc) = ((List.getD (List.take i h) k default).proc))) && (doOverlap (h.getD i default) (List.getD (List.take i h) k default)))))],[(4,⟨47,.fix [.i ((h.getD i default).proc),.i ((h.getD i default).obj),.i ((h.getD i default).kind),.i ((h.getD i default).arg),.i ((h.getD i default).ret),.i ((h.getD i default).frm),.i ((h.getD i default).to)]⟩),(6,⟨47,.fix [.i ((List.getD (List.take i h) k default).proc),.i ((List.getD (List.take i h) k default).obj),.i ((List.getD (List.take i h) k default).kind),.i ((List.getD (List.take i h) k default).arg),.i ((List.getD (List.take i h) k default).ret),.i ((List.getD (List.take i h) k default).frm),.i ((List.getD (List.take i h) k default).to)]⟩)],[6,4,999]⟩)
        (True ∧ True ∧ True ∧ True ∧ (True ∧ True ∧ True) ∧ True ∧ ((!(decide (((h.getD i default).frm) = ((List.getD (List.take i h) k default).frm)))) = true → True) ∧ ((!(decide (((h.getD i default).frm) = ((List.getD (List.take i h) k default).frm)))) = true → (((!(decide (((h.getD i default).frm) = ((List.getD (List.take i h) k default).frm)))) = true) ∧ True)) ∧ ((!(decide (((h.getD i default).frm) = ((List.getD (List.take i h) k default).frm)))) = true → True) ∧ ((!(decide (((h.getD i default).frm) = ((List.getD (List.take i h) k default).frm)))) = true → (((!(decide (((h.getD i default).frm) = ((List.getD (List.take i h) k default).frm)))) = true) ∧ True)) ∧ ((!(decide (((h.getD i default).frm) = ((List.getD (List.take i h) k default).frm)))) = true → ((((!(decide (((h.getD i default).frm) = ((List.getD (List.take i h) k default).frm)))) = true) ∧ True) ∧ (((!(decide (((h.getD i default).frm) = ((List.getD (List.take i h) k default).frm)))) = true) ∧ True) ∧ True)) ∧ (True ∧ ((decide (((h.getD i default).frm) = ((List.getD (List.take i h) k default).frm))) = true → True) ∧ ((decide (((h.getD i default).frm) = ((List.getD (List.take i h) k default).frm))) = false → ((!(decide (((h.getD i default).frm) = ((List.getD (List.take i h) k default).frm)))) = true) ∧ True)) ∧ True ∧ ((!((decide (((h.getD i default).frm) = ((List.getD (List.take i h) k default).frm))) || (decide (((h.getD i default).frm) = ((List.getD (List.take i h) k default).to))))) = true → True) ∧ ((!((decide (((h.getD i default).frm) = ((List.getD (List.take i h) k default).frm))) || (decide (((h.getD i default).frm) = ((List.getD (List.take i h) k default).to))))) = true → (((!((decide (((h.getD i default).frm) = ((List.getD (List.take i h) k default).frm))) || (decide (((h.getD i default).frm) = ((List.getD (List.take i h) k default).to))))) = true) ∧ True)) ∧ ((!((decide (((h.getD i default).frm) = ((List.getD (List.take i h) k default).frm))) || (decide (((h.getD i default).frm) = ((List.getD (List.take i h) k default).to))))) = true → True) ∧ ((!((decide (((h.getD i default).frm) = ((List.getD (List.take i h) k default).frm))) || (decide (((h.getD i default).frm) = ((List.getD (List.take i h) k default).to))))) = true → (((!((decide (((h.getD i default).frm) = ((List.getD (List.take i h) k default).frm))) || (decide (((h.getD i default).frm) = ((List.getD (List.take i h) k default).to))))) = true) ∧ True)) ∧ ((!((decide (((h.getD i default).frm) = ((List.getD (List.take i h) k default).frm))) || (decide (((h.getD i default).frm) = ((List.getD (List.take i h) k default).to))))) = true → ((((!((decide (((h.getD i default).frm) = ((List.getD (List.take i h) k default).frm))) || (decide (((h.getD i default).frm) = ((List.getD (List.take i h) k default).to))))) = true) ∧ True) ∧ (((!((decide (((h.getD i default).frm) = ((List.getD (List.take i h) k default).frm))) || (decide (((h.getD i default).frm) = ((List.getD (List.take i h) k default).to))))) = true) ∧ True) ∧ True)) ∧ (True ∧ (((decide (((h.getD i default).frm) = ((List.getD (List.take i h) k default).frm))) || (decide (((h.getD i default).frm) = ((List.getD (List.take i h) k default).to)))) = true → True) ∧ (((decide (((h.getD i default).frm) = ((List.getD (List.take i h) k default).frm))) || (decide (((h.getD i default).frm) = ((List.getD (List.take i h) k default).to)))) = false → ((!((decide (((h.getD i default).frm) = ((List.getD (List.take i h) k default).frm))) || (decide (((h.getD i default).frm) = ((List.getD (List.take i h) k default).to))))) = true) ∧ True)) ∧ True ∧ ((!(((decide (((h.getD i default).frm) = ((List.getD (List.take i h) k default).frm))) || (decide (((h.getD i default).frm) = ((List.getD (List.take i h) k default).to)))) || (decide (((h.getD i default).to) = ((List.getD (List.take i h) k default).frm))))) = true → True) ∧ ((!(((decide (((h.getD i default).frm) = ((List.getD (List.take i h) k default).frm))) || (decide (((h.getD i default).frm) = ((List.getD (List.take i h) k default).to)))) || (decide (((h.getD i default).to) = ((List.getD (List.take i h) k default).frm))))) = true → (((!(((decide (((h.getD i default).frm) = ((List.getD (List.take i h) k default).frm))) || (decide (((h.getD i default).frm) = ((List.getD (List.take i h) k default).to)))) || (decide (((h.getD i default).to) = ((List.getD (List.take i h) k default).frm))))) = true) ∧ True)) ∧ ((!(((decide (((h.getD i default).frm) = ((List.getD (List.take i h) k default).frm))) || (decide (((h.getD i default).frm) = ((List.getD (List.take i h) k default).to)))) || (decide (((h.getD i default).to) = ((List.getD (List.take i h) k default).frm))))) = true → True) ∧ ((!(((decide (((h.getD i default).frm) = ((List.getD (List.take i h) k default).frm))) || (decide (((h.getD i default).frm) = ((List.getD (List.take i h) k default).to)))) || (decide (((h.getD i default).to) = ((List.getD (List.take i h) k default).frm))))) = true → (((!(((decide (((h.getD i default).frm) = ((List.getD (List.take i h) k default).frm))) || (decide (((h.getD i default).frm) = ((List.getD (List.take i h) k default).to)))) || (decide (((h.getD i default).to) = ((List.getD (List.take i h) k default).frm))))) = true) ∧ True)) ∧ ((!(((decide (((h.getD i default).frm) = ((List.getD (List.take i h) k default).frm))) || (decide (((h.getD i default).frm) = ((List.getD (List.take i h) k default).to)))) || (decide (((h.getD i default).to) = ((List.getD (List.take i h) k default).frm))))) = true → ((((!(((decide (((h.getD i default).frm) = ((List.getD (List.take i h) k default).frm))) || (decide (((h.getD i default).frm) = ((List.getD (List.take i h) k default).to)))) || (decide (((h.getD i default).to) = ((List.getD (List.take i h) k default).frm))))) = true) ∧ True) ∧ (((!(((decide (((h.getD i default).frm) = ((List.getD (List.take i h) k default).frm))) || (decide (((h.getD i default).frm) = ((List.getD (List.take i h) k default).to)))) || (decide (((h.getD i default).to) = ((List.getD (List.take i h) k default).frm))))) = true) ∧ True) ∧ True)) ∧ (True ∧ ((((decide (((h.getD i default).frm) = ((List.getD (List.take i h) k default).frm))) || (decide (((h.getD i default).frm) = ((List.getD (List.take i h) k default).to)))) || (decide (((h.getD i default).to) = ((List.getD (List.take i h) k default).frm)))) = true → True) ∧ ((((decide (((h.getD i default).frm) = ((List.getD (List.take i h) k default).frm))) || (decide (((h.getD i default).frm) = ((List.getD (List.take i h) k default).to)))) || (decide (((h.getD i default).to) = ((List.getD (List.take i h) k default).frm)))) = false → ((!(((decide (((h.getD i default).frm) = ((List.getD (List.take i h) k default).frm))) || (decide (((h.getD i default).frm) = ((List.getD (List.take i h) k default).to)))) || (decide (((h.getD i default).to) = ((List.getD (List.take i h) k default).frm))))) = true) ∧ True)) ∧ True ∧ ((!((((decide (((h.getD i default).frm) = ((List.getD (List.take i h) k default).frm))) || (decide (((h.getD i default).frm) = ((List.getD (List.take i h) k default).to)))) || (decide (((h.getD i default).to) = ((List.getD (List.take i h) k default).frm)))) || (decide (((h.getD i default).to) = ((List.getD (List.take i h) k default).to))))) = true → True) ∧ ((!((((decide (((h.getD i default).frm) = ((List.getD (List.take i h) k default).frm))) || (decide (((h.getD i default).frm) = ((List.getD (List.take i h) k default).to)))) || (decide (((h.getD i default).to) = ((List.getD (List.take i h) k default).frm)))) || (decide (((h.getD i default).to) = ((List.getD (List.take i h) k default).to))))) = true → (((!((((decide (((h.getD i default).frm) = ((List.getD (List.take i h) k default).frm))) || (decide (((h.getD i default).frm) = ((List.getD (List.take i h) k default).to)))) || (decide (((h.getD i default).to) = ((List.getD (List.take i h) k default).frm)))) || (decide (((h.getD i default).to) = ((List.getD (List.take i h) k default).to))))) = true) ∧ True)) ∧ ((!((((decide (((h.getD i default).frm) = ((List.getD (List.take i h) k default).frm))) || (decide (((h.getD i default).frm) = ((List.getD (List.take i h) k default).to)))) || (decide (((h.getD i default).to) = ((List.getD (List.take i h) k default).frm)))) || (decide (((h.getD i default).to) = ((List.getD (List.take i h) k default).to))))) = true → True) ∧ ((!((((decide (((h.getD i default).frm) = ((List.getD (List.take i h) k default).frm))) || (decide (((h.getD i default).frm) = ((List.getD (List.take i h) k default).to)))) || (decide (((h.getD i default).to) = ((List.getD (List.take i h) k default).frm)))) || (decide (((h.getD i default).to) = ((List.getD (List.take i h) k default).to))))) = true → (((!((((decide (((h.getD i default).frm) = ((List.getD (List.take i h) k default).frm))) || (decide (((h.getD i default).frm) = ((List.getD (List.take i h) k default).to)))) || (decide (((h.getD i default).to) = ((List.getD (List.take i h) k default).frm)))) || (decide (((h.getD i default).to) = ((List.getD (List.take i h) k default).to))))) = true) ∧ True)) ∧ ((!((((decide (((h.getD i default).frm) = ((List.getD (List.take i h) k default).frm))) || (decide (((h.getD i default).frm) = ((List.getD (List.take i h) k default).to)))) || (decide (((h.getD i default).to) = ((List.getD (List.take i h) k default).frm)))) || (decide (((h.getD i default).to) = ((List.getD (List.take i h) k default).to))))) = true → ((((!((((decide (((h.getD i default).frm) = ((List.getD (List.take i h) k default).frm))) || (decide (((h.getD i default).frm) = ((List.getD (List.take i h) k default).to)))) || (decide (((h.getD i default).to) = ((List.getD (List.take i h) k default).frm)))) || (decide (((h.getD i default).to) = ((List.getD (List.take i h) k default).to))))) = true) ∧ True) ∧ (((!((((decide (((h.getD i default).frm) = ((List.getD (List.take i h) k default).frm))) || (decide (((h.getD i default).frm) = ((List.getD (List.take i h) k default).to)))) || (decide (((h.getD i default).to) = ((List.getD (List.take i h) k default).frm)))) || (decide (((h.getD i default).to) = ((List.getD (List.take i h) k default).to))))) = true) ∧ True) ∧ True)) ∧ ((!((((decide (((h.getD i default).frm) = ((List.getD (List.take i h) k default).frm))) || (decide (((h.getD i default).frm) = ((List.getD (List.take i h) k default).to)))) || (decide (((h.getD i default).to) = ((List.getD (List.take i h) k default).frm)))) || (decide (((h.getD i default).to) = ((List.getD (List.take i h) k default).to))))) = true → True) ∧ (((!((((decide (((h.getD i default).frm) = ((List.getD (List.take i h) k default).frm))) || (decide (((h.getD i default).frm) = ((List.getD (List.take i h) k default).to)))) || (decide (((h.getD i default).to) = ((List.getD (List.take i h) k default).frm)))) || (decide (((h.getD i default).to) = ((List.getD (List.take i h) k default).to))))) && ((!((((decide (((h.getD i default).frm) = ((List.getD (List.take i h) k default).frm))) || (decide (((h.getD i default).frm) = ((List.getD (List.take i h) k default).to)))) || (decide (((h.getD i default).to) = ((List.getD (List.take i h) k default).frm)))) || (decide (((h.getD i default).to) = ((List.getD (List.take i h) k default).to))))) && (decide (((h.getD i default).proc) = ((List.getD (List.take i h) k default).proc))))) = true → True) ∧ (((!((((decide (((h.getD i default).frm) = ((List.getD (List.take i h) k default).frm))) || (decide (((h.getD i default).frm) = ((List.getD (List.take i h) k default).to)))) || (decide (((h.getD i default).to) = ((List.getD (List.take i h) k default).frm)))) || (decide (((h.getD i default).to) = ((List.getD (List.take i h) k default).to))))) && ((!((((decide (((h.getD i default).frm) = ((List.getD (List.take i h) k default).frm))) || (decide (((h.getD i default).frm) = ((List.getD (List.take i h) k default).to)))) || (decide (((h.getD i default).to) = ((List.getD (List.take i h) k default).frm)))) || (decide (((h.getD i default).to) = ((List.getD (List.take i h) k default).to))))) && (decide (((h.getD i default).proc) = ((List.getD (List.take i h) k default).proc))))) = true → True) ∧ (((!((((decide (((h.getD i default).frm) = ((List.getD (List.take i h) k default).frm))) || (decide (((h.getD i default).frm) = ((List.getD (List.take i h) k default).to)))) || (decide (((h.getD i default).to) = ((List.getD (List.take i h) k default).frm)))) || (decide (((h.getD i default).to) = ((List.getD (List.take i h) k default).to))))) && ((!((((decide (((h.getD i default).frm) = ((List.getD (List.take i h) k default).frm))) || (decide (((h.getD i default).frm) = ((List.getD (List.take i h) k default).to)))) || (decide (((h.getD i default).to) = ((List.getD (List.take i h) k default).frm)))) || (decide (((h.getD i default).to) = ((List.getD (List.take i h) k default).to))))) && (decide (((h.getD i default).proc) = ((List.getD (List.take i h) k default).proc))))) = true → (True ∧ (((((!((((decide (((h.getD i default).frm) = ((List.getD (List.take i h) k default).frm))) || (decide (((h.getD i default).frm) = ((List.getD (List.take i h) k default).to)))) || (decide (((h.getD i default).to) = ((List.getD (List.take i h) k default).frm)))) || (decide (((h.getD i default).to) = ((List.getD (List.take i h) k default).to))))) && ((!((((decide (((h.getD i default).frm) = ((List.getD (List.take i h) k default).frm))) || (decide (((h.getD i default).frm) = ((List.getD (List.take i h) k default).to)))) || (decide (((h.getD i default).to) = ((List.getD (List.take i h) k default).frm)))) || (decide (((h.getD i default).to) = ((List.getD (List.take i h) k default).to))))) && (decide (((h.getD i default).proc) = ((List.getD (List.take i h) k default).proc))))) = true) ∧ True) ∧ ((((!((((decide (((h.getD i default).frm) = ((List.getD (List.take i h) k default).frm))) || (decide (((h.getD i default).frm) = ((List.getD (List.take i h) k default).to)))) || (decide (((h.getD i default).to) = ((List.getD (List.take i h) k default).frm)))) || (decide (((h.getD i default).to) = ((List.getD (List.take i h) k default).to))))) && ((!((((decide (((h.getD i default).frm) = ((List.getD (List.take i h) k default).frm))) || (decide (((h.getD i default).frm) = ((List.getD (List.take i h) k default).to)))) || (decide (((h.getD i default).to) = ((List.getD (List.take i h) k default).frm)))) || (decide (((h.getD i default).to) = ((List.getD (List.take i h) k default).to))))) && (decide (((h.getD i default).proc) = ((List.getD (List.take i h) k default).proc))))) = true) ∧ True) ∧ True) ∧ True)) ∧ ((!((((decide (((h.getD i default).frm) = ((List.getD (List.take i h) k default).frm))) || (decide (((h.getD i default).frm) = ((List.getD (List.take i h) k default).to)))) || (decide (((h.getD i default).to) = ((List.getD (List.take i h) k default).frm)))) || (decide (((h.getD i default).to) = ((List.getD (List.take i h) k default).to))))) = true → ((((!((((decide (((h.getD i default).frm) = ((List.getD (List.take i h) k default).frm))) || (decide (((h.getD i default).frm) = ((List.getD (List.take i h) k default).to)))) || (decide (((h.getD i default).to) = ((List.getD (List.take i h) k default).frm)))) || (decide (((h.getD i default).to) = ((List.getD (List.take i h) k default).to))))) = true) ∧ ((!((((decide (((h.getD i default).frm) = ((List.getD (List.take i h) k default).frm))) || (decide (((h.getD i default).frm) = ((List.getD (List.take i h) k default).to)))) || (decide (((h.getD i default).to) = ((List.getD (List.take i h) k default).frm)))) || (decide (((h.getD i default).to) = ((List.getD (List.take i h) k default).to))))) = true) ∧ True) ∧ ((decide (((h.getD i default).proc) = ((List.getD (List.take i h) k default).proc))) = true → (((!((((decide (((h.getD i default).frm) = ((List.getD (List.take i h) k default).frm))) || (decide (((h.getD i default).frm) = ((List.getD (List.take i h) k default).to)))) || (decide (((h.getD i default).to) = ((List.getD (List.take i h) k default).frm)))) || (decide (((h.getD i default).to) = ((List.getD (List.take i h) k default).to))))) && ((!((((decide (((h.getD i default).frm) = ((List.getD (List.take i h) k default).frm))) || (decide (((h.getD i default).frm) = ((List.getD (List.take i h) k default).to)))) || (decide (((h.getD i default).to) = ((List.getD (List.take i h) k default).frm)))) || (decide (((h.getD i default).to) = ((List.getD (List.take i h) k default).to))))) && (decide (((h.getD i default).proc) = ((List.getD (List.take i h) k default).proc))))) = true) ∧ True) ∧ ((decide (((h.getD i default).proc) = ((List.getD (List.take i h) k default).proc))) = false → True))) ∧ (True ∧ (((((decide (((h.getD i default).frm) = ((List.getD (List.take i h) k default).frm))) || (decide (((h.getD i default).frm) = ((List.getD (List.take i h) k default).to)))) || (decide (((h.getD i default).to) = ((List.getD (List.take i h) k default).frm)))) || (decide (((h.getD i default).to) = ((List.getD (List.take i h) k default).to)))) = true → True) ∧ (((((decide (((h.getD i default).frm) = ((List.getD (List.take i h) k default).frm))) || (decide (((h.getD i default).frm) = ((List.getD (List.take i h) k default).to)))) || (decide (((h.getD i default).to) = ((List.getD (List.take i h) k default).frm)))) || (decide (((h.getD i default).to) = ((List.getD (List.take i h) k default).to)))) = false → ((!((((decide (((h.getD i default).frm) = ((List.getD (List.take i h) k default).frm))) || (decide (((h.getD i default).frm) = ((List.getD (List.take i h) k default).to)))) || (decide (((h.getD i default).to) = ((List.getD (List.take i h) k default).frm)))) || (decide (((h.getD i default).to) = ((List.getD (List.take i h) k default).to))))) = true) ∧ True)) ∧ True) (by kernel_rfl)
        ⟨tt,tt,tt,tt,⟨tt,tt,tt⟩,tt,(fun _ => trivial),(fun hG => ⟨hG,tt⟩),(fun _ => trivial),(fun hG => ⟨hG,tt⟩),(fun hG => ⟨⟨hG,tt⟩,⟨hG,tt⟩,tt⟩),⟨tt,(fun _ => trivial),(fun hp => ⟨(not_t hp),tt⟩)⟩,tt,(fun _ => trivial),(fun hG => ⟨hG,tt⟩),(fun _ => trivial),(fun hG => ⟨hG,tt⟩),(fun hG => ⟨⟨hG,tt⟩,⟨hG,tt⟩,tt⟩),⟨tt,(fun _ => trivial),(fun hp => ⟨(not_t hp),tt⟩)⟩,tt,(fun _ => trivial),(fun hG => ⟨hG,tt⟩),(fun _ => trivial),(fun hG => ⟨hG,tt⟩),(fun hG => ⟨⟨hG,tt⟩,⟨hG,tt⟩,tt⟩),⟨tt,(fun _ => trivial),(fun hp => ⟨(not_t hp),tt⟩)⟩,tt,(fun _ => trivial),(fun hG => ⟨hG,tt⟩),(fun _ => trivial),(fun hG => ⟨hG,tt⟩),(fun hG => ⟨⟨hG,tt⟩,⟨hG,tt⟩,tt⟩),(fun _ => trivial),(fun _ => trivial),(fun _ => trivial),(fun hG => ⟨tt,⟨⟨hG,tt⟩,⟨hG,tt⟩,tt⟩,tt⟩),(fun hG => ⟨⟨hG,hG,tt⟩,(fun hp => ⟨(and_t hG (and_t hG hp)),tt⟩),(fun _ => trivial)⟩),⟨tt,(fun _ => trivial),(fun hp => ⟨(not_t hp),tt⟩)⟩,tt⟩ ?_
       refine W.if' (((((decide (((h.getD i default).frm) = ((List.getD (List.take i h) k default).frm))) || (decide (((h.getD i default).frm) = ((List.getD (List.take i h) k default).to)))) || (decide (((h.getD i default).to) = ((List.getD (List.take i h) k default).frm)))) || (decide (((h.getD i default).to) = ((List.getD (List.take i h) k default).to)))) || ((decide (((h.getD i default).proc) = ((List.getD (List.take i h) k default).proc))) && (doOverlap (h.getD i default) (List.getD (List.take i h) k default)))) (.b (((((decide (((h.getD i default).frm) = ((List.getD (List.take i h) k default).frm))) || (decide (((h.getD i default).frm) = ((List.getD (List.take i h) k default).to)))) || (decide (((h.getD i default).to) = ((List.getD (List.take i h) k default).frm)))) || (decide (((h.getD i default).to) = ((List.getD (List.take i h) k default).to)))) || ((decide (((h.getD i default).proc) = ((List.getD (List.take i h) k default).proc))) && (doOverlap (h.getD i default) (List.getD (List.take i h) k default))))) (by kernel_rfl) rfl trivial ?_ ?_
       ·intro h65
        refine W.K cok tab41 hnt [] [2] (⟨[(2,.b false)],[(4,⟨47,.fix [.i ((h.getD i default).proc),.i ((h.getD i default).obj),.i ((h.getD i default).kind),.i ((h.getD i default).arg),.i ((h.getD i default).ret),.i ((h.getD i default).frm),.i ((h.getD i default).to)]⟩),(6,⟨47,.fix [.i ((List.getD (List.take i h) k default).proc),.i ((List.getD (List.take i h) k default).obj),.i ((List.getD (List.take i h) k default).kind),.i ((List.getD (List.take i h) k default).arg),.i ((List.getD (List.take i h) k default).ret),.i ((List.getD (List.take i h) k default).frm),.i ((List.getD (List.take i h) k default).to)]⟩)],[6,4,999]⟩)
         (True ∧ True) (by kernel_rfl)
         ⟨tt,tt⟩ ?_
        refine W.ret (blockQ_ret (thenQ_ret (thenQ_ret (blockQ_ret (blockQ_ret (thenQ_ret (thenQ_ret (blockQ_ret (thenQ_ret ?_)))))))))
        exact endQ_ret (.b false) (by kernel_rfl) (@cast ((.bool false : Value) = .bool (validHistory h)) _ (by kernel_rfl) (congrArg Value.bool (by unfold validHistory; symm; exact and_fr (allN_false (i := i) (by omega) (and_fr (allN_false (i := k) (by omega) (not_h (by rw [← h65,getD_take h (default : CallD) (show k < i by omega)]; rfl))))))))
       ·intro n65
        have n65_0 : ¬ (((h.getD i default).frm) = ((List.getD (List.take i h) k default).frm)) := of_decide_eq_false (or_l (or_l (or_l (or_l n65))))
        have n65_1 : ¬ (((h.getD i default).frm) = ((List.getD (List.take i h) k default).to)) := of_decide_eq_false (or_r (or_l (or_l (or_l n65))))
        have n65_2 : ¬ (((h.getD i default).to) = ((List.getD (List.take i h) k default).frm)) := of_decide_eq_false (or_r (or_l (or_l n65)))
        have n65_3 : ¬ (((h.getD i default).to) = ((List.getD (List.take i h) k default).to)) := of_decide_eq_false (or_r (or_l n65))
        refine W.skip (blockQ_normal (thenQ_normal ?_))
        refine W.L cok tab41 hnt [] (⟨[(0,.sl (.calls h)),(4,.ptr 4 0),(10,.sl (.calls h)),(11,.i (h.length : Int)),(12,.i ((i : Nat) : Int)),(22,.sl (.calls (List.take i h))),(23,.i (((List.length (List.take i h)) : Nat) : Int)),(24,.i (((k + 1) : Nat) : Int)),(65,.b (((((decide (((h.getD i default).frm) = ((List.getD (List.take i h) k default).frm))) || (decide (((h.getD i default).frm) = ((List.getD (List.take i h) k default).to)))) || (decide (((h.getD i default).to) = ((List.getD (List.take i h) k default).frm)))) || (decide (((h.getD i default).to) = ((List.getD (List.take i h) k default).to)))) || ((decide (((h.getD i default).proc) = ((List.getD (List.take i h) k default).proc))) && (doOverlap (h.getD i default) (List.getD (List.take i h) k default))))),(66,.i (((k + 1) : Nat) : Int))],[(4,⟨47,.fix [.i ((h.getD i default).proc),.i ((h.getD i default).obj),.i ((h.getD i default).kind),.i ((h.getD i default).arg),.i ((h.getD i default).ret),.i ((h.getD i default).frm),.i ((h.getD i default).to)]⟩),(6,⟨47,.fix [.i ((List.getD (List.take i h) k default).proc),.i ((List.getD (List.take i h) k default).obj),.i ((List.getD (List.take i h) k default).kind),.i ((List.getD (List.take i h) k default).arg),.i ((List.getD (List.take i h) k default).ret),.i ((List.getD (List.take i h) k default).frm),.i ((List.getD (List.take i h) k default).to)]⟩)],[6,4,999]⟩)
         ((True ∧ True ∧ (Fits .i64 (((k + 1) : Nat) : Int))) ∧ True ∧ True) (by kernel_rfl)
         ⟨⟨tt,tt,(by exact fits_i64 (by omega) (by omega))⟩,tt,tt⟩ ?_
        refine thenQ_normal ?_
        refine ⟨((k + 1)),(show ((k + 1) ≤ i) ∧ (∀ j,j < (k + 1) → (!clash (callAt h i) (callAt h j)) = true) from ⟨(by first | assumption | omega | rfl | (intro _ hjj; omega) | (simp; done) | (simp; omega)),(by exact upto_succ hB (not_t (by rw [← n65,getD_take h (default : CallD) (show k < i by omega)]; rfl)))⟩),(show i - (k + 1) < i - k from (by first | omega | (simp_all; omega))),?_⟩
        exact Sub.of [] (@cast ((((.calls h : Dat) = .calls h) ∧ ((((4 : Nat) = 4) ∧ (((0 : Nat) = 0) ∧ ((4 : Nat) ∈ ([4,999] : List Nat)))) ∧ (((.calls h : Dat) = .calls h) ∧ (((.int .i64 (h.length : Int) : Value) = .int .i64 (h.length : Int)) ∧ (((.int .i64 ((i : Nat) : Int) : Value) = .int .i64 ((i : Nat) : Int)) ∧ (((.calls (List.take i h) : Dat) = .calls (List.take i h)) ∧ (((.int .i64 (((List.length (List.take i h)) : Nat) : Int) : Value) = .int .i64 (((List.length (List.take i h)) : Nat) : Int)) ∧ (((.int .i64 (((k + 1) : Nat) : Int) : Value) = .int .i64 (((k + 1) : Nat) : Int)) ∧ True)))))))) ∧ (((((47 : Nat) = 47) ∧ ((((.int .i64 ((h.getD i default).proc) : Value) = .int .i64 ((h.getD i default).proc)) ∧ (((.int .i64 ((h.getD i default).obj) : Value) = .int .i64 ((h.getD i default).obj)) ∧ (((.int .i64 ((h.getD i default).kind) : Value) = .int .i64 ((h.getD i default).kind)) ∧ (((.int .i64 ((h.getD i default).arg) : Value) = .int .i64 ((h.getD i default).arg)) ∧ (((.int .i64 ((h.getD i default).ret) : Value) = .int .i64 ((h.getD i default).ret)) ∧ (((.int .i64 ((h.getD i default).frm) : Value) = .int .i64 ((h.getD i default).frm)) ∧ (((.int .i64 ((h.getD i default).to) : Value) = .int .i64 ((h.getD i default).to)) ∧ True))))))) ∧ ((4 : Nat) ∈ ([4,999] : List Nat)))) ∧ True) ∧ ((true = true) ∧ (true = true)))) _ (by kernel_rfl) ⟨⟨rfl,⟨rfl,rfl,(by decide)⟩,rfl,rfl,rfl,rfl,rfl,rfl,tt⟩,⟨⟨rfl,⟨rfl,rfl,rfl,rfl,rfl,rfl,rfl,tt⟩,(by decide)⟩,tt⟩,rfl,rfl⟩)
      ·intro n25
       have n25' := n25
       simp only [List.length_append,List.length_cons,List.length_nil,List.length_take,List.length_drop,List.length_set,List.length_replicate,List.length_map] at n25'
       refine W.exit (thenQ_exit (thenQ_exit (blockQ_hit ?_)))
       refine blockQ_normal (thenQ_normal ?_)
       refine W.L cok tab41 hnt [] (⟨[(0,.sl (.calls h)),(4,.ptr 4 0),(10,.sl (.calls h)),(11,.i (h.length : Int)),(12,.i (((i + 1) : Nat) : Int)),(22,.sl (.calls (List.take i h))),(23,.i (((List.length (List.take i h)) : Nat) : Int)),(24,.i ((k : Nat) : Int)),(25,.b (decide (((k : Nat) : Int) < (((List.length (List.take i h)) : Nat) : Int)))),(67,.i (((i + 1) : Nat) : Int))],[(4,⟨47,.fix [.i ((h.getD i default).proc),.i ((h.getD i default).obj),.i ((h.getD i default).kind),.i ((h.getD i default).arg),.i ((h.getD i default).ret),.i ((h.getD i default).frm),.i ((h.getD i default).to)]⟩)],[4,999]⟩)
        ((True ∧ True ∧ (Fits .i64 (((i + 1) : Nat) : Int))) ∧ True ∧ True) (by kernel_rfl)
        ⟨⟨tt,tt,(by exact fits_i64 (by omega) (by omega))⟩,tt,tt⟩ ?_
       refine thenQ_normal ?_
       refine ⟨((i + 1)),(show ((i + 1) ≤ h.length) ∧ (∀ j,j < (i + 1) → (isCall (callAt h j) && allN j (fun k => !clash (callAt h j) (callAt h k))) = true) from ⟨(by first | assumption | omega | rfl | (intro _ hjj; omega) | (simp; done) | (simp; omega)),(by exact upto_succ hA (and_t (not_g n19) (allN_true (fun j hj => hB j (by omega)))))⟩),(show h.length - (i + 1) < h.length - i from (by first | omega | (simp_all; omega))),?_⟩
       exact Sub.of [] (@cast ((((.calls h : Dat) = .calls h) ∧ (((.calls h : Dat) = .calls h) ∧ (((.int .i64 (h.length : Int) : Value) = .int .i64 (h.length : Int)) ∧ (((.int .i64 (((i + 1) : Nat) : Int) : Value) = .int .i64 (((i + 1) : Nat) : Int)) ∧ True)))) ∧ (True ∧ ((true = true) ∧ (true = true)))) _ (by kernel_rfl) ⟨⟨rfl,rfl,rfl,rfl,tt⟩,tt,rfl,rfl⟩)
   ·intro n13
    refine W.exit (thenQ_exit (thenQ_exit (blockQ_hit ?_)))
    refine thenQ_normal ?_
    refine W.K cok tab41 hnt [] [2] (⟨[(2,.b true)],[],[999]⟩)
     (True ∧ True) (by kernel_rfl)
     ⟨tt,tt⟩ ?_
    refine W.ret ?_
    exact endQ_ret (.b true) (by kernel_rfl) (@cast ((.bool true : Value) = .bool (validHistory h)) _ (by kernel_rfl) (congrArg Value.bool (by unfold validHistory; symm; exact and_t (decide_eq_true (by omega)) (allN_true (fun j hj => hA j (by omega))))))
theorem ent41 : Entr prog 41 := ⟨_,func41,rfl,by decide⟩
end Go.Proofs.Try

set_option linter.unusedSimpArgs false
set_option linter.unusedVariables false
namespace Go.Proofs.Try
open Go.Ab Go.RowKit
def fs62 : FnS := fnS [.o,.o,.o] [.int,.int,(.ep .calls)] (fun _ (i,k,h,_) => (.b (aheadF h i.toNat k.toNat),[],(0 ≤ i ∧ i < h.length) ∧ (0 ≤ k ∧ k < h.length)))
abbrev T62 : Tab := lk [(63,fs63)]
theorem tab62 : TabOK prog T62 := (TabOK.cons ok63 ent63 TabOK.nil)
set_option maxRecDepth 100000 in
set_option maxHeartbeats 1000000 in
theorem ok62 : FnOK prog 62 fs62 := by
 refine FnOK.mk cok func62 rfl rfl rfl ?_
 rintro fl ⟨(i : Int),(k : Int),(h : List CallD),_⟩ hpre F hnt0 _
 have hnt : F.nt = 15 := hnt0.trans ntmps62
 replace hpre : (0 ≤ i ∧ i < h.length) ∧ (0 ≤ k ∧ k < h.length) := hpre
 obtain ⟨hi,hk⟩ := hpre
 refine W.to (⟨[(0,.i i),(1,.i k),(2,.ep [.sl (.calls h)])],[],[999]⟩) rfl ?_
 refine W.K cok tab62 hnt [] [0,1,2] (⟨[(0,.i i),(1,.i k),(2,.ep [.sl (.calls h)])],[],[999]⟩)
  (True ∧ True) (by kernel_rfl)
  ⟨tt,tt⟩ ?_
 refine W.KA cok tab62 hnt [] [5] (⟨[(5,.b (isBefore (h.getD (Int.toNat k) default) (h.getD (Int.toNat i) default)))],[],[999]⟩)
  (True ∧ True ∧ (True ∧ True ∧ (0 ≤ k) ∧ (k < (h.length : Int))) ∧ True ∧ True ∧ True ∧ (True ∧ True ∧ (0 ≤ i) ∧ (i < (h.length : Int))) ∧ True ∧ (True ∧ (True ∧ True ∧ True) ∧ True) ∧ True ∧ True) (by kernel_rfl) (by kernel_rfl)
  ⟨tt,tt,⟨tt,tt,(by omega),(by omega)⟩,tt,tt,tt,⟨tt,tt,(by omega),(by omega)⟩,tt,⟨tt,⟨tt,tt,tt⟩,tt⟩,tt,tt⟩ ?_
 refine W.ret ?_
 exact endQ_ret (.b (isBefore (h.getD (Int.toNat k) default) (h.getD (Int.toNat i) default))) (by kernel_rfl) (@cast ((.bool (isBefore (h.getD (Int.toNat k) default) (h.getD (Int.toNat i) default)) : Value) = .bool (aheadF h i.toNat k.toNat)) _ (by kernel_rfl) (congrArg Value.bool (by first | rfl | simp_all)))
theorem ent62 : Entr prog 62 := ⟨_,func62,rfl,by decide⟩
end Go.Proofs.Try

set_option linter.unusedSimpArgs false
set_option linter.unusedVariables false
namespace Go.Proofs.Try
open Go.Ab Go.RowKit
def fs61AheadOf : FnS := fnS [.o,.o] [.int,(.fn1 62 (.ep .calls))] (fun _ (n,h,_) => (.sl (.ints (rowsOf n.toNat (aheadF h))),[],(0 ≤ n ∧ n ≤ 60 ∧ n = h.length)))
abbrev T61AheadOf : Tab := lk [(62,fs62)]
theorem tab61AheadOf : TabOK prog T61AheadOf := (TabOK.cons ok62 ent62 TabOK.nil)
set_option maxRecDepth 100000 in
set_option maxHeartbeats 1000000 in
theorem ok61AheadOf : FnOK prog 61 fs61AheadOf := by
 refine FnOK.mk cok func61 rfl rfl rfl ?_
 rintro fl ⟨(n : Int),(h : List CallD),_⟩ hpre F hnt0 _
 have hnt : F.nt = 35 := hnt0.trans ntmps61
 replace hpre : (0 ≤ n ∧ n ≤ 60 ∧ n = h.length) := hpre
 have hn := hpre
 refine W.to (⟨[(0,.i n),(1,.fn 62 [.ep [.sl (.calls h)]])],[],[999]⟩) rfl ?_
 refine W.K cok tab61AheadOf hnt [] [0,1] (⟨[(0,.i n),(1,.fn 62 [.ep [.sl (.calls h)]])],[],[999]⟩)
  (True ∧ True) (by kernel_rfl)
  ⟨tt,tt⟩ ?_
 refine W.K cok tab61AheadOf hnt [9] [0,1,5] (⟨[(0,.i n),(1,.fn 62 [.ep [.sl (.calls h)]]),(5,.own 9 (List.length (List.replicate (Int.toNat n) (0 : Int))))],[(9,⟨3,.row (.ints (List.replicate (Int.toNat n) (0 : Int)))⟩)],[9,999]⟩)
  (True ∧ (True ∧ True ∧ (n = n) ∧ (0 ≤ n) ∧ (n * 8 ≤ 281474976710656)) ∧ True ∧ True) (by kernel_rfl)
  ⟨tt,⟨tt,tt,rfl,(by omega),(by omega)⟩,tt,tt⟩ ?_
 refine W.seq ?_
 refine W.K cok tab61AheadOf hnt [] [0,1,5,11,12] (⟨[(0,.i n),(1,.fn 62 [.ep [.sl (.calls h)]]),(5,.own 9 (List.length (List.replicate (Int.toNat n) (0 : Int)))),(11,.i (((List.length (List.replicate (Int.toNat n) (0 : Int))) : Nat) : Int)),(12,.i (0 : Int))],[(9,⟨3,.row (.ints (List.replicate (Int.toNat n) (0 : Int)))⟩)],[9,999]⟩)
  (True ∧ True ∧ True ∧ True) (by kernel_rfl)
  ⟨tt,tt,tt,tt⟩ ?_
 refine W.block ?_
 refine W.loop (ι := Nat × (List Int)) (fun (x : Nat × (List Int)) => match x with | (i,o) => (⟨[(0,.i n),(1,.fn 62 [.ep [.sl (.calls h)]]),(5,.own 9 o.length),(11,.i (((List.length (List.replicate (Int.toNat n) (0 : Int))) : Nat) : Int)),(12,.i ((i : Nat) : Int))],[(9,⟨3,.row (.ints o)⟩)],[9,999]⟩ : St))
  (fun (x : Nat × (List Int)) => match x with | (i,o) => (i ≤ n.toNat) ∧ (o = partRows n.toNat (aheadF h) i 0))
  (fun (x : Nat × (List Int)) => match x with | (i,o) => (n.toNat - i : Nat)) (0,(List.replicate (Int.toNat n) (0 : Int))) ?_ ?_ ?_
 ·exact (show (0 ≤ n.toNat) ∧ ((List.replicate (Int.toNat n) (0 : Int)) = partRows n.toNat (aheadF h) 0 0) from ⟨(by first | assumption | omega | rfl | (intro _ hjj; omega) | (simp; done) | (simp; omega)),(by exact partRows_zero _ _)⟩)
 ·exact Sub.of [] (@cast ((((.int .i64 n : Value) = .int .i64 n) ∧ ((((62 : Nat) = 62) ∧ ((((.ep [.sl (.calls h)] : AV) = .ep [.sl (.calls h)]) ∧ (([] : List Nat) = [])) ∧ True)) ∧ ((((9 : Nat) = 9) ∧ (((List.length (List.replicate (Int.toNat n) (0 : Int))) = (List.length (List.replicate (Int.toNat n) (0 : Int)))) ∧ ((9 : Nat) ∈ ([9,999] : List Nat)))) ∧ (((.int .i64 (((List.length (List.replicate (Int.toNat n) (0 : Int))) : Nat) : Int) : Value) = .int .i64 (((List.length (List.replicate (Int.toNat n) (0 : Int))) : Nat) : Int)) ∧ (((.int .i64 (0 : Int) : Value) = .int .i64 ((0 : Nat) : Int)) ∧ True))))) ∧ (((((3 : Nat) = 3) ∧ (((.ints (List.replicate (Int.toNat n) (0 : Int)) : Dat) = .ints (List.replicate (Int.toNat n) (0 : Int))) ∧ ((9 : Nat) ∈ ([9,999] : List Nat)))) ∧ True) ∧ ((true = true) ∧ (true = true)))) _ (by kernel_rfl) ⟨⟨rfl,⟨rfl,⟨rfl,rfl⟩,tt⟩,⟨rfl,rfl,(by decide)⟩,rfl,(congrArg (Value.int .i64) (by first | rfl | omega | assumption | simp | simp_all)),tt⟩,⟨⟨rfl,rfl,(by decide)⟩,tt⟩,rfl,rfl⟩)
 ·rintro ⟨i,o⟩ hC0
  have hC : (i ≤ n.toNat) ∧ (o = partRows n.toNat (aheadF h) i 0) := hC0
  clear hC0
  obtain ⟨hi,ho⟩ := hC
  refine W.to (⟨[(0,.i n),(1,.fn 62 [.ep [.sl (.calls h)]]),(5,.own 9 o.length),(11,.i (((List.length (List.replicate (Int.toNat n) (0 : Int))) : Nat) : Int)),(12,.i ((i : Nat) : Int))],[(9,⟨3,.row (.ints o)⟩)],[9,999]⟩) rfl ?_
  have hol : o.length = n.toNat := by rw [ho]; exact partRows_len _ _ _ _
  refine W.K cok tab61AheadOf hnt [] [0,1,5,11,12,13] (⟨[(0,.i n),(1,.fn 62 [.ep [.sl (.calls h)]]),(5,.own 9 o.length),(11,.i (((List.length (List.replicate (Int.toNat n) (0 : Int))) : Nat) : Int)),(12,.i ((i : Nat) : Int)),(13,.b (decide (((i : Nat) : Int) < (((List.length (List.replicate (Int.toNat n) (0 : Int))) : Nat) : Int))))],[(9,⟨3,.row (.ints o)⟩)],[9,999]⟩)
   ((True ∧ True ∧ True) ∧ True) (by kernel_rfl)
   ⟨⟨tt,tt,tt⟩,tt⟩ ?_
  refine W.seq ?_
  refine W.ifP (((i : Nat) : Int) < (((List.length (List.replicate (Int.toNat n) (0 : Int))) : Nat) : Int)) (.b (decide (((i : Nat) : Int) < (((List.length (List.replicate (Int.toNat n) (0 : Int))) : Nat) : Int)))) (by kernel_rfl) rfl trivial ?_ ?_
  ·intro h13
   have h13' := h13
   simp only [List.length_append,List.length_cons,List.length_nil,List.length_take,List.length_drop,List.length_set,List.length_replicate,List.length_map] at h13'
   refine W.skip (thenQ_normal ?_)
   refine W.seq ?_
   refine W.block ?_
   refine W.K cok tab61AheadOf hnt [] [0,1,5,6,11,12] (⟨[(0,.i n),(1,.fn 62 [.ep [.sl (.calls h)]]),(5,.own 9 o.length),(6,.i ((i : Nat) : Int)),(11,.i (((List.length (List.replicate (Int.toNat n) (0 : Int))) : Nat) : Int)),(12,.i ((i : Nat) : Int))],[(9,⟨3,.row (.ints o)⟩)],[9,999]⟩)
    (True ∧ True ∧ True) (by kernel_rfl)
    ⟨tt,tt,tt⟩ ?_
   refine W.K cok tab61AheadOf hnt [] [0,1,5,6,11,12,15,16] (⟨[(0,.i n),(1,.fn 62 [.ep [.sl (.calls h)]]),(5,.own 9 o.length),(6,.i ((i : Nat) : Int)),(11,.i (((List.length (List.replicate (Int.toNat n) (0 : Int))) : Nat) : Int)),(12,.i ((i : Nat) : Int)),(15,.i n),(16,.i (0 : Int))],[(9,⟨3,.row (.ints o)⟩)],[9,999]⟩)
    (True ∧ True ∧ True) (by kernel_rfl)
    ⟨tt,tt,tt⟩ ?_
   refine W.block ?_
   refine W.loop (ι := Nat × (List Int)) (fun (x : Nat × (List Int)) => match x with | (k,x) => (⟨[(0,.i n),(1,.fn 62 [.ep [.sl (.calls h)]]),(5,.own 9 o.length),(6,.i ((i : Nat) : Int)),(11,.i (((List.length (List.replicate (Int.toNat n) (0 : Int))) : Nat) : Int)),(12,.i ((i : Nat) : Int)),(15,.i n),(16,.i ((k : Nat) : Int))],[(9,⟨3,.row (.ints x)⟩)],[9,999]⟩ : St))
    (fun (x : Nat × (List Int)) => match x with | (k,x) => (k ≤ n.toNat) ∧ (x = partRows n.toNat (aheadF h) i k))
    (fun (x : Nat × (List Int)) => match x with | (k,x) => (n.toNat - k : Nat)) (0,o) ?_ ?_ ?_
   ·exact (show (0 ≤ n.toNat) ∧ (o = partRows n.toNat (aheadF h) i 0) from ⟨(by first | assumption | omega | rfl | (intro _ hjj; omega) | (simp; done) | (simp; omega)),(by exact ho)⟩)
   ·exact Sub.of [] (@cast ((((.int .i64 n : Value) = .int .i64 n) ∧ ((((62 : Nat) = 62) ∧ ((((.ep [.sl (.calls h)] : AV) = .ep [.sl (.calls h)]) ∧ (([] : List Nat) = [])) ∧ True)) ∧ ((((9 : Nat) = 9) ∧ ((o.length = o.length) ∧ ((9 : Nat) ∈ ([9,999] : List Nat)))) ∧ (((.int .i64 ((i : Nat) : Int) : Value) = .int .i64 ((i : Nat) : Int)) ∧ (((.int .i64 (((List.length (List.replicate (Int.toNat n) (0 : Int))) : Nat) : Int) : Value) = .int .i64 (((List.length (List.replicate (Int.toNat n) (0 : Int))) : Nat) : Int)) ∧ (((.int .i64 ((i : Nat) : Int) : Value) = .int .i64 ((i : Nat) : Int)) ∧ (((.int .i64 n : Value) = .int .i64 n) ∧ (((.int .i64 (0 : Int) : Value) = .int .i64 ((0 : Nat) : Int)) ∧ True)))))))) ∧ (((((3 : Nat) = 3) ∧ (((.ints o : Dat) = .ints o) ∧ ((9 : Nat) ∈ ([9,999] : List Nat)))) ∧ True) ∧ ((true = true) ∧ (true = true)))) _ (by kernel_rfl) ⟨⟨rfl,⟨rfl,⟨rfl,rfl⟩,tt⟩,⟨rfl,rfl,(by decide)⟩,rfl,rfl,rfl,rfl,(congrArg (Value.int .i64) (by first | rfl | omega | assumption | simp | simp_all)),tt⟩,⟨⟨rfl,rfl,(by decide)⟩,tt⟩,rfl,rfl⟩)
   ·rintro ⟨k,x⟩ hC0
    have hC : (k ≤ n.toNat) ∧ (x = partRows n.toNat (aheadF h) i k) := hC0
    clear hC0
    obtain ⟨hk,hx⟩ := hC
    refine W.to (⟨[(0,.i n),(1,.fn 62 [.ep [.sl (.calls h)]]),(5,.own 9 o.length),(6,.i ((i : Nat) : Int)),(11,.i (((List.length (List.replicate (Int.toNat n) (0 : Int))) : Nat) : Int)),(12,.i ((i : Nat) : Int)),(15,.i n),(16,.i ((k : Nat) : Int))],[(9,⟨3,.row (.ints x)⟩)],[9,999]⟩) rfl ?_
    have hxl : x.length = n.toNat := by rw [hx]; exact partRows_len _ _ _ _
    refine W.K cok tab61AheadOf hnt [] [0,1,5,6,11,12,15,16,17] (⟨[(0,.i n),(1,.fn 62 [.ep [.sl (.calls h)]]),(5,.own 9 o.length),(6,.i ((i : Nat) : Int)),(11,.i (((List.length (List.replicate (Int.toNat n) (0 : Int))) : Nat) : Int)),(12,.i ((i : Nat) : Int)),(15,.i n),(16,.i ((k : Nat) : Int)),(17,.b (decide (((k : Nat) : Int) < n)))],[(9,⟨3,.row (.ints x)⟩)],[9,999]⟩)
     ((True ∧ True ∧ True) ∧ True) (by kernel_rfl)
     ⟨⟨tt,tt,tt⟩,tt⟩ ?_
    refine W.seq ?_
    refine W.ifP (((k : Nat) : Int) < n) (.b (decide (((k : Nat) : Int) < n))) (by kernel_rfl) rfl trivial ?_ ?_
    ·intro h17
     refine W.skip (thenQ_normal ?_)
     refine W.seq ?_
     refine W.block ?_
     refine W.K cok tab61AheadOf hnt [] [0,1,5,6,7,11,12,15,16] (⟨[(0,.i n),(1,.fn 62 [.ep [.sl (.calls h)]]),(5,.own 9 o.length),(6,.i ((i : Nat) : Int)),(7,.i ((k : Nat) : Int)),(11,.i (((List.length (List.replicate (Int.toNat n) (0 : Int))) : Nat) : Int)),(12,.i ((i : Nat) : Int)),(15,.i n),(16,.i ((k : Nat) : Int))],[(9,⟨3,.row (.ints x)⟩)],[9,999]⟩)
      (True ∧ True ∧ True) (by kernel_rfl)
      ⟨tt,tt,tt⟩ ?_
     refine W.K cok tab61AheadOf hnt [] [0,1,5,6,7,11,12,15,16,22] (⟨[(0,.i n),(1,.fn 62 [.ep [.sl (.calls h)]]),(5,.own 9 o.length),(6,.i ((i : Nat) : Int)),(7,.i ((k : Nat) : Int)),(11,.i (((List.length (List.replicate (Int.toNat n) (0 : Int))) : Nat) : Int)),(12,.i ((i : Nat) : Int)),(15,.i n),(16,.i ((k : Nat) : Int)),(22,.b (aheadF h ((i : Nat) : Int).toNat ((k : Nat) : Int).toNat))],[(9,⟨3,.row (.ints x)⟩)],[9,999]⟩)
      (True ∧ True ∧ True ∧ (True ∧ (True ∧ True ∧ True ∧ True) ∧ (0 ≤ ((i : Nat) : Int) ∧ ((i : Nat) : Int) < h.length) ∧ 0 ≤ ((k : Nat) : Int) ∧ ((k : Nat) : Int) < h.length) ∧ True) (by kernel_rfl)
      ⟨tt,tt,tt,⟨tt,⟨tt,tt,tt,tt⟩,(by omega),(by omega)⟩,tt⟩ ?_
     refine W.if' (aheadF h ((i : Nat) : Int).toNat ((k : Nat) : Int).toNat) (.b (aheadF h ((i : Nat) : Int).toNat ((k : Nat) : Int).toNat)) (by kernel_rfl) rfl trivial ?_ ?_
     ·intro h22
      refine W.L cok tab61AheadOf hnt [] (⟨[(0,.i n),(1,.fn 62 [.ep [.sl (.calls h)]]),(5,.own 9 o.length),(6,.i ((i : Nat) : Int)),(7,.i ((k : Nat) : Int)),(11,.i (((List.length (List.replicate (Int.toNat n) (0 : Int))) : Nat) : Int)),(12,.i ((i : Nat) : Int)),(15,.i n),(16,.i ((k : Nat) : Int)),(22,.b (aheadF h ((i : Nat) : Int).toNat ((k : Nat) : Int).toNat)),(23,.own 9 o.length),(24,.i ((i : Nat) : Int)),(25,.pel 9 1 i 0),(26,.i (x.getD i 0)),(27,.i ((k : Nat) : Int)),(28,.v (.int .u64 ((k : Nat) : Int))),(29,.i (shlI .i64 (1 : Int) ((k : Nat) : Int))),(30,.i (bitsI .or .i64 (x.getD i 0) (shlI .i64 (1 : Int) ((k : Nat) : Int)))),(31,.pel 9 1 i 0)],[(9,⟨3,.row (.ints (List.set x i (bitsI .or .i64 (x.getD i 0) (shlI .i64 (1 : Int) ((k : Nat) : Int)))))⟩)],[9,999]⟩)
       (True ∧ True ∧ (True ∧ True ∧ (0 ≤ ((i : Nat) : Int)) ∧ (((i : Nat) : Int) < (o.length : Int))) ∧ (True ∧ (i < x.length)) ∧ True ∧ (True ∧ (Fits .u64 ((k : Nat) : Int))) ∧ (True ∧ True ∧ (0 ≤ ((k : Nat) : Int)) ∧ (Fits .i64 (shlI .i64 (1 : Int) ((k : Nat) : Int)))) ∧ (True ∧ True ∧ True) ∧ (True ∧ True ∧ (0 ≤ ((i : Nat) : Int)) ∧ (((i : Nat) : Int) < (o.length : Int))) ∧ (True ∧ True ∧ (i < x.length)) ∧ True) (by kernel_rfl)
       ⟨tt,tt,⟨tt,tt,(by omega),(by omega)⟩,⟨tt,(by omega)⟩,tt,⟨tt,(by exact fits_u64 (by omega) (by omega))⟩,⟨tt,tt,(by omega),(by exact fits_shl (by omega))⟩,⟨tt,tt,tt⟩,⟨tt,tt,(by omega),(by omega)⟩,⟨tt,tt,(by omega)⟩,tt⟩ ?_
      refine blockQ_normal (thenQ_normal ?_)
      refine W.L cok tab61AheadOf hnt [] (⟨[(0,.i n),(1,.fn 62 [.ep [.sl (.calls h)]]),(5,.own 9 o.length),(6,.i ((i : Nat) : Int)),(7,.i ((k : Nat) : Int)),(11,.i (((List.length (List.replicate (Int.toNat n) (0 : Int))) : Nat) : Int)),(12,.i ((i : Nat) : Int)),(15,.i n),(16,.i (((k + 1) : Nat) : Int)),(22,.b (aheadF h ((i : Nat) : Int).toNat ((k : Nat) : Int).toNat)),(23,.own 9 o.length),(24,.i ((i : Nat) : Int)),(25,.pel 9 1 i 0),(26,.i (x.getD i 0)),(27,.i ((k : Nat) : Int)),(28,.v (.int .u64 ((k : Nat) : Int))),(29,.i (shlI .i64 (1 : Int) ((k : Nat) : Int))),(30,.i (bitsI .or .i64 (x.getD i 0) (shlI .i64 (1 : Int) ((k : Nat) : Int)))),(31,.pel 9 1 i 0),(32,.i (((k + 1) : Nat) : Int))],[(9,⟨3,.row (.ints (List.set x i (bitsI .or .i64 (x.getD i 0) (shlI .i64 (1 : Int) ((k : Nat) : Int)))))⟩)],[9,999]⟩)
       ((True ∧ True ∧ (Fits .i64 (((k + 1) : Nat) : Int))) ∧ True ∧ True) (by kernel_rfl)
       ⟨⟨tt,tt,(by exact fits_i64 (by omega) (by omega))⟩,tt,tt⟩ ?_
      refine thenQ_normal ?_
      refine ⟨((k + 1),(List.set x i (bitsI .or .i64 (x.getD i 0) (shlI .i64 (1 : Int) ((k : Nat) : Int))))),(show ((k + 1) ≤ n.toNat) ∧ ((List.set x i (bitsI .or .i64 (x.getD i 0) (shlI .i64 (1 : Int) ((k : Nat) : Int)))) = partRows n.toNat (aheadF h) i (k + 1)) from ⟨(by first | assumption | omega | rfl | (intro _ hjj; omega) | (simp; done) | (simp; omega)),(by first | (rw [hx]; exact partRows_skip n22) | (rw [hx]; exact partRows_set (by omega) (by rw [partRows_get _ (by omega)]; exact mask_or _ (by omega) h22)))⟩),(show n.toNat - (k + 1) < n.toNat - k from (by first | omega | (simp_all; omega))),?_⟩
      exact Sub.of [] (@cast ((((.int .i64 n : Value) = .int .i64 n) ∧ ((((62 : Nat) = 62) ∧ ((((.ep [.sl (.calls h)] : AV) = .ep [.sl (.calls h)]) ∧ (([] : List Nat) = [])) ∧ True)) ∧ ((((9 : Nat) = 9) ∧ ((o.length = o.length) ∧ ((9 : Nat) ∈ ([9,999] : List Nat)))) ∧ (((.int .i64 ((i : Nat) : Int) : Value) = .int .i64 ((i : Nat) : Int)) ∧ (((.int .i64 (((List.length (List.replicate (Int.toNat n) (0 : Int))) : Nat) : Int) : Value) = .int .i64 (((List.length (List.replicate (Int.toNat n) (0 : Int))) : Nat) : Int)) ∧ (((.int .i64 ((i : Nat) : Int) : Value) = .int .i64 ((i : Nat) : Int)) ∧ (((.int .i64 n : Value) = .int .i64 n) ∧ (((.int .i64 (((k + 1) : Nat) : Int) : Value) = .int .i64 (((k + 1) : Nat) : Int)) ∧ True)))))))) ∧ (((((3 : Nat) = 3) ∧ (((.ints (List.set x i (bitsI .or .i64 (x.getD i 0) (shlI .i64 (1 : Int) ((k : Nat) : Int)))) : Dat) = .ints (List.set x i (bitsI .or .i64 (x.getD i 0) (shlI .i64 (1 : Int) ((k : Nat) : Int))))) ∧ ((9 : Nat) ∈ ([9,999] : List Nat)))) ∧ True) ∧ ((true = true) ∧ (true = true)))) _ (by kernel_rfl) ⟨⟨rfl,⟨rfl,⟨rfl,rfl⟩,tt⟩,⟨rfl,rfl,(by decide)⟩,rfl,rfl,rfl,rfl,rfl,tt⟩,⟨⟨rfl,rfl,(by decide)⟩,tt⟩,rfl,rfl⟩)
     ·intro n22
      refine W.skip (blockQ_normal (thenQ_normal ?_))
      refine W.L cok tab61AheadOf hnt [] (⟨[(0,.i n),(1,.fn 62 [.ep [.sl (.calls h)]]),(5,.own 9 o.length),(6,.i ((i : Nat) : Int)),(7,.i ((k : Nat) : Int)),(11,.i (((List.length (List.replicate (Int.toNat n) (0 : Int))) : Nat) : Int)),(12,.i ((i : Nat) : Int)),(15,.i n),(16,.i (((k + 1) : Nat) : Int)),(22,.b (aheadF h ((i : Nat) : Int).toNat ((k : Nat) : Int).toNat)),(32,.i (((k + 1) : Nat) : Int))],[(9,⟨3,.row (.ints x)⟩)],[9,999]⟩)
       ((True ∧ True ∧ (Fits .i64 (((k + 1) : Nat) : Int))) ∧ True ∧ True) (by kernel_rfl)
       ⟨⟨tt,tt,(by exact fits_i64 (by omega) (by omega))⟩,tt,tt⟩ ?_
      refine thenQ_normal ?_
      refine ⟨((k + 1),x),(show ((k + 1) ≤ n.toNat) ∧ (x = partRows n.toNat (aheadF h) i (k + 1)) from ⟨(by first | assumption | omega | rfl | (intro _ hjj; omega) | (simp; done) | (simp; omega)),(by first | (rw [hx]; exact partRows_skip n22) | (rw [hx]; exact partRows_set (by omega) (by rw [partRows_get _ (by omega)]; exact mask_or _ (by omega) h22)))⟩),(show n.toNat - (k + 1) < n.toNat - k from (by first | omega | (simp_all; omega))),?_⟩
      exact Sub.of [] (@cast ((((.int .i64 n : Value) = .int .i64 n) ∧ ((((62 : Nat) = 62) ∧ ((((.ep [.sl (.calls h)] : AV) = .ep [.sl (.calls h)]) ∧ (([] : List Nat) = [])) ∧ True)) ∧ ((((9 : Nat) = 9) ∧ ((o.length = o.length) ∧ ((9 : Nat) ∈ ([9,999] : List Nat)))) ∧ (((.int .i64 ((i : Nat) : Int) : Value) = .int .i64 ((i : Nat) : Int)) ∧ (((.int .i64 (((List.length (List.replicate (Int.toNat n) (0 : Int))) : Nat) : Int) : Value) = .int .i64 (((List.length (List.replicate (Int.toNat n) (0 : Int))) : Nat) : Int)) ∧ (((.int .i64 ((i : Nat) : Int) : Value) = .int .i64 ((i : Nat) : Int)) ∧ (((.int .i64 n : Value) = .int .i64 n) ∧ (((.int .i64 (((k + 1) : Nat) : Int) : Value) = .int .i64 (((k + 1) : Nat) : Int)) ∧ True)))))))) ∧ (((((3 : Nat) = 3) ∧ (((.ints x : Dat) = .ints x) ∧ ((9 : Nat) ∈ ([9,999] : List Nat)))) ∧ True) ∧ ((true = true) ∧ (true = true)))) _ (by kernel_rfl) ⟨⟨rfl,⟨rfl,⟨rfl,rfl⟩,tt⟩,⟨rfl,rfl,(by decide)⟩,rfl,rfl,rfl,rfl,rfl,tt⟩,⟨⟨rfl,rfl,(by decide)⟩,tt⟩,rfl,rfl⟩)
    ·intro n17
     refine W.exit (thenQ_exit (thenQ_exit (blockQ_hit ?_)))
     refine blockQ_normal (thenQ_normal ?_)
     refine W.L cok tab61AheadOf hnt [] (⟨[(0,.i n),(1,.fn 62 [.ep [.sl (.calls h)]]),(5,.own 9 o.length),(6,.i ((i : Nat) : Int)),(11,.i (((List.length (List.replicate (Int.toNat n) (0 : Int))) : Nat) : Int)),(12,.i (((i + 1) : Nat) : Int)),(15,.i n),(16,.i ((k : Nat) : Int)),(17,.b (decide (((k : Nat) : Int) < n))),(33,.i (((i + 1) : Nat) : Int))],[(9,⟨3,.row (.ints x)⟩)],[9,999]⟩)
      ((True ∧ True ∧ (Fits .i64 (((i + 1) : Nat) : Int))) ∧ True ∧ True) (by kernel_rfl)
      ⟨⟨tt,tt,(by exact fits_i64 (by omega) (by omega))⟩,tt,tt⟩ ?_
     refine thenQ_normal ?_
     refine ⟨((i + 1),x),(show ((i + 1) ≤ n.toNat) ∧ (x = partRows n.toNat (aheadF h) (i + 1) 0) from ⟨(by first | assumption | omega | rfl | (intro _ hjj; omega) | (simp; done) | (simp; omega)),(by rw [hx,← partRows_next]; congr 1; omega)⟩),(show n.toNat - (i + 1) < n.toNat - i from (by first | omega | (simp_all; omega))),?_⟩
     exact Sub.of [] (@cast ((((.int .i64 n : Value) = .int .i64 n) ∧ ((((62 : Nat) = 62) ∧ ((((.ep [.sl (.calls h)] : AV) = .ep [.sl (.calls h)]) ∧ (([] : List Nat) = [])) ∧ True)) ∧ ((((9 : Nat) = 9) ∧ ((o.length = x.length) ∧ ((9 : Nat) ∈ ([9,999] : List Nat)))) ∧ (((.int .i64 (((List.length (List.replicate (Int.toNat n) (0 : Int))) : Nat) : Int) : Value) = .int .i64 (((List.length (List.replicate (Int.toNat n) (0 : Int))) : Nat) : Int)) ∧ (((.int .i64 (((i + 1) : Nat) : Int) : Value) = .int .i64 (((i + 1) : Nat) : Int)) ∧ True))))) ∧ (((((3 : Nat) = 3) ∧ (((.ints x : Dat) = .ints x) ∧ ((9 : Nat) ∈ ([9,999] : List Nat)))) ∧ True) ∧ ((true = true) ∧ (true = true)))) _ (by kernel_rfl) ⟨⟨rfl,⟨rfl,⟨rfl,rfl⟩,tt⟩,⟨rfl,(by first | rfl | omega | assumption | (symm; assumption) | simp | simp_all),(by decide)⟩,rfl,rfl,tt⟩,⟨⟨rfl,rfl,(by decide)⟩,tt⟩,rfl,rfl⟩)
  ·intro n13
   have n13' := n13
   simp only [List.length_append,List.length_cons,List.length_nil,List.length_take,List.length_drop,List.length_set,List.length_replicate,List.length_map] at n13'
   refine W.exit (thenQ_exit (thenQ_exit (blockQ_hit ?_)))
   refine thenQ_normal ?_
   refine W.K cok tab61AheadOf hnt [] [4] (⟨[(4,.own 9 o.length)],[(9,⟨3,.row (.ints o)⟩)],[9,999]⟩)
    (True ∧ True ∧ True) (by kernel_rfl)
    ⟨tt,tt,tt⟩ ?_
   refine W.subS [] (⟨[(4,.sl (.ints o))],[],[999]⟩) (@cast ((((o.length = o.length) ∧ (((.ints o : Dat) = .ints o) ∧ ((9 : Nat) ∉ ([] : List Nat)))) ∧ True) ∧ (True ∧ ((true = true) ∧ (true = true)))) _ (by kernel_rfl) ⟨⟨⟨rfl,rfl,(by decide)⟩,tt⟩,tt,rfl,rfl⟩) ?_
   refine W.ret ?_
   exact endQ_ret (.sl (.ints o)) (by kernel_rfl) (@cast ((.ints o : Dat) = .ints (rowsOf n.toNat (aheadF h))) _ (by kernel_rfl) (congrArg Dat.ints (by rw [ho,← partRows_end]; congr 1; omega)))
theorem ent61AheadOf : Entr prog 61 := ⟨_,func61,rfl,by decide⟩
end Go.Proofs.Try

set_option linter.unusedSimpArgs false
set_option linter.unusedVariables false
namespace Go.Proofs.Try
open Go.Ab Go.RowKit
def fs46 : FnS := fnS [.s .calls] [.calls] (fun _ (h,_) => (.sl (.ints (aheadOf h)),[],True))
abbrev T46 : Tab := lk [(41,fs41),(61,fs61AheadOf)]
theorem tab46 : TabOK prog T46 := (TabOK.cons ok41 ent41 (TabOK.cons ok61AheadOf ent61AheadOf TabOK.nil))
set_option maxRecDepth 100000 in
set_option maxHeartbeats 1000000 in
theorem ok46 : FnOK prog 46 fs46 := by
 refine FnOK.mk cok func46 rfl rfl rfl ?_
 rintro fl ⟨(h : List CallD),_⟩ hpre F hnt0 _
 have hnt : F.nt = 10 := hnt0.trans ntmps46
 clear hpre
 refine W.to (⟨[(0,.sl (.calls h))],[],[999]⟩) rfl ?_
 refine W.lenOf 0 (.calls h) (by kernel_rfl) ?_
 intro hl_h; replace hl_h : List.length h ≤ 9223372036854775807 := hl_h
 refine W.K cok tab46 hnt [] [1] (⟨[(1,.ptr 1 0)],[(1,⟨27,.fix [.sl (.calls h)]⟩)],[1,999]⟩)
  (True ∧ True ∧ True) (by kernel_rfl)
  ⟨tt,tt,tt⟩ ?_
 refine W.subS [] (⟨[(1,.ep [.sl (.calls h)])],[],[999]⟩) (@cast ((((([.sl (.calls h)] : List AV) = [.sl (.calls h)]) ∧ ((([] : List Nat) = []) ∧ ((1 : Nat) ∉ ([] : List Nat)))) ∧ True) ∧ (True ∧ ((true = true) ∧ (true = true)))) _ (by kernel_rfl) ⟨⟨⟨rfl,rfl,(by decide)⟩,tt⟩,tt,rfl,rfl⟩) ?_
 refine W.seq ?_
 refine W.K cok tab46 hnt [] [1,5] (⟨[(1,.ep [.sl (.calls h)]),(5,.b (!(validHistory h)))],[],[999]⟩)
  (True ∧ (True ∧ (True ∧ True) ∧ True) ∧ True ∧ True) (by kernel_rfl)
  ⟨tt,⟨tt,⟨tt,tt⟩,tt⟩,tt,tt⟩ ?_
 refine W.if' (!(validHistory h)) (.b (!(validHistory h))) (by kernel_rfl) rfl trivial ?_ ?_
 ·intro h5
  refine W.K cok tab46 hnt [] [2] (⟨[(2,.v (.slice none 0 0))],[],[999]⟩)
   (True ∧ True) (by kernel_rfl)
   ⟨tt,tt⟩ ?_
  refine W.ret (thenQ_ret ?_)
  exact endQ_ret (.v (.slice none 0 0)) (by kernel_rfl) (@cast (((Value.slice none 0 0 : Value) = .slice none 0 0) ∧ ((Dat.ints (aheadOf h)).len = 0)) _ (by kernel_rfl) ⟨rfl,(by show List.length (aheadOf h) = 0; unfold aheadOf; rw [not_f h5]; rfl)⟩)
 ·intro n5
  refine W.skip (thenQ_normal ?_)
  refine W.K cok tab46 hnt [] [2] (⟨[(2,.sl (.ints (rowsOf (h.length : Int).toNat (aheadF h))))],[],[999]⟩)
   (True ∧ True ∧ True ∧ (True ∧ (True ∧ True ∧ True) ∧ 0 ≤ (h.length : Int) ∧ (h.length : Int) ≤ 60 ∧ (h.length : Int) = h.length) ∧ True ∧ True) (by kernel_rfl)
   ⟨tt,tt,tt,⟨tt,⟨tt,tt,tt⟩,(by have hv := (valid_iff.1 (not_g n5)).1; omega)⟩,tt,tt⟩ ?_
  refine W.ret ?_
  exact endQ_ret (.sl (.ints (rowsOf (h.length : Int).toNat (aheadF h)))) (by kernel_rfl) (@cast ((.ints (rowsOf (h.length : Int).toNat (aheadF h)) : Dat) = .ints (aheadOf h)) _ (by kernel_rfl) (congrArg Dat.ints (by unfold aheadOf; rw [not_g n5]; rfl)))
theorem ent46 : Entr prog 46 := ⟨_,func46,rfl,by decide⟩
end Go.Proofs.Try
