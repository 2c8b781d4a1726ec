import Derived.Test.YtbjllmoklglgeaaLF6S0
import Derived.Test.YtbjllmoklglgeaaLF6S4
import Derived.Test.YtbjllmoklglgeaaFrameB
import Derived.Shelf.Slices.Delete
set_option linter.unusedSimpArgs false
set_option linter.unusedVariables false
namespace Go.Proofs.Try
open Go.Ab Go.RowKit
def fs26 : FnS := fnS [.s .calls] [.calls] (fun _ (h,_) => (.b (validHistory h),[],True))
abbrev T26 : Tab := lk [(44,fs44),(45,fs45)]
theorem tab26 : TabOK prog T26 := (TabOK.cons ok44 ent44 (TabOK.cons ok45 ent45 TabOK.nil))
set_option maxRecDepth 100000 in
set_option maxHeartbeats 1000000 in
theorem ok26 : FnOK prog 26 fs26 := by
 refine FnOK.mk cok func26 rfl rfl rfl ?_
 rintro fl ⟨(h : List CallD),_⟩ hpre F hnt0 _
 have hnt : F.nt = 68 := hnt0.trans ntmps26
 clear hpre
 refine W.to (⟨[(0,.sl (.calls h))],[],[999]⟩) rfl ?_
 refine W.lenOf 0 (.calls h) (by kernel_rfl) ?_
 intro hl_h; replace hl_h : List.length h ≤ 9223372036854775807 := hl_h
 refine W.K cok tab26 hnt [] [0] (⟨[(0,.sl (.calls h))],[],[999]⟩)
  (True ∧ True) (by kernel_rfl)
  ⟨tt,tt⟩ ?_
 refine W.seq ?_
 refine W.K cok tab26 hnt [] [0,9] (⟨[(0,.sl (.calls h)),(9,.b (decide ((6 : Int) < (h.length : Int))))],[],[999]⟩)
  (True ∧ True ∧ (True ∧ True ∧ True) ∧ True) (by kernel_rfl)
  ⟨tt,tt,⟨tt,tt,tt⟩,tt⟩ ?_
 refine W.ifP ((6 : Int) < (h.length : Int)) (.b (decide ((6 : Int) < (h.length : Int)))) (by kernel_rfl) rfl trivial ?_ ?_
 ·intro h9
  refine W.K cok tab26 hnt [] [2] (⟨[(2,.b false)],[],[999]⟩)
   (True ∧ True) (by kernel_rfl)
   ⟨tt,tt⟩ ?_
  refine W.ret (thenQ_ret ?_)
  exact endQ_ret (.b false) (by kernel_rfl) (@cast ((.bool false : Value) = .bool (validHistory h)) _ (by kernel_rfl) (congrArg Value.bool (by unfold validHistory; symm; exact and_fl (decide_eq_false (by omega)))))
 ·intro n9
  refine W.skip (thenQ_normal ?_)
  refine W.seq ?_
  refine W.K cok tab26 hnt [] [0,10,11,12] (⟨[(0,.sl (.calls h)),(10,.sl (.calls h)),(11,.i (h.length : Int)),(12,.i (0 : Int))],[],[999]⟩)
   (True ∧ True ∧ True ∧ True) (by kernel_rfl)
   ⟨tt,tt,tt,tt⟩ ?_
  refine W.block ?_
  refine W.loop (ι := Nat) (fun (i : Nat) => (⟨[(0,.sl (.calls h)),(10,.sl (.calls h)),(11,.i (h.length : Int)),(12,.i ((i : Nat) : Int))],[],[999]⟩ : St))
   (fun (i : Nat) => (i ≤ h.length) ∧ (∀ j,j < i → (isCall (callAt h j) && allN j (fun k => !clash (callAt h j) (callAt h k))) = true))
   (fun (i : Nat) => (h.length - i : Nat)) (0) ?_ ?_ ?_
  ·exact (show (0 ≤ h.length) ∧ (∀ j,j < 0 → (isCall (callAt h j) && allN j (fun k => !clash (callAt h j) (callAt h k))) = true) from ⟨(by first | assumption | omega | rfl | (intro _ hjj; omega) | (simp; done) | (simp; omega)),(by exact upto_zero)⟩)
  ·exact Sub.of [] (@cast ((((.calls h : Dat) = .calls h) ∧ (((.calls h : Dat) = .calls h) ∧ (((.int .i64 (h.length : Int) : Value) = .int .i64 (h.length : Int)) ∧ (((.int .i64 (0 : Int) : Value) = .int .i64 ((0 : Nat) : Int)) ∧ True)))) ∧ (True ∧ ((true = true) ∧ (true = true)))) _ (by kernel_rfl) ⟨⟨rfl,rfl,rfl,(congrArg (Value.int .i64) (by first | rfl | omega | assumption | simp | simp_all)),tt⟩,tt,rfl,rfl⟩)
  ·rintro i hC0
   have hC : (i ≤ h.length) ∧ (∀ j,j < i → (isCall (callAt h j) && allN j (fun k => !clash (callAt h j) (callAt h k))) = true) := hC0
   clear hC0
   obtain ⟨hi,hA⟩ := hC
   refine W.to (⟨[(0,.sl (.calls h)),(10,.sl (.calls h)),(11,.i (h.length : Int)),(12,.i ((i : Nat) : Int))],[],[999]⟩) rfl ?_
   refine W.K cok tab26 hnt [] [0,10,11,12,13] (⟨[(0,.sl (.calls h)),(10,.sl (.calls h)),(11,.i (h.length : Int)),(12,.i ((i : Nat) : Int)),(13,.b (decide (((i : Nat) : Int) < (h.length : Int))))],[],[999]⟩)
    ((True ∧ True ∧ True) ∧ True) (by kernel_rfl)
    ⟨⟨tt,tt,tt⟩,tt⟩ ?_
   refine W.seq ?_
   refine W.ifP (((i : Nat) : Int) < (h.length : Int)) (.b (decide (((i : Nat) : Int) < (h.length : Int)))) (by kernel_rfl) rfl trivial ?_ ?_
   ·intro h13
    refine W.skip (thenQ_normal ?_)
    refine W.seq ?_
    refine W.block ?_
    refine W.K cok tab26 hnt [] [0,3,4,10,11,12] (⟨[(0,.sl (.calls h)),(3,.i ((i : Nat) : Int)),(4,.ptr 4 0),(10,.sl (.calls h)),(11,.i (h.length : Int)),(12,.i ((i : Nat) : Int))],[(4,⟨38,.fix [.i ((h.getD i default).proc),.i ((h.getD i default).obj),.i ((h.getD i default).kind),.i ((h.getD i default).arg),.i ((h.getD i default).ret),.i ((h.getD i default).frm),.i ((h.getD i default).to)]⟩)],[4,999]⟩)
     (True ∧ (True ∧ True ∧ (0 ≤ ((i : Nat) : Int)) ∧ (((i : Nat) : Int) < (h.length : Int))) ∧ True ∧ True ∧ True ∧ (True ∧ True) ∧ True) (by kernel_rfl)
     ⟨tt,⟨tt,tt,(by omega),(by omega)⟩,tt,tt,tt,⟨tt,tt⟩,tt⟩ ?_
    refine W.seq ?_
    refine W.K cok tab26 hnt [] [0,3,4,10,11,12,19] (⟨[(0,.sl (.calls h)),(3,.i ((i : Nat) : Int)),(4,.ptr 4 0),(10,.sl (.calls h)),(11,.i (h.length : Int)),(12,.i ((i : Nat) : Int)),(19,.b (!(isCall (h.getD i default))))],[(4,⟨38,.fix [.i ((h.getD i default).proc),.i ((h.getD i default).obj),.i ((h.getD i default).kind),.i ((h.getD i default).arg),.i ((h.getD i default).ret),.i ((h.getD i default).frm),.i ((h.getD i default).to)]⟩)],[4,999]⟩)
     (True ∧ (True ∧ (True ∧ True) ∧ True) ∧ True ∧ True) (by kernel_rfl)
     ⟨tt,⟨tt,⟨tt,tt⟩,tt⟩,tt,tt⟩ ?_
    refine W.if' (!(isCall (h.getD i default))) (.b (!(isCall (h.getD i default)))) (by kernel_rfl) rfl trivial ?_ ?_
    ·intro h19
     refine W.K cok tab26 hnt [] [2] (⟨[(2,.b false)],[(4,⟨38,.fix [.i ((h.getD i default).proc),.i ((h.getD i default).obj),.i ((h.getD i default).kind),.i ((h.getD i default).arg),.i ((h.getD i default).ret),.i ((h.getD i default).frm),.i ((h.getD i default).to)]⟩)],[4,999]⟩)
      (True ∧ True) (by kernel_rfl)
      ⟨tt,tt⟩ ?_
     refine W.ret (thenQ_ret (blockQ_ret (thenQ_ret (thenQ_ret (blockQ_ret (thenQ_ret ?_))))))
     exact endQ_ret (.b false) (by kernel_rfl) (@cast ((.bool false : Value) = .bool (validHistory h)) _ (by kernel_rfl) (congrArg Value.bool (by unfold validHistory; symm; exact and_fr (allN_false (i := i) (by omega) (and_fl (not_f h19))))))
    ·intro n19
     refine W.skip (thenQ_normal ?_)
     refine W.K cok tab26 hnt [] [0,4,10,11,12,22,23,24] (⟨[(0,.sl (.calls h)),(4,.ptr 4 0),(10,.sl (.calls h)),(11,.i (h.length : Int)),(12,.i ((i : Nat) : Int)),(22,.sl (.calls (List.take i h))),(23,.i (((List.length (List.take i h)) : Nat) : Int)),(24,.i (0 : Int))],[(4,⟨38,.fix [.i ((h.getD i default).proc),.i ((h.getD i default).obj),.i ((h.getD i default).kind),.i ((h.getD i default).arg),.i ((h.getD i default).ret),.i ((h.getD i default).frm),.i ((h.getD i default).to)]⟩)],[4,999]⟩)
      (True ∧ True ∧ (True ∧ True ∧ True ∧ (0 ≤ (0 : Int)) ∧ ((0 : Int) ≤ ((i : Nat) : Int)) ∧ (((i : Nat) : Int) ≤ (h.length : Int))) ∧ True ∧ True ∧ True) (by kernel_rfl)
      ⟨tt,tt,⟨tt,tt,tt,(by omega),(by omega),(by omega)⟩,tt,tt,tt⟩ ?_
     refine W.block ?_
     refine W.loop (ι := Nat) (fun (k : Nat) => (⟨[(0,.sl (.calls h)),(4,.ptr 4 0),(10,.sl (.calls h)),(11,.i (h.length : Int)),(12,.i ((i : Nat) : Int)),(22,.sl (.calls (List.take i h))),(23,.i (((List.length (List.take i h)) : Nat) : Int)),(24,.i ((k : Nat) : Int))],[(4,⟨38,.fix [.i ((h.getD i default).proc),.i ((h.getD i default).obj),.i ((h.getD i default).kind),.i ((h.getD i default).arg),.i ((h.getD i default).ret),.i ((h.getD i default).frm),.i ((h.getD i default).to)]⟩)],[4,999]⟩ : St))
      (fun (k : Nat) => (k ≤ i) ∧ (∀ j,j < k → (!clash (callAt h i) (callAt h j)) = true))
      (fun (k : Nat) => (i - k : Nat)) (0) ?_ ?_ ?_
     ·exact (show (0 ≤ i) ∧ (∀ j,j < 0 → (!clash (callAt h i) (callAt h j)) = true) from ⟨(by first | assumption | omega | rfl | (intro _ hjj; omega) | (simp; done) | (simp; omega)),(by exact upto_zero)⟩)
     ·exact Sub.of [] (@cast ((((.calls h : Dat) = .calls h) ∧ ((((4 : Nat) = 4) ∧ (((0 : Nat) = 0) ∧ ((4 : Nat) ∈ ([4,999] : List Nat)))) ∧ (((.calls h : Dat) = .calls h) ∧ (((.int .i64 (h.length : Int) : Value) = .int .i64 (h.length : Int)) ∧ (((.int .i64 ((i : Nat) : Int) : Value) = .int .i64 ((i : Nat) : Int)) ∧ (((.calls (List.take i h) : Dat) = .calls (List.take i h)) ∧ (((.int .i64 (((List.length (List.take i h)) : Nat) : Int) : Value) = .int .i64 (((List.length (List.take i h)) : Nat) : Int)) ∧ (((.int .i64 (0 : Int) : Value) = .int .i64 ((0 : Nat) : Int)) ∧ True)))))))) ∧ (((((38 : Nat) = 38) ∧ ((((.int .i64 ((h.getD i default).proc) : Value) = .int .i64 ((h.getD i default).proc)) ∧ (((.int .i64 ((h.getD i default).obj) : Value) = .int .i64 ((h.getD i default).obj)) ∧ (((.int .i64 ((h.getD i default).kind) : Value) = .int .i64 ((h.getD i default).kind)) ∧ (((.int .i64 ((h.getD i default).arg) : Value) = .int .i64 ((h.getD i default).arg)) ∧ (((.int .i64 ((h.getD i default).ret) : Value) = .int .i64 ((h.getD i default).ret)) ∧ (((.int .i64 ((h.getD i default).frm) : Value) = .int .i64 ((h.getD i default).frm)) ∧ (((.int .i64 ((h.getD i default).to) : Value) = .int .i64 ((h.getD i default).to)) ∧ True))))))) ∧ ((4 : Nat) ∈ ([4,999] : List Nat)))) ∧ True) ∧ ((true = true) ∧ (true = true)))) _ (by kernel_rfl) ⟨⟨rfl,⟨rfl,rfl,(by decide)⟩,rfl,rfl,rfl,rfl,rfl,(congrArg (Value.int .i64) (by first | rfl | omega | assumption | simp | simp_all)),tt⟩,⟨⟨rfl,⟨rfl,rfl,rfl,rfl,rfl,rfl,rfl,tt⟩,(by decide)⟩,tt⟩,rfl,rfl⟩)
     ·rintro k hC0
      have hC : (k ≤ i) ∧ (∀ j,j < k → (!clash (callAt h i) (callAt h j)) = true) := hC0
      clear hC0
      obtain ⟨hk,hB⟩ := hC
      refine W.to (⟨[(0,.sl (.calls h)),(4,.ptr 4 0),(10,.sl (.calls h)),(11,.i (h.length : Int)),(12,.i ((i : Nat) : Int)),(22,.sl (.calls (List.take i h))),(23,.i (((List.length (List.take i h)) : Nat) : Int)),(24,.i ((k : Nat) : Int))],[(4,⟨38,.fix [.i ((h.getD i default).proc),.i ((h.getD i default).obj),.i ((h.getD i default).kind),.i ((h.getD i default).arg),.i ((h.getD i default).ret),.i ((h.getD i default).frm),.i ((h.getD i default).to)]⟩)],[4,999]⟩) rfl ?_
      refine W.K cok tab26 hnt [] [0,4,10,11,12,22,23,24,25] (⟨[(0,.sl (.calls h)),(4,.ptr 4 0),(10,.sl (.calls h)),(11,.i (h.length : Int)),(12,.i ((i : Nat) : Int)),(22,.sl (.calls (List.take i h))),(23,.i (((List.length (List.take i h)) : Nat) : Int)),(24,.i ((k : Nat) : Int)),(25,.b (decide (((k : Nat) : Int) < (((List.length (List.take i h)) : Nat) : Int))))],[(4,⟨38,.fix [.i ((h.getD i default).proc),.i ((h.getD i default).obj),.i ((h.getD i default).kind),.i ((h.getD i default).arg),.i ((h.getD i default).ret),.i ((h.getD i default).frm),.i ((h.getD i default).to)]⟩)],[4,999]⟩)
       ((True ∧ True ∧ True) ∧ True) (by kernel_rfl)
       ⟨⟨tt,tt,tt⟩,tt⟩ ?_
      refine W.seq ?_
      refine W.ifP (((k : Nat) : Int) < (((List.length (List.take i h)) : Nat) : Int)) (.b (decide (((k : Nat) : Int) < (((List.length (List.take i h)) : Nat) : Int)))) (by kernel_rfl) rfl trivial ?_ ?_
      ·intro h25
       have h25' := h25
       simp only [List.length_append,List.length_cons,List.length_nil,List.length_take,List.length_drop,List.length_set,List.length_replicate,List.length_map] at h25'
       refine W.skip (thenQ_normal ?_)
       refine W.seq ?_
       refine W.block ?_
       refine W.K cok tab26 hnt [] [0,4,6,10,11,12,22,23,24] (⟨[(0,.sl (.calls h)),(4,.ptr 4 0),(6,.ptr 6 0),(10,.sl (.calls h)),(11,.i (h.length : Int)),(12,.i ((i : Nat) : Int)),(22,.sl (.calls (List.take i h))),(23,.i (((List.length (List.take i h)) : Nat) : Int)),(24,.i ((k : Nat) : Int))],[(4,⟨38,.fix [.i ((h.getD i default).proc),.i ((h.getD i default).obj),.i ((h.getD i default).kind),.i ((h.getD i default).arg),.i ((h.getD i default).ret),.i ((h.getD i default).frm),.i ((h.getD i default).to)]⟩),(6,⟨38,.fix [.i ((List.getD (List.take i h) k default).proc),.i ((List.getD (List.take i h) k default).obj),.i ((List.getD (List.take i h) k default).kind),.i ((List.getD (List.take i h) k default).arg),.i ((List.getD (List.take i h) k default).ret),.i ((List.getD (List.take i h) k default).frm),.i ((List.getD (List.take i h) k default).to)]⟩)],[6,4,999]⟩)
        ((True ∧ True ∧ (0 ≤ ((k : Nat) : Int)) ∧ (((k : Nat) : Int) < (((List.length (List.take i h)) : Nat) : Int))) ∧ True ∧ True ∧ (True ∧ True) ∧ True) (by kernel_rfl)
        ⟨⟨tt,tt,(by omega),(by (first | omega | (simp only [List.length_append,List.length_cons,List.length_nil,List.length_take,List.length_drop,List.length_set,List.length_replicate,List.length_map] at *; omega) | assumption))⟩,tt,tt,⟨tt,tt⟩,tt⟩ ?_
       refine W.K cok tab26 hnt [] [0,4,10,11,12,22,23,24,65] (⟨[(0,.sl (.calls h)),(4,.ptr 4 0),(10,.sl (.calls h)),(11,.i (h.length : Int)),(12,.i ((i : Nat) : Int)),(22,.sl (.calls (List.take i h))),(23,.i (((List.length (List.take i h)) : Nat) : Int)),(24,.i ((k : Nat) : Int)),(65,.b (((((decide (((h.getD i default).frm) = ((List.getD (List.take i h) k default).frm))) || (decide (((h.getD i default).frm) = ((List.getD (List.take i h) k default).to)))) || (decide (((h.getD i default).to) = ((List.getD (List.take i h) k default).frm)))) || (decide (((h.getD i default).to) = ((List.getD (List.take i h) k default).to)))) || ((decide (((h.getD i default).proc) = ((List.getD (List.take i h) k default).proc))) && (doOverlap (h.getD i default) (List.getD (List.take i h) k default)))))],[(4,⟨38,.fix [.i ((h.getD i default).proc),.i ((h.getD i default).obj),.i ((h.getD i default).kind),.i ((h.getD i default).arg),.i ((h.getD i default).ret),.i ((h.getD i default).frm),.i ((h.getD i default).to)]⟩),(6,⟨38,.fix [.i ((List.getD (List.take i h) k default).proc),.i ((List.getD (List.take i h) k default).obj),.i ((List.getD (List.take i h) k default).kind),.i ((List.getD (List.take i h) k default).arg),.i ((List.getD (List.take i h) k default).ret),.i ((List.getD (List.take i h) k default).frm),.i ((List.getD (List.take i h) k default).to)]⟩)],[6,4,999]⟩)
        (True ∧ True ∧ True ∧ True ∧ (True ∧ True ∧ True) ∧ True ∧ ((!(decide (((h.getD i default).frm) = ((List.getD (List.take i h) k default).frm)))) = true → True) ∧ ((!(decide (((h.getD i default).frm) = ((List.getD (List.take i h) k default).frm)))) = true → (((!(decide (((h.getD i default).frm) = ((List.getD (List.take i h) k default).frm)))) = true) ∧ True)) ∧ ((!(decide (((h.getD i default).frm) = ((List.getD (List.take i h) k default).frm)))) = true → True) ∧ ((!(decide (((h.getD i default).frm) = ((List.getD (List.take i h) k default).frm)))) = true → (((!(decide (((h.getD i default).frm) = ((List.getD (List.take i h) k default).frm)))) = true) ∧ True)) ∧ ((!(decide (((h.getD i default).frm) = ((List.getD (List.take i h) k default).frm)))) = true → ((((!(decide (((h.getD i default).frm) = ((List.getD (List.take i h) k default).frm)))) = true) ∧ True) ∧ (((!(decide (((h.getD i default).frm) = ((List.getD (List.take i h) k default).frm)))) = true) ∧ True) ∧ True)) ∧ (True ∧ ((decide (((h.getD i default).frm) = ((List.getD (List.take i h) k default).frm))) = true → True) ∧ ((decide (((h.getD i default).frm) = ((List.getD (List.take i h) k default).frm))) = false → ((!(decide (((h.getD i default).frm) = ((List.getD (List.take i h) k default).frm)))) = true) ∧ True)) ∧ True ∧ ((!((decide (((h.getD i default).frm) = ((List.getD (List.take i h) k default).frm))) || (decide (((h.getD i default).frm) = ((List.getD (List.take i h) k default).to))))) = true → True) ∧ ((!((decide (((h.getD i default).frm) = ((List.getD (List.take i h) k default).frm))) || (decide (((h.getD i default).frm) = ((List.getD (List.take i h) k default).to))))) = true → (((!((decide (((h.getD i default).frm) = ((List.getD (List.take i h) k default).frm))) || (decide (((h.getD i default).frm) = ((List.getD (List.take i h) k default).to))))) = true) ∧ True)) ∧ ((!((decide (((h.getD i default).frm) = ((List.getD (List.take i h) k default).frm))) || (decide (((h.getD i default).frm) = ((List.getD (List.take i h) k default).to))))) = true → True) ∧ ((!((decide (((h.getD i default).frm) = ((List.getD (List.take i h) k default).frm))) || (decide (((h.getD i default).frm) = ((List.getD (List.take i h) k default).to))))) = true → (((!((decide (((h.getD i default).frm) = ((List.getD (List.take i h) k default).frm))) || (decide (((h.getD i default).frm) = ((List.getD (List.take i h) k default).to))))) = true) ∧ True)) ∧ ((!((decide (((h.getD i default).frm) = ((List.getD (List.take i h) k default).frm))) || (decide (((h.getD i default).frm) = ((List.getD (List.take i h) k default).to))))) = true → ((((!((decide (((h.getD i default).frm) = ((List.getD (List.take i h) k default).frm))) || (decide (((h.getD i default).frm) = ((List.getD (List.take i h) k default).to))))) = true) ∧ True) ∧ (((!((decide (((h.getD i default).frm) = ((List.getD (List.take i h) k default).frm))) || (decide (((h.getD i default).frm) = ((List.getD (List.take i h) k default).to))))) = true) ∧ True) ∧ True)) ∧ (True ∧ (((decide (((h.getD i default).frm) = ((List.getD (List.take i h) k default).frm))) || (decide (((h.getD i default).frm) = ((List.getD (List.take i h) k default).to)))) = true → True) ∧ (((decide (((h.getD i default).frm) = ((List.getD (List.take i h) k default).frm))) || (decide (((h.getD i default).frm) = ((List.getD (List.take i h) k default).to)))) = false → ((!((decide (((h.getD i default).frm) = ((List.getD (List.take i h) k default).frm))) || (decide (((h.getD i default).frm) = ((List.getD (List.take i h) k default).to))))) = true) ∧ True)) ∧ True ∧ ((!(((decide (((h.getD i default).frm) = ((List.getD (List.take i h) k default).frm))) || (decide (((h.getD i default).frm) = ((List.getD (List.take i h) k default).to)))) || (decide (((h.getD i default).to) = ((List.getD (List.take i h) k default).frm))))) = true → True) ∧ ((!(((decide (((h.getD i default).frm) = ((List.getD (List.take i h) k default).frm))) || (decide (((h.getD i default).frm) = ((List.getD (List.take i h) k default).to)))) || (decide (((h.getD i default).to) = ((List.getD (List.take i h) k default).frm))))) = true → (((!(((decide (((h.getD i default).frm) = ((List.getD (List.take i h) k default).frm))) || (decide (((h.getD i default).frm) = ((List.getD (List.take i h) k default).to)))) || (decide (((h.getD i default).to) = ((List.getD (List.take i h) k default).frm))))) = true) ∧ True)) ∧ ((!(((decide (((h.getD i default).frm) = ((List.getD (List.take i h) k default).frm))) || (decide (((h.getD i default).frm) = ((List.getD (List.take i h) k default).to)))) || (decide (((h.getD i default).to) = ((List.getD (List.take i h) k default).frm))))) = true → True) ∧ ((!(((decide (((h.getD i default).frm) = ((List.getD (List.take i h) k default).frm))) || (decide (((h.getD i default).frm) = ((List.getD (List.take i h) k default).to)))) || (decide (((h.getD i default).to) = ((List.getD (List.take i h) k default).frm))))) = true → (((!(((decide (((h.getD i default).frm) = ((List.getD (List.take i h) k default).frm))) || (decide (((h.getD i default).frm) = ((List.getD (List.take i h) k default).to)))) || (decide (((h.getD i default).to) = ((List.getD (List.take i h) k default).frm))))) = true) ∧ True)) ∧ ((!(((decide (((h.getD i default).frm) = ((List.getD (List.take i h) k default).frm))) || (decide (((h.getD i default).frm) = ((List.getD (List.take i h) k default).to)))) || (decide (((h.getD i default).to) = ((List.getD (List.take i h) k default).frm))))) = true → ((((!(((decide (((h.getD i default).frm) = ((List.getD (List.take i h) k default).frm))) || (decide (((h.getD i default).frm) = ((List.getD (List.take i h) k default).to)))) || (decide (((h.getD i default).to) = ((List.getD (List.take i h) k default).frm))))) = true) ∧ True) ∧ (((!(((decide (((h.getD i default).frm) = ((List.getD (List.take i h) k default).frm))) || (decide (((h.getD i default).frm) = ((List.getD (List.take i h) k default).to)))) || (decide (((h.getD i default).to) = ((List.getD (List.take i h) k default).frm))))) = true) ∧ True) ∧ True)) ∧ (True ∧ ((((decide (((h.getD i default).frm) = ((List.getD (List.take i h) k default).frm))) || (decide (((h.getD i default).frm) = ((List.getD (List.take i h) k default).to)))) || (decide (((h.getD i default).to) = ((List.getD (List.take i h) k default).frm)))) = true → True) ∧ ((((decide (((h.getD i default).frm) = ((List.getD (List.take i h) k default).frm))) || (decide (((h.getD i default).frm) = ((List.getD (List.take i h) k default).to)))) || (decide (((h.getD i default).to) = ((List.getD (List.take i h) k default).frm)))) = false → ((!(((decide (((h.getD i default).frm) = ((List.getD (List.take i h) k default).frm))) || (decide (((h.getD i default).frm) = ((List.getD (List.take i h) k default).to)))) || (decide (((h.getD i default).to) = ((List.getD (List.take i h) k default).frm))))) = true) ∧ True)) ∧ True ∧ ((!((((decide (((h.getD i default).frm) = ((List.getD (List.take i h) k default).frm))) || (decide (((h.getD i default).frm) = ((List.getD (List.take i h) k default).to)))) || (decide (((h.getD i default).to) = ((List.getD (List.take i h) k default).frm)))) || (decide (((h.getD i default).to) = ((List.getD (List.take i h) k default).to))))) = true → True) ∧ ((!((((decide (((h.getD i default).frm) = ((List.getD (List.take i h) k default).frm))) || (decide (((h.getD i default).frm) = ((List.getD (List.take i h) k default).to)))) || (decide (((h.getD i default).to) = ((List.getD (List.take i h) k default).frm)))) || (decide (((h.getD i default).to) = ((List.getD (List.take i h) k default).to))))) = true → (((!((((decide (((h.getD i default).frm) = ((List.getD (List.take i h) k default).frm))) || (decide (((h.getD i default).frm) = ((List.getD (List.take i h) k default).to)))) || (decide (((h.getD i default).to) = ((List.getD (List.take i h) k default).frm)))) || (decide (((h.getD i default).to) = ((List.getD (List.take i h) k default).to))))) = true) ∧ True)) ∧ ((!((((decide (((h.getD i default).frm) = ((List.getD (List.take i h) k default).frm))) || (decide (((h.getD i default).frm) = ((List.getD (List.take i h) k default).to)))) || (decide (((h.getD i default).to) = ((List.getD (List.take i h) k default).frm)))) || (decide (((h.getD i default).to) = ((List.getD (List.take i h) k default).to))))) = true → True) ∧ ((!((((decide (((h.getD i default).frm) = ((List.getD (List.take i h) k default).frm))) || (decide (((h.getD i default).frm) = ((List.getD (List.take i h) k default).to)))) || (decide (((h.getD i default).to) = ((List.getD (List.take i h) k default).frm)))) || (decide (((h.getD i default).to) = ((List.getD (List.take i h) k default).to))))) = true → (((!((((decide (((h.getD i default).frm) = ((List.getD (List.take i h) k default).frm))) || (decide (((h.getD i default).frm) = ((List.getD (List.take i h) k default).to)))) || (decide (((h.getD i default).to) = ((List.getD (List.take i h) k default).frm)))) || (decide (((h.getD i default).to) = ((List.getD (List.take i h) k default).to))))) = true) ∧ True)) ∧ ((!((((decide (((h.getD i default).frm) = ((List.getD (List.take i h) k default).frm))) || (decide (((h.getD i default).frm) = ((List.getD (List.take i h) k default).to)))) || (decide (((h.getD i default).to) = ((List.getD (List.take i h) k default).frm)))) || (decide (((h.getD i default).to) = ((List.getD (List.take i h) k default).to))))) = true → ((((!((((decide (((h.getD i default).frm) = ((List.getD (List.take i h) k default).frm))) || (decide (((h.getD i default).frm) = ((List.getD (List.take i h) k default).to)))) || (decide (((h.getD i default).to) = ((List.getD (List.take i h) k default).frm)))) || (decide (((h.getD i default).to) = ((List.getD (List.take i h) k default).to))))) = true) ∧ True) ∧ (((!((((decide (((h.getD i default).frm) = ((List.getD (List.take i h) k default).frm))) || (decide (((h.getD i default).frm) = ((List.getD (List.take i h) k default).to)))) || (decide (((h.getD i default).to) = ((List.getD (List.take i h) k default).frm)))) || (decide (((h.getD i default).to) = ((List.getD (List.take i h) k default).to))))) = true) ∧ True) ∧ True)) ∧ ((!((((decide (((h.getD i default).frm) = ((List.getD (List.take i h) k default).frm))) || (decide (((h.getD i default).frm) = ((List.getD (List.take i h) k default).to)))) || (decide (((h.getD i default).to) = ((List.getD (List.take i h) k default).frm)))) || (decide (((h.getD i default).to) = ((List.getD (List.take i h) k default).to))))) = true → True) ∧ (((!((((decide (((h.getD i default).frm) = ((List.getD (List.take i h) k default).frm))) || (decide (((h.getD i default).frm) = ((List.getD (List.take i h) k default).to)))) || (decide (((h.getD i default).to) = ((List.getD (List.take i h) k default).frm)))) || (decide (((h.getD i default).to) = ((List.getD (List.take i h) k default).to))))) && ((!((((decide (((h.getD i default).frm) = ((List.getD (List.take i h) k default).frm))) || (decide (((h.getD i default).frm) = ((List.getD (List.take i h) k default).to)))) || (decide (((h.getD i default).to) = ((List.getD (List.take i h) k default).frm)))) || (decide (((h.getD i default).to) = ((List.getD (List.take i h) k default).to))))) && (decide (((h.getD i default).proc) = ((List.getD (List.take i h) k default).proc))))) = true → True) ∧ (((!((((decide (((h.getD i default).frm) = ((List.getD (List.take i h) k default).frm))) || (decide (((h.getD i default).frm) = ((List.getD (List.take i h) k default).to)))) || (decide (((h.getD i default).to) = ((List.getD (List.take i h) k default).frm)))) || (decide (((h.getD i default).to) = ((List.getD (List.take i h) k default).to))))) && ((!((((decide (((h.getD i default).frm) = ((List.getD (List.take i h) k default).frm))) || (decide (((h.getD i default).frm) = ((List.getD (List.take i h) k default).to)))) || (decide (((h.getD i default).to) = ((List.getD (List.take i h) k default).frm)))) || (decide (((h.getD i default).to) = ((List.getD (List.take i h) k default).to))))) && (decide (((h.getD i default).proc) = ((List.getD (List.take i h) k default).proc))))) = true → True) ∧ (((!((((decide (((h.getD i default).frm) = ((List.getD (List.take i h) k default).frm))) || (decide (((h.getD i default).frm) = ((List.getD (List.take i h) k default).to)))) || (decide (((h.getD i default).to) = ((List.getD (List.take i h) k default).frm)))) || (decide (((h.getD i default).to) = ((List.getD (List.take i h) k default).to))))) && ((!((((decide (((h.getD i default).frm) = ((List.getD (List.take i h) k default).frm))) || (decide (((h.getD i default).frm) = ((List.getD (List.take i h) k default).to)))) || (decide (((h.getD i default).to) = ((List.getD (List.take i h) k default).frm)))) || (decide (((h.getD i default).to) = ((List.getD (List.take i h) k default).to))))) && (decide (((h.getD i default).proc) = ((List.getD (List.take i h) k default).proc))))) = true → (True ∧ (((((!((((decide (((h.getD i default).frm) = ((List.getD (List.take i h) k default).frm))) || (decide (((h.getD i default).frm) = ((List.getD (List.take i h) k default).to)))) || (decide (((h.getD i default).to) = ((List.getD (List.take i h) k default).frm)))) || (decide (((h.getD i default).to) = ((List.getD (List.take i h) k default).to))))) && ((!((((decide (((h.getD i default).frm) = ((List.getD (List.take i h) k default).frm))) || (decide (((h.getD i default).frm) = ((List.getD (List.take i h) k default).to)))) || (decide (((h.getD i default).to) = ((List.getD (List.take i h) k default).frm)))) || (decide (((h.getD i default).to) = ((List.getD (List.take i h) k default).to))))) && (decide (((h.getD i default).proc) = ((List.getD (List.take i h) k default).proc))))) = true) ∧ True) ∧ ((((!((((decide (((h.getD i default).frm) = ((List.getD (List.take i h) k default).frm))) || (decide (((h.getD i default).frm) = ((List.getD (List.take i h) k default).to)))) || (decide (((h.getD i default).to) = ((List.getD (List.take i h) k default).frm)))) || (decide (((h.getD i default).to) = ((List.getD (List.take i h) k default).to))))) && ((!((((decide (((h.getD i default).frm) = ((List.getD (List.take i h) k default).frm))) || (decide (((h.getD i default).frm) = ((List.getD (List.take i h) k default).to)))) || (decide (((h.getD i default).to) = ((List.getD (List.take i h) k default).frm)))) || (decide (((h.getD i default).to) = ((List.getD (List.take i h) k default).to))))) && (decide (((h.getD i default).proc) = ((List.getD (List.take i h) k default).proc))))) = true) ∧ True) ∧ True) ∧ True)) ∧ ((!((((decide (((h.getD i default).frm) = ((List.getD (List.take i h) k default).frm))) || (decide (((h.getD i default).frm) = ((List.getD (List.take i h) k default).to)))) || (decide (((h.getD i default).to) = ((List.getD (List.take i h) k default).frm)))) || (decide (((h.getD i default).to) = ((List.getD (List.take i h) k default).to))))) = true → ((((!((((decide (((h.getD i default).frm) = ((List.getD (List.take i h) k default).frm))) || (decide (((h.getD i default).frm) = ((List.getD (List.take i h) k default).to)))) || (decide (((h.getD i default).to) = ((List.getD (List.take i h) k default).frm)))) || (decide (((h.getD i default).to) = ((List.getD (List.take i h) k default).to))))) = true) ∧ ((!((((decide (((h.getD i default).frm) = ((List.getD (List.take i h) k default).frm))) || (decide (((h.getD i default).frm) = ((List.getD (List.take i h) k default).to)))) || (decide (((h.getD i default).to) = ((List.getD (List.take i h) k default).frm)))) || (decide (((h.getD i default).to) = ((List.getD (List.take i h) k default).to))))) = true) ∧ True) ∧ ((decide (((h.getD i default).proc) = ((List.getD (List.take i h) k default).proc))) = true → (((!((((decide (((h.getD i default).frm) = ((List.getD (List.take i h) k default).frm))) || (decide (((h.getD i default).frm) = ((List.getD (List.take i h) k default).to)))) || (decide (((h.getD i default).to) = ((List.getD (List.take i h) k default).frm)))) || (decide (((h.getD i default).to) = ((List.getD (List.take i h) k default).to))))) && ((!((((decide (((h.getD i default).frm) = ((List.getD (List.take i h) k default).frm))) || (decide (((h.getD i default).frm) = ((List.getD (List.take i h) k default).to)))) || (decide (((h.getD i default).to) = ((List.getD (List.take i h) k default).frm)))) || (decide (((h.getD i default).to) = ((List.getD (List.take i h) k default).to))))) && (decide (((h.getD i default).proc) = ((List.getD (List.take i h) k default).proc))))) = true) ∧ True) ∧ ((decide (((h.getD i default).proc) = ((List.getD (List.take i h) k default).proc))) = false → True))) ∧ (True ∧ (((((decide (((h.getD i default).frm) = ((List.getD (List.take i h) k default).frm))) || (decide (((h.getD i default).frm) = ((List.getD (List.take i h) k default).to)))) || (decide (((h.getD i default).to) = ((List.getD (List.take i h) k default).frm)))) || (decide (((h.getD i default).to) = ((List.getD (List.take i h) k default).to)))) = true → True) ∧ (((((decide (((h.getD i default).frm) = ((List.getD (List.take i h) k default).frm))) || (decide (((h.getD i default).frm) = ((List.getD (List.take i h) k default).to)))) || (decide (((h.getD i default).to) = ((List.getD (List.take i h) k default).frm)))) || (decide (((h.getD i default).to) = ((List.getD (List.take i h) k default).to)))) = false → ((!((((decide (((h.getD i default).frm) = ((List.getD (List.take i h) k default).frm))) || (decide (((h.getD i default).frm) = ((List.getD (List.take i h) k default).to)))) || (decide (((h.getD i default).to) = ((List.getD (List.take i h) k default).frm)))) || (decide (((h.getD i default).to) = ((List.getD (List.take i h) k default).to))))) = true) ∧ True)) ∧ True) (by kernel_rfl)
        ⟨tt,tt,tt,tt,⟨tt,tt,tt⟩,tt,(fun _ => trivial),(fun hG => ⟨hG,tt⟩),(fun _ => trivial),(fun hG => ⟨hG,tt⟩),(fun hG => ⟨⟨hG,tt⟩,⟨hG,tt⟩,tt⟩),⟨tt,(fun _ => trivial),(fun hp => ⟨(not_t hp),tt⟩)⟩,tt,(fun _ => trivial),(fun hG => ⟨hG,tt⟩),(fun _ => trivial),(fun hG => ⟨hG,tt⟩),(fun hG => ⟨⟨hG,tt⟩,⟨hG,tt⟩,tt⟩),⟨tt,(fun _ => trivial),(fun hp => ⟨(not_t hp),tt⟩)⟩,tt,(fun _ => trivial),(fun hG => ⟨hG,tt⟩),(fun _ => trivial),(fun hG => ⟨hG,tt⟩),(fun hG => ⟨⟨hG,tt⟩,⟨hG,tt⟩,tt⟩),⟨tt,(fun _ => trivial),(fun hp => ⟨(not_t hp),tt⟩)⟩,tt,(fun _ => trivial),(fun hG => ⟨hG,tt⟩),(fun _ => trivial),(fun hG => ⟨hG,tt⟩),(fun hG => ⟨⟨hG,tt⟩,⟨hG,tt⟩,tt⟩),(fun _ => trivial),(fun _ => trivial),(fun _ => trivial),(fun hG => ⟨tt,⟨⟨hG,tt⟩,⟨hG,tt⟩,tt⟩,tt⟩),(fun hG => ⟨⟨hG,hG,tt⟩,(fun hp => ⟨(and_t hG (and_t hG hp)),tt⟩),(fun _ => trivial)⟩),⟨tt,(fun _ => trivial),(fun hp => ⟨(not_t hp),tt⟩)⟩,tt⟩ ?_
       refine W.if' (((((decide (((h.getD i default).frm) = ((List.getD (List.take i h) k default).frm))) || (decide (((h.getD i default).frm) = ((List.getD (List.take i h) k default).to)))) || (decide (((h.getD i default).to) = ((List.getD (List.take i h) k default).frm)))) || (decide (((h.getD i default).to) = ((List.getD (List.take i h) k default).to)))) || ((decide (((h.getD i default).proc) = ((List.getD (List.take i h) k default).proc))) && (doOverlap (h.getD i default) (List.getD (List.take i h) k default)))) (.b (((((decide (((h.getD i default).frm) = ((List.getD (List.take i h) k default).frm))) || (decide (((h.getD i default).frm) = ((List.getD (List.take i h) k default).to)))) || (decide (((h.getD i default).to) = ((List.getD (List.take i h) k default).frm)))) || (decide (((h.getD i default).to) = ((List.getD (List.take i h) k default).to)))) || ((decide (((h.getD i default).proc) = ((List.getD (List.take i h) k default).proc))) && (doOverlap (h.getD i default) (List.getD (List.take i h) k default))))) (by kernel_rfl) rfl trivial ?_ ?_
       ·intro h65
        refine W.K cok tab26 hnt [] [2] (⟨[(2,.b false)],[(4,⟨38,.fix [.i ((h.getD i default).proc),.i ((h.getD i default).obj),.i ((h.getD i default).kind),.i ((h.getD i default).arg),.i ((h.getD i default).ret),.i ((h.getD i default).frm),.i ((h.getD i default).to)]⟩),(6,⟨38,.fix [.i ((List.getD (List.take i h) k default).proc),.i ((List.getD (List.take i h) k default).obj),.i ((List.getD (List.take i h) k default).kind),.i ((List.getD (List.take i h) k default).arg),.i ((List.getD (List.take i h) k default).ret),.i ((List.getD (List.take i h) k default).frm),.i ((List.getD (List.take i h) k default).to)]⟩)],[6,4,999]⟩)
         (True ∧ True) (by kernel_rfl)
         ⟨tt,tt⟩ ?_
        refine W.ret (blockQ_ret (thenQ_ret (thenQ_ret (blockQ_ret (blockQ_ret (thenQ_ret (thenQ_ret (blockQ_ret (thenQ_ret ?_)))))))))
        exact endQ_ret (.b false) (by kernel_rfl) (@cast ((.bool false : Value) = .bool (validHistory h)) _ (by kernel_rfl) (congrArg Value.bool (by unfold validHistory; symm; exact and_fr (allN_false (i := i) (by omega) (and_fr (allN_false (i := k) (by omega) (not_h (by rw [← h65,getD_take h (default : CallD) (show k < i by omega)]; rfl))))))))
       ·intro n65
        have n65_0 : ¬ (((h.getD i default).frm) = ((List.getD (List.take i h) k default).frm)) := of_decide_eq_false (or_l (or_l (or_l (or_l n65))))
        have n65_1 : ¬ (((h.getD i default).frm) = ((List.getD (List.take i h) k default).to)) := of_decide_eq_false (or_r (or_l (or_l (or_l n65))))
        have n65_2 : ¬ (((h.getD i default).to) = ((List.getD (List.take i h) k default).frm)) := of_decide_eq_false (or_r (or_l (or_l n65)))
        have n65_3 : ¬ (((h.getD i default).to) = ((List.getD (List.take i h) k default).to)) := of_decide_eq_false (or_r (or_l n65))
        refine W.skip (blockQ_normal (thenQ_normal ?_))
        refine W.L cok tab26 hnt [] (⟨[(0,.sl (.calls h)),(4,.ptr 4 0),(10,.sl (.calls h)),(11,.i (h.length : Int)),(12,.i ((i : Nat) : Int)),(22,.sl (.calls (List.take i h))),(23,.i (((List.length (List.take i h)) : Nat) : Int)),(24,.i (((k + 1) : Nat) : Int)),(65,.b (((((decide (((h.getD i default).frm) = ((List.getD (List.take i h) k default).frm))) || (decide (((h.getD i default).frm) = ((List.getD (List.take i h) k default).to)))) || (decide (((h.getD i default).to) = ((List.getD (List.take i h) k default).frm)))) || (decide (((h.getD i default).to) = ((List.getD (List.take i h) k default).to)))) || ((decide (((h.getD i default).proc) = ((List.getD (List.take i h) k default).proc))) && (doOverlap (h.getD i default) (List.getD (List.take i h) k default))))),(66,.i (((k + 1) : Nat) : Int))],[(4,⟨38,.fix [.i ((h.getD i default).proc),.i ((h.getD i default).obj),.i ((h.getD i default).kind),.i ((h.getD i default).arg),.i ((h.getD i default).ret),.i ((h.getD i default).frm),.i ((h.getD i default).to)]⟩),(6,⟨38,.fix [.i ((List.getD (List.take i h) k default).proc),.i ((List.getD (List.take i h) k default).obj),.i ((List.getD (List.take i h) k default).kind),.i ((List.getD (List.take i h) k default).arg),.i ((List.getD (List.take i h) k default).ret),.i ((List.getD (List.take i h) k default).frm),.i ((List.getD (List.take i h) k default).to)]⟩)],[6,4,999]⟩)
         ((True ∧ True ∧ (Fits .i64 (((k + 1) : Nat) : Int))) ∧ True ∧ True) (by kernel_rfl)
         ⟨⟨tt,tt,(by exact fits_i64 (by omega) (by omega))⟩,tt,tt⟩ ?_
        refine thenQ_normal ?_
        refine ⟨((k + 1)),(show ((k + 1) ≤ i) ∧ (∀ j,j < (k + 1) → (!clash (callAt h i) (callAt h j)) = true) from ⟨(by first | assumption | omega | rfl | (intro _ hjj; omega) | (simp; done) | (simp; omega)),(by exact upto_succ hB (not_t (by rw [← n65,getD_take h (default : CallD) (show k < i by omega)]; rfl)))⟩),(show i - (k + 1) < i - k from (by first | omega | (simp_all; omega))),?_⟩
        exact Sub.of [] (@cast ((((.calls h : Dat) = .calls h) ∧ ((((4 : Nat) = 4) ∧ (((0 : Nat) = 0) ∧ ((4 : Nat) ∈ ([4,999] : List Nat)))) ∧ (((.calls h : Dat) = .calls h) ∧ (((.int .i64 (h.length : Int) : Value) = .int .i64 (h.length : Int)) ∧ (((.int .i64 ((i : Nat) : Int) : Value) = .int .i64 ((i : Nat) : Int)) ∧ (((.calls (List.take i h) : Dat) = .calls (List.take i h)) ∧ (((.int .i64 (((List.length (List.take i h)) : Nat) : Int) : Value) = .int .i64 (((List.length (List.take i h)) : Nat) : Int)) ∧ (((.int .i64 (((k + 1) : Nat) : Int) : Value) = .int .i64 (((k + 1) : Nat) : Int)) ∧ True)))))))) ∧ (((((38 : Nat) = 38) ∧ ((((.int .i64 ((h.getD i default).proc) : Value) = .int .i64 ((h.getD i default).proc)) ∧ (((.int .i64 ((h.getD i default).obj) : Value) = .int .i64 ((h.getD i default).obj)) ∧ (((.int .i64 ((h.getD i default).kind) : Value) = .int .i64 ((h.getD i default).kind)) ∧ (((.int .i64 ((h.getD i default).arg) : Value) = .int .i64 ((h.getD i default).arg)) ∧ (((.int .i64 ((h.getD i default).ret) : Value) = .int .i64 ((h.getD i default).ret)) ∧ (((.int .i64 ((h.getD i default).frm) : Value) = .int .i64 ((h.getD i default).frm)) ∧ (((.int .i64 ((h.getD i default).to) : Value) = .int .i64 ((h.getD i default).to)) ∧ True))))))) ∧ ((4 : Nat) ∈ ([4,999] : List Nat)))) ∧ True) ∧ ((true = true) ∧ (true = true)))) _ (by kernel_rfl) ⟨⟨rfl,⟨rfl,rfl,(by decide)⟩,rfl,rfl,rfl,rfl,rfl,rfl,tt⟩,⟨⟨rfl,⟨rfl,rfl,rfl,rfl,rfl,rfl,rfl,tt⟩,(by decide)⟩,tt⟩,rfl,rfl⟩)
      ·intro n25
       have n25' := n25
       simp only [List.length_append,List.length_cons,List.length_nil,List.length_take,List.length_drop,List.length_set,List.length_replicate,List.length_map] at n25'
       refine W.exit (thenQ_exit (thenQ_exit (blockQ_hit ?_)))
       refine blockQ_normal (thenQ_normal ?_)
       refine W.L cok tab26 hnt [] (⟨[(0,.sl (.calls h)),(4,.ptr 4 0),(10,.sl (.calls h)),(11,.i (h.length : Int)),(12,.i (((i + 1) : Nat) : Int)),(22,.sl (.calls (List.take i h))),(23,.i (((List.length (List.take i h)) : Nat) : Int)),(24,.i ((k : Nat) : Int)),(25,.b (decide (((k : Nat) : Int) < (((List.length (List.take i h)) : Nat) : Int)))),(67,.i (((i + 1) : Nat) : Int))],[(4,⟨38,.fix [.i ((h.getD i default).proc),.i ((h.getD i default).obj),.i ((h.getD i default).kind),.i ((h.getD i default).arg),.i ((h.getD i default).ret),.i ((h.getD i default).frm),.i ((h.getD i default).to)]⟩)],[4,999]⟩)
        ((True ∧ True ∧ (Fits .i64 (((i + 1) : Nat) : Int))) ∧ True ∧ True) (by kernel_rfl)
        ⟨⟨tt,tt,(by exact fits_i64 (by omega) (by omega))⟩,tt,tt⟩ ?_
       refine thenQ_normal ?_
       refine ⟨((i + 1)),(show ((i + 1) ≤ h.length) ∧ (∀ j,j < (i + 1) → (isCall (callAt h j) && allN j (fun k => !clash (callAt h j) (callAt h k))) = true) from ⟨(by first | assumption | omega | rfl | (intro _ hjj; omega) | (simp; done) | (simp; omega)),(by exact upto_succ hA (and_t (not_g n19) (allN_true (fun j hj => hB j (by omega)))))⟩),(show h.length - (i + 1) < h.length - i from (by first | omega | (simp_all; omega))),?_⟩
       exact Sub.of [] (@cast ((((.calls h : Dat) = .calls h) ∧ (((.calls h : Dat) = .calls h) ∧ (((.int .i64 (h.length : Int) : Value) = .int .i64 (h.length : Int)) ∧ (((.int .i64 (((i + 1) : Nat) : Int) : Value) = .int .i64 (((i + 1) : Nat) : Int)) ∧ True)))) ∧ (True ∧ ((true = true) ∧ (true = true)))) _ (by kernel_rfl) ⟨⟨rfl,rfl,rfl,rfl,tt⟩,tt,rfl,rfl⟩)
   ·intro n13
    refine W.exit (thenQ_exit (thenQ_exit (blockQ_hit ?_)))
    refine thenQ_normal ?_
    refine W.K cok tab26 hnt [] [2] (⟨[(2,.b true)],[],[999]⟩)
     (True ∧ True) (by kernel_rfl)
     ⟨tt,tt⟩ ?_
    refine W.ret ?_
    exact endQ_ret (.b true) (by kernel_rfl) (@cast ((.bool true : Value) = .bool (validHistory h)) _ (by kernel_rfl) (congrArg Value.bool (by unfold validHistory; symm; exact and_t (decide_eq_true (by omega)) (allN_true (fun j hj => hA j (by omega))))))
theorem ent26 : Entr prog 26 := ⟨_,func26,rfl,by decide⟩
end Go.Proofs.Try

set_option linter.unusedSimpArgs false
set_option linter.unusedVariables false
namespace Go.Proofs.Try
open Go.Ab Go.RowKit
def fs58 : FnS := fnS [.s .calls,.o] [.calls,.int] (fun _ (h,time,_) => (.i (openAt h time),[],True))
abbrev T58 : Tab := lk []
theorem tab58 : TabOK prog T58 := TabOK.nil
set_option maxRecDepth 100000 in
set_option maxHeartbeats 1000000 in
theorem ok58 : FnOK prog 58 fs58 := by
 refine FnOK.mk cok func58 rfl rfl rfl ?_
 rintro fl ⟨(h : List CallD),(time : Int),_⟩ hpre F hnt0 _
 have hnt : F.nt = 28 := hnt0.trans ntmps58
 clear hpre
 refine W.to (⟨[(0,.sl (.calls h)),(1,.i time)],[],[999]⟩) rfl ?_
 refine W.lenOf 0 (.calls h) (by kernel_rfl) ?_
 intro hl_h; replace hl_h : List.length h ≤ 9223372036854775807 := hl_h
 refine W.K cok tab58 hnt [] [0,1] (⟨[(0,.sl (.calls h)),(1,.i time)],[],[999]⟩)
  (True ∧ True) (by kernel_rfl)
  ⟨tt,tt⟩ ?_
 refine W.K cok tab58 hnt [] [0,1,5] (⟨[(0,.sl (.calls h)),(1,.i time),(5,.i (0 : Int))],[],[999]⟩)
  (True ∧ True) (by kernel_rfl)
  ⟨tt,tt⟩ ?_
 refine W.seq ?_
 refine W.K cok tab58 hnt [] [1,5,8,9,10] (⟨[(1,.i time),(5,.i (0 : Int)),(8,.sl (.calls h)),(9,.i (h.length : Int)),(10,.i (0 : Int))],[],[999]⟩)
  (True ∧ True ∧ True ∧ True) (by kernel_rfl)
  ⟨tt,tt,tt,tt⟩ ?_
 refine W.block ?_
 refine W.loop (ι := Int × Nat) (fun (x : Int × Nat) => match x with | (cnt,k) => (⟨[(1,.i time),(5,.i cnt),(8,.sl (.calls h)),(9,.i (h.length : Int)),(10,.i ((k : Nat) : Int))],[],[999]⟩ : St))
  (fun (x : Int × Nat) => match x with | (cnt,k) => (k ≤ h.length) ∧ (cnt = (((h.take k).countP (openP time) : Nat) : Int)))
  (fun (x : Int × Nat) => match x with | (cnt,k) => (h.length - k : Nat)) ((0 : Int),0) ?_ ?_ ?_
 ·exact (show (0 ≤ h.length) ∧ ((0 : Int) = (((h.take 0).countP (openP time) : Nat) : Int)) from ⟨(by first | assumption | omega | rfl | (intro _ hjj; omega) | (simp; done) | (simp; omega)),(by rfl)⟩)
 ·exact Sub.of [] (@cast ((((.int .i64 time : Value) = .int .i64 time) ∧ (((.int .i64 (0 : Int) : Value) = .int .i64 (0 : Int)) ∧ (((.calls h : Dat) = .calls h) ∧ (((.int .i64 (h.length : Int) : Value) = .int .i64 (h.length : Int)) ∧ (((.int .i64 (0 : Int) : Value) = .int .i64 ((0 : Nat) : Int)) ∧ True))))) ∧ (True ∧ ((true = true) ∧ (true = true)))) _ (by kernel_rfl) ⟨⟨rfl,rfl,rfl,rfl,(congrArg (Value.int .i64) (by first | rfl | omega | assumption | simp | simp_all)),tt⟩,tt,rfl,rfl⟩)
 ·rintro ⟨cnt,k⟩ hC0
  have hC : (k ≤ h.length) ∧ (cnt = (((h.take k).countP (openP time) : Nat) : Int)) := hC0
  clear hC0
  obtain ⟨hk,hc⟩ := hC
  refine W.to (⟨[(1,.i time),(5,.i cnt),(8,.sl (.calls h)),(9,.i (h.length : Int)),(10,.i ((k : Nat) : Int))],[],[999]⟩) rfl ?_
  have hcb := take_count_le h k (openP time)
  refine W.K cok tab58 hnt [] [1,5,8,9,10,11] (⟨[(1,.i time),(5,.i cnt),(8,.sl (.calls h)),(9,.i (h.length : Int)),(10,.i ((k : Nat) : Int)),(11,.b (decide (((k : Nat) : Int) < (h.length : Int))))],[],[999]⟩)
   ((True ∧ True ∧ True) ∧ True) (by kernel_rfl)
   ⟨⟨tt,tt,tt⟩,tt⟩ ?_
  refine W.seq ?_
  refine W.ifP (((k : Nat) : Int) < (h.length : Int)) (.b (decide (((k : Nat) : Int) < (h.length : Int)))) (by kernel_rfl) rfl trivial ?_ ?_
  ·intro h11
   refine W.skip (thenQ_normal ?_)
   refine W.seq ?_
   refine W.block ?_
   refine W.K cok tab58 hnt [] [1,5,7,8,9,10] (⟨[(1,.i time),(5,.i cnt),(7,.ptr 7 0),(8,.sl (.calls h)),(9,.i (h.length : Int)),(10,.i ((k : Nat) : Int))],[(7,⟨38,.fix [.i ((h.getD k default).proc),.i ((h.getD k default).obj),.i ((h.getD k default).kind),.i ((h.getD k default).arg),.i ((h.getD k default).ret),.i ((h.getD k default).frm),.i ((h.getD k default).to)]⟩)],[7,999]⟩)
    ((True ∧ True ∧ (0 ≤ ((k : Nat) : Int)) ∧ (((k : Nat) : Int) < (h.length : Int))) ∧ True ∧ True ∧ (True ∧ True) ∧ True) (by kernel_rfl)
    ⟨⟨tt,tt,(by omega),(by omega)⟩,tt,tt,⟨tt,tt⟩,tt⟩ ?_
   refine W.K cok tab58 hnt [] [1,5,8,9,10,23] (⟨[(1,.i time),(5,.i cnt),(8,.sl (.calls h)),(9,.i (h.length : Int)),(10,.i ((k : Nat) : Int)),(23,.b ((decide (((h.getD k default).frm) ≤ time)) && (decide (time < ((h.getD k default).to)))))],[(7,⟨38,.fix [.i ((h.getD k default).proc),.i ((h.getD k default).obj),.i ((h.getD k default).kind),.i ((h.getD k default).arg),.i ((h.getD k default).ret),.i ((h.getD k default).frm),.i ((h.getD k default).to)]⟩)],[7,999]⟩)
    (True ∧ True ∧ True ∧ (True ∧ True ∧ True) ∧ True ∧ ((decide (((h.getD k default).frm) ≤ time)) = true → True) ∧ ((decide (((h.getD k default).frm) ≤ time)) = true → True) ∧ ((decide (((h.getD k default).frm) ≤ time)) = true → (((decide (((h.getD k default).frm) ≤ time)) = true) ∧ True)) ∧ ((decide (((h.getD k default).frm) ≤ time)) = true → ((((decide (((h.getD k default).frm) ≤ time)) = true) ∧ True) ∧ (((decide (((h.getD k default).frm) ≤ time)) = true) ∧ True) ∧ True)) ∧ (True ∧ ((decide (((h.getD k default).frm) ≤ time)) = true → ((decide (((h.getD k default).frm) ≤ time)) = true) ∧ True) ∧ ((decide (((h.getD k default).frm) ≤ time)) = false → True)) ∧ True) (by kernel_rfl)
    ⟨tt,tt,tt,⟨tt,tt,tt⟩,tt,(fun _ => trivial),(fun _ => trivial),(fun hG => ⟨hG,tt⟩),(fun hG => ⟨⟨hG,tt⟩,⟨hG,tt⟩,tt⟩),⟨tt,(fun hp => ⟨hp,tt⟩),(fun _ => trivial)⟩,tt⟩ ?_
   refine W.if' ((decide (((h.getD k default).frm) ≤ time)) && (decide (time < ((h.getD k default).to)))) (.b ((decide (((h.getD k default).frm) ≤ time)) && (decide (time < ((h.getD k default).to))))) (by kernel_rfl) rfl trivial ?_ ?_
   ·intro h23
    have h23_0 : ((h.getD k default).frm) ≤ time := of_decide_eq_true (and_l h23)
    have h23_1 : time < ((h.getD k default).to) := of_decide_eq_true (and_r h23)
    refine W.L cok tab58 hnt [] (⟨[(1,.i time),(5,.i (cnt + (1 : Int))),(8,.sl (.calls h)),(9,.i (h.length : Int)),(10,.i ((k : Nat) : Int)),(23,.b ((decide (((h.getD k default).frm) ≤ time)) && (decide (time < ((h.getD k default).to))))),(24,.i cnt),(25,.i (cnt + (1 : Int)))],[(7,⟨38,.fix [.i ((h.getD k default).proc),.i ((h.getD k default).obj),.i ((h.getD k default).kind),.i ((h.getD k default).arg),.i ((h.getD k default).ret),.i ((h.getD k default).frm),.i ((h.getD k default).to)]⟩)],[7,999]⟩)
     (True ∧ (True ∧ True ∧ (Fits .i64 (cnt + (1 : Int)))) ∧ True ∧ True) (by kernel_rfl)
     ⟨tt,⟨tt,tt,(by exact fits_i64 (by omega) (by omega))⟩,tt,tt⟩ ?_
    refine blockQ_normal (thenQ_normal ?_)
    refine W.L cok tab58 hnt [] (⟨[(1,.i time),(5,.i (cnt + (1 : Int))),(8,.sl (.calls h)),(9,.i (h.length : Int)),(10,.i (((k + 1) : Nat) : Int)),(23,.b ((decide (((h.getD k default).frm) ≤ time)) && (decide (time < ((h.getD k default).to))))),(24,.i cnt),(25,.i (cnt + (1 : Int))),(26,.i (((k + 1) : Nat) : Int))],[(7,⟨38,.fix [.i ((h.getD k default).proc),.i ((h.getD k default).obj),.i ((h.getD k default).kind),.i ((h.getD k default).arg),.i ((h.getD k default).ret),.i ((h.getD k default).frm),.i ((h.getD k default).to)]⟩)],[7,999]⟩)
     ((True ∧ True ∧ (Fits .i64 (((k + 1) : Nat) : Int))) ∧ True ∧ True) (by kernel_rfl)
     ⟨⟨tt,tt,(by exact fits_i64 (by omega) (by omega))⟩,tt,tt⟩ ?_
    refine thenQ_normal ?_
    refine ⟨((cnt + (1 : Int)),(k + 1)),(show ((k + 1) ≤ h.length) ∧ ((cnt + (1 : Int)) = (((h.take (k + 1)).countP (openP time) : Nat) : Int)) from ⟨(by first | assumption | omega | rfl | (intro _ hjj; omega) | (simp; done) | (simp; omega)),(by rw [take_count (openP time) (by omega),hc]; first | (rw [if_pos (show openP time (h.getD k default) = true from h23)]) | (rw [if_neg (by rw [show openP time (h.getD k default) = false from n23]; simp)]; omega))⟩),(show h.length - (k + 1) < h.length - k from (by first | omega | (simp_all; omega))),?_⟩
    exact Sub.of [] (@cast ((((.int .i64 time : Value) = .int .i64 time) ∧ (((.int .i64 (cnt + (1 : Int)) : Value) = .int .i64 (cnt + (1 : Int))) ∧ (((.calls h : Dat) = .calls h) ∧ (((.int .i64 (h.length : Int) : Value) = .int .i64 (h.length : Int)) ∧ (((.int .i64 (((k + 1) : Nat) : Int) : Value) = .int .i64 (((k + 1) : Nat) : Int)) ∧ True))))) ∧ (True ∧ ((true = true) ∧ (true = true)))) _ (by kernel_rfl) ⟨⟨rfl,rfl,rfl,rfl,rfl,tt⟩,tt,rfl,rfl⟩)
   ·intro n23
    refine W.skip (blockQ_normal (thenQ_normal ?_))
    refine W.L cok tab58 hnt [] (⟨[(1,.i time),(5,.i cnt),(8,.sl (.calls h)),(9,.i (h.length : Int)),(10,.i (((k + 1) : Nat) : Int)),(23,.b ((decide (((h.getD k default).frm) ≤ time)) && (decide (time < ((h.getD k default).to))))),(26,.i (((k + 1) : Nat) : Int))],[(7,⟨38,.fix [.i ((h.getD k default).proc),.i ((h.getD k default).obj),.i ((h.getD k default).kind),.i ((h.getD k default).arg),.i ((h.getD k default).ret),.i ((h.getD k default).frm),.i ((h.getD k default).to)]⟩)],[7,999]⟩)
     ((True ∧ True ∧ (Fits .i64 (((k + 1) : Nat) : Int))) ∧ True ∧ True) (by kernel_rfl)
     ⟨⟨tt,tt,(by exact fits_i64 (by omega) (by omega))⟩,tt,tt⟩ ?_
    refine thenQ_normal ?_
    refine ⟨(cnt,(k + 1)),(show ((k + 1) ≤ h.length) ∧ (cnt = (((h.take (k + 1)).countP (openP time) : Nat) : Int)) from ⟨(by first | assumption | omega | rfl | (intro _ hjj; omega) | (simp; done) | (simp; omega)),(by rw [take_count (openP time) (by omega),hc]; first | (rw [if_pos (show openP time (h.getD k default) = true from h23)]) | (rw [if_neg (by rw [show openP time (h.getD k default) = false from n23]; simp)]; omega))⟩),(show h.length - (k + 1) < h.length - k from (by first | omega | (simp_all; omega))),?_⟩
    exact Sub.of [] (@cast ((((.int .i64 time : Value) = .int .i64 time) ∧ (((.int .i64 cnt : Value) = .int .i64 cnt) ∧ (((.calls h : Dat) = .calls h) ∧ (((.int .i64 (h.length : Int) : Value) = .int .i64 (h.length : Int)) ∧ (((.int .i64 (((k + 1) : Nat) : Int) : Value) = .int .i64 (((k + 1) : Nat) : Int)) ∧ True))))) ∧ (True ∧ ((true = true) ∧ (true = true)))) _ (by kernel_rfl) ⟨⟨rfl,rfl,rfl,rfl,rfl,tt⟩,tt,rfl,rfl⟩)
  ·intro n11
   refine W.exit (thenQ_exit (thenQ_exit (blockQ_hit ?_)))
   refine thenQ_normal ?_
   refine W.K cok tab58 hnt [] [4] (⟨[(4,.i cnt)],[],[999]⟩)
    (True ∧ True ∧ True) (by kernel_rfl)
    ⟨tt,tt,tt⟩ ?_
   refine W.ret ?_
   exact endQ_ret (.i cnt) (by kernel_rfl) (@cast ((.int .i64 cnt : Value) = .int .i64 (openAt h time)) _ (by kernel_rfl) (congrArg (Value.int .i64) (by rw [hc,show k = h.length by omega,List.take_length]; rfl)))
theorem ent58 : Entr prog 58 := ⟨_,func58,rfl,by decide⟩
end Go.Proofs.Try

set_option linter.unusedSimpArgs false
set_option linter.unusedVariables false
namespace Go.Proofs.Try
open Go.Ab Go.RowKit
def fs57 : FnS := fnS [.o,.o,.o] [.int,.int,(.ep .calls)] (fun _ (i,k,h,_) => (.b (quietF h i.toNat k.toNat),[],(0 ≤ i ∧ i < h.length) ∧ (0 ≤ k ∧ k < h.length) ∧ (validHistory h = true)))
abbrev T57 : Tab := lk [(58,fs58)]
theorem tab57 : TabOK prog T57 := (TabOK.cons ok58 ent58 TabOK.nil)
set_option maxRecDepth 100000 in
set_option maxHeartbeats 1000000 in
theorem ok57 : FnOK prog 57 fs57 := by
 refine FnOK.mk cok func57 rfl rfl rfl ?_
 rintro fl ⟨(i : Int),(k : Int),(h : List CallD),_⟩ hpre F hnt0 _
 have hnt : F.nt = 25 := hnt0.trans ntmps57
 replace hpre : (0 ≤ i ∧ i < h.length) ∧ (0 ≤ k ∧ k < h.length) ∧ (validHistory h = true) := hpre
 obtain ⟨hi,hk,hv⟩ := hpre
 refine W.to (⟨[(0,.i i),(1,.i k),(2,.ep [.sl (.calls h)])],[],[999]⟩) rfl ?_
 have hci := call_ok hv (i := i.toNat) (by omega)
 have hck := call_ok hv (i := k.toNat) (by omega)
 unfold callAt at hci hck
 refine W.K cok tab57 hnt [] [0,1,2] (⟨[(0,.i i),(1,.i k),(2,.ep [.sl (.calls h)])],[],[999]⟩)
  (True ∧ True) (by kernel_rfl)
  ⟨tt,tt⟩ ?_
 refine W.seq ?_
 refine W.K cok tab57 hnt [] [0,2,6] (⟨[(0,.i i),(2,.ep [.sl (.calls h)]),(6,.i ((h.getD (Int.toNat k) default).to))],[],[999]⟩)
  (True ∧ True ∧ (True ∧ True ∧ (0 ≤ k) ∧ (k < (h.length : Int))) ∧ True ∧ True ∧ True ∧ True) (by kernel_rfl)
  ⟨tt,tt,⟨tt,tt,(by omega),(by omega)⟩,tt,tt,tt,tt⟩ ?_
 refine W.block ?_
 refine W.loop (ι := Int) (fun (t : Int) => (⟨[(0,.i i),(2,.ep [.sl (.calls h)]),(6,.i t)],[],[999]⟩ : St))
  (fun (t : Int) => ((h.getD k.toNat default).to ≤ t) ∧ (0 ≤ t) ∧ (∀ j : Int,(h.getD k.toNat default).to ≤ j → j < t → ¬ openAt h j = 0))
  (fun (t : Int) => ((31 - t).toNat : Nat)) (((h.getD (Int.toNat k) default).to)) ?_ ?_ ?_
 ·exact (show ((h.getD k.toNat default).to ≤ ((h.getD (Int.toNat k) default).to)) ∧ (0 ≤ ((h.getD (Int.toNat k) default).to)) ∧ (∀ j : Int,(h.getD k.toNat default).to ≤ j → j < ((h.getD (Int.toNat k) default).to) → ¬ openAt h j = 0) from ⟨(by first | assumption | omega | rfl | (intro _ hjj; omega) | (simp; done) | (simp; omega)),(by first | assumption | omega | rfl | (intro _ hjj; omega) | (simp; done) | (simp; omega)),(by intro j h1 h2; omega)⟩)
 ·exact Sub.of [] (@cast ((((.int .i64 i : Value) = .int .i64 i) ∧ ((((.ep [.sl (.calls h)] : AV) = .ep [.sl (.calls h)]) ∧ (([] : List Nat) = [])) ∧ (((.int .i64 ((h.getD (Int.toNat k) default).to) : Value) = .int .i64 ((h.getD (Int.toNat k) default).to)) ∧ True))) ∧ (True ∧ ((true = true) ∧ (true = true)))) _ (by kernel_rfl) ⟨⟨rfl,⟨rfl,rfl⟩,rfl,tt⟩,tt,rfl,rfl⟩)
 ·rintro t hC0
  have hC : ((h.getD k.toNat default).to ≤ t) ∧ (0 ≤ t) ∧ (∀ j : Int,(h.getD k.toNat default).to ≤ j → j < t → ¬ openAt h j = 0) := hC0
  clear hC0
  obtain ⟨ht,ht0,hA⟩ := hC
  refine W.to (⟨[(0,.i i),(2,.ep [.sl (.calls h)]),(6,.i t)],[],[999]⟩) rfl ?_
  refine W.seq ?_
  refine W.K cok tab57 hnt [] [0,2,6,18] (⟨[(0,.i i),(2,.ep [.sl (.calls h)]),(6,.i t),(18,.b (decide (t < ((h.getD (Int.toNat i) default).frm))))],[],[999]⟩)
   (True ∧ True ∧ True ∧ (True ∧ True ∧ (0 ≤ i) ∧ (i < (h.length : Int))) ∧ True ∧ True ∧ (True ∧ True ∧ True) ∧ True) (by kernel_rfl)
   ⟨tt,tt,tt,⟨tt,tt,(by omega),(by omega)⟩,tt,tt,⟨tt,tt,tt⟩,tt⟩ ?_
  refine W.ifP (t < ((h.getD (Int.toNat i) default).frm)) (.b (decide (t < ((h.getD (Int.toNat i) default).frm)))) (by kernel_rfl) rfl trivial ?_ ?_
  ·intro h18
   refine W.skip (thenQ_normal ?_)
   refine W.seq ?_
   refine W.block ?_
   refine W.K cok tab57 hnt [] [0,2,6,24] (⟨[(0,.i i),(2,.ep [.sl (.calls h)]),(6,.i t),(24,.b (decide ((openAt h t) = (0 : Int))))],[],[999]⟩)
    (True ∧ True ∧ (True ∧ (True ∧ True ∧ True) ∧ True) ∧ (True ∧ True ∧ True) ∧ True) (by kernel_rfl)
    ⟨tt,tt,⟨tt,⟨tt,tt,tt⟩,tt⟩,⟨tt,tt,tt⟩,tt⟩ ?_
   refine W.ifP ((openAt h t) = (0 : Int)) (.b (decide ((openAt h t) = (0 : Int)))) (by kernel_rfl) rfl trivial ?_ ?_
   ·intro h24
    refine W.K cok tab57 hnt [] [5] (⟨[(5,.b true)],[],[999]⟩)
     (True ∧ True) (by kernel_rfl)
     ⟨tt,tt⟩ ?_
    refine W.ret (blockQ_ret (thenQ_ret (thenQ_ret (blockQ_ret (thenQ_ret ?_)))))
    exact endQ_ret (.b true) (by kernel_rfl) (@cast ((.bool true : Value) = .bool (quietF h i.toNat k.toNat)) _ (by kernel_rfl) (congrArg Value.bool (by exact (quiet_yes ht0 (by omega) ht (by assumption) h24).symm)))
   ·intro n24
    refine W.skip (blockQ_normal (thenQ_normal ?_))
    refine W.L cok tab57 hnt [] (⟨[(0,.i i),(2,.ep [.sl (.calls h)]),(6,.i (t + (1 : Int))),(19,.i t),(20,.i (t + (1 : Int))),(24,.b (decide ((openAt h t) = (0 : Int))))],[],[999]⟩)
     (True ∧ (True ∧ True ∧ (Fits .i64 (t + (1 : Int)))) ∧ True ∧ True) (by kernel_rfl)
     ⟨tt,⟨tt,tt,(by exact fits_i64 (by omega) (by omega))⟩,tt,tt⟩ ?_
    refine thenQ_normal ?_
    refine ⟨((t + (1 : Int))),(show ((h.getD k.toNat default).to ≤ (t + (1 : Int))) ∧ (0 ≤ (t + (1 : Int))) ∧ (∀ j : Int,(h.getD k.toNat default).to ≤ j → j < (t + (1 : Int)) → ¬ openAt h j = 0) from ⟨(by first | assumption | omega | rfl | (intro _ hjj; omega) | (simp; done) | (simp; omega)),(by first | assumption | omega | rfl | (intro _ hjj; omega) | (simp; done) | (simp; omega)),(by intro j h1 h2; by_cases hj : j = t; (subst hj; exact n24); exact hA j h1 (by omega))⟩),(show (31 - (t + (1 : Int))).toNat < (31 - t).toNat from (by first | omega | (simp_all; omega))),?_⟩
    exact Sub.of [] (@cast ((((.int .i64 i : Value) = .int .i64 i) ∧ ((((.ep [.sl (.calls h)] : AV) = .ep [.sl (.calls h)]) ∧ (([] : List Nat) = [])) ∧ (((.int .i64 (t + (1 : Int)) : Value) = .int .i64 (t + (1 : Int))) ∧ True))) ∧ (True ∧ ((true = true) ∧ (true = true)))) _ (by kernel_rfl) ⟨⟨rfl,⟨rfl,rfl⟩,rfl,tt⟩,tt,rfl,rfl⟩)
  ·intro n18
   refine W.exit (thenQ_exit (thenQ_exit (blockQ_hit ?_)))
   refine thenQ_normal ?_
   refine W.K cok tab57 hnt [] [5] (⟨[(5,.b false)],[],[999]⟩)
    (True ∧ True) (by kernel_rfl)
    ⟨tt,tt⟩ ?_
   refine W.ret ?_
   exact endQ_ret (.b false) (by kernel_rfl) (@cast ((.bool false : Value) = .bool (quietF h i.toNat k.toNat)) _ (by kernel_rfl) (congrArg Value.bool (by exact (quiet_no n18 hA).symm)))
theorem ent57 : Entr prog 57 := ⟨_,func57,rfl,by decide⟩
end Go.Proofs.Try

set_option linter.unusedSimpArgs false
set_option linter.unusedVariables false
namespace Go.Proofs.Try
open Go.Ab Go.RowKit
def fs56QuietAhead : FnS := fnS [.o,.o] [.int,(.fn1 57 (.ep .calls))] (fun _ (n,h,_) => (.sl (.ints (rowsOf n.toNat (quietF h))),[],(0 ≤ n ∧ n ≤ 60 ∧ n = h.length) ∧ (validHistory h = true)))
abbrev T56QuietAhead : Tab := lk [(57,fs57)]
theorem tab56QuietAhead : TabOK prog T56QuietAhead := (TabOK.cons ok57 ent57 TabOK.nil)
set_option maxRecDepth 100000 in
set_option maxHeartbeats 1000000 in
theorem ok56QuietAhead : FnOK prog 56 fs56QuietAhead := by
 refine FnOK.mk cok func56 rfl rfl rfl ?_
 rintro fl ⟨(n : Int),(h : List CallD),_⟩ hpre F hnt0 _
 have hnt : F.nt = 35 := hnt0.trans ntmps56
 replace hpre : (0 ≤ n ∧ n ≤ 60 ∧ n = h.length) ∧ (validHistory h = true) := hpre
 obtain ⟨hn,hv⟩ := hpre
 refine W.to (⟨[(0,.i n),(1,.fn 57 [.ep [.sl (.calls h)]])],[],[999]⟩) rfl ?_
 refine W.K cok tab56QuietAhead hnt [] [0,1] (⟨[(0,.i n),(1,.fn 57 [.ep [.sl (.calls h)]])],[],[999]⟩)
  (True ∧ True) (by kernel_rfl)
  ⟨tt,tt⟩ ?_
 refine W.K cok tab56QuietAhead hnt [9] [0,1,5] (⟨[(0,.i n),(1,.fn 57 [.ep [.sl (.calls h)]]),(5,.own 9 (List.length (List.replicate (Int.toNat n) (0 : Int))))],[(9,⟨3,.row (.ints (List.replicate (Int.toNat n) (0 : Int)))⟩)],[9,999]⟩)
  (True ∧ (True ∧ True ∧ (n = n) ∧ (0 ≤ n) ∧ (n * 8 ≤ 281474976710656)) ∧ True ∧ True) (by kernel_rfl)
  ⟨tt,⟨tt,tt,rfl,(by omega),(by omega)⟩,tt,tt⟩ ?_
 refine W.seq ?_
 refine W.K cok tab56QuietAhead hnt [] [0,1,5,11,12] (⟨[(0,.i n),(1,.fn 57 [.ep [.sl (.calls h)]]),(5,.own 9 (List.length (List.replicate (Int.toNat n) (0 : Int)))),(11,.i (((List.length (List.replicate (Int.toNat n) (0 : Int))) : Nat) : Int)),(12,.i (0 : Int))],[(9,⟨3,.row (.ints (List.replicate (Int.toNat n) (0 : Int)))⟩)],[9,999]⟩)
  (True ∧ True ∧ True ∧ True) (by kernel_rfl)
  ⟨tt,tt,tt,tt⟩ ?_
 refine W.block ?_
 refine W.loop (ι := Nat × (List Int)) (fun (x : Nat × (List Int)) => match x with | (i,o) => (⟨[(0,.i n),(1,.fn 57 [.ep [.sl (.calls h)]]),(5,.own 9 o.length),(11,.i (((List.length (List.replicate (Int.toNat n) (0 : Int))) : Nat) : Int)),(12,.i ((i : Nat) : Int))],[(9,⟨3,.row (.ints o)⟩)],[9,999]⟩ : St))
  (fun (x : Nat × (List Int)) => match x with | (i,o) => (i ≤ n.toNat) ∧ (o = partRows n.toNat (quietF h) i 0))
  (fun (x : Nat × (List Int)) => match x with | (i,o) => (n.toNat - i : Nat)) (0,(List.replicate (Int.toNat n) (0 : Int))) ?_ ?_ ?_
 ·exact (show (0 ≤ n.toNat) ∧ ((List.replicate (Int.toNat n) (0 : Int)) = partRows n.toNat (quietF h) 0 0) from ⟨(by first | assumption | omega | rfl | (intro _ hjj; omega) | (simp; done) | (simp; omega)),(by exact partRows_zero _ _)⟩)
 ·exact Sub.of [] (@cast ((((.int .i64 n : Value) = .int .i64 n) ∧ ((((57 : Nat) = 57) ∧ ((((.ep [.sl (.calls h)] : AV) = .ep [.sl (.calls h)]) ∧ (([] : List Nat) = [])) ∧ True)) ∧ ((((9 : Nat) = 9) ∧ (((List.length (List.replicate (Int.toNat n) (0 : Int))) = (List.length (List.replicate (Int.toNat n) (0 : Int)))) ∧ ((9 : Nat) ∈ ([9,999] : List Nat)))) ∧ (((.int .i64 (((List.length (List.replicate (Int.toNat n) (0 : Int))) : Nat) : Int) : Value) = .int .i64 (((List.length (List.replicate (Int.toNat n) (0 : Int))) : Nat) : Int)) ∧ (((.int .i64 (0 : Int) : Value) = .int .i64 ((0 : Nat) : Int)) ∧ True))))) ∧ (((((3 : Nat) = 3) ∧ (((.ints (List.replicate (Int.toNat n) (0 : Int)) : Dat) = .ints (List.replicate (Int.toNat n) (0 : Int))) ∧ ((9 : Nat) ∈ ([9,999] : List Nat)))) ∧ True) ∧ ((true = true) ∧ (true = true)))) _ (by kernel_rfl) ⟨⟨rfl,⟨rfl,⟨rfl,rfl⟩,tt⟩,⟨rfl,rfl,(by decide)⟩,rfl,(congrArg (Value.int .i64) (by first | rfl | omega | assumption | simp | simp_all)),tt⟩,⟨⟨rfl,rfl,(by decide)⟩,tt⟩,rfl,rfl⟩)
 ·rintro ⟨i,o⟩ hC0
  have hC : (i ≤ n.toNat) ∧ (o = partRows n.toNat (quietF h) i 0) := hC0
  clear hC0
  obtain ⟨hi,ho⟩ := hC
  refine W.to (⟨[(0,.i n),(1,.fn 57 [.ep [.sl (.calls h)]]),(5,.own 9 o.length),(11,.i (((List.length (List.replicate (Int.toNat n) (0 : Int))) : Nat) : Int)),(12,.i ((i : Nat) : Int))],[(9,⟨3,.row (.ints o)⟩)],[9,999]⟩) rfl ?_
  have hol : o.length = n.toNat := by rw [ho]; exact partRows_len _ _ _ _
  refine W.K cok tab56QuietAhead hnt [] [0,1,5,11,12,13] (⟨[(0,.i n),(1,.fn 57 [.ep [.sl (.calls h)]]),(5,.own 9 o.length),(11,.i (((List.length (List.replicate (Int.toNat n) (0 : Int))) : Nat) : Int)),(12,.i ((i : Nat) : Int)),(13,.b (decide (((i : Nat) : Int) < (((List.length (List.replicate (Int.toNat n) (0 : Int))) : Nat) : Int))))],[(9,⟨3,.row (.ints o)⟩)],[9,999]⟩)
   ((True ∧ True ∧ True) ∧ True) (by kernel_rfl)
   ⟨⟨tt,tt,tt⟩,tt⟩ ?_
  refine W.seq ?_
  refine W.ifP (((i : Nat) : Int) < (((List.length (List.replicate (Int.toNat n) (0 : Int))) : Nat) : Int)) (.b (decide (((i : Nat) : Int) < (((List.length (List.replicate (Int.toNat n) (0 : Int))) : Nat) : Int)))) (by kernel_rfl) rfl trivial ?_ ?_
  ·intro h13
   have h13' := h13
   simp only [List.length_append,List.length_cons,List.length_nil,List.length_take,List.length_drop,List.length_set,List.length_replicate,List.length_map] at h13'
   refine W.skip (thenQ_normal ?_)
   refine W.seq ?_
   refine W.block ?_
   refine W.K cok tab56QuietAhead hnt [] [0,1,5,6,11,12] (⟨[(0,.i n),(1,.fn 57 [.ep [.sl (.calls h)]]),(5,.own 9 o.length),(6,.i ((i : Nat) : Int)),(11,.i (((List.length (List.replicate (Int.toNat n) (0 : Int))) : Nat) : Int)),(12,.i ((i : Nat) : Int))],[(9,⟨3,.row (.ints o)⟩)],[9,999]⟩)
    (True ∧ True ∧ True) (by kernel_rfl)
    ⟨tt,tt,tt⟩ ?_
   refine W.K cok tab56QuietAhead hnt [] [0,1,5,6,11,12,15,16] (⟨[(0,.i n),(1,.fn 57 [.ep [.sl (.calls h)]]),(5,.own 9 o.length),(6,.i ((i : Nat) : Int)),(11,.i (((List.length (List.replicate (Int.toNat n) (0 : Int))) : Nat) : Int)),(12,.i ((i : Nat) : Int)),(15,.i n),(16,.i (0 : Int))],[(9,⟨3,.row (.ints o)⟩)],[9,999]⟩)
    (True ∧ True ∧ True) (by kernel_rfl)
    ⟨tt,tt,tt⟩ ?_
   refine W.block ?_
   refine W.loop (ι := Nat × (List Int)) (fun (x : Nat × (List Int)) => match x with | (k,x) => (⟨[(0,.i n),(1,.fn 57 [.ep [.sl (.calls h)]]),(5,.own 9 o.length),(6,.i ((i : Nat) : Int)),(11,.i (((List.length (List.replicate (Int.toNat n) (0 : Int))) : Nat) : Int)),(12,.i ((i : Nat) : Int)),(15,.i n),(16,.i ((k : Nat) : Int))],[(9,⟨3,.row (.ints x)⟩)],[9,999]⟩ : St))
    (fun (x : Nat × (List Int)) => match x with | (k,x) => (k ≤ n.toNat) ∧ (x = partRows n.toNat (quietF h) i k))
    (fun (x : Nat × (List Int)) => match x with | (k,x) => (n.toNat - k : Nat)) (0,o) ?_ ?_ ?_
   ·exact (show (0 ≤ n.toNat) ∧ (o = partRows n.toNat (quietF h) i 0) from ⟨(by first | assumption | omega | rfl | (intro _ hjj; omega) | (simp; done) | (simp; omega)),(by exact ho)⟩)
   ·exact Sub.of [] (@cast ((((.int .i64 n : Value) = .int .i64 n) ∧ ((((57 : Nat) = 57) ∧ ((((.ep [.sl (.calls h)] : AV) = .ep [.sl (.calls h)]) ∧ (([] : List Nat) = [])) ∧ True)) ∧ ((((9 : Nat) = 9) ∧ ((o.length = o.length) ∧ ((9 : Nat) ∈ ([9,999] : List Nat)))) ∧ (((.int .i64 ((i : Nat) : Int) : Value) = .int .i64 ((i : Nat) : Int)) ∧ (((.int .i64 (((List.length (List.replicate (Int.toNat n) (0 : Int))) : Nat) : Int) : Value) = .int .i64 (((List.length (List.replicate (Int.toNat n) (0 : Int))) : Nat) : Int)) ∧ (((.int .i64 ((i : Nat) : Int) : Value) = .int .i64 ((i : Nat) : Int)) ∧ (((.int .i64 n : Value) = .int .i64 n) ∧ (((.int .i64 (0 : Int) : Value) = .int .i64 ((0 : Nat) : Int)) ∧ True)))))))) ∧ (((((3 : Nat) = 3) ∧ (((.ints o : Dat) = .ints o) ∧ ((9 : Nat) ∈ ([9,999] : List Nat)))) ∧ True) ∧ ((true = true) ∧ (true = true)))) _ (by kernel_rfl) ⟨⟨rfl,⟨rfl,⟨rfl,rfl⟩,tt⟩,⟨rfl,rfl,(by decide)⟩,rfl,rfl,rfl,rfl,(congrArg (Value.int .i64) (by first | rfl | omega | assumption | simp | simp_all)),tt⟩,⟨⟨rfl,rfl,(by decide)⟩,tt⟩,rfl,rfl⟩)
   ·rintro ⟨k,x⟩ hC0
    have hC : (k ≤ n.toNat) ∧ (x = partRows n.toNat (quietF h) i k) := hC0
    clear hC0
    obtain ⟨hk,hx⟩ := hC
    refine W.to (⟨[(0,.i n),(1,.fn 57 [.ep [.sl (.calls h)]]),(5,.own 9 o.length),(6,.i ((i : Nat) : Int)),(11,.i (((List.length (List.replicate (Int.toNat n) (0 : Int))) : Nat) : Int)),(12,.i ((i : Nat) : Int)),(15,.i n),(16,.i ((k : Nat) : Int))],[(9,⟨3,.row (.ints x)⟩)],[9,999]⟩) rfl ?_
    have hxl : x.length = n.toNat := by rw [hx]; exact partRows_len _ _ _ _
    refine W.K cok tab56QuietAhead hnt [] [0,1,5,6,11,12,15,16,17] (⟨[(0,.i n),(1,.fn 57 [.ep [.sl (.calls h)]]),(5,.own 9 o.length),(6,.i ((i : Nat) : Int)),(11,.i (((List.length (List.replicate (Int.toNat n) (0 : Int))) : Nat) : Int)),(12,.i ((i : Nat) : Int)),(15,.i n),(16,.i ((k : Nat) : Int)),(17,.b (decide (((k : Nat) : Int) < n)))],[(9,⟨3,.row (.ints x)⟩)],[9,999]⟩)
     ((True ∧ True ∧ True) ∧ True) (by kernel_rfl)
     ⟨⟨tt,tt,tt⟩,tt⟩ ?_
    refine W.seq ?_
    refine W.ifP (((k : Nat) : Int) < n) (.b (decide (((k : Nat) : Int) < n))) (by kernel_rfl) rfl trivial ?_ ?_
    ·intro h17
     refine W.skip (thenQ_normal ?_)
     refine W.seq ?_
     refine W.block ?_
     refine W.K cok tab56QuietAhead hnt [] [0,1,5,6,7,11,12,15,16] (⟨[(0,.i n),(1,.fn 57 [.ep [.sl (.calls h)]]),(5,.own 9 o.length),(6,.i ((i : Nat) : Int)),(7,.i ((k : Nat) : Int)),(11,.i (((List.length (List.replicate (Int.toNat n) (0 : Int))) : Nat) : Int)),(12,.i ((i : Nat) : Int)),(15,.i n),(16,.i ((k : Nat) : Int))],[(9,⟨3,.row (.ints x)⟩)],[9,999]⟩)
      (True ∧ True ∧ True) (by kernel_rfl)
      ⟨tt,tt,tt⟩ ?_
     refine W.K cok tab56QuietAhead hnt [] [0,1,5,6,7,11,12,15,16,22] (⟨[(0,.i n),(1,.fn 57 [.ep [.sl (.calls h)]]),(5,.own 9 o.length),(6,.i ((i : Nat) : Int)),(7,.i ((k : Nat) : Int)),(11,.i (((List.length (List.replicate (Int.toNat n) (0 : Int))) : Nat) : Int)),(12,.i ((i : Nat) : Int)),(15,.i n),(16,.i ((k : Nat) : Int)),(22,.b (quietF h ((i : Nat) : Int).toNat ((k : Nat) : Int).toNat))],[(9,⟨3,.row (.ints x)⟩)],[9,999]⟩)
      (True ∧ True ∧ True ∧ (True ∧ (True ∧ True ∧ True ∧ True) ∧ (0 ≤ ((i : Nat) : Int) ∧ ((i : Nat) : Int) < h.length) ∧ (0 ≤ ((k : Nat) : Int) ∧ ((k : Nat) : Int) < h.length) ∧ (validHistory h = true)) ∧ True) (by kernel_rfl)
      ⟨tt,tt,tt,⟨tt,⟨tt,tt,tt,tt⟩,(by omega),(by omega),(by omega)⟩,tt⟩ ?_
     refine W.if' (quietF h ((i : Nat) : Int).toNat ((k : Nat) : Int).toNat) (.b (quietF h ((i : Nat) : Int).toNat ((k : Nat) : Int).toNat)) (by kernel_rfl) rfl trivial ?_ ?_
     ·intro h22
      refine W.L cok tab56QuietAhead hnt [] (⟨[(0,.i n),(1,.fn 57 [.ep [.sl (.calls h)]]),(5,.own 9 o.length),(6,.i ((i : Nat) : Int)),(7,.i ((k : Nat) : Int)),(11,.i (((List.length (List.replicate (Int.toNat n) (0 : Int))) : Nat) : Int)),(12,.i ((i : Nat) : Int)),(15,.i n),(16,.i ((k : Nat) : Int)),(22,.b (quietF h ((i : Nat) : Int).toNat ((k : Nat) : Int).toNat)),(23,.own 9 o.length),(24,.i ((i : Nat) : Int)),(25,.pel 9 1 i 0),(26,.i (x.getD i 0)),(27,.i ((k : Nat) : Int)),(28,.v (.int .u64 ((k : Nat) : Int))),(29,.i (shlI .i64 (1 : Int) ((k : Nat) : Int))),(30,.i (bitsI .or .i64 (x.getD i 0) (shlI .i64 (1 : Int) ((k : Nat) : Int)))),(31,.pel 9 1 i 0)],[(9,⟨3,.row (.ints (List.set x i (bitsI .or .i64 (x.getD i 0) (shlI .i64 (1 : Int) ((k : Nat) : Int)))))⟩)],[9,999]⟩)
       (True ∧ True ∧ (True ∧ True ∧ (0 ≤ ((i : Nat) : Int)) ∧ (((i : Nat) : Int) < (o.length : Int))) ∧ (True ∧ (i < x.length)) ∧ True ∧ (True ∧ (Fits .u64 ((k : Nat) : Int))) ∧ (True ∧ True ∧ (0 ≤ ((k : Nat) : Int)) ∧ (Fits .i64 (shlI .i64 (1 : Int) ((k : Nat) : Int)))) ∧ (True ∧ True ∧ True) ∧ (True ∧ True ∧ (0 ≤ ((i : Nat) : Int)) ∧ (((i : Nat) : Int) < (o.length : Int))) ∧ (True ∧ True ∧ (i < x.length)) ∧ True) (by kernel_rfl)
       ⟨tt,tt,⟨tt,tt,(by omega),(by omega)⟩,⟨tt,(by omega)⟩,tt,⟨tt,(by exact fits_u64 (by omega) (by omega))⟩,⟨tt,tt,(by omega),(by exact fits_shl (by omega))⟩,⟨tt,tt,tt⟩,⟨tt,tt,(by omega),(by omega)⟩,⟨tt,tt,(by omega)⟩,tt⟩ ?_
      refine blockQ_normal (thenQ_normal ?_)
      refine W.L cok tab56QuietAhead hnt [] (⟨[(0,.i n),(1,.fn 57 [.ep [.sl (.calls h)]]),(5,.own 9 o.length),(6,.i ((i : Nat) : Int)),(7,.i ((k : Nat) : Int)),(11,.i (((List.length (List.replicate (Int.toNat n) (0 : Int))) : Nat) : Int)),(12,.i ((i : Nat) : Int)),(15,.i n),(16,.i (((k + 1) : Nat) : Int)),(22,.b (quietF h ((i : Nat) : Int).toNat ((k : Nat) : Int).toNat)),(23,.own 9 o.length),(24,.i ((i : Nat) : Int)),(25,.pel 9 1 i 0),(26,.i (x.getD i 0)),(27,.i ((k : Nat) : Int)),(28,.v (.int .u64 ((k : Nat) : Int))),(29,.i (shlI .i64 (1 : Int) ((k : Nat) : Int))),(30,.i (bitsI .or .i64 (x.getD i 0) (shlI .i64 (1 : Int) ((k : Nat) : Int)))),(31,.pel 9 1 i 0),(32,.i (((k + 1) : Nat) : Int))],[(9,⟨3,.row (.ints (List.set x i (bitsI .or .i64 (x.getD i 0) (shlI .i64 (1 : Int) ((k : Nat) : Int)))))⟩)],[9,999]⟩)
       ((True ∧ True ∧ (Fits .i64 (((k + 1) : Nat) : Int))) ∧ True ∧ True) (by kernel_rfl)
       ⟨⟨tt,tt,(by exact fits_i64 (by omega) (by omega))⟩,tt,tt⟩ ?_
      refine thenQ_normal ?_
      refine ⟨((k + 1),(List.set x i (bitsI .or .i64 (x.getD i 0) (shlI .i64 (1 : Int) ((k : Nat) : Int))))),(show ((k + 1) ≤ n.toNat) ∧ ((List.set x i (bitsI .or .i64 (x.getD i 0) (shlI .i64 (1 : Int) ((k : Nat) : Int)))) = partRows n.toNat (quietF h) i (k + 1)) from ⟨(by first | assumption | omega | rfl | (intro _ hjj; omega) | (simp; done) | (simp; omega)),(by first | (rw [hx]; exact partRows_skip n22) | (rw [hx]; exact partRows_set (by omega) (by rw [partRows_get _ (by omega)]; exact mask_or _ (by omega) h22)))⟩),(show n.toNat - (k + 1) < n.toNat - k from (by first | omega | (simp_all; omega))),?_⟩
      exact Sub.of [] (@cast ((((.int .i64 n : Value) = .int .i64 n) ∧ ((((57 : Nat) = 57) ∧ ((((.ep [.sl (.calls h)] : AV) = .ep [.sl (.calls h)]) ∧ (([] : List Nat) = [])) ∧ True)) ∧ ((((9 : Nat) = 9) ∧ ((o.length = o.length) ∧ ((9 : Nat) ∈ ([9,999] : List Nat)))) ∧ (((.int .i64 ((i : Nat) : Int) : Value) = .int .i64 ((i : Nat) : Int)) ∧ (((.int .i64 (((List.length (List.replicate (Int.toNat n) (0 : Int))) : Nat) : Int) : Value) = .int .i64 (((List.length (List.replicate (Int.toNat n) (0 : Int))) : Nat) : Int)) ∧ (((.int .i64 ((i : Nat) : Int) : Value) = .int .i64 ((i : Nat) : Int)) ∧ (((.int .i64 n : Value) = .int .i64 n) ∧ (((.int .i64 (((k + 1) : Nat) : Int) : Value) = .int .i64 (((k + 1) : Nat) : Int)) ∧ True)))))))) ∧ (((((3 : Nat) = 3) ∧ (((.ints (List.set x i (bitsI .or .i64 (x.getD i 0) (shlI .i64 (1 : Int) ((k : Nat) : Int)))) : Dat) = .ints (List.set x i (bitsI .or .i64 (x.getD i 0) (shlI .i64 (1 : Int) ((k : Nat) : Int))))) ∧ ((9 : Nat) ∈ ([9,999] : List Nat)))) ∧ True) ∧ ((true = true) ∧ (true = true)))) _ (by kernel_rfl) ⟨⟨rfl,⟨rfl,⟨rfl,rfl⟩,tt⟩,⟨rfl,rfl,(by decide)⟩,rfl,rfl,rfl,rfl,rfl,tt⟩,⟨⟨rfl,rfl,(by decide)⟩,tt⟩,rfl,rfl⟩)
     ·intro n22
      refine W.skip (blockQ_normal (thenQ_normal ?_))
      refine W.L cok tab56QuietAhead hnt [] (⟨[(0,.i n),(1,.fn 57 [.ep [.sl (.calls h)]]),(5,.own 9 o.length),(6,.i ((i : Nat) : Int)),(7,.i ((k : Nat) : Int)),(11,.i (((List.length (List.replicate (Int.toNat n) (0 : Int))) : Nat) : Int)),(12,.i ((i : Nat) : Int)),(15,.i n),(16,.i (((k + 1) : Nat) : Int)),(22,.b (quietF h ((i : Nat) : Int).toNat ((k : Nat) : Int).toNat)),(32,.i (((k + 1) : Nat) : Int))],[(9,⟨3,.row (.ints x)⟩)],[9,999]⟩)
       ((True ∧ True ∧ (Fits .i64 (((k + 1) : Nat) : Int))) ∧ True ∧ True) (by kernel_rfl)
       ⟨⟨tt,tt,(by exact fits_i64 (by omega) (by omega))⟩,tt,tt⟩ ?_
      refine thenQ_normal ?_
      refine ⟨((k + 1),x),(show ((k + 1) ≤ n.toNat) ∧ (x = partRows n.toNat (quietF h) i (k + 1)) from ⟨(by first | assumption | omega | rfl | (intro _ hjj; omega) | (simp; done) | (simp; omega)),(by first | (rw [hx]; exact partRows_skip n22) | (rw [hx]; exact partRows_set (by omega) (by rw [partRows_get _ (by omega)]; exact mask_or _ (by omega) h22)))⟩),(show n.toNat - (k + 1) < n.toNat - k from (by first | omega | (simp_all; omega))),?_⟩
      exact Sub.of [] (@cast ((((.int .i64 n : Value) = .int .i64 n) ∧ ((((57 : Nat) = 57) ∧ ((((.ep [.sl (.calls h)] : AV) = .ep [.sl (.calls h)]) ∧ (([] : List Nat) = [])) ∧ True)) ∧ ((((9 : Nat) = 9) ∧ ((o.length = o.length) ∧ ((9 : Nat) ∈ ([9,999] : List Nat)))) ∧ (((.int .i64 ((i : Nat) : Int) : Value) = .int .i64 ((i : Nat) : Int)) ∧ (((.int .i64 (((List.length (List.replicate (Int.toNat n) (0 : Int))) : Nat) : Int) : Value) = .int .i64 (((List.length (List.replicate (Int.toNat n) (0 : Int))) : Nat) : Int)) ∧ (((.int .i64 ((i : Nat) : Int) : Value) = .int .i64 ((i : Nat) : Int)) ∧ (((.int .i64 n : Value) = .int .i64 n) ∧ (((.int .i64 (((k + 1) : Nat) : Int) : Value) = .int .i64 (((k + 1) : Nat) : Int)) ∧ True)))))))) ∧ (((((3 : Nat) = 3) ∧ (((.ints x : Dat) = .ints x) ∧ ((9 : Nat) ∈ ([9,999] : List Nat)))) ∧ True) ∧ ((true = true) ∧ (true = true)))) _ (by kernel_rfl) ⟨⟨rfl,⟨rfl,⟨rfl,rfl⟩,tt⟩,⟨rfl,rfl,(by decide)⟩,rfl,rfl,rfl,rfl,rfl,tt⟩,⟨⟨rfl,rfl,(by decide)⟩,tt⟩,rfl,rfl⟩)
    ·intro n17
     refine W.exit (thenQ_exit (thenQ_exit (blockQ_hit ?_)))
     refine blockQ_normal (thenQ_normal ?_)
     refine W.L cok tab56QuietAhead hnt [] (⟨[(0,.i n),(1,.fn 57 [.ep [.sl (.calls h)]]),(5,.own 9 o.length),(6,.i ((i : Nat) : Int)),(11,.i (((List.length (List.replicate (Int.toNat n) (0 : Int))) : Nat) : Int)),(12,.i (((i + 1) : Nat) : Int)),(15,.i n),(16,.i ((k : Nat) : Int)),(17,.b (decide (((k : Nat) : Int) < n))),(33,.i (((i + 1) : Nat) : Int))],[(9,⟨3,.row (.ints x)⟩)],[9,999]⟩)
      ((True ∧ True ∧ (Fits .i64 (((i + 1) : Nat) : Int))) ∧ True ∧ True) (by kernel_rfl)
      ⟨⟨tt,tt,(by exact fits_i64 (by omega) (by omega))⟩,tt,tt⟩ ?_
     refine thenQ_normal ?_
     refine ⟨((i + 1),x),(show ((i + 1) ≤ n.toNat) ∧ (x = partRows n.toNat (quietF h) (i + 1) 0) from ⟨(by first | assumption | omega | rfl | (intro _ hjj; omega) | (simp; done) | (simp; omega)),(by rw [hx,← partRows_next]; congr 1; omega)⟩),(show n.toNat - (i + 1) < n.toNat - i from (by first | omega | (simp_all; omega))),?_⟩
     exact Sub.of [] (@cast ((((.int .i64 n : Value) = .int .i64 n) ∧ ((((57 : Nat) = 57) ∧ ((((.ep [.sl (.calls h)] : AV) = .ep [.sl (.calls h)]) ∧ (([] : List Nat) = [])) ∧ True)) ∧ ((((9 : Nat) = 9) ∧ ((o.length = x.length) ∧ ((9 : Nat) ∈ ([9,999] : List Nat)))) ∧ (((.int .i64 (((List.length (List.replicate (Int.toNat n) (0 : Int))) : Nat) : Int) : Value) = .int .i64 (((List.length (List.replicate (Int.toNat n) (0 : Int))) : Nat) : Int)) ∧ (((.int .i64 (((i + 1) : Nat) : Int) : Value) = .int .i64 (((i + 1) : Nat) : Int)) ∧ True))))) ∧ (((((3 : Nat) = 3) ∧ (((.ints x : Dat) = .ints x) ∧ ((9 : Nat) ∈ ([9,999] : List Nat)))) ∧ True) ∧ ((true = true) ∧ (true = true)))) _ (by kernel_rfl) ⟨⟨rfl,⟨rfl,⟨rfl,rfl⟩,tt⟩,⟨rfl,(by first | rfl | omega | assumption | (symm; assumption) | simp | simp_all),(by decide)⟩,rfl,rfl,tt⟩,⟨⟨rfl,rfl,(by decide)⟩,tt⟩,rfl,rfl⟩)
  ·intro n13
   have n13' := n13
   simp only [List.length_append,List.length_cons,List.length_nil,List.length_take,List.length_drop,List.length_set,List.length_replicate,List.length_map] at n13'
   refine W.exit (thenQ_exit (thenQ_exit (blockQ_hit ?_)))
   refine thenQ_normal ?_
   refine W.K cok tab56QuietAhead hnt [] [4] (⟨[(4,.own 9 o.length)],[(9,⟨3,.row (.ints o)⟩)],[9,999]⟩)
    (True ∧ True ∧ True) (by kernel_rfl)
    ⟨tt,tt,tt⟩ ?_
   refine W.subS [] (⟨[(4,.sl (.ints o))],[],[999]⟩) (@cast ((((o.length = o.length) ∧ (((.ints o : Dat) = .ints o) ∧ ((9 : Nat) ∉ ([] : List Nat)))) ∧ True) ∧ (True ∧ ((true = true) ∧ (true = true)))) _ (by kernel_rfl) ⟨⟨⟨rfl,rfl,(by decide)⟩,tt⟩,tt,rfl,rfl⟩) ?_
   refine W.ret ?_
   exact endQ_ret (.sl (.ints o)) (by kernel_rfl) (@cast ((.ints o : Dat) = .ints (rowsOf n.toNat (quietF h))) _ (by kernel_rfl) (congrArg Dat.ints (by rw [ho,← partRows_end]; congr 1; omega)))
theorem ent56QuietAhead : Entr prog 56 := ⟨_,func56,rfl,by decide⟩
end Go.Proofs.Try

set_option linter.unusedSimpArgs false
set_option linter.unusedVariables false
namespace Go.Proofs.Try
open Go.Ab Go.RowKit
def fs38 : FnS := fnS [.s .calls] [.calls] (fun _ (h,_) => (.sl (.ints (quietAhead h)),[],True))
abbrev T38 : Tab := lk [(26,fs26),(56,fs56QuietAhead)]
theorem tab38 : TabOK prog T38 := (TabOK.cons ok26 ent26 (TabOK.cons ok56QuietAhead ent56QuietAhead TabOK.nil))
set_option maxRecDepth 100000 in
set_option maxHeartbeats 1000000 in
theorem ok38 : FnOK prog 38 fs38 := by
 refine FnOK.mk cok func38 rfl rfl rfl ?_
 rintro fl ⟨(h : List CallD),_⟩ hpre F hnt0 _
 have hnt : F.nt = 10 := hnt0.trans ntmps38
 clear hpre
 refine W.to (⟨[(0,.sl (.calls h))],[],[999]⟩) rfl ?_
 refine W.lenOf 0 (.calls h) (by kernel_rfl) ?_
 intro hl_h; replace hl_h : List.length h ≤ 9223372036854775807 := hl_h
 refine W.K cok tab38 hnt [] [1] (⟨[(1,.ptr 1 0)],[(1,⟨26,.fix [.sl (.calls h)]⟩)],[1,999]⟩)
  (True ∧ True ∧ True) (by kernel_rfl)
  ⟨tt,tt,tt⟩ ?_
 refine W.subS [] (⟨[(1,.ep [.sl (.calls h)])],[],[999]⟩) (@cast ((((([.sl (.calls h)] : List AV) = [.sl (.calls h)]) ∧ ((([] : List Nat) = []) ∧ ((1 : Nat) ∉ ([] : List Nat)))) ∧ True) ∧ (True ∧ ((true = true) ∧ (true = true)))) _ (by kernel_rfl) ⟨⟨⟨rfl,rfl,(by decide)⟩,tt⟩,tt,rfl,rfl⟩) ?_
 refine W.seq ?_
 refine W.K cok tab38 hnt [] [1,5] (⟨[(1,.ep [.sl (.calls h)]),(5,.b (!(validHistory h)))],[],[999]⟩)
  (True ∧ (True ∧ (True ∧ True) ∧ True) ∧ True ∧ True) (by kernel_rfl)
  ⟨tt,⟨tt,⟨tt,tt⟩,tt⟩,tt,tt⟩ ?_
 refine W.if' (!(validHistory h)) (.b (!(validHistory h))) (by kernel_rfl) rfl trivial ?_ ?_
 ·intro h5
  refine W.K cok tab38 hnt [] [2] (⟨[(2,.v (.slice none 0 0))],[],[999]⟩)
   (True ∧ True) (by kernel_rfl)
   ⟨tt,tt⟩ ?_
  refine W.ret (thenQ_ret ?_)
  exact endQ_ret (.v (.slice none 0 0)) (by kernel_rfl) (@cast (((Value.slice none 0 0 : Value) = .slice none 0 0) ∧ ((Dat.ints (quietAhead h)).len = 0)) _ (by kernel_rfl) ⟨rfl,(by show List.length (quietAhead h) = 0; unfold quietAhead; rw [not_f h5]; rfl)⟩)
 ·intro n5
  refine W.skip (thenQ_normal ?_)
  refine W.K cok tab38 hnt [] [2] (⟨[(2,.sl (.ints (rowsOf (h.length : Int).toNat (quietF h))))],[],[999]⟩)
   (True ∧ True ∧ True ∧ (True ∧ (True ∧ True ∧ True) ∧ (0 ≤ (h.length : Int) ∧ (h.length : Int) ≤ 60 ∧ (h.length : Int) = h.length) ∧ (validHistory h = true)) ∧ True ∧ True) (by kernel_rfl)
   ⟨tt,tt,tt,⟨tt,⟨tt,tt,tt⟩,(by have hv := (valid_iff.1 (not_g n5)).1; omega),(by exact not_g n5)⟩,tt,tt⟩ ?_
  refine W.ret ?_
  exact endQ_ret (.sl (.ints (rowsOf (h.length : Int).toNat (quietF h)))) (by kernel_rfl) (@cast ((.ints (rowsOf (h.length : Int).toNat (quietF h)) : Dat) = .ints (quietAhead h)) _ (by kernel_rfl) (congrArg Dat.ints (by unfold quietAhead; rw [not_g n5]; rfl)))
theorem ent38 : Entr prog 38 := ⟨_,func38,rfl,by decide⟩
end Go.Proofs.Try

namespace Go.Ab
open Go.RowKit Go.Shelf Go.Proofs
theorem elem_ints (l : List Int) (k : Nat) : (Dat.ints l).elem k = [.v (.int .i64 (l.getD k 0))] := rfl
theorem delete_core {P : Program} {ρ : Ren} (L : Lays2.n23 P ρ) {t : TypeId} (l : List Int) (i j : Int) (hi0 : 0 ≤ i) (hij : i < j) (hjl : j ≤ ((l.length : Nat) : Int)) (w : World) (T : Nat → Prop) (vals : List Value) (bC : Option Nat)
  (hargs' : ArgsRep w T [.c .ints t, .o, .o] [.sl (.ints l), .v (.int .i64 i), .v (.int .i64 j)] vals bC) :
  Calls P (ρ.f 23) vals.toArray w fun en w' => ∃ y β', en = .returned y ∧ PostF w T bC w' β' (.own 0 (List.length (l.take i.toNat ++ l.drop j.toNat))) [(t, .ints (l.take i.toNat ++ l.drop j.toNat))] y := by
  match vals, hargs' with
  | [y0, y1, y2], h =>
   simp only [ArgsRep] at h
   obtain ⟨⟨d, hd, _, hc⟩, h1, h2, _⟩ := h
   cases hd
   simp only [Rep] at h1 h2
   subst h1
   subst h2
   rcases hc with ⟨_, hz, _⟩ | ⟨g, cap, cur, rfl, rfl, hgw, hTg, hcell, hlen, hcap, hsz, hrow⟩
   ·simp only [Dat.len] at hz; omega
   ·have hm : maxLen = 9223372036854775807 := by decide
    have hsz' : cur.size = cap := by simpa [Dat.esz] using hsz
    have hlen' : l.length ≤ cap := hlen
    have hH : Sort.Holds (Value.int .i64) w g 0 l.toArray := by
     intro k hk
     have hk' : k < l.length := by simpa using hk
     obtain ⟨y, hy1, hy2⟩ := hrow k 0 _ hk' (by rw [elem_ints]; rfl)
     simp only [Rep] at hy2
     subst hy2
     have e1 : cur[k]? = some (.int .i64 (l.getD k 0)) := by simpa [Dat.esz] using hy1
     constructor
     ·unfold World.cell?
      simp only [hcell, Nat.zero_add]
      rw [if_neg (by simp), e1]
      simp [List.getD_eq_getElem?_getD, hk']
     ·unfold World.frozen?
      simp only [hcell]
      simp
    have hcall := Any.slices_Delete_int L g 0 cap i.toNat j.toNat l w hH hlen' (by omega) (by omega) (by omega)
    rw [show ((i.toNat : Nat) : Int) = i by omega, show ((j.toNat : Nat) : Int) = j by omega] at hcall
    refine hcall.mono ?_
    rintro e w' ⟨rfl, q, rfl⟩
    let res := l.take i.toNat ++ l.drop j.toNat
    have hrl : res.length = l.length - (j.toNat - i.toNat) := by
     simp only [res, List.length_append, List.length_take, List.length_drop]; omega
    let all := (l.take i.toNat ++ l.drop j.toNat ++ List.replicate (j.toNat - i.toNat) 0)
    have hal : all.length = l.length := by
     simp only [all, List.length_append, List.length_take, List.length_drop, List.length_replicate]; omega
    have hcell' : (Sort.putRow (Value.int .i64) (Sort.ahead w q) g 0 all.toArray).heap[g]? = some (.cells (Sort.putCells (Value.int .i64) 0 all.toArray cur) t (0, 0)) := by
     show (w.heap.modify g _)[g]? = _
     rw [Array.getElem?_modify, if_pos rfl, hcell]
     rfl
    refine ⟨_, fun k => if k = 0 then some (.blk g cap) else none, rfl, ?_⟩
    refine ⟨rfl, rfl, rfl, ?_, ?_, ?_, ?_, ?_, ?_, ?_⟩
    ·simp [Sort.ahead]
    ·intro b hb hne
     show (w.heap.modify g _)[b]? = _
     rw [Array.getElem?_modify, if_neg (fun hh => hne (by rw [hh]))]
    ·simp only [Rep, OwnRep]
     exact .inr ⟨g, cap, rfl, (show res.length ≤ cap by omega), by rw [← hrl]⟩
    ·intro k c hk
     cases k with
     | succ k => simp [rowsHeap] at hk
     | zero =>
      simp only [rowsHeap, List.getElem?_cons_zero, Option.map_some, Option.some.injEq] at hk
      subst hk
      simp only [LocOK, CellsOK]
      refine .inr ⟨g, cap, _, rfl, hcell', ?_, hcap, ?_, ?_⟩
      ·show res.length ≤ cap
       omega
      ·simp [Sort.putCells, hsz', Dat.esz]
      ·intro k jj x hk hx
       have hk' : k < res.length := hk
       rw [elem_ints] at hx
       cases jj with
       | succ jj => simp at hx
       | zero =>
        simp only [List.getElem?_cons_zero, Option.some.injEq] at hx
        subst hx
        refine ⟨.int .i64 (res.getD k 0), ?_, by simp only [Rep]; rfl⟩
        have hkc : k < cur.size := by omega
        have hka : k < all.length := by omega
        simp only [Dat.esz, Nat.mul_one, Nat.add_zero, Sort.putCells, Array.getElem?_mapIdx]
        rw [Array.getElem?_eq_getElem hkc, Option.map_some, if_pos (by constructor <;> simp <;> omega)]
        have e2 : all.getD k 0 = res.getD k 0 := by
         simp only [List.getD_eq_getElem?_getD]
         show (res ++ _)[k]?.getD 0 = _
         rw [List.getElem?_append_left hk']
        rw [← e2]
        simp [List.getD_eq_getElem?_getD, hka]
    ·intro k k' c c' g1 cap1 cap2 e1 e2 _ _
     cases k with
     | succ k => simp [rowsHeap] at e1
     | zero =>
      cases k' with
      | succ k' => simp [rowsHeap] at e2
      | zero => rfl
    ·intro k c g1 cap1 _ hb
     by_cases hk : k = 0
     ·subst hk
      simp only [if_true, Option.some.injEq, Bl.blk.injEq] at hb
      left; rw [hb.1]
     ·rw [if_neg hk] at hb; cases hb
    ·intro k p hp
     by_cases hk : k = 0
     ·subst hk; simp
     ·rw [if_neg hk] at hp; cases hp
theorem delete_ok {P : Program} {ρ : Ren} (L : Lays2.n23 P ρ) {t : TypeId} :
  FnOK P (ρ.f 23) (fnS [.c .ints t, .o, .o] [.ints, .int, .int] (fun _ (l, i, j, _) => (.own 0 (List.length (l.take i.toNat ++ l.drop j.toNat)), [(t, .ints (l.take i.toNat ++ l.drop j.toNat))], 0 ≤ i ∧ i < j ∧ j ≤ ((List.length l : Nat) : Int)))) := by
 intro fl args r rows φ hg hφ w T vals bC hT hargs
 simp only [fnS] at hg
 split at hg
 ·rename_i a ha
  simp only [Option.some.injEq] at hg
  have hx := decL_encL ha
  subst hx
  obtain ⟨l, i, j, u⟩ := a
  simp only [Prod.mk.injEq] at hg
  obtain ⟨rfl, rfl, rfl⟩ := hg
  exact delete_core L l i j hφ.1 hφ.2.1 hφ.2.2 w T vals bC hargs
 ·cases hg
end Go.Ab
