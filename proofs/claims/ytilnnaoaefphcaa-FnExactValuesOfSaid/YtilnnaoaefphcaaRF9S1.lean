import Derived.Test.YtilnnaoaefphcaaRF9S0
set_option linter.unusedSimpArgs false
set_option linter.unusedVariables false
namespace Go.Proofs.Try
open Go.Ab Go.RowKit
def fs37 : FnS := fnS [.s .marks] [.marks] (fun _ (h,_) => (.own 0 h.length,[(50,.marks h)],(h.length ≤ 1048576)))
abbrev T37 : Tab := lk [(60,fs60)]
theorem tab37 : TabOK prog T37 := (TabOK.cons ok60 ent60 TabOK.nil)
set_option maxRecDepth 100000 in
set_option maxHeartbeats 1000000 in
theorem ok37 : FnOK prog 37 fs37 := by
 refine FnOK.mk cok func37 rfl rfl rfl ?_
 rintro fl ⟨(h : List MarkD),_⟩ hpre F hnt0 _
 have hnt : F.nt = 23 := hnt0.trans ntmps37
 replace hpre : (h.length ≤ 1048576) := hpre
 have hn := hpre
 refine W.to (⟨[(0,.sl (.marks h))],[],[999]⟩) rfl ?_
 refine W.lenOf 0 (.marks h) (by kernel_rfl) ?_
 intro hl_h; replace hl_h : List.length h ≤ 9223372036854775807 := hl_h
 refine Kk cok tab37 hnt [] [0] (⟨[(0,.sl (.marks h))],[],[999]⟩)
  (True ∧ True)
  ⟨tt,tt⟩ ?_
 refine Kk cok tab37 hnt [7] [0,3] (⟨[(0,.sl (.marks h)),(3,.own 7 (List.length (List.replicate h.length (⟨0,0,0,false⟩ : MarkD))))],[(7,⟨50,.row (.marks (List.replicate h.length (⟨0,0,0,false⟩ : MarkD)))⟩)],[7,999]⟩)
  (True ∧ True ∧ (True ∧ True ∧ ((h.length : Int) = (h.length : Int)) ∧ (0 ≤ (h.length : Int)) ∧ ((h.length : Int) * 32 ≤ 281474976710656)) ∧ True ∧ True)
  ⟨tt,tt,⟨tt,tt,rfl,(by omega),(by omega)⟩,tt,tt⟩ ?_
 refine W.seq ?_
 refine Kk cok tab37 hnt [] [0,3,4] (⟨[(0,.sl (.marks h)),(3,.own 7 (List.length (List.replicate h.length (⟨0,0,0,false⟩ : MarkD)))),(4,.i (0 : Int))],[(7,⟨50,.row (.marks (List.replicate h.length (⟨0,0,0,false⟩ : MarkD)))⟩)],[7,999]⟩)
  (True ∧ True)
  ⟨tt,tt⟩ ?_
 refine W.block ?_
 refine W.loop (ι := Nat × (List MarkD)) (fun (x : Nat × (List MarkD)) => match x with | (i,o) => (⟨[(0,.sl (.marks h)),(3,.own 7 o.length),(4,.i ((i : Nat) : Int))],[(7,⟨50,.row (.marks o)⟩)],[7,999]⟩ : St))
  (fun (x : Nat × (List MarkD)) => match x with | (i,o) => (i ≤ h.length) ∧ (o = toUp default h i))
  (fun (x : Nat × (List MarkD)) => match x with | (i,o) => (h.length - i : Nat)) (0,(List.replicate h.length (⟨0,0,0,false⟩ : MarkD))) ?_ ?_ ?_
 ·exact (show (0 ≤ h.length) ∧ ((List.replicate h.length (⟨0,0,0,false⟩ : MarkD)) = toUp default h 0) from ⟨(by first | assumption | omega | rfl | (intro _ hjj; omega) | (simp; done) | (simp; omega)),(by exact toUp_zero _ _)⟩)
 ·exact Sub.of [] (@cast (((Sd (.marks h)) ∧ (((7 : Nat) = 7) ∧ ((List.length (List.replicate h.length (⟨0,0,0,false⟩ : MarkD))) = (List.length (List.replicate h.length (⟨0,0,0,false⟩ : MarkD)))) ∧ ((7 : Nat) ∈ ([7,999] : List Nat))) ∧ ((.int .i64 (0 : Int) : Value) = .int .i64 ((0 : Nat) : Int)) ∧ True) ∧ ((((50 : Nat) = 50) ∧ (Sd (.marks (List.replicate h.length (⟨0,0,0,false⟩ : MarkD)))) ∧ ((7 : Nat) ∈ ([7,999] : List Nat))) ∧ True) ∧ (true = true) ∧ (true = true)) _ (by kernel_rfl) ⟨⟨rfl,⟨rfl,rfl,(by decide)⟩,(congrArg (Value.int .i64) (by first | rfl | omega | assumption | simp | simp_all)),tt⟩,⟨⟨rfl,rfl,(by decide)⟩,tt⟩,rfl,rfl⟩)
 ·rintro ⟨i,o⟩ hC0
  have hC : (i ≤ h.length) ∧ (o = toUp default h i) := hC0
  clear hC0
  obtain ⟨hi,ho⟩ := hC
  refine W.to (⟨[(0,.sl (.marks h)),(3,.own 7 o.length),(4,.i ((i : Nat) : Int))],[(7,⟨50,.row (.marks o)⟩)],[7,999]⟩) rfl ?_
  have hol : o.length = h.length := by rw [ho]; exact toUp_len _ _ hi
  refine W.seq ?_
  refine Kk cok tab37 hnt [] [0,3,4,11] (⟨[(0,.sl (.marks h)),(3,.own 7 o.length),(4,.i ((i : Nat) : Int)),(11,.b (decide (((i : Nat) : Int) < (h.length : Int))))],[(7,⟨50,.row (.marks o)⟩)],[7,999]⟩)
   (True ∧ True ∧ True ∧ (True ∧ True ∧ True) ∧ True)
   ⟨tt,tt,tt,⟨tt,tt,tt⟩,tt⟩ ?_
  refine W.ifP (((i : Nat) : Int) < (h.length : Int)) (.b (decide (((i : Nat) : Int) < (h.length : Int)))) (by kernel_rfl) rfl trivial ?_ ?_
  ·intro h11
   refine W.skip (thenQ_normal ?_)
   refine W.seq ?_
   refine W.block ?_
   refine Lk cok tab37 hnt [] ((fun (Z1:Bool)=>(⟨[(0,.sl (.marks h)),(3,.own 7 o.length),(4,.i ((i : Nat) : Int)),(11,.b (decide (((i : Nat) : Int) < (h.length : Int)))),(14,.own 7 o.length),(15,.i ((i : Nat) : Int)),(16,.sl (.marks h)),(17,.i ((i : Nat) : Int)),(18,.ep [.i ((h.getD i default).value),.i ((h.getD i default).proc),.i ((h.getD i default).number),.b Z1]),(19,.agg [.i ((h.getD i default).value),.i ((h.getD i default).proc),.i ((h.getD i default).number),.b Z1]),(20,.agg [.i ((h.getD i default).value),.i ((h.getD i default).proc),.i ((h.getD i default).number),.b Z1]),(21,.pel 7 4 i 0)],[(7,⟨50,.row (.marks (List.set o i (h.getD i default)))⟩)],[7,999]⟩:St)) ((h.getD i default).gone))
    (True ∧ True ∧ True ∧ True ∧ (True ∧ True ∧ (0 ≤ ((i : Nat) : Int)) ∧ (((i : Nat) : Int) < (h.length : Int))) ∧ True ∧ (True ∧ (True ∧ True) ∧ True) ∧ (True ∧ True ∧ (0 ≤ ((i : Nat) : Int)) ∧ (((i : Nat) : Int) < (o.length : Int))) ∧ (True ∧ True ∧ (i < o.length)) ∧ True)
    ⟨tt,tt,tt,tt,⟨tt,tt,(by omega),(by omega)⟩,tt,⟨tt,⟨tt,tt⟩,tt⟩,⟨tt,tt,(by omega),(by omega)⟩,⟨tt,tt,(by omega)⟩,tt⟩ ?_
   refine blockQ_normal (thenQ_normal ?_)
   refine Lk cok tab37 hnt [] ((fun (Z1:Bool)=>(⟨[(0,.sl (.marks h)),(3,.own 7 o.length),(4,.i (((i + 1) : Nat) : Int)),(11,.b (decide (((i : Nat) : Int) < (h.length : Int)))),(12,.i ((i : Nat) : Int)),(13,.i (((i + 1) : Nat) : Int)),(14,.own 7 o.length),(15,.i ((i : Nat) : Int)),(16,.sl (.marks h)),(17,.i ((i : Nat) : Int)),(18,.ep [.i ((h.getD i default).value),.i ((h.getD i default).proc),.i ((h.getD i default).number),.b Z1]),(19,.agg [.i ((h.getD i default).value),.i ((h.getD i default).proc),.i ((h.getD i default).number),.b Z1]),(20,.agg [.i ((h.getD i default).value),.i ((h.getD i default).proc),.i ((h.getD i default).number),.b Z1]),(21,.pel 7 4 i 0)],[(7,⟨50,.row (.marks (List.set o i (h.getD i default)))⟩)],[7,999]⟩:St)) ((h.getD i default).gone))
    (True ∧ (True ∧ True ∧ (Fits .i64 (((i + 1) : Nat) : Int))) ∧ True ∧ True)
    ⟨tt,⟨tt,tt,(by exact fits_i64 (by omega) (by omega))⟩,tt,tt⟩ ?_
   refine thenQ_normal ?_
   refine ⟨((i + 1),(List.set o i (h.getD i default))),(show ((i + 1) ≤ h.length) ∧ ((List.set o i (h.getD i default)) = toUp default h (i + 1)) from ⟨(by first | assumption | omega | rfl | (intro _ hjj; omega) | (simp; done) | (simp; omega)),(by exact toUp_step ho (by omega))⟩),(show h.length - (i + 1) < h.length - i from (by first | omega | (simp_all; omega))),?_⟩
   exact Sub.of [] (@cast (((Sd (.marks h)) ∧ (((7 : Nat) = 7) ∧ (o.length = (List.length (List.set o i (h.getD i default)))) ∧ ((7 : Nat) ∈ ([7,999] : List Nat))) ∧ (Si (((i + 1) : Nat) : Int)) ∧ True) ∧ ((((50 : Nat) = 50) ∧ (Sd (.marks (List.set o i (h.getD i default)))) ∧ ((7 : Nat) ∈ ([7,999] : List Nat))) ∧ True) ∧ (true = true) ∧ (true = true)) _ (by kernel_rfl) ⟨⟨rfl,⟨rfl,(by first | rfl | omega | assumption | (symm; assumption) | simp | simp_all),(by decide)⟩,rfl,tt⟩,⟨⟨rfl,rfl,(by decide)⟩,tt⟩,rfl,rfl⟩)
  ·intro n11
   refine W.exit (thenQ_exit (thenQ_exit (blockQ_hit ?_)))
   refine thenQ_normal ?_
   refine Kk cok tab37 hnt [] [2] (⟨[(2,.own 7 o.length)],[(7,⟨50,.row (.marks o)⟩)],[7,999]⟩)
    (True ∧ True ∧ True)
    ⟨tt,tt,tt⟩ ?_
   refine W.ret ?_
   exact endQ_rows [(0,7)] (.own 7 o.length) (by kernel_rfl) (@cast (((7 : Nat) = 7) ∧ (o.length = h.length) ∧ ((0 : Nat) ∈ ([0] : List Nat))) _ (by kernel_rfl) ⟨rfl,(by first | rfl | omega | assumption | (symm; assumption) | (exact congrArg List.length (by exact toUp_all ho (by omega))) | (exact toUp_all ho (by omega); done) | simp | simp_all),(by decide)⟩) (@cast ((((50 : Nat) = 50) ∧ ((.marks o : Dat) = .marks h) ∧ ((0 : Nat) ∈ ([0] : List Nat))) ∧ True) _ (by kernel_rfl) ⟨⟨rfl,(congrArg Dat.marks (by exact toUp_all ho (by omega))),(by decide)⟩,tt⟩) (by kernel_rfl)
theorem ent37 : Entr prog 37 := ⟨_,func37,rfl,by decide⟩
end Go.Proofs.Try

set_option linter.unusedSimpArgs false
set_option linter.unusedVariables false
namespace Go.Proofs.Try
open Go.Ab Go.RowKit
def fs12 : FnS := fnS [.a [some .ints,some .ints,none,none,none,some .marks]] [.copy] (fun fl (c,_) => bif fl then (.agg [.own 0 (List.length c.up),.own 1 (List.length c.down),.i c.value,.i c.time,.i c.proc,.own 2 (List.length c.marks)],[(3,.ints c.up),(3,.ints c.down),(50,.marks c.marks)],(c.up.length ≤ 1048576 ∧ c.down.length ≤ 1048576 ∧ c.marks.length ≤ 1048576)) else (.agg (cC c),[],(c.up.length ≤ 1048576 ∧ c.down.length ≤ 1048576 ∧ c.marks.length ≤ 1048576)))
abbrev T12 : Tab := lk [(36,fs36),(37,fs37)]
theorem tab12 : TabOK prog T12 := (TabOK.cons ok36 ent36 (TabOK.cons ok37 ent37 TabOK.nil))
set_option maxRecDepth 100000 in
set_option maxHeartbeats 1000000 in
theorem ok12 : FnOK prog 12 fs12 := by
 refine FnOK.mk cok func12 rfl rfl rfl ?_
 rintro fl ⟨(c : CopyD),_⟩ hpre F hnt0 _
 have hnt : F.nt = 26 := hnt0.trans ntmps12
 replace hpre : (c.up.length ≤ 1048576 ∧ c.down.length ≤ 1048576 ∧ c.marks.length ≤ 1048576) := by cases fl <;> exact hpre
 have hs := hpre
 refine W.to (⟨[(0,.agg (cC c))],[],[999]⟩) rfl ?_
 refine W.lenA 0 0 (cC c) (.ints c.up) (by kernel_rfl) (by kernel_rfl) ?_
 intro hl_c_up; replace hl_c_up : List.length c.up ≤ 9223372036854775807 := hl_c_up
 refine W.lenA 0 1 (cC c) (.ints c.down) (by kernel_rfl) (by kernel_rfl) ?_
 intro hl_c_down; replace hl_c_down : List.length c.down ≤ 9223372036854775807 := hl_c_down
 refine W.lenA 0 5 (cC c) (.marks c.marks) (by kernel_rfl) (by kernel_rfl) ?_
 intro hl_c_marks; replace hl_c_marks : List.length c.marks ≤ 9223372036854775807 := hl_c_marks
 refine Kk cok tab12 hnt [] [1,2] (⟨[(1,.ptr 1 0),(2,.ptr 2 0)],[(1,⟨25,.fix (cC c)⟩),(2,⟨29,.fix [.v (.slice none 0 0),.v (.slice none 0 0),.i (0 : Int),.i (0 : Int),.i (0 : Int),.v (.slice none 0 0)]⟩)],[2,1,999]⟩)
  (True ∧ True ∧ True)
  ⟨tt,tt,tt⟩ ?_
 refine Kk cok tab12 hnt [] [1,2,3] (⟨[(1,.ptr 1 0),(2,.ptr 2 0),(3,.ptr 3 0)],[(1,⟨25,.fix (cC c)⟩),(2,⟨29,.fix [.v (.slice none 0 0),.v (.slice none 0 0),.i (0 : Int),.i (0 : Int),.i (0 : Int),.v (.slice none 0 0)]⟩),(3,⟨29,.fix [.v (.slice none 0 0),.v (.slice none 0 0),.i (0 : Int),.i (0 : Int),.i (0 : Int),.v (.slice none 0 0)]⟩)],[3,2,1,999]⟩)
  (True ∧ True)
  ⟨tt,tt⟩ ?_
 refine Kk cok tab12 hnt [6] [1,2,3] (⟨[(1,.ptr 1 0),(2,.ptr 2 0),(3,.ptr 3 0)],[(1,⟨25,.fix (cC c)⟩),(2,⟨29,.fix [.v (.slice none 0 0),.v (.slice none 0 0),.i (0 : Int),.i (0 : Int),.i (0 : Int),.v (.slice none 0 0)]⟩),(3,⟨29,.fix [.own 6 (List.length c.up),.v (.slice none 0 0),.i (0 : Int),.i (0 : Int),.i (0 : Int),.v (.slice none 0 0)]⟩),(6,⟨3,.row (.ints c.up)⟩)],[6,3,2,1,999]⟩)
  (True ∧ True ∧ (True ∧ (True ∧ True) ∧ (c.up.length ≤ 1048576)) ∧ True ∧ (True ∧ True) ∧ True)
  ⟨tt,tt,⟨tt,⟨tt,tt⟩,(by omega)⟩,tt,⟨tt,tt⟩,tt⟩ ?_
 refine Kk cok tab12 hnt [10] [1,2,3] (⟨[(1,.ptr 1 0),(2,.ptr 2 0),(3,.ptr 3 0)],[(1,⟨25,.fix (cC c)⟩),(2,⟨29,.fix [.v (.slice none 0 0),.v (.slice none 0 0),.i (0 : Int),.i (0 : Int),.i (0 : Int),.v (.slice none 0 0)]⟩),(3,⟨29,.fix [.own 6 (List.length c.up),.own 10 (List.length c.down),.i (0 : Int),.i (0 : Int),.i (0 : Int),.v (.slice none 0 0)]⟩),(6,⟨3,.row (.ints c.up)⟩),(10,⟨3,.row (.ints c.down)⟩)],[10,6,3,2,1,999]⟩)
  (True ∧ True ∧ (True ∧ (True ∧ True) ∧ (c.down.length ≤ 1048576)) ∧ True ∧ (True ∧ True) ∧ True)
  ⟨tt,tt,⟨tt,⟨tt,tt⟩,(by omega)⟩,tt,⟨tt,tt⟩,tt⟩ ?_
 refine Kk cok tab12 hnt [] [1,2,3] (⟨[(1,.ptr 1 0),(2,.ptr 2 0),(3,.ptr 3 0)],[(1,⟨25,.fix (cC c)⟩),(2,⟨29,.fix [.v (.slice none 0 0),.v (.slice none 0 0),.i (0 : Int),.i (0 : Int),.i (0 : Int),.v (.slice none 0 0)]⟩),(3,⟨29,.fix [.own 6 (List.length c.up),.own 10 (List.length c.down),.i c.value,.i (0 : Int),.i (0 : Int),.v (.slice none 0 0)]⟩),(6,⟨3,.row (.ints c.up)⟩),(10,⟨3,.row (.ints c.down)⟩)],[10,6,3,2,1,999]⟩)
  (True ∧ True ∧ True ∧ (True ∧ True) ∧ True)
  ⟨tt,tt,tt,⟨tt,tt⟩,tt⟩ ?_
 refine Kk cok tab12 hnt [] [1,2,3] (⟨[(1,.ptr 1 0),(2,.ptr 2 0),(3,.ptr 3 0)],[(1,⟨25,.fix (cC c)⟩),(2,⟨29,.fix [.v (.slice none 0 0),.v (.slice none 0 0),.i (0 : Int),.i (0 : Int),.i (0 : Int),.v (.slice none 0 0)]⟩),(3,⟨29,.fix [.own 6 (List.length c.up),.own 10 (List.length c.down),.i c.value,.i c.time,.i (0 : Int),.v (.slice none 0 0)]⟩),(6,⟨3,.row (.ints c.up)⟩),(10,⟨3,.row (.ints c.down)⟩)],[10,6,3,2,1,999]⟩)
  (True ∧ True ∧ True ∧ (True ∧ True) ∧ True)
  ⟨tt,tt,tt,⟨tt,tt⟩,tt⟩ ?_
 refine Kk cok tab12 hnt [] [1,2,3] (⟨[(1,.ptr 1 0),(2,.ptr 2 0),(3,.ptr 3 0)],[(1,⟨25,.fix (cC c)⟩),(2,⟨29,.fix [.v (.slice none 0 0),.v (.slice none 0 0),.i (0 : Int),.i (0 : Int),.i (0 : Int),.v (.slice none 0 0)]⟩),(3,⟨29,.fix [.own 6 (List.length c.up),.own 10 (List.length c.down),.i c.value,.i c.time,.i c.proc,.v (.slice none 0 0)]⟩),(6,⟨3,.row (.ints c.up)⟩),(10,⟨3,.row (.ints c.down)⟩)],[10,6,3,2,1,999]⟩)
  (True ∧ True ∧ True ∧ (True ∧ True) ∧ True)
  ⟨tt,tt,tt,⟨tt,tt⟩,tt⟩ ?_
 refine Kk cok tab12 hnt [23] [2,3] (⟨[(2,.ptr 2 0),(3,.ptr 3 0)],[(1,⟨25,.fix (cC c)⟩),(2,⟨29,.fix [.v (.slice none 0 0),.v (.slice none 0 0),.i (0 : Int),.i (0 : Int),.i (0 : Int),.v (.slice none 0 0)]⟩),(3,⟨29,.fix [.own 6 (List.length c.up),.own 10 (List.length c.down),.i c.value,.i c.time,.i c.proc,.own 23 (List.length c.marks)]⟩),(6,⟨3,.row (.ints c.up)⟩),(10,⟨3,.row (.ints c.down)⟩),(23,⟨50,.row (.marks c.marks)⟩)],[23,10,6,3,2,1,999]⟩)
  (True ∧ True ∧ (True ∧ (True ∧ True) ∧ (c.marks.length ≤ 1048576)) ∧ True ∧ (True ∧ True) ∧ True)
  ⟨tt,tt,⟨tt,⟨tt,tt⟩,(by omega)⟩,tt,⟨tt,tt⟩,tt⟩ ?_
 refine Kk cok tab12 hnt [] [2] (⟨[(2,.ptr 2 0)],[(1,⟨25,.fix (cC c)⟩),(2,⟨29,.fix [.own 6 (List.length c.up),.own 10 (List.length c.down),.i c.value,.i c.time,.i c.proc,.own 23 (List.length c.marks)]⟩),(3,⟨29,.fix [.own 6 (List.length c.up),.own 10 (List.length c.down),.i c.value,.i c.time,.i c.proc,.own 23 (List.length c.marks)]⟩),(6,⟨3,.row (.ints c.up)⟩),(10,⟨3,.row (.ints c.down)⟩),(23,⟨50,.row (.marks c.marks)⟩)],[23,10,6,3,2,1,999]⟩)
  (True ∧ (True ∧ True) ∧ True)
  ⟨tt,⟨tt,tt⟩,tt⟩ ?_
 refine W.ret ?_
 cases fl
 case false =>
  exact endQ_ret (.agg [.own 6 (List.length c.up),.own 10 (List.length c.down),.i c.value,.i c.time,.i c.proc,.own 23 (List.length c.marks)]) (by kernel_rfl) (@cast ((((List.length c.up) = (List.length c.up)) ∧ (Sd (.ints c.up)) ∧ ((6 : Nat) ∉ ([] : List Nat))) ∧ (((List.length c.down) = (List.length c.down)) ∧ (Sd (.ints c.down)) ∧ ((10 : Nat) ∉ ([] : List Nat))) ∧ (Si c.value) ∧ (Si c.time) ∧ (Si c.proc) ∧ (((List.length c.marks) = (List.length c.marks)) ∧ (Sd (.marks c.marks)) ∧ ((23 : Nat) ∉ ([] : List Nat))) ∧ True) _ (by kernel_rfl) ⟨⟨rfl,rfl,(by decide)⟩,⟨rfl,rfl,(by decide)⟩,rfl,rfl,rfl,⟨rfl,rfl,(by decide)⟩,tt⟩)
 case true =>
  exact endQ_rows [(0,6),(1,10),(2,23)] (.agg [.own 6 (List.length c.up),.own 10 (List.length c.down),.i c.value,.i c.time,.i c.proc,.own 23 (List.length c.marks)]) (by kernel_rfl) (@cast ((((6 : Nat) = 6) ∧ ((List.length c.up) = (List.length c.up)) ∧ ((0 : Nat) ∈ ([0,1,2] : List Nat))) ∧ (((10 : Nat) = 10) ∧ ((List.length c.down) = (List.length c.down)) ∧ ((1 : Nat) ∈ ([0,1,2] : List Nat))) ∧ (Si c.value) ∧ (Si c.time) ∧ (Si c.proc) ∧ (((23 : Nat) = 23) ∧ ((List.length c.marks) = (List.length c.marks)) ∧ ((2 : Nat) ∈ ([0,1,2] : List Nat))) ∧ True) _ (by kernel_rfl) ⟨⟨rfl,rfl,(by decide)⟩,⟨rfl,rfl,(by decide)⟩,rfl,rfl,rfl,⟨rfl,rfl,(by decide)⟩,tt⟩) (@cast ((((3 : Nat) = 3) ∧ (Sd (.ints c.up)) ∧ ((0 : Nat) ∈ ([0,1,2] : List Nat))) ∧ (((3 : Nat) = 3) ∧ (Sd (.ints c.down)) ∧ ((1 : Nat) ∈ ([0,1,2] : List Nat))) ∧ (((50 : Nat) = 50) ∧ (Sd (.marks c.marks)) ∧ ((2 : Nat) ∈ ([0,1,2] : List Nat))) ∧ True) _ (by kernel_rfl) ⟨⟨rfl,rfl,(by decide)⟩,⟨rfl,rfl,(by decide)⟩,⟨rfl,rfl,(by decide)⟩,tt⟩) (by kernel_rfl)
theorem ent12 : Entr prog 12 := ⟨_,func12,rfl,by decide⟩
end Go.Proofs.Try

set_option linter.unusedSimpArgs false
set_option linter.unusedVariables false
namespace Go.Proofs.Try
open Go.Ab Go.RowKit
def fs43 : FnS := fnS [.o,.o,.o] [.int,.int,.int] (fun _ (n,low,high,_) => (.b (within n low high),[],True))
abbrev T43 : Tab := lk []
theorem tab43 : TabOK prog T43 := TabOK.nil
set_option maxRecDepth 100000 in
set_option maxHeartbeats 1000000 in
theorem ok43 : FnOK prog 43 fs43 := by
 refine FnOK.mk cok func43 rfl rfl rfl ?_
 rintro fl ⟨(n : Int),(low : Int),(high : Int),_⟩ hpre F hnt0 _
 have hnt : F.nt = 15 := hnt0.trans ntmps43
 clear hpre
 refine W.to (⟨[(0,.i n),(1,.i low),(2,.i high)],[],[999]⟩) rfl ?_
 refine Kk cok tab43 hnt [] [0,1,2] (⟨[(0,.i n),(1,.i low),(2,.i high)],[],[999]⟩)
  (True ∧ True)
  ⟨tt,tt⟩ ?_
 refine Kk cok tab43 hnt [] [6] (⟨[(6,.b ((decide (low ≤ n)) && (decide (n ≤ high))))],[],[999]⟩)
  ((fun (Z1:Bool)=>(True ∧ (True ∧ ((True ∧ (True ∧ True)) ∧ (True ∧ ((Z1 = true → True) ∧ ((Z1 = true → True) ∧ ((Z1 = true → (((Z1 = true) ∧ True) ∧ (((Z1 = true) ∧ True) ∧ True))) ∧ ((True ∧ ((Z1 = true → (Z1 = true) ∧ True) ∧ (Z1 = false → True))) ∧ (True ∧ True)))))))))) (decide (low ≤ n)))
  ⟨tt,tt,⟨tt,tt,tt⟩,tt,(fun _ => trivial),(fun _ => trivial),(fun hG => ⟨⟨hG,tt⟩,⟨hG,tt⟩,tt⟩),⟨tt,(fun hp => ⟨hp,tt⟩),(fun _ => trivial)⟩,tt,tt⟩ ?_
 refine W.ret ?_
 exact endQ_ret (.b ((decide (low ≤ n)) && (decide (n ≤ high)))) (by kernel_rfl) (@cast ((.bool ((decide (low ≤ n)) && (decide (n ≤ high))) : Value) = .bool (within n low high)) _ (by kernel_rfl) (congrArg Value.bool (by first | rfl | simp_all)))
theorem ent43 : Entr prog 43 := ⟨_,func43,rfl,by decide⟩
end Go.Proofs.Try

set_option linter.unusedSimpArgs false
set_option linter.unusedVariables false
namespace Go.Proofs.Try
open Go.Ab Go.RowKit
def fs50 : FnS := fnS [.o,.o] [.mark,.mark] (fun _ (a,b,_) => (.b (lessM a b),[],True))
abbrev T50 : Tab := lk []
theorem tab50 : TabOK prog T50 := TabOK.nil
set_option maxRecDepth 100000 in
set_option maxHeartbeats 1000000 in
theorem ok50 : FnOK prog 50 fs50 := by
 refine FnOK.mk cok func50 rfl rfl rfl ?_
 rintro fl ⟨(a : MarkD),(b : MarkD),_⟩ hpre F hnt0 _
 have hnt : F.nt = 20 := hnt0.trans ntmps50
 clear hpre
 refine W.to (⟨[(0,.agg [.i a.value,.i a.proc,.i a.number,.b a.gone]),(1,.agg [.i b.value,.i b.proc,.i b.number,.b b.gone])],[],[999]⟩) rfl ?_
 refine Kk cok tab50 hnt [] [2,3] (⟨[(2,.ptr 2 0),(3,.ptr 3 0)],[(2,⟨50,.fix [.i a.value,.i a.proc,.i a.number,.b a.gone]⟩),(3,⟨50,.fix [.i b.value,.i b.proc,.i b.number,.b b.gone]⟩)],[3,2,999]⟩)
  (True ∧ True ∧ True ∧ True)
  ⟨tt,tt,tt,tt⟩ ?_
 refine W.seq ?_
 refine Kk cok tab50 hnt [] [2,3,9] (⟨[(2,.ptr 2 0),(3,.ptr 3 0),(9,.b (decide (a.proc ≠ b.proc)))],[(2,⟨50,.fix [.i a.value,.i a.proc,.i a.number,.b a.gone]⟩),(3,⟨50,.fix [.i b.value,.i b.proc,.i b.number,.b b.gone]⟩)],[3,2,999]⟩)
  (True ∧ True ∧ True ∧ True ∧ (True ∧ True ∧ True) ∧ True)
  ⟨tt,tt,tt,tt,⟨tt,tt,tt⟩,tt⟩ ?_
 refine W.ifP (a.proc ≠ b.proc) (.b (decide (a.proc ≠ b.proc))) (by kernel_rfl) rfl trivial ?_ ?_
 ·intro h9
  refine Kk cok tab50 hnt [] [4] (⟨[(4,.b (decide (a.proc < b.proc)))],[(2,⟨50,.fix [.i a.value,.i a.proc,.i a.number,.b a.gone]⟩),(3,⟨50,.fix [.i b.value,.i b.proc,.i b.number,.b b.gone]⟩)],[3,2,999]⟩)
   (True ∧ True ∧ True ∧ True ∧ (True ∧ True ∧ True) ∧ True ∧ True)
   ⟨tt,tt,tt,tt,⟨tt,tt,tt⟩,tt,tt⟩ ?_
  refine W.ret (thenQ_ret ?_)
  exact endQ_ret (.b (decide (a.proc < b.proc))) (by kernel_rfl) (@cast ((.bool (decide (a.proc < b.proc)) : Value) = .bool (lessM a b)) _ (by kernel_rfl) (congrArg Value.bool (by unfold lessM; rw [decide_eq_true h9]; rfl)))
 ·intro n9
  refine W.skip (thenQ_normal ?_)
  refine Kk cok tab50 hnt [] [4] (⟨[(4,.b (decide (a.number < b.number)))],[(2,⟨50,.fix [.i a.value,.i a.proc,.i a.number,.b a.gone]⟩),(3,⟨50,.fix [.i b.value,.i b.proc,.i b.number,.b b.gone]⟩)],[3,2,999]⟩)
   (True ∧ True ∧ True ∧ True ∧ (True ∧ True ∧ True) ∧ True ∧ True)
   ⟨tt,tt,tt,tt,⟨tt,tt,tt⟩,tt,tt⟩ ?_
  refine W.ret ?_
  exact endQ_ret (.b (decide (a.number < b.number))) (by kernel_rfl) (@cast ((.bool (decide (a.number < b.number)) : Value) = .bool (lessM a b)) _ (by kernel_rfl) (congrArg Value.bool (by unfold lessM; rw [decide_eq_false n9]; rfl)))
theorem ent50 : Entr prog 50 := ⟨_,func50,rfl,by decide⟩
end Go.Proofs.Try

set_option linter.unusedSimpArgs false
set_option linter.unusedVariables false
namespace Go.Proofs.Try
open Go.Ab Go.RowKit
def fs34 : FnS := fnS [.a [some .ints,some .ints,none,none,none,some .marks]] [.copy] (fun _ (c,_) => (.b (validCopy c),[],True))
abbrev T34 : Tab := lk [(43,fs43),(50,fs50)]
theorem tab34 : TabOK prog T34 := (TabOK.cons ok43 ent43 (TabOK.cons ok50 ent50 TabOK.nil))
set_option maxRecDepth 100000 in
set_option maxHeartbeats 1000000 in
theorem ok34 : FnOK prog 34 fs34 := by
 refine FnOK.mk cok func34 rfl rfl rfl ?_
 rintro fl ⟨(c : CopyD),_⟩ hpre F hnt0 _
 have hnt : F.nt = 116 := hnt0.trans ntmps34
 clear hpre
 refine W.to (⟨[(0,.agg (cC c))],[],[999]⟩) rfl ?_
 refine W.lenA 0 0 (cC c) (.ints c.up) (by kernel_rfl) (by kernel_rfl) ?_
 intro hl_c_up; replace hl_c_up : List.length c.up ≤ 9223372036854775807 := hl_c_up
 refine W.lenA 0 1 (cC c) (.ints c.down) (by kernel_rfl) (by kernel_rfl) ?_
 intro hl_c_down; replace hl_c_down : List.length c.down ≤ 9223372036854775807 := hl_c_down
 refine W.lenA 0 5 (cC c) (.marks c.marks) (by kernel_rfl) (by kernel_rfl) ?_
 intro hl_c_marks; replace hl_c_marks : List.length c.marks ≤ 9223372036854775807 := hl_c_marks
 refine Kk cok tab34 hnt [] [1] (⟨[(1,.ptr 1 0)],[(1,⟨29,.fix (cC c)⟩)],[1,999]⟩)
  (True ∧ True ∧ True)
  ⟨tt,tt,tt⟩ ?_
 refine W.seq ?_
 refine Kk cok tab34 hnt [] [1,48] (⟨[(1,.ptr 1 0),(48,.b ((((((decide ((((List.length c.up) : Nat) : Int) ≠ (3 : Int))) || (decide ((((List.length c.down) : Nat) : Int) ≠ (3 : Int)))) || (!(within c.value (0 : Int) (3 : Int)))) || (!(within c.time (0 : Int) (30 : Int)))) || (!(within c.proc (0 : Int) (2 : Int)))) || ((decide (c.time = (0 : Int))) && ((decide (c.value ≠ (0 : Int))) || (decide (c.proc ≠ (0 : Int)))))))],[(1,⟨29,.fix (cC c)⟩)],[1,999]⟩)
  ((fun (Z1:Bool)=>((fun (Z2:Bool)=>((fun (Z3:Bool)=>((fun (Z4:Bool)=>((fun (Z5:Bool)=>((fun (Z6:Bool)=>((fun (Z7:Bool)=>((fun (Z8:Bool)=>((fun (Z9:Bool)=>((fun (Z10:Bool)=>(True ∧ (True ∧ (True ∧ ((True ∧ (True ∧ True)) ∧ (True ∧ (((!Z3) = true → True) ∧ (((!Z3) = true → (((!Z3) = true) ∧ True)) ∧ (((!Z3) = true → (((!Z3) = true) ∧ True)) ∧ (((!Z3) = true → ((((!Z3) = true) ∧ True) ∧ (True ∧ True))) ∧ ((True ∧ ((Z3 = true → True) ∧ (Z3 = false → ((!Z3) = true) ∧ True))) ∧ (True ∧ (((!Z4) = true → True) ∧ (((!Z4) = true → (((!Z4) = true) ∧ True)) ∧ (((!Z4) = true → (True ∧ (((((!Z4) = true) ∧ True) ∧ (True ∧ (True ∧ True))) ∧ True))) ∧ (((!Z4) = true → (((!Z4) = true) ∧ True)) ∧ ((True ∧ ((Z4 = true → True) ∧ (Z4 = false → ((!Z4) = true) ∧ True))) ∧ (True ∧ (((!Z5) = true → True) ∧ (((!Z5) = true → (((!Z5) = true) ∧ True)) ∧ (((!Z5) = true → (True ∧ (((((!Z5) = true) ∧ True) ∧ (True ∧ (True ∧ True))) ∧ True))) ∧ (((!Z5) = true → (((!Z5) = true) ∧ True)) ∧ ((True ∧ ((Z5 = true → True) ∧ (Z5 = false → ((!Z5) = true) ∧ True))) ∧ (True ∧ (((!Z6) = true → True) ∧ (((!Z6) = true → (((!Z6) = true) ∧ True)) ∧ (((!Z6) = true → (True ∧ (((((!Z6) = true) ∧ True) ∧ (True ∧ (True ∧ True))) ∧ True))) ∧ (((!Z6) = true → (((!Z6) = true) ∧ True)) ∧ ((True ∧ ((Z6 = true → True) ∧ (Z6 = false → ((!Z6) = true) ∧ True))) ∧ (True ∧ ((Z8 = true → True) ∧ ((Z8 = true → ((Z8 = true) ∧ True)) ∧ ((Z8 = true → (((Z8 = true) ∧ True) ∧ (True ∧ True))) ∧ ((Z8 = true → True) ∧ ((Z9 = true → True) ∧ ((Z9 = true → ((Z9 = true) ∧ True)) ∧ ((Z9 = true → (((Z9 = true) ∧ True) ∧ (True ∧ True))) ∧ ((Z9 = true → True) ∧ ((Z10 = true → True) ∧ ((Z10 = true → ((Z10 = true) ∧ True)) ∧ ((Z10 = true → (((Z10 = true) ∧ True) ∧ (True ∧ True))) ∧ ((Z9 = true → (((Z9 = true) ∧ ((Z9 = true) ∧ True)) ∧ ((Z2 = true → True) ∧ (Z2 = false → (Z10 = true) ∧ True)))) ∧ ((Z8 = true → (((Z8 = true) ∧ ((Z8 = true) ∧ True)) ∧ ((Z1 = true → (Z9 = true) ∧ True) ∧ (Z1 = false → True)))) ∧ ((True ∧ ((Z7 = true → True) ∧ (Z7 = false → (Z8 = true) ∧ True))) ∧ True)))))))))))))))))))))))))))))))))))))))))))) (Z9 && (Z9 && (!Z2))))) (Z8 && (Z8 && Z1)))) (!Z7))) (Z6 || (!(within c.proc (0 : Int) (2 : Int)))))) (Z5 || (!(within c.time (0 : Int) (30 : Int)))))) (Z4 || (!(within c.value (0 : Int) (3 : Int)))))) (Z3 || (decide ((((List.length c.down) : Nat) : Int) ≠ (3 : Int)))))) (decide ((((List.length c.up) : Nat) : Int) ≠ (3 : Int))))) (decide (c.value ≠ (0 : Int))))) (decide (c.time = (0 : Int))))
  ⟨tt,tt,tt,⟨tt,tt,tt⟩,tt,(fun _ => trivial),(fun hG => ⟨hG,tt⟩),(fun hG => ⟨hG,tt⟩),(fun hG => ⟨⟨hG,tt⟩,tt,tt⟩),⟨tt,(fun _ => trivial),(fun hp => ⟨(not_t hp),tt⟩)⟩,tt,(fun _ => trivial),(fun hG => ⟨hG,tt⟩),(fun hG => ⟨tt,⟨⟨hG,tt⟩,tt,tt,tt⟩,tt⟩),(fun hG => ⟨hG,tt⟩),⟨tt,(fun _ => trivial),(fun hp => ⟨(not_t hp),tt⟩)⟩,tt,(fun _ => trivial),(fun hG => ⟨hG,tt⟩),(fun hG => ⟨tt,⟨⟨hG,tt⟩,tt,tt,tt⟩,tt⟩),(fun hG => ⟨hG,tt⟩),⟨tt,(fun _ => trivial),(fun hp => ⟨(not_t hp),tt⟩)⟩,tt,(fun _ => trivial),(fun hG => ⟨hG,tt⟩),(fun hG => ⟨tt,⟨⟨hG,tt⟩,tt,tt,tt⟩,tt⟩),(fun hG => ⟨hG,tt⟩),⟨tt,(fun _ => trivial),(fun hp => ⟨(not_t hp),tt⟩)⟩,tt,(fun _ => trivial),(fun hG => ⟨hG,tt⟩),(fun hG => ⟨⟨hG,tt⟩,tt,tt⟩),(fun _ => trivial),(fun _ => trivial),(fun hG => ⟨hG,tt⟩),(fun hG => ⟨⟨hG,tt⟩,tt,tt⟩),(fun _ => trivial),(fun _ => trivial),(fun hG => ⟨hG,tt⟩),(fun hG => ⟨⟨hG,tt⟩,tt,tt⟩),(fun hG => ⟨⟨hG,hG,tt⟩,(fun _ => trivial),(fun hp => ⟨(and_t hG (and_t hG (not_t hp))),tt⟩)⟩),(fun hG => ⟨⟨hG,hG,tt⟩,(fun hp => ⟨(and_t hG (and_t hG hp)),tt⟩),(fun _ => trivial)⟩),⟨tt,(fun _ => trivial),(fun hp => ⟨(not_t hp),tt⟩)⟩,tt⟩ ?_
 refine W.if' ((((((decide ((((List.length c.up) : Nat) : Int) ≠ (3 : Int))) || (decide ((((List.length c.down) : Nat) : Int) ≠ (3 : Int)))) || (!(within c.value (0 : Int) (3 : Int)))) || (!(within c.time (0 : Int) (30 : Int)))) || (!(within c.proc (0 : Int) (2 : Int)))) || ((decide (c.time = (0 : Int))) && ((decide (c.value ≠ (0 : Int))) || (decide (c.proc ≠ (0 : Int)))))) (.b ((((((decide ((((List.length c.up) : Nat) : Int) ≠ (3 : Int))) || (decide ((((List.length c.down) : Nat) : Int) ≠ (3 : Int)))) || (!(within c.value (0 : Int) (3 : Int)))) || (!(within c.time (0 : Int) (30 : Int)))) || (!(within c.proc (0 : Int) (2 : Int)))) || ((decide (c.time = (0 : Int))) && ((decide (c.value ≠ (0 : Int))) || (decide (c.proc ≠ (0 : Int))))))) (by kernel_rfl) rfl trivial ?_ ?_
 ·intro h48
  refine Kk cok tab34 hnt [] [2] (⟨[(2,.b false)],[(1,⟨29,.fix (cC c)⟩)],[1,999]⟩)
   (True ∧ True)
   ⟨tt,tt⟩ ?_
  refine W.ret (thenQ_ret ?_)
  exact endQ_ret (.b false) (by kernel_rfl) (@cast ((.bool false : Value) = .bool (validCopy c)) _ (by kernel_rfl) (congrArg Value.bool (by exact (valid_spec1 h48).symm)))
 ·intro n48
  have n48_0 : ¬ ((((List.length c.up) : Nat) : Int) ≠ (3 : Int)) := of_decide_eq_false (or_l (or_l (or_l (or_l (or_l n48)))))
  have n48_1 : ¬ ((((List.length c.down) : Nat) : Int) ≠ (3 : Int)) := of_decide_eq_false (or_r (or_l (or_l (or_l (or_l n48)))))
  refine W.skip (thenQ_normal ?_)
  refine W.seq ?_
  refine Kk cok tab34 hnt [] [1,3] (⟨[(1,.ptr 1 0),(3,.i (0 : Int))],[(1,⟨29,.fix (cC c)⟩)],[1,999]⟩)
   (True ∧ True)
   ⟨tt,tt⟩ ?_
  refine W.block ?_
  refine W.loop (ι := Nat) (fun (k : Nat) => (⟨[(1,.ptr 1 0),(3,.i ((k : Nat) : Int))],[(1,⟨29,.fix (cC c)⟩)],[1,999]⟩ : St))
   (fun (k : Nat) => (k ≤ 3) ∧ (∀ j,j < k → within (c.up.getD j 0) 0 20 = true) ∧ (∀ j,j < k → within (c.down.getD j 0) 0 20 = true))
   (fun (k : Nat) => (3 - k : Nat)) (0) ?_ ?_ ?_
  ·exact (show (0 ≤ 3) ∧ (∀ j,j < 0 → within (c.up.getD j 0) 0 20 = true) ∧ (∀ j,j < 0 → within (c.down.getD j 0) 0 20 = true) from ⟨(by first | assumption | omega | rfl | (intro _ hjj; omega) | (simp; done) | (simp; omega)),(by exact upto_zero),(by exact upto_zero)⟩)
  ·exact Sub.of [] (@cast (((((1 : Nat) = 1) ∧ ((0 : Nat) = 0) ∧ ((1 : Nat) ∈ ([1,999] : List Nat))) ∧ ((.int .i64 (0 : Int) : Value) = .int .i64 ((0 : Nat) : Int)) ∧ True) ∧ ((((29 : Nat) = 29) ∧ (Sc c) ∧ ((1 : Nat) ∈ ([1,999] : List Nat))) ∧ True) ∧ (true = true) ∧ (true = true)) _ (by kernel_rfl) ⟨⟨⟨rfl,rfl,(by decide)⟩,(congrArg (Value.int .i64) (by first | rfl | omega | assumption | simp | simp_all)),tt⟩,⟨⟨rfl,⟨rfl,rfl,rfl,rfl,rfl,rfl,tt⟩,(by decide)⟩,tt⟩,rfl,rfl⟩)
  ·rintro k hC0
   have hC : (k ≤ 3) ∧ (∀ j,j < k → within (c.up.getD j 0) 0 20 = true) ∧ (∀ j,j < k → within (c.down.getD j 0) 0 20 = true) := hC0
   clear hC0
   obtain ⟨hk,hU,hD⟩ := hC
   refine W.to (⟨[(1,.ptr 1 0),(3,.i ((k : Nat) : Int))],[(1,⟨29,.fix (cC c)⟩)],[1,999]⟩) rfl ?_
   have hs := valid_spec2 n48
   refine W.seq ?_
   refine Kk cok tab34 hnt [] [1,3,50] (⟨[(1,.ptr 1 0),(3,.i ((k : Nat) : Int)),(50,.b (decide (((k : Nat) : Int) < (3 : Int))))],[(1,⟨29,.fix (cC c)⟩)],[1,999]⟩)
    (True ∧ (True ∧ True ∧ True) ∧ True)
    ⟨tt,⟨tt,tt,tt⟩,tt⟩ ?_
   refine W.ifP (((k : Nat) : Int) < (3 : Int)) (.b (decide (((k : Nat) : Int) < (3 : Int)))) (by kernel_rfl) rfl trivial ?_ ?_
   ·intro h50
    refine W.skip (thenQ_normal ?_)
    refine W.seq ?_
    refine W.block ?_
    refine Kk cok tab34 hnt [] [1,3,68] (⟨[(1,.ptr 1 0),(3,.i ((k : Nat) : Int)),(68,.b ((!(within (List.getD c.up k 0) (0 : Int) (20 : Int))) || (!(within (List.getD c.down k 0) (0 : Int) (20 : Int)))))],[(1,⟨29,.fix (cC c)⟩)],[1,999]⟩)
     ((fun (Z1:Bool)=>(True ∧ (True ∧ (True ∧ ((True ∧ (True ∧ ((0 ≤ ((k : Nat) : Int)) ∧ (((k : Nat) : Int) < (((List.length c.up) : Nat) : Int))))) ∧ (True ∧ ((True ∧ ((True ∧ (True ∧ (True ∧ True))) ∧ True)) ∧ (True ∧ (True ∧ (((!Z1) = true → True) ∧ (((!Z1) = true → (((!Z1) = true) ∧ True)) ∧ (((!Z1) = true → True) ∧ (((!Z1) = true → ((((!Z1) = true) ∧ True) ∧ ((((!Z1) = true) ∧ True) ∧ ((0 ≤ ((k : Nat) : Int)) ∧ (((k : Nat) : Int) < (((List.length c.down) : Nat) : Int)))))) ∧ (((!Z1) = true → (((!Z1) = true) ∧ True)) ∧ (((!Z1) = true → (True ∧ (((((!Z1) = true) ∧ True) ∧ (True ∧ (True ∧ True))) ∧ True))) ∧ (((!Z1) = true → (((!Z1) = true) ∧ True)) ∧ ((True ∧ ((Z1 = true → True) ∧ (Z1 = false → ((!Z1) = true) ∧ True))) ∧ True))))))))))))))))) (!(within (List.getD c.up k 0) (0 : Int) (20 : Int))))
     ⟨tt,tt,tt,⟨tt,tt,(by omega),(by omega)⟩,tt,⟨tt,⟨tt,tt,tt,tt⟩,tt⟩,tt,tt,(fun _ => trivial),(fun hG => ⟨hG,tt⟩),(fun _ => trivial),(fun hG => ⟨⟨hG,tt⟩,⟨hG,tt⟩,(by omega),(by omega)⟩),(fun hG => ⟨hG,tt⟩),(fun hG => ⟨tt,⟨⟨hG,tt⟩,tt,tt,tt⟩,tt⟩),(fun hG => ⟨hG,tt⟩),⟨tt,(fun _ => trivial),(fun hp => ⟨(not_t hp),tt⟩)⟩,tt⟩ ?_
    refine W.if' ((!(within (List.getD c.up k 0) (0 : Int) (20 : Int))) || (!(within (List.getD c.down k 0) (0 : Int) (20 : Int)))) (.b ((!(within (List.getD c.up k 0) (0 : Int) (20 : Int))) || (!(within (List.getD c.down k 0) (0 : Int) (20 : Int))))) (by kernel_rfl) rfl trivial ?_ ?_
    ·intro h68
     refine Kk cok tab34 hnt [] [2] (⟨[(2,.b false)],[(1,⟨29,.fix (cC c)⟩)],[1,999]⟩)
      (True ∧ True)
      ⟨tt,tt⟩ ?_
     refine W.ret (blockQ_ret (thenQ_ret (thenQ_ret (blockQ_ret (thenQ_ret ?_)))))
     exact endQ_ret (.b false) (by kernel_rfl) (@cast ((.bool false : Value) = .bool (validCopy c)) _ (by kernel_rfl) (congrArg Value.bool (by exact (counts_bad hs.1 hs.2.1 (by omega) h68).symm)))
    ·intro n68
     refine W.skip (blockQ_normal (thenQ_normal ?_))
     refine Lk cok tab34 hnt [] (⟨[(1,.ptr 1 0),(3,.i (((k + 1) : Nat) : Int)),(51,.i ((k : Nat) : Int)),(52,.i (((k + 1) : Nat) : Int)),(68,.b ((!(within (List.getD c.up k 0) (0 : Int) (20 : Int))) || (!(within (List.getD c.down k 0) (0 : Int) (20 : Int)))))],[(1,⟨29,.fix (cC c)⟩)],[1,999]⟩)
      (True ∧ (True ∧ True ∧ (Fits .i64 (((k + 1) : Nat) : Int))) ∧ True ∧ True)
      ⟨tt,⟨tt,tt,(by exact fits_i64 (by omega) (by omega))⟩,tt,tt⟩ ?_
     refine thenQ_normal ?_
     refine ⟨((k + 1)),(show ((k + 1) ≤ 3) ∧ (∀ j,j < (k + 1) → within (c.up.getD j 0) 0 20 = true) ∧ (∀ j,j < (k + 1) → within (c.down.getD j 0) 0 20 = true) from ⟨(by first | assumption | omega | rfl | (intro _ hjj; omega) | (simp; done) | (simp; omega)),(by exact upto_succ hU (within_bad n68).1),(by exact upto_succ hD (within_bad n68).2)⟩),(show 3 - (k + 1) < 3 - k from (by first | omega | (simp_all; omega))),?_⟩
     exact Sub.of [] (@cast (((((1 : Nat) = 1) ∧ ((0 : Nat) = 0) ∧ ((1 : Nat) ∈ ([1,999] : List Nat))) ∧ (Si (((k + 1) : Nat) : Int)) ∧ True) ∧ ((((29 : Nat) = 29) ∧ (Sc c) ∧ ((1 : Nat) ∈ ([1,999] : List Nat))) ∧ True) ∧ (true = true) ∧ (true = true)) _ (by kernel_rfl) ⟨⟨⟨rfl,rfl,(by decide)⟩,rfl,tt⟩,⟨⟨rfl,⟨rfl,rfl,rfl,rfl,rfl,rfl,tt⟩,(by decide)⟩,tt⟩,rfl,rfl⟩)
   ·intro n50
    refine W.exit (thenQ_exit (thenQ_exit (blockQ_hit ?_)))
    refine thenQ_normal ?_
    refine W.seq ?_
    refine Kk cok tab34 hnt [] [1,4] (⟨[(1,.ptr 1 0),(4,.i (0 : Int))],[(1,⟨29,.fix (cC c)⟩)],[1,999]⟩)
     (True ∧ True)
     ⟨tt,tt⟩ ?_
    refine W.block ?_
    refine W.loop (ι := Nat) (fun (i : Nat) => (⟨[(1,.ptr 1 0),(4,.i ((i : Nat) : Int))],[(1,⟨29,.fix (cC c)⟩)],[1,999]⟩ : St))
     (fun (i : Nat) => (i ≤ c.marks.length) ∧ (∀ j,j < i → markOK c.marks j = true))
     (fun (i : Nat) => (c.marks.length - i : Nat)) (0) ?_ ?_ ?_
    ·exact (show (0 ≤ c.marks.length) ∧ (∀ j,j < 0 → markOK c.marks j = true) from ⟨(by first | assumption | omega | rfl | (intro _ hjj; omega) | (simp; done) | (simp; omega)),(by exact upto_zero)⟩)
    ·exact Sub.of [] (@cast (((((1 : Nat) = 1) ∧ ((0 : Nat) = 0) ∧ ((1 : Nat) ∈ ([1,999] : List Nat))) ∧ ((.int .i64 (0 : Int) : Value) = .int .i64 ((0 : Nat) : Int)) ∧ True) ∧ ((((29 : Nat) = 29) ∧ (Sc c) ∧ ((1 : Nat) ∈ ([1,999] : List Nat))) ∧ True) ∧ (true = true) ∧ (true = true)) _ (by kernel_rfl) ⟨⟨⟨rfl,rfl,(by decide)⟩,(congrArg (Value.int .i64) (by first | rfl | omega | assumption | simp | simp_all)),tt⟩,⟨⟨rfl,⟨rfl,rfl,rfl,rfl,rfl,rfl,tt⟩,(by decide)⟩,tt⟩,rfl,rfl⟩)
    ·rintro i hC0
     have hC : (i ≤ c.marks.length) ∧ (∀ j,j < i → markOK c.marks j = true) := hC0
     clear hC0
     obtain ⟨hi,hA⟩ := hC
     refine W.to (⟨[(1,.ptr 1 0),(4,.i ((i : Nat) : Int))],[(1,⟨29,.fix (cC c)⟩)],[1,999]⟩) rfl ?_
     refine W.seq ?_
     refine Kk cok tab34 hnt [] [1,4,73] (⟨[(1,.ptr 1 0),(4,.i ((i : Nat) : Int)),(73,.b (decide (((i : Nat) : Int) < (((List.length c.marks) : Nat) : Int))))],[(1,⟨29,.fix (cC c)⟩)],[1,999]⟩)
      (True ∧ True ∧ True ∧ True ∧ (True ∧ True ∧ True) ∧ True)
      ⟨tt,tt,tt,tt,⟨tt,tt,tt⟩,tt⟩ ?_
     refine W.ifP (((i : Nat) : Int) < (((List.length c.marks) : Nat) : Int)) (.b (decide (((i : Nat) : Int) < (((List.length c.marks) : Nat) : Int)))) (by kernel_rfl) rfl trivial ?_ ?_
     ·intro h73
      refine W.skip (thenQ_normal ?_)
      refine W.seq ?_
      refine W.block ?_
      refine Kk cok tab34 hnt [] [1,4,5] (⟨[(1,.ptr 1 0),(4,.i ((i : Nat) : Int)),(5,.ptr 5 0)],[(1,⟨29,.fix (cC c)⟩),(5,⟨50,.fix [.i ((List.getD c.marks i default).value),.i ((List.getD c.marks i default).proc),.i ((List.getD c.marks i default).number),.b ((List.getD c.marks i default).gone)]⟩)],[5,1,999]⟩)
       (True ∧ True ∧ True ∧ (True ∧ True ∧ (0 ≤ ((i : Nat) : Int)) ∧ (((i : Nat) : Int) < (((List.length c.marks) : Nat) : Int))) ∧ True ∧ True ∧ (True ∧ True) ∧ True)
       ⟨tt,tt,tt,⟨tt,tt,(by omega),(by omega)⟩,tt,tt,⟨tt,tt⟩,tt⟩ ?_
      refine W.KA cok tab34 hnt [] [1,4,111] (⟨[(1,.ptr 1 0),(4,.i ((i : Nat) : Int)),(111,.b ((((!(within ((List.getD c.marks i default).value) (0 : Int) (3 : Int))) || (!(within ((List.getD c.marks i default).proc) (0 : Int) (2 : Int)))) || (!(within ((List.getD c.marks i default).number) (1 : Int) (20 : Int)))) || ((decide ((0 : Int) < ((i : Nat) : Int))) && (!(lessM (List.getD c.marks (Int.toNat (((i : Nat) : Int) - (1 : Int))) default) (List.getD c.marks i default))))))],[(1,⟨29,.fix (cC c)⟩),(5,⟨50,.fix [.i ((List.getD c.marks i default).value),.i ((List.getD c.marks i default).proc),.i ((List.getD c.marks i default).number),.b ((List.getD c.marks i default).gone)]⟩)],[5,1,999]⟩)
       ((fun (Z1:Bool)=>((fun (Z2:Bool)=>((fun (Z3:Bool)=>((fun (Z4:Bool)=>((fun (Z5:Bool)=>((fun (Z6:Bool)=>(True ∧ (True ∧ ((True ∧ ((True ∧ (True ∧ (True ∧ True))) ∧ True)) ∧ (True ∧ (True ∧ (((!Z2) = true → True) ∧ (((!Z2) = true → (((!Z2) = true) ∧ True)) ∧ (((!Z2) = true → (True ∧ (((((!Z2) = true) ∧ True) ∧ (True ∧ (True ∧ True))) ∧ True))) ∧ (((!Z2) = true → (((!Z2) = true) ∧ True)) ∧ ((True ∧ ((Z2 = true → True) ∧ (Z2 = false → ((!Z2) = true) ∧ True))) ∧ (True ∧ (((!Z3) = true → True) ∧ (((!Z3) = true → (((!Z3) = true) ∧ True)) ∧ (((!Z3) = true → (True ∧ (((((!Z3) = true) ∧ True) ∧ (True ∧ (True ∧ True))) ∧ True))) ∧ (((!Z3) = true → (((!Z3) = true) ∧ True)) ∧ ((True ∧ ((Z3 = true → True) ∧ (Z3 = false → ((!Z3) = true) ∧ True))) ∧ (True ∧ ((Z5 = true → True) ∧ ((Z5 = true → (((Z5 = true) ∧ True) ∧ (True ∧ True))) ∧ ((Z5 = true → True) ∧ ((Z6 = true → True) ∧ ((Z6 = true → ((Z6 = true) ∧ True)) ∧ ((Z6 = true → True) ∧ ((Z6 = true → (((Z6 = true) ∧ True) ∧ (True ∧ (Fits .i64 (((i : Nat) : Int) - (1 : Int)))))) ∧ ((Z6 = true → (((Z6 = true) ∧ True) ∧ (((Z6 = true) ∧ True) ∧ ((0 ≤ (((i : Nat) : Int) - (1 : Int))) ∧ ((((i : Nat) : Int) - (1 : Int)) < (((List.length c.marks) : Nat) : Int)))))) ∧ ((Z6 = true → ((Z6 = true) ∧ True)) ∧ ((Z6 = true → True) ∧ ((Z6 = true → (True ∧ ((((Z6 = true) ∧ True) ∧ (((Z6 = true) ∧ True) ∧ True)) ∧ True))) ∧ ((Z6 = true → ((Z6 = true) ∧ True)) ∧ ((Z5 = true → (((Z5 = true) ∧ ((Z5 = true) ∧ True)) ∧ ((Z1 = true → (Z6 = true) ∧ True) ∧ (Z1 = false → True)))) ∧ ((True ∧ ((Z4 = true → True) ∧ (Z4 = false → (Z5 = true) ∧ True))) ∧ True)))))))))))))))))))))))))))))))) (Z5 && (Z5 && Z1)))) (!Z4))) (Z3 || (!(within ((List.getD c.marks i default).number) (1 : Int) (20 : Int)))))) (Z2 || (!(within ((List.getD c.marks i default).proc) (0 : Int) (2 : Int)))))) (!(within ((List.getD c.marks i default).value) (0 : Int) (3 : Int))))) (decide ((0 : Int) < ((i : Nat) : Int)))) (by kernel_rfl) (by kernel_rfl)
       ⟨tt,tt,⟨tt,⟨tt,tt,tt,tt⟩,tt⟩,tt,tt,(fun _ => trivial),(fun hG => ⟨hG,tt⟩),(fun hG => ⟨tt,⟨⟨hG,tt⟩,tt,tt,tt⟩,tt⟩),(fun hG => ⟨hG,tt⟩),⟨tt,(fun _ => trivial),(fun hp => ⟨(not_t hp),tt⟩)⟩,tt,(fun _ => trivial),(fun hG => ⟨hG,tt⟩),(fun hG => ⟨tt,⟨⟨hG,tt⟩,tt,tt,tt⟩,tt⟩),(fun hG => ⟨hG,tt⟩),⟨tt,(fun _ => trivial),(fun hp => ⟨(not_t hp),tt⟩)⟩,tt,(fun _ => trivial),(fun hG => ⟨⟨hG,tt⟩,tt,tt⟩),(fun _ => trivial),(fun _ => trivial),(fun hG => ⟨hG,tt⟩),(fun _ => trivial),(fun hG => ⟨⟨hG,tt⟩,tt,(by have hg0 : (0 : Int) < ((i : Nat) : Int) := of_decide_eq_true (and_r (and_r hG)); exact fits_i64 (by omega) (by omega))⟩),(fun hG => ⟨⟨hG,tt⟩,⟨hG,tt⟩,(by have hg0 : (0 : Int) < ((i : Nat) : Int) := of_decide_eq_true (and_r (and_r hG)); omega),(by have hg0 : (0 : Int) < ((i : Nat) : Int) := of_decide_eq_true (and_r (and_r hG)); omega)⟩),(fun hG => ⟨hG,tt⟩),(fun _ => trivial),(fun hG => ⟨tt,⟨⟨hG,tt⟩,⟨hG,tt⟩,tt⟩,tt⟩),(fun hG => ⟨hG,tt⟩),(fun hG => ⟨⟨hG,hG,tt⟩,(fun hp => ⟨(and_t hG (and_t hG hp)),tt⟩),(fun _ => trivial)⟩),⟨tt,(fun _ => trivial),(fun hp => ⟨(not_t hp),tt⟩)⟩,tt⟩ ?_
      refine W.if' ((((!(within ((List.getD c.marks i default).value) (0 : Int) (3 : Int))) || (!(within ((List.getD c.marks i default).proc) (0 : Int) (2 : Int)))) || (!(within ((List.getD c.marks i default).number) (1 : Int) (20 : Int)))) || ((decide ((0 : Int) < ((i : Nat) : Int))) && (!(lessM (List.getD c.marks (Int.toNat (((i : Nat) : Int) - (1 : Int))) default) (List.getD c.marks i default))))) (.b ((((!(within ((List.getD c.marks i default).value) (0 : Int) (3 : Int))) || (!(within ((List.getD c.marks i default).proc) (0 : Int) (2 : Int)))) || (!(within ((List.getD c.marks i default).number) (1 : Int) (20 : Int)))) || ((decide ((0 : Int) < ((i : Nat) : Int))) && (!(lessM (List.getD c.marks (Int.toNat (((i : Nat) : Int) - (1 : Int))) default) (List.getD c.marks i default)))))) (by kernel_rfl) rfl trivial ?_ ?_
      ·intro h111
       refine Kk cok tab34 hnt [] [2] (⟨[(2,.b false)],[(1,⟨29,.fix (cC c)⟩),(5,⟨50,.fix [.i ((List.getD c.marks i default).value),.i ((List.getD c.marks i default).proc),.i ((List.getD c.marks i default).number),.b ((List.getD c.marks i default).gone)]⟩)],[5,1,999]⟩)
        (True ∧ True)
        ⟨tt,tt⟩ ?_
       refine W.ret (blockQ_ret (thenQ_ret (thenQ_ret (blockQ_ret (thenQ_ret ?_)))))
       exact endQ_ret (.b false) (by kernel_rfl) (@cast ((.bool false : Value) = .bool (validCopy c)) _ (by kernel_rfl) (congrArg Value.bool (by rw [show ((i : Int) - 1).toNat = i - 1 by omega] at h111; exact (valid_marks (mark_bad (i := i) (by omega) (markS_no h111))).symm)))
      ·intro n111
       refine W.skip (blockQ_normal (thenQ_normal ?_))
       refine Lk cok tab34 hnt [] (⟨[(1,.ptr 1 0),(4,.i (((i + 1) : Nat) : Int)),(74,.i ((i : Nat) : Int)),(75,.i (((i + 1) : Nat) : Int)),(111,.b ((((!(within ((List.getD c.marks i default).value) (0 : Int) (3 : Int))) || (!(within ((List.getD c.marks i default).proc) (0 : Int) (2 : Int)))) || (!(within ((List.getD c.marks i default).number) (1 : Int) (20 : Int)))) || ((decide ((0 : Int) < ((i : Nat) : Int))) && (!(lessM (List.getD c.marks (Int.toNat (((i : Nat) : Int) - (1 : Int))) default) (List.getD c.marks i default))))))],[(1,⟨29,.fix (cC c)⟩),(5,⟨50,.fix [.i ((List.getD c.marks i default).value),.i ((List.getD c.marks i default).proc),.i ((List.getD c.marks i default).number),.b ((List.getD c.marks i default).gone)]⟩)],[5,1,999]⟩)
        (True ∧ (True ∧ True ∧ (Fits .i64 (((i + 1) : Nat) : Int))) ∧ True ∧ True)
        ⟨tt,⟨tt,tt,(by exact fits_i64 (by omega) (by omega))⟩,tt,tt⟩ ?_
       refine thenQ_normal ?_
       refine ⟨((i + 1)),(show ((i + 1) ≤ c.marks.length) ∧ (∀ j,j < (i + 1) → markOK c.marks j = true) from ⟨(by first | assumption | omega | rfl | (intro _ hjj; omega) | (simp; done) | (simp; omega)),(by rw [show ((i : Int) - 1).toNat = i - 1 by omega] at n111; exact upto_succ hA (markS_ok n111))⟩),(show c.marks.length - (i + 1) < c.marks.length - i from (by first | omega | (simp_all; omega))),?_⟩
       exact Sub.of [] (@cast (((((1 : Nat) = 1) ∧ ((0 : Nat) = 0) ∧ ((1 : Nat) ∈ ([1,999] : List Nat))) ∧ (Si (((i + 1) : Nat) : Int)) ∧ True) ∧ ((((29 : Nat) = 29) ∧ (Sc c) ∧ ((1 : Nat) ∈ ([1,999] : List Nat))) ∧ True) ∧ (true = true) ∧ (true = true)) _ (by kernel_rfl) ⟨⟨⟨rfl,rfl,(by decide)⟩,rfl,tt⟩,⟨⟨rfl,⟨rfl,rfl,rfl,rfl,rfl,rfl,tt⟩,(by decide)⟩,tt⟩,rfl,rfl⟩)
     ·intro n73
      refine W.exit (thenQ_exit (thenQ_exit (blockQ_hit ?_)))
      refine thenQ_normal ?_
      refine Kk cok tab34 hnt [] [2] (⟨[(2,.b (decide ((((List.length c.marks) : Nat) : Int) ≤ (20 : Int))))],[(1,⟨29,.fix (cC c)⟩)],[1,999]⟩)
       (True ∧ True ∧ True ∧ (True ∧ True ∧ True) ∧ True ∧ True)
       ⟨tt,tt,tt,⟨tt,tt,tt⟩,tt,tt⟩ ?_
      refine W.ret ?_
      exact endQ_ret (.b (decide ((((List.length c.marks) : Nat) : Int) ≤ (20 : Int)))) (by kernel_rfl) (@cast ((.bool (decide ((((List.length c.marks) : Nat) : Int) ≤ (20 : Int))) : Value) = .bool (validCopy c)) _ (by kernel_rfl) (congrArg Value.bool (by exact valid_spec (valid_spec2 n48).2.2 (counts_part (valid_spec2 n48).1 (fun j hj => hU j (by omega))) (counts_part (valid_spec2 n48).2.1 (fun j hj => hD j (by omega))) (allN_true (fun j hj => hA j (by omega))))))
theorem ent34 : Entr prog 34 := ⟨_,func34,rfl,by decide⟩
end Go.Proofs.Try

set_option linter.unusedSimpArgs false
set_option linter.unusedVariables false
namespace Go.Proofs.Try
open Go.Ab Go.RowKit
def fs57 : FnS := fnS [.a [some .ints,some .ints,none,none,none,some .marks]] [.copy] (fun _ (c,_) => (.own 0 (List.length (valsUp c.marks 4)),[(3,.ints (valsUp c.marks 4))],True))
abbrev T57 : Tab := lk []
theorem tab57 : TabOK prog T57 := TabOK.nil
set_option maxRecDepth 100000 in
set_option maxHeartbeats 1000000 in
theorem ok57 : FnOK prog 57 fs57 := by
 refine FnOK.mk cok func57 rfl rfl rfl ?_
 rintro fl ⟨(c : CopyD),_⟩ hpre F hnt0 _
 have hnt : F.nt = 40 := hnt0.trans ntmps57
 clear hpre
 refine W.to (⟨[(0,.agg (cC c))],[],[999]⟩) rfl ?_
 refine W.lenA 0 0 (cC c) (.ints c.up) (by kernel_rfl) (by kernel_rfl) ?_
 intro hl_c_up; replace hl_c_up : List.length c.up ≤ 9223372036854775807 := hl_c_up
 refine W.lenA 0 1 (cC c) (.ints c.down) (by kernel_rfl) (by kernel_rfl) ?_
 intro hl_c_down; replace hl_c_down : List.length c.down ≤ 9223372036854775807 := hl_c_down
 refine W.lenA 0 5 (cC c) (.marks c.marks) (by kernel_rfl) (by kernel_rfl) ?_
 intro hl_c_marks; replace hl_c_marks : List.length c.marks ≤ 9223372036854775807 := hl_c_marks
 refine Kk cok tab57 hnt [] [1] (⟨[(1,.ptr 1 0)],[(1,⟨29,.fix (cC c)⟩)],[1,999]⟩)
  (True ∧ True ∧ True)
  ⟨tt,tt,tt⟩ ?_
 refine Kk cok tab57 hnt [6] [1,3] (⟨[(1,.ptr 1 0),(3,.own 6 (List.length ([] : List Int)))],[(1,⟨29,.fix (cC c)⟩),(6,⟨3,.row (.ints ([] : List Int))⟩)],[6,1,999]⟩)
  (True ∧ True ∧ True)
  ⟨tt,tt,tt⟩ ?_
 refine W.seq ?_
 refine Kk cok tab57 hnt [] [1,3,4] (⟨[(1,.ptr 1 0),(3,.own 6 (List.length ([] : List Int))),(4,.i (0 : Int))],[(1,⟨29,.fix (cC c)⟩),(6,⟨3,.row (.ints ([] : List Int))⟩)],[6,1,999]⟩)
  (True ∧ True)
  ⟨tt,tt⟩ ?_
 refine W.block ?_
 refine W.loop (ι := Nat × (List Int)) (fun (x : Nat × (List Int)) => match x with | (v,lo) => (⟨[(1,.ptr 1 0),(3,.own 6 lo.length),(4,.i ((v : Nat) : Int))],[(1,⟨29,.fix (cC c)⟩),(6,⟨3,.row (.ints lo)⟩)],[1,6,999]⟩ : St))
  (fun (x : Nat × (List Int)) => match x with | (v,lo) => (v ≤ 4) ∧ (lo = valsUp c.marks v))
  (fun (x : Nat × (List Int)) => match x with | (v,lo) => (4 - v : Nat)) (0,([] : List Int)) ?_ ?_ ?_
 ·exact (show (0 ≤ 4) ∧ (([] : List Int) = valsUp c.marks 0) from ⟨(by first | assumption | omega | rfl | (intro _ hjj; omega) | (simp; done) | (simp; omega)),(by rfl)⟩)
 ·exact Sub.of [] (@cast (((((1 : Nat) = 1) ∧ ((0 : Nat) = 0) ∧ ((1 : Nat) ∈ ([1,6,999] : List Nat))) ∧ (((6 : Nat) = 6) ∧ ((List.length ([] : List Int)) = (List.length ([] : List Int))) ∧ ((6 : Nat) ∈ ([1,6,999] : List Nat))) ∧ ((.int .i64 (0 : Int) : Value) = .int .i64 ((0 : Nat) : Int)) ∧ True) ∧ ((((29 : Nat) = 29) ∧ (Sc c) ∧ ((1 : Nat) ∈ ([1,6,999] : List Nat))) ∧ (((3 : Nat) = 3) ∧ (Sd (.ints ([] : List Int))) ∧ ((6 : Nat) ∈ ([1,6,999] : List Nat))) ∧ True) ∧ (true = true) ∧ (true = true)) _ (by kernel_rfl) ⟨⟨⟨rfl,rfl,(by decide)⟩,⟨rfl,rfl,(by decide)⟩,(congrArg (Value.int .i64) (by first | rfl | omega | assumption | simp | simp_all)),tt⟩,⟨⟨rfl,⟨rfl,rfl,rfl,rfl,rfl,rfl,tt⟩,(by decide)⟩,⟨rfl,rfl,(by decide)⟩,tt⟩,rfl,rfl⟩)
 ·rintro ⟨v,lo⟩ hC0
  have hC : (v ≤ 4) ∧ (lo = valsUp c.marks v) := hC0
  clear hC0
  obtain ⟨hv,hl⟩ := hC
  refine W.to (⟨[(1,.ptr 1 0),(3,.own 6 lo.length),(4,.i ((v : Nat) : Int))],[(1,⟨29,.fix (cC c)⟩),(6,⟨3,.row (.ints lo)⟩)],[1,6,999]⟩) rfl ?_
  have hll : lo.length ≤ v := by rw [hl]; exact valsUp_len _ _
  refine W.seq ?_
  refine Kk cok tab57 hnt [] [1,3,4,8] (⟨[(1,.ptr 1 0),(3,.own 6 lo.length),(4,.i ((v : Nat) : Int)),(8,.b (decide (((v : Nat) : Int) ≤ (3 : Int))))],[(1,⟨29,.fix (cC c)⟩),(6,⟨3,.row (.ints lo)⟩)],[1,6,999]⟩)
   (True ∧ (True ∧ True ∧ True) ∧ True)
   ⟨tt,⟨tt,tt,tt⟩,tt⟩ ?_
  refine W.ifP (((v : Nat) : Int) ≤ (3 : Int)) (.b (decide (((v : Nat) : Int) ≤ (3 : Int)))) (by kernel_rfl) rfl trivial ?_ ?_
  ·intro h8
   refine W.skip (thenQ_normal ?_)
   refine W.seq ?_
   refine W.block ?_
   refine Kk cok tab57 hnt [] [1,3,4,5] (⟨[(1,.ptr 1 0),(3,.own 6 lo.length),(4,.i ((v : Nat) : Int)),(5,.i (0 : Int))],[(1,⟨29,.fix (cC c)⟩),(6,⟨3,.row (.ints lo)⟩)],[1,6,999]⟩)
    (True ∧ True)
    ⟨tt,tt⟩ ?_
   refine W.block ?_
   refine W.loop (ι := Nat × (List Int)) (fun (x : Nat × (List Int)) => match x with | (i,lw) => (⟨[(1,.ptr 1 0),(3,.own 6 lw.length),(4,.i ((v : Nat) : Int)),(5,.i ((i : Nat) : Int))],[(1,⟨29,.fix (cC c)⟩),(6,⟨3,.row (.ints lw)⟩)],[1,6,999]⟩ : St))
    (fun (x : Nat × (List Int)) => match x with | (i,lw) => (i ≤ c.marks.length) ∧ (lw = valsUp c.marks v) ∧ (∀ j,j < i → hasAt c.marks ((v : Nat) : Int) j = false))
    (fun (x : Nat × (List Int)) => match x with | (i,lw) => (c.marks.length - i : Nat)) (0,lo) ?_ ?_ ?_
   ·exact (show (0 ≤ c.marks.length) ∧ (lo = valsUp c.marks v) ∧ (∀ j,j < 0 → hasAt c.marks ((v : Nat) : Int) j = false) from ⟨(by first | assumption | omega | rfl | (intro _ hjj; omega) | (simp; done) | (simp; omega)),(by exact hl),(by exact upto_zero2)⟩)
   ·exact Sub.of [] (@cast (((((1 : Nat) = 1) ∧ ((0 : Nat) = 0) ∧ ((1 : Nat) ∈ ([1,6,999] : List Nat))) ∧ (((6 : Nat) = 6) ∧ (lo.length = lo.length) ∧ ((6 : Nat) ∈ ([1,6,999] : List Nat))) ∧ (Si ((v : Nat) : Int)) ∧ ((.int .i64 (0 : Int) : Value) = .int .i64 ((0 : Nat) : Int)) ∧ True) ∧ ((((29 : Nat) = 29) ∧ (Sc c) ∧ ((1 : Nat) ∈ ([1,6,999] : List Nat))) ∧ (((3 : Nat) = 3) ∧ (Sd (.ints lo)) ∧ ((6 : Nat) ∈ ([1,6,999] : List Nat))) ∧ True) ∧ (true = true) ∧ (true = true)) _ (by kernel_rfl) ⟨⟨⟨rfl,rfl,(by decide)⟩,⟨rfl,rfl,(by decide)⟩,rfl,(congrArg (Value.int .i64) (by first | rfl | omega | assumption | simp | simp_all)),tt⟩,⟨⟨rfl,⟨rfl,rfl,rfl,rfl,rfl,rfl,tt⟩,(by decide)⟩,⟨rfl,rfl,(by decide)⟩,tt⟩,rfl,rfl⟩)
   ·rintro ⟨i,lw⟩ hC0
    have hC : (i ≤ c.marks.length) ∧ (lw = valsUp c.marks v) ∧ (∀ j,j < i → hasAt c.marks ((v : Nat) : Int) j = false) := hC0
    clear hC0
    obtain ⟨hi,hlw,hA⟩ := hC
    refine W.to (⟨[(1,.ptr 1 0),(3,.own 6 lw.length),(4,.i ((v : Nat) : Int)),(5,.i ((i : Nat) : Int))],[(1,⟨29,.fix (cC c)⟩),(6,⟨3,.row (.ints lw)⟩)],[1,6,999]⟩) rfl ?_
    have hlwl : lw.length ≤ v := by rw [hlw]; exact valsUp_len _ _
    refine W.seq ?_
    refine Kk cok tab57 hnt [] [1,3,4,5,15] (⟨[(1,.ptr 1 0),(3,.own 6 lw.length),(4,.i ((v : Nat) : Int)),(5,.i ((i : Nat) : Int)),(15,.b (decide (((i : Nat) : Int) < (((List.length c.marks) : Nat) : Int))))],[(1,⟨29,.fix (cC c)⟩),(6,⟨3,.row (.ints lw)⟩)],[1,6,999]⟩)
     (True ∧ True ∧ True ∧ True ∧ (True ∧ True ∧ True) ∧ True)
     ⟨tt,tt,tt,tt,⟨tt,tt,tt⟩,tt⟩ ?_
    refine W.ifP (((i : Nat) : Int) < (((List.length c.marks) : Nat) : Int)) (.b (decide (((i : Nat) : Int) < (((List.length c.marks) : Nat) : Int)))) (by kernel_rfl) rfl trivial ?_ ?_
    ·intro h15
     refine W.skip (thenQ_normal ?_)
     refine W.seq ?_
     refine W.block ?_
     refine Kk cok tab57 hnt [] [1,3,4,5,34] (⟨[(1,.ptr 1 0),(3,.own 6 lw.length),(4,.i ((v : Nat) : Int)),(5,.i ((i : Nat) : Int)),(34,.b ((decide (((List.getD c.marks i default).value) = ((v : Nat) : Int))) && (!((List.getD c.marks i default).gone))))],[(1,⟨29,.fix (cC c)⟩),(6,⟨3,.row (.ints lw)⟩)],[1,6,999]⟩)
      ((fun (Z1:Bool)=>(True ∧ (True ∧ (True ∧ ((True ∧ (True ∧ ((0 ≤ ((i : Nat) : Int)) ∧ (((i : Nat) : Int) < (((List.length c.marks) : Nat) : Int))))) ∧ (True ∧ (True ∧ (True ∧ ((True ∧ (True ∧ True)) ∧ (True ∧ ((Z1 = true → True) ∧ ((Z1 = true → ((Z1 = true) ∧ True)) ∧ ((Z1 = true → True) ∧ ((Z1 = true → (((Z1 = true) ∧ True) ∧ (((Z1 = true) ∧ True) ∧ ((0 ≤ ((i : Nat) : Int)) ∧ (((i : Nat) : Int) < (((List.length c.marks) : Nat) : Int)))))) ∧ ((Z1 = true → ((Z1 = true) ∧ True)) ∧ ((Z1 = true → ((Z1 = true) ∧ True)) ∧ ((Z1 = true → ((Z1 = true) ∧ True)) ∧ ((True ∧ ((Z1 = true → (Z1 = true) ∧ True) ∧ (Z1 = false → True))) ∧ True)))))))))))))))))) (decide (((List.getD c.marks i default).value) = ((v : Nat) : Int))))
      ⟨tt,tt,tt,⟨tt,tt,(by omega),(by omega)⟩,tt,tt,tt,⟨tt,tt,tt⟩,tt,(fun _ => trivial),(fun hG => ⟨hG,tt⟩),(fun _ => trivial),(fun hG => ⟨⟨hG,tt⟩,⟨hG,tt⟩,(by have hg0 : ((List.getD c.marks i default).value) = ((v : Nat) : Int) := of_decide_eq_true hG; omega),(by have hg0 : ((List.getD c.marks i default).value) = ((v : Nat) : Int) := of_decide_eq_true hG; omega)⟩),(fun hG => ⟨hG,tt⟩),(fun hG => ⟨hG,tt⟩),(fun hG => ⟨hG,tt⟩),⟨tt,(fun hp => ⟨hp,tt⟩),(fun _ => trivial)⟩,tt⟩ ?_
     refine W.if' ((decide (((List.getD c.marks i default).value) = ((v : Nat) : Int))) && (!((List.getD c.marks i default).gone))) (.b ((decide (((List.getD c.marks i default).value) = ((v : Nat) : Int))) && (!((List.getD c.marks i default).gone)))) (by kernel_rfl) rfl trivial ?_ ?_
     ·intro h34
      have h34_0 : ((List.getD c.marks i default).value) = ((v : Nat) : Int) := of_decide_eq_true (and_l h34)
      refine Kk cok tab57 hnt [38] [1,3,4] (⟨[(1,.ptr 1 0),(3,.own 38 (List.length (lw ++ ([((v : Nat) : Int)])))),(4,.i ((v : Nat) : Int))],[(1,⟨29,.fix (cC c)⟩),(38,⟨3,.row (.ints (lw ++ ([((v : Nat) : Int)])))⟩)],[38,37,1,6,999]⟩)
       (True ∧ True ∧ (True ∧ True) ∧ ((True ∧ (lw.length = lw.length)) ∧ True ∧ ((lw.length + (List.length ([((v : Nat) : Int)]))) * 8 ≤ 140737488355328)) ∧ True ∧ True)
       ⟨tt,tt,⟨tt,tt⟩,⟨⟨tt,rfl⟩,tt,(by (try simp only [List.length_append,List.length_cons,List.length_nil,List.length_set]); omega)⟩,tt,tt⟩ ?_
      refine W.exit (blockQ_miss rfl (thenQ_exit (thenQ_exit (blockQ_hit ?_))))
      refine blockQ_normal (thenQ_normal ?_)
      refine Lk cok tab57 hnt [] (⟨[(1,.ptr 1 0),(3,.own 38 (List.length (lw ++ ([((v : Nat) : Int)])))),(4,.i (((v + 1) : Nat) : Int)),(9,.i ((v : Nat) : Int)),(10,.i (((v + 1) : Nat) : Int))],[(1,⟨29,.fix (cC c)⟩),(38,⟨3,.row (.ints (lw ++ ([((v : Nat) : Int)])))⟩)],[38,37,1,6,999]⟩)
       (True ∧ (True ∧ True ∧ (Fits .i64 (((v + 1) : Nat) : Int))) ∧ True ∧ True)
       ⟨tt,⟨tt,tt,(by exact fits_i64 (by omega) (by omega))⟩,tt,tt⟩ ?_
      refine thenQ_normal ?_
      refine ⟨((v + 1),(lw ++ ([((v : Nat) : Int)]))),(show ((v + 1) ≤ 4) ∧ ((lw ++ ([((v : Nat) : Int)])) = valsUp c.marks (v + 1)) from ⟨(by first | assumption | omega | rfl | (intro _ hjj; omega) | (simp; done) | (simp; omega)),(by first | exact vals_yes hlw (by omega) h34 | exact vals_no hlw hA (by omega))⟩),(show 4 - (v + 1) < 4 - v from (by first | omega | (simp_all; omega))),?_⟩
      exact Sub.of [(6,38)] (@cast (((((1 : Nat) = 1) ∧ ((0 : Nat) = 0) ∧ ((1 : Nat) ∈ ([1,6,999] : List Nat))) ∧ (((38 : Nat) = 38) ∧ ((List.length (lw ++ ([((v : Nat) : Int)]))) = (List.length (lw ++ ([((v : Nat) : Int)])))) ∧ ((6 : Nat) ∈ ([1,6,999] : List Nat))) ∧ (Si (((v + 1) : Nat) : Int)) ∧ True) ∧ ((((29 : Nat) = 29) ∧ (Sc c) ∧ ((1 : Nat) ∈ ([1,6,999] : List Nat))) ∧ (((3 : Nat) = 3) ∧ (Sd (.ints (lw ++ ([((v : Nat) : Int)])))) ∧ ((6 : Nat) ∈ ([1,6,999] : List Nat))) ∧ True) ∧ (true = true) ∧ (true = true)) _ (by kernel_rfl) ⟨⟨⟨rfl,rfl,(by decide)⟩,⟨rfl,rfl,(by decide)⟩,rfl,tt⟩,⟨⟨rfl,⟨rfl,rfl,rfl,rfl,rfl,rfl,tt⟩,(by decide)⟩,⟨rfl,rfl,(by decide)⟩,tt⟩,rfl,rfl⟩)
     ·intro n34
      refine W.skip (blockQ_normal (thenQ_normal ?_))
      refine Lk cok tab57 hnt [] (⟨[(1,.ptr 1 0),(3,.own 6 lw.length),(4,.i ((v : Nat) : Int)),(5,.i (((i + 1) : Nat) : Int)),(16,.i ((i : Nat) : Int)),(17,.i (((i + 1) : Nat) : Int)),(34,.b ((decide (((List.getD c.marks i default).value) = ((v : Nat) : Int))) && (!((List.getD c.marks i default).gone))))],[(1,⟨29,.fix (cC c)⟩),(6,⟨3,.row (.ints lw)⟩)],[1,6,999]⟩)
       (True ∧ (True ∧ True ∧ (Fits .i64 (((i + 1) : Nat) : Int))) ∧ True ∧ True)
       ⟨tt,⟨tt,tt,(by exact fits_i64 (by omega) (by omega))⟩,tt,tt⟩ ?_
      refine thenQ_normal ?_
      refine ⟨((i + 1),lw),(show ((i + 1) ≤ c.marks.length) ∧ (lw = valsUp c.marks v) ∧ (∀ j,j < (i + 1) → hasAt c.marks ((v : Nat) : Int) j = false) from ⟨(by first | assumption | omega | rfl | (intro _ hjj; omega) | (simp; done) | (simp; omega)),(by first | assumption | omega | rfl | (intro _ hjj; omega) | (simp; done) | (simp; omega)),(by exact upto_succ2 hA n34)⟩),(show c.marks.length - (i + 1) < c.marks.length - i from (by first | omega | (simp_all; omega))),?_⟩
      exact Sub.of [] (@cast (((((1 : Nat) = 1) ∧ ((0 : Nat) = 0) ∧ ((1 : Nat) ∈ ([1,6,999] : List Nat))) ∧ (((6 : Nat) = 6) ∧ (lw.length = lw.length) ∧ ((6 : Nat) ∈ ([1,6,999] : List Nat))) ∧ (Si ((v : Nat) : Int)) ∧ (Si (((i + 1) : Nat) : Int)) ∧ True) ∧ ((((29 : Nat) = 29) ∧ (Sc c) ∧ ((1 : Nat) ∈ ([1,6,999] : List Nat))) ∧ (((3 : Nat) = 3) ∧ (Sd (.ints lw)) ∧ ((6 : Nat) ∈ ([1,6,999] : List Nat))) ∧ True) ∧ (true = true) ∧ (true = true)) _ (by kernel_rfl) ⟨⟨⟨rfl,rfl,(by decide)⟩,⟨rfl,rfl,(by decide)⟩,rfl,rfl,tt⟩,⟨⟨rfl,⟨rfl,rfl,rfl,rfl,rfl,rfl,tt⟩,(by decide)⟩,⟨rfl,rfl,(by decide)⟩,tt⟩,rfl,rfl⟩)
    ·intro n15
     refine W.exit (thenQ_exit (thenQ_exit (blockQ_hit ?_)))
     refine blockQ_normal (thenQ_normal ?_)
     refine Lk cok tab57 hnt [] (⟨[(1,.ptr 1 0),(3,.own 6 lw.length),(4,.i (((v + 1) : Nat) : Int)),(5,.i ((i : Nat) : Int)),(9,.i ((v : Nat) : Int)),(10,.i (((v + 1) : Nat) : Int)),(15,.b (decide (((i : Nat) : Int) < (((List.length c.marks) : Nat) : Int))))],[(1,⟨29,.fix (cC c)⟩),(6,⟨3,.row (.ints lw)⟩)],[1,6,999]⟩)
      (True ∧ (True ∧ True ∧ (Fits .i64 (((v + 1) : Nat) : Int))) ∧ True ∧ True)
      ⟨tt,⟨tt,tt,(by exact fits_i64 (by omega) (by omega))⟩,tt,tt⟩ ?_
     refine thenQ_normal ?_
     refine ⟨((v + 1),lw),(show ((v + 1) ≤ 4) ∧ (lw = valsUp c.marks (v + 1)) from ⟨(by first | assumption | omega | rfl | (intro _ hjj; omega) | (simp; done) | (simp; omega)),(by first | exact vals_yes hlw (by omega) h34 | exact vals_no hlw hA (by omega))⟩),(show 4 - (v + 1) < 4 - v from (by first | omega | (simp_all; omega))),?_⟩
     exact Sub.of [] (@cast (((((1 : Nat) = 1) ∧ ((0 : Nat) = 0) ∧ ((1 : Nat) ∈ ([1,6,999] : List Nat))) ∧ (((6 : Nat) = 6) ∧ (lw.length = lw.length) ∧ ((6 : Nat) ∈ ([1,6,999] : List Nat))) ∧ (Si (((v + 1) : Nat) : Int)) ∧ True) ∧ ((((29 : Nat) = 29) ∧ (Sc c) ∧ ((1 : Nat) ∈ ([1,6,999] : List Nat))) ∧ (((3 : Nat) = 3) ∧ (Sd (.ints lw)) ∧ ((6 : Nat) ∈ ([1,6,999] : List Nat))) ∧ True) ∧ (true = true) ∧ (true = true)) _ (by kernel_rfl) ⟨⟨⟨rfl,rfl,(by decide)⟩,⟨rfl,rfl,(by decide)⟩,rfl,tt⟩,⟨⟨rfl,⟨rfl,rfl,rfl,rfl,rfl,rfl,tt⟩,(by decide)⟩,⟨rfl,rfl,(by decide)⟩,tt⟩,rfl,rfl⟩)
  ·intro n8
   refine W.exit (thenQ_exit (thenQ_exit (blockQ_hit ?_)))
   refine thenQ_normal ?_
   refine Kk cok tab57 hnt [] [2] (⟨[(2,.own 6 lo.length)],[(1,⟨29,.fix (cC c)⟩),(6,⟨3,.row (.ints lo)⟩)],[1,6,999]⟩)
    (True ∧ True ∧ True)
    ⟨tt,tt,tt⟩ ?_
   refine W.ret ?_
   exact endQ_rows [(0,6)] (.own 6 lo.length) (by kernel_rfl) (@cast (((6 : Nat) = 6) ∧ (lo.length = (List.length (valsUp c.marks 4))) ∧ ((0 : Nat) ∈ ([0] : List Nat))) _ (by kernel_rfl) ⟨rfl,(by first | rfl | omega | assumption | (symm; assumption) | (exact congrArg List.length (by rw [hl,show v = 4 by omega])) | (rw [hl,show v = 4 by omega]; done) | simp | simp_all),(by decide)⟩) (@cast ((((3 : Nat) = 3) ∧ ((.ints lo : Dat) = .ints (valsUp c.marks 4)) ∧ ((0 : Nat) ∈ ([0] : List Nat))) ∧ True) _ (by kernel_rfl) ⟨⟨rfl,(congrArg Dat.ints (by rw [hl,show v = 4 by omega])),(by decide)⟩,tt⟩) (by kernel_rfl)
theorem ent57 : Entr prog 57 := ⟨_,func57,rfl,by decide⟩
end Go.Proofs.Try

set_option linter.unusedSimpArgs false
set_option linter.unusedVariables false
namespace Go.Proofs.Try
open Go.Ab Go.RowKit
def fs27 : FnS := fnS [.a [some .ints,some .ints,none,none,none,some .marks]] [.copy] (fun _ (c,_) => (.sl (.ints (valuesC c)),[],True))
abbrev T27 : Tab := lk [(34,fs34),(57,fs57)]
theorem tab27 : TabOK prog T27 := (TabOK.cons ok34 ent34 (TabOK.cons ok57 ent57 TabOK.nil))
set_option maxRecDepth 100000 in
set_option maxHeartbeats 1000000 in
theorem ok27 : FnOK prog 27 fs27 := by
 refine FnOK.mk cok func27 rfl rfl rfl ?_
 rintro fl ⟨(c : CopyD),_⟩ hpre F hnt0 _
 have hnt : F.nt = 8 := hnt0.trans ntmps27
 clear hpre
 refine W.to (⟨[(0,.agg (cC c))],[],[999]⟩) rfl ?_
 refine W.lenA 0 0 (cC c) (.ints c.up) (by kernel_rfl) (by kernel_rfl) ?_
 intro hl_c_up; replace hl_c_up : List.length c.up ≤ 9223372036854775807 := hl_c_up
 refine W.lenA 0 1 (cC c) (.ints c.down) (by kernel_rfl) (by kernel_rfl) ?_
 intro hl_c_down; replace hl_c_down : List.length c.down ≤ 9223372036854775807 := hl_c_down
 refine W.lenA 0 5 (cC c) (.marks c.marks) (by kernel_rfl) (by kernel_rfl) ?_
 intro hl_c_marks; replace hl_c_marks : List.length c.marks ≤ 9223372036854775807 := hl_c_marks
 refine Kk cok tab27 hnt [] [1] (⟨[(1,.ptr 1 0)],[(1,⟨29,.fix (cC c)⟩)],[1,999]⟩)
  (True ∧ True ∧ True)
  ⟨tt,tt,tt⟩ ?_
 refine W.seq ?_
 refine Kk cok tab27 hnt [] [1,5] (⟨[(1,.ptr 1 0),(5,.b (!(validCopy c)))],[(1,⟨29,.fix (cC c)⟩)],[1,999]⟩)
  (True ∧ (True ∧ ((True ∧ True ∧ True ∧ True ∧ True ∧ True ∧ True ∧ True) ∧ True) ∧ True) ∧ True ∧ True)
  ⟨tt,⟨tt,⟨⟨tt,tt,tt,tt,tt,tt,tt,tt⟩,tt⟩,tt⟩,tt,tt⟩ ?_
 refine W.if' (!(validCopy c)) (.b (!(validCopy c))) (by kernel_rfl) rfl trivial ?_ ?_
 ·intro h5
  refine Kk cok tab27 hnt [] [2] (⟨[(2,.v (.slice none 0 0))],[(1,⟨29,.fix (cC c)⟩)],[1,999]⟩)
   (True ∧ True)
   ⟨tt,tt⟩ ?_
  refine W.ret (thenQ_ret ?_)
  exact endQ_ret (.v (.slice none 0 0)) (by kernel_rfl) (@cast (((Value.slice none 0 0 : Value) = .slice none 0 0) ∧ ((Dat.ints (valuesC c)).len = 0)) _ (by kernel_rfl) ⟨rfl,(by show List.length (valuesC c) = 0; rw [← values_bad (not_f h5)]; rfl)⟩)
 ·intro n5
  refine W.skip (thenQ_normal ?_)
  refine Kk cok tab27 hnt [] [2] (⟨[(2,.sl (.ints (valsUp c.marks 4)))],[(1,⟨29,.fix (cC c)⟩)],[7,1,999]⟩)
   (True ∧ ((True ∧ ((True ∧ True ∧ True ∧ True ∧ True ∧ True ∧ True ∧ True) ∧ True) ∧ True) ∧ ((List.length (valsUp c.marks 4)) = (List.length (valsUp c.marks 4)))) ∧ True ∧ True)
   ⟨tt,⟨⟨tt,⟨⟨tt,tt,tt,tt,tt,tt,tt,tt⟩,tt⟩,tt⟩,rfl⟩,tt,tt⟩ ?_
  refine W.ret ?_
  exact endQ_ret (.sl (.ints (valsUp c.marks 4))) (by kernel_rfl) (@cast ((.ints (valsUp c.marks 4) : Dat) = .ints (valuesC c)) _ (by kernel_rfl) (congrArg Dat.ints (by exact values_ok2 (not_g n5))))
theorem ent27 : Entr prog 27 := ⟨_,func27,rfl,by decide⟩
end Go.Proofs.Try

set_option linter.unusedSimpArgs false
set_option linter.unusedVariables false
namespace Go.Proofs.Try
open Go.Ab Go.RowKit
def fs44 : FnS := fnS [.o,.o,.o] [.int,.int,.int] (fun _ (n,low,high,_) => (.b (within n low high),[],True))
abbrev T44 : Tab := lk []
theorem tab44 : TabOK prog T44 := TabOK.nil
set_option maxRecDepth 100000 in
set_option maxHeartbeats 1000000 in
theorem ok44 : FnOK prog 44 fs44 := by
 refine FnOK.mk cok func44 rfl rfl rfl ?_
 rintro fl ⟨(n : Int),(low : Int),(high : Int),_⟩ hpre F hnt0 _
 have hnt : F.nt = 15 := hnt0.trans ntmps44
 clear hpre
 refine W.to (⟨[(0,.i n),(1,.i low),(2,.i high)],[],[999]⟩) rfl ?_
 refine Kk cok tab44 hnt [] [0,1,2] (⟨[(0,.i n),(1,.i low),(2,.i high)],[],[999]⟩)
  (True ∧ True)
  ⟨tt,tt⟩ ?_
 refine Kk cok tab44 hnt [] [6] (⟨[(6,.b ((decide (low ≤ n)) && (decide (n ≤ high))))],[],[999]⟩)
  ((fun (Z1:Bool)=>(True ∧ (True ∧ ((True ∧ (True ∧ True)) ∧ (True ∧ ((Z1 = true → True) ∧ ((Z1 = true → True) ∧ ((Z1 = true → (((Z1 = true) ∧ True) ∧ (((Z1 = true) ∧ True) ∧ True))) ∧ ((True ∧ ((Z1 = true → (Z1 = true) ∧ True) ∧ (Z1 = false → True))) ∧ (True ∧ True)))))))))) (decide (low ≤ n)))
  ⟨tt,tt,⟨tt,tt,tt⟩,tt,(fun _ => trivial),(fun _ => trivial),(fun hG => ⟨⟨hG,tt⟩,⟨hG,tt⟩,tt⟩),⟨tt,(fun hp => ⟨hp,tt⟩),(fun _ => trivial)⟩,tt,tt⟩ ?_
 refine W.ret ?_
 exact endQ_ret (.b ((decide (low ≤ n)) && (decide (n ≤ high)))) (by kernel_rfl) (@cast ((.bool ((decide (low ≤ n)) && (decide (n ≤ high))) : Value) = .bool (within n low high)) _ (by kernel_rfl) (congrArg Value.bool (by first | rfl | simp_all)))
theorem ent44 : Entr prog 44 := ⟨_,func44,rfl,by decide⟩
end Go.Proofs.Try

set_option linter.unusedSimpArgs false
set_option linter.unusedVariables false
namespace Go.Proofs.Try
open Go.Ab Go.RowKit
def fs61 : FnS := fnS [.o] [.mark] (fun _ (mm,_) => (.b (isMark mm),[],True))
abbrev T61 : Tab := lk [(44,fs44)]
theorem tab61 : TabOK prog T61 := (TabOK.cons ok44 ent44 TabOK.nil)
set_option maxRecDepth 100000 in
set_option maxHeartbeats 1000000 in
theorem ok61 : FnOK prog 61 fs61 := by
 refine FnOK.mk cok func61 rfl rfl rfl ?_
 rintro fl ⟨(mm : MarkD),_⟩ hpre F hnt0 _
 have hnt : F.nt = 16 := hnt0.trans ntmps61
 clear hpre
 refine W.to (⟨[(0,.agg [.i mm.value,.i mm.proc,.i mm.number,.b mm.gone])],[],[999]⟩) rfl ?_
 refine Kk cok tab61 hnt [] [1] (⟨[(1,.ptr 1 0)],[(1,⟨50,.fix [.i mm.value,.i mm.proc,.i mm.number,.b mm.gone]⟩)],[1,999]⟩)
  (True ∧ True ∧ True)
  ⟨tt,tt,tt⟩ ?_
 refine Kk cok tab61 hnt [] [2] (⟨[(2,.b (((within mm.value (0 : Int) (3 : Int)) && (within mm.proc (0 : Int) (2 : Int))) && (within mm.number (1 : Int) (20 : Int))))],[(1,⟨50,.fix [.i mm.value,.i mm.proc,.i mm.number,.b mm.gone]⟩)],[1,999]⟩)
  ((fun (Z1:Bool)=>((fun (Z2:Bool)=>(True ∧ (True ∧ ((True ∧ ((True ∧ (True ∧ (True ∧ True))) ∧ True)) ∧ (True ∧ ((Z1 = true → True) ∧ ((Z1 = true → ((Z1 = true) ∧ True)) ∧ ((Z1 = true → (True ∧ ((((Z1 = true) ∧ True) ∧ (True ∧ (True ∧ True))) ∧ True))) ∧ ((True ∧ ((Z1 = true → (Z1 = true) ∧ True) ∧ (Z1 = false → True))) ∧ (True ∧ ((Z2 = true → True) ∧ ((Z2 = true → ((Z2 = true) ∧ True)) ∧ ((Z2 = true → (True ∧ ((((Z2 = true) ∧ True) ∧ (True ∧ (True ∧ True))) ∧ True))) ∧ ((True ∧ ((Z2 = true → (Z2 = true) ∧ True) ∧ (Z2 = false → True))) ∧ (True ∧ True))))))))))))))) (Z1 && (within mm.proc (0 : Int) (2 : Int))))) (within mm.value (0 : Int) (3 : Int)))
  ⟨tt,tt,⟨tt,⟨tt,tt,tt,tt⟩,tt⟩,tt,(fun _ => trivial),(fun hG => ⟨hG,tt⟩),(fun hG => ⟨tt,⟨⟨hG,tt⟩,tt,tt,tt⟩,tt⟩),⟨tt,(fun hp => ⟨hp,tt⟩),(fun _ => trivial)⟩,tt,(fun _ => trivial),(fun hG => ⟨hG,tt⟩),(fun hG => ⟨tt,⟨⟨hG,tt⟩,tt,tt,tt⟩,tt⟩),⟨tt,(fun hp => ⟨hp,tt⟩),(fun _ => trivial)⟩,tt,tt⟩ ?_
 refine W.ret ?_
 exact endQ_ret (.b (((within mm.value (0 : Int) (3 : Int)) && (within mm.proc (0 : Int) (2 : Int))) && (within mm.number (1 : Int) (20 : Int)))) (by kernel_rfl) (@cast ((.bool (((within mm.value (0 : Int) (3 : Int)) && (within mm.proc (0 : Int) (2 : Int))) && (within mm.number (1 : Int) (20 : Int))) : Value) = .bool (isMark mm)) _ (by kernel_rfl) (congrArg Value.bool (by first | rfl | simp_all)))
theorem ent61 : Entr prog 61 := ⟨_,func61,rfl,by decide⟩
end Go.Proofs.Try

set_option linter.unusedSimpArgs false
set_option linter.unusedVariables false
namespace Go.Proofs.Try
open Go.Ab Go.RowKit
def fs76 : FnS := fnS [.o] [.int] (fun _ (x,_) => (.b false,[],True))
abbrev T76 : Tab := lk []
theorem tab76 : TabOK prog T76 := TabOK.nil
set_option maxRecDepth 100000 in
set_option maxHeartbeats 1000000 in
theorem ok76 : FnOK prog 76 fs76 := by
 refine FnOK.mk cok func76 rfl rfl rfl ?_
 rintro fl ⟨(x : Int),_⟩ hpre F hnt0 _
 have hnt : F.nt = 6 := hnt0.trans ntmps76
 clear hpre
 refine W.to (⟨[(0,.i x)],[],[999]⟩) rfl ?_
 refine Kk cok tab76 hnt [] [0] (⟨[(0,.i x)],[],[999]⟩)
  (True ∧ True)
  ⟨tt,tt⟩ ?_
 refine Kk cok tab76 hnt [] [2] (⟨[(2,.b (decide (x ≠ x)))],[],[999]⟩)
  (True ∧ True ∧ (True ∧ True ∧ True) ∧ True ∧ True)
  ⟨tt,tt,⟨tt,tt,tt⟩,tt,tt⟩ ?_
 refine W.ret ?_
 exact endQ_ret (.b (decide (x ≠ x))) (by kernel_rfl) (@cast ((.bool (decide (x ≠ x)) : Value) = .bool false) _ (by kernel_rfl) (congrArg Value.bool (by simp)))
theorem ent76 : Entr prog 76 := ⟨_,func76,rfl,by decide⟩
end Go.Proofs.Try

set_option linter.unusedSimpArgs false
set_option linter.unusedVariables false
namespace Go.Proofs.Try
open Go.Ab Go.RowKit
def fs67 : FnS := fnS [.o,.o] [.int,.int] (fun _ (a,b,_) => (.i (cmpI a b),[],True))
abbrev T67 : Tab := lk [(76,fs76)]
theorem tab67 : TabOK prog T67 := (TabOK.cons ok76 ent76 TabOK.nil)
set_option maxRecDepth 100000 in
set_option maxHeartbeats 1000000 in
theorem ok67 : FnOK prog 67 fs67 := by
 refine FnOK.mk cok func67 rfl rfl rfl ?_
 rintro fl ⟨(a : Int),(b : Int),_⟩ hpre F hnt0 _
 have hnt : F.nt = 20 := hnt0.trans ntmps67
 clear hpre
 refine W.to (⟨[(0,.i a),(1,.i b)],[],[999]⟩) rfl ?_
 refine Kk cok tab67 hnt [] [0,1] (⟨[(0,.i a),(1,.i b)],[],[999]⟩)
  (True ∧ True)
  ⟨tt,tt⟩ ?_
 refine Kk cok tab67 hnt [] [0,1,5] (⟨[(0,.i a),(1,.i b),(5,.b false)],[],[999]⟩)
  (True ∧ (True ∧ (True ∧ True) ∧ True) ∧ True ∧ True)
  ⟨tt,⟨tt,⟨tt,tt⟩,tt⟩,tt,tt⟩ ?_
 refine Kk cok tab67 hnt [] [0,1,5,6] (⟨[(0,.i a),(1,.i b),(5,.b false),(6,.b false)],[],[999]⟩)
  (True ∧ (True ∧ (True ∧ True) ∧ True) ∧ True ∧ True)
  ⟨tt,⟨tt,⟨tt,tt⟩,tt⟩,tt,tt⟩ ?_
 refine W.seq ?_
 refine Kk cok tab67 hnt [] [0,1,6,11] (⟨[(0,.i a),(1,.i b),(6,.b false),(11,.b false)],[],[999]⟩)
  (True ∧ True)
  ⟨tt,tt⟩ ?_
 refine W.if' false (.b false) (by kernel_rfl) rfl trivial ?_ ?_
 ·intro h11
  refine W.seq ?_
  refine Kk cok tab67 hnt [] [12] (⟨[(12,.b false)],[],[999]⟩)
   (True ∧ True)
   ⟨tt,tt⟩ ?_
  refine W.if' false (.b false) (by kernel_rfl) rfl trivial ?_ ?_
  ·intro h12
   refine Kk cok tab67 hnt [] [4] (⟨[(4,.i (0 : Int))],[],[999]⟩)
    (True ∧ True)
    ⟨tt,tt⟩ ?_
   refine W.ret (thenQ_ret (thenQ_ret ?_))
   exact endQ_ret (.i (0 : Int)) (by kernel_rfl) (@cast ((.int .i64 (0 : Int) : Value) = .int .i64 (cmpI a b)) _ (by kernel_rfl) (congrArg (Value.int .i64) (by cases h11)))
  ·intro n12
   refine W.skip (thenQ_normal ?_)
   refine Kk cok tab67 hnt [] [4] (⟨[(4,.i (-1 : Int))],[],[999]⟩)
    (True ∧ True)
    ⟨tt,tt⟩ ?_
   refine W.ret (thenQ_ret ?_)
   exact endQ_ret (.i (-1 : Int)) (by kernel_rfl) (@cast ((.int .i64 (-1 : Int) : Value) = .int .i64 (cmpI a b)) _ (by kernel_rfl) (congrArg (Value.int .i64) (by cases h11)))
 ·intro n11
  refine W.skip (thenQ_normal ?_)
  refine W.seq ?_
  refine Kk cok tab67 hnt [] [0,1,13] (⟨[(0,.i a),(1,.i b),(13,.b false)],[],[999]⟩)
   (True ∧ True)
   ⟨tt,tt⟩ ?_
  refine W.if' false (.b false) (by kernel_rfl) rfl trivial ?_ ?_
  ·intro h13
   refine Kk cok tab67 hnt [] [4] (⟨[(4,.i (1 : Int))],[],[999]⟩)
    (True ∧ True)
    ⟨tt,tt⟩ ?_
   refine W.ret (thenQ_ret ?_)
   exact endQ_ret (.i (1 : Int)) (by kernel_rfl) (@cast ((.int .i64 (1 : Int) : Value) = .int .i64 (cmpI a b)) _ (by kernel_rfl) (congrArg (Value.int .i64) (by cases h13)))
  ·intro n13
   refine W.skip (thenQ_normal ?_)
   refine W.seq ?_
   refine Kk cok tab67 hnt [] [0,1,16] (⟨[(0,.i a),(1,.i b),(16,.b (decide (a < b)))],[],[999]⟩)
    (True ∧ True ∧ (True ∧ True ∧ True) ∧ True)
    ⟨tt,tt,⟨tt,tt,tt⟩,tt⟩ ?_
   refine W.ifP (a < b) (.b (decide (a < b))) (by kernel_rfl) rfl trivial ?_ ?_
   ·intro h16
    refine Kk cok tab67 hnt [] [4] (⟨[(4,.i (-1 : Int))],[],[999]⟩)
     (True ∧ True)
     ⟨tt,tt⟩ ?_
    refine W.ret (thenQ_ret ?_)
    exact endQ_ret (.i (-1 : Int)) (by kernel_rfl) (@cast ((.int .i64 (-1 : Int) : Value) = .int .i64 (cmpI a b)) _ (by kernel_rfl) (congrArg (Value.int .i64) (by unfold cmpI; rw [decide_eq_true h16]; rfl)))
   ·intro n16
    refine W.skip (thenQ_normal ?_)
    refine W.seq ?_
    refine Kk cok tab67 hnt [] [19] (⟨[(19,.b (decide (b < a)))],[],[999]⟩)
     (True ∧ True ∧ (True ∧ True ∧ True) ∧ True)
     ⟨tt,tt,⟨tt,tt,tt⟩,tt⟩ ?_
    refine W.ifP (b < a) (.b (decide (b < a))) (by kernel_rfl) rfl trivial ?_ ?_
    ·intro h19
     refine Kk cok tab67 hnt [] [4] (⟨[(4,.i (1 : Int))],[],[999]⟩)
      (True ∧ True)
      ⟨tt,tt⟩ ?_
     refine W.ret (thenQ_ret ?_)
     exact endQ_ret (.i (1 : Int)) (by kernel_rfl) (@cast ((.int .i64 (1 : Int) : Value) = .int .i64 (cmpI a b)) _ (by kernel_rfl) (congrArg (Value.int .i64) (by unfold cmpI; rw [decide_eq_false n16,decide_eq_true h19]; rfl)))
    ·intro n19
     refine W.skip (thenQ_normal ?_)
     refine Kk cok tab67 hnt [] [4] (⟨[(4,.i (0 : Int))],[],[999]⟩)
      (True ∧ True)
      ⟨tt,tt⟩ ?_
     refine W.ret ?_
     exact endQ_ret (.i (0 : Int)) (by kernel_rfl) (@cast ((.int .i64 (0 : Int) : Value) = .int .i64 (cmpI a b)) _ (by kernel_rfl) (congrArg (Value.int .i64) (by unfold cmpI; rw [decide_eq_false n16,decide_eq_false n19]; rfl)))
theorem ent67 : Entr prog 67 := ⟨_,func67,rfl,by decide⟩
end Go.Proofs.Try

set_option linter.unusedSimpArgs false
set_option linter.unusedVariables false
namespace Go.Proofs.Try
open Go.Ab Go.RowKit
def fs66 : FnS := fnS [.s .ints] [.ints] (fun _ (l,_) => (.i (orI l),[],True))
abbrev T66 : Tab := lk []
theorem tab66 : TabOK prog T66 := TabOK.nil
set_option maxRecDepth 100000 in
set_option maxHeartbeats 1000000 in
theorem ok66 : FnOK prog 66 fs66 := by
 refine FnOK.mk cok func66 rfl rfl rfl ?_
 rintro fl ⟨(l : List Int),_⟩ hpre F hnt0 _
 have hnt : F.nt = 18 := hnt0.trans ntmps66
 clear hpre
 refine W.to (⟨[(0,.sl (.ints l))],[],[999]⟩) rfl ?_
 refine W.lenOf 0 (.ints l) (by kernel_rfl) ?_
 intro hl_l; replace hl_l : List.length l ≤ 9223372036854775807 := hl_l
 refine Kk cok tab66 hnt [] [0] (⟨[(0,.sl (.ints l))],[],[999]⟩)
  (True ∧ True)
  ⟨tt,tt⟩ ?_
 refine Kk cok tab66 hnt [] [0,3] (⟨[(0,.sl (.ints l)),(3,.i (0 : Int))],[],[999]⟩)
  (True ∧ True)
  ⟨tt,tt⟩ ?_
 refine W.seq ?_
 refine Kk cok tab66 hnt [] [3,6,7,8] (⟨[(3,.i (0 : Int)),(6,.sl (.ints l)),(7,.i (l.length : Int)),(8,.i (0 : Int))],[],[999]⟩)
  (True ∧ True ∧ True ∧ True)
  ⟨tt,tt,tt,tt⟩ ?_
 refine W.block ?_
 refine W.loop (ι := Nat) (fun (i : Nat) => (⟨[(3,.i (0 : Int)),(6,.sl (.ints l)),(7,.i (l.length : Int)),(8,.i ((i : Nat) : Int))],[],[999]⟩ : St))
  (fun (i : Nat) => (i ≤ l.length) ∧ (orI l = orFrom l i))
  (fun (i : Nat) => (l.length - i : Nat)) (0) ?_ ?_ ?_
 ·exact (show (0 ≤ l.length) ∧ (orI l = orFrom l 0) from ⟨(by first | assumption | omega | rfl | (intro _ hjj; omega) | (simp; done) | (simp; omega)),(by rfl)⟩)
 ·exact Sub.of [] (@cast (((Si (0 : Int)) ∧ (Sd (.ints l)) ∧ (Si (l.length : Int)) ∧ ((.int .i64 (0 : Int) : Value) = .int .i64 ((0 : Nat) : Int)) ∧ True) ∧ True ∧ (true = true) ∧ (true = true)) _ (by kernel_rfl) ⟨⟨rfl,rfl,rfl,(congrArg (Value.int .i64) (by first | rfl | omega | assumption | simp | simp_all)),tt⟩,tt,rfl,rfl⟩)
 ·rintro i hC0
  have hC : (i ≤ l.length) ∧ (orI l = orFrom l i) := hC0
  clear hC0
  obtain ⟨hi,hA⟩ := hC
  refine W.to (⟨[(3,.i (0 : Int)),(6,.sl (.ints l)),(7,.i (l.length : Int)),(8,.i ((i : Nat) : Int))],[],[999]⟩) rfl ?_
  refine Kk cok tab66 hnt [] [3,6,7,8,9] (⟨[(3,.i (0 : Int)),(6,.sl (.ints l)),(7,.i (l.length : Int)),(8,.i ((i : Nat) : Int)),(9,.b (decide (((i : Nat) : Int) < (l.length : Int))))],[],[999]⟩)
   ((True ∧ True ∧ True) ∧ True)
   ⟨⟨tt,tt,tt⟩,tt⟩ ?_
  refine W.seq ?_
  refine W.ifP (((i : Nat) : Int) < (l.length : Int)) (.b (decide (((i : Nat) : Int) < (l.length : Int)))) (by kernel_rfl) rfl trivial ?_ ?_
  ·intro h9
   refine W.skip (thenQ_normal ?_)
   refine W.seq ?_
   refine W.block ?_
   refine Kk cok tab66 hnt [] [3,5,6,7,8] (⟨[(3,.i (0 : Int)),(5,.i (l.getD i 0)),(6,.sl (.ints l)),(7,.i (l.length : Int)),(8,.i ((i : Nat) : Int))],[],[999]⟩)
    ((True ∧ True ∧ (0 ≤ ((i : Nat) : Int)) ∧ (((i : Nat) : Int) < (l.length : Int))) ∧ True ∧ True ∧ True)
    ⟨⟨tt,tt,(by omega),(by omega)⟩,tt,tt,tt⟩ ?_
   refine Kk cok tab66 hnt [] [3,5,6,7,8,14] (⟨[(3,.i (0 : Int)),(5,.i (l.getD i 0)),(6,.sl (.ints l)),(7,.i (l.length : Int)),(8,.i ((i : Nat) : Int)),(14,.b (decide ((l.getD i 0) ≠ (0 : Int))))],[],[999]⟩)
    (True ∧ True ∧ (True ∧ True ∧ True) ∧ True)
    ⟨tt,tt,⟨tt,tt,tt⟩,tt⟩ ?_
   refine W.ifP ((l.getD i 0) ≠ (0 : Int)) (.b (decide ((l.getD i 0) ≠ (0 : Int)))) (by kernel_rfl) rfl trivial ?_ ?_
   ·intro h14
    refine Kk cok tab66 hnt [] [2] (⟨[(2,.i (l.getD i 0))],[],[999]⟩)
     (True ∧ True ∧ True)
     ⟨tt,tt,tt⟩ ?_
    refine W.ret (blockQ_ret (thenQ_ret (thenQ_ret (blockQ_ret (thenQ_ret ?_)))))
    exact endQ_ret (.i (l.getD i 0)) (by kernel_rfl) (@cast ((.int .i64 (l.getD i 0) : Value) = .int .i64 (orI l)) _ (by kernel_rfl) (congrArg (Value.int .i64) (by rw [hA,orFrom_yes (by omega) h14])))
   ·intro n14
    refine W.skip (blockQ_normal (thenQ_normal ?_))
    refine Lk cok tab66 hnt [] (⟨[(3,.i (0 : Int)),(5,.i (l.getD i 0)),(6,.sl (.ints l)),(7,.i (l.length : Int)),(8,.i (((i + 1) : Nat) : Int)),(14,.b (decide ((l.getD i 0) ≠ (0 : Int)))),(16,.i (((i + 1) : Nat) : Int))],[],[999]⟩)
     ((True ∧ True ∧ (Fits .i64 (((i + 1) : Nat) : Int))) ∧ True ∧ True)
     ⟨⟨tt,tt,(by exact fits_i64 (by omega) (by omega))⟩,tt,tt⟩ ?_
    refine thenQ_normal ?_
    refine ⟨((i + 1)),(show ((i + 1) ≤ l.length) ∧ (orI l = orFrom l (i + 1)) from ⟨(by first | assumption | omega | rfl | (intro _ hjj; omega) | (simp; done) | (simp; omega)),(by rw [hA]; exact orFrom_no (by omega) n14)⟩),(show l.length - (i + 1) < l.length - i from (by first | omega | (simp_all; omega))),?_⟩
    exact Sub.of [] (@cast (((Si (0 : Int)) ∧ (Sd (.ints l)) ∧ (Si (l.length : Int)) ∧ (Si (((i + 1) : Nat) : Int)) ∧ True) ∧ True ∧ (true = true) ∧ (true = true)) _ (by kernel_rfl) ⟨⟨rfl,rfl,rfl,rfl,tt⟩,tt,rfl,rfl⟩)
  ·intro n9
   refine W.exit (thenQ_exit (thenQ_exit (blockQ_hit ?_)))
   refine thenQ_normal ?_
   refine Kk cok tab66 hnt [] [2] (⟨[(2,.i (0 : Int))],[],[999]⟩)
    (True ∧ True ∧ True)
    ⟨tt,tt,tt⟩ ?_
   refine W.ret ?_
   exact endQ_ret (.i (0 : Int)) (by kernel_rfl) (@cast ((.int .i64 (0 : Int) : Value) = .int .i64 (orI l)) _ (by kernel_rfl) (congrArg (Value.int .i64) (by rw [hA,orFrom_end (by omega)])))
theorem ent66 : Entr prog 66 := ⟨_,func66,rfl,by decide⟩
end Go.Proofs.Try

set_option linter.unusedSimpArgs false
set_option linter.unusedVariables false
namespace Go.Proofs.Try
open Go.Ab Go.RowKit
def fs56 : FnS := fnS [.o,.o] [.mark,.mark] (fun _ (a,b,_) => (.i (cmpM a b),[],True))
abbrev T56 : Tab := lk [(66,fs66),(67,fs67)]
theorem tab56 : TabOK prog T56 := (TabOK.cons ok66 ent66 (TabOK.cons ok67 ent67 TabOK.nil))
set_option maxRecDepth 100000 in
set_option maxHeartbeats 1000000 in
theorem ok56 : FnOK prog 56 fs56 := by
 refine FnOK.mk cok func56 rfl rfl rfl ?_
 rintro fl ⟨(a : MarkD),(b : MarkD),_⟩ hpre F hnt0 _
 have hnt : F.nt = 17 := hnt0.trans ntmps56
 clear hpre
 refine W.to (⟨[(0,.agg [.i a.value,.i a.proc,.i a.number,.b a.gone]),(1,.agg [.i b.value,.i b.proc,.i b.number,.b b.gone])],[],[999]⟩) rfl ?_
 refine Kk cok tab56 hnt [] [2,3] (⟨[(2,.ptr 2 0),(3,.ptr 3 0)],[(2,⟨50,.fix [.i a.value,.i a.proc,.i a.number,.b a.gone]⟩),(3,⟨50,.fix [.i b.value,.i b.proc,.i b.number,.b b.gone]⟩)],[3,2,999]⟩)
  (True ∧ True ∧ True ∧ True)
  ⟨tt,tt,tt,tt⟩ ?_
 refine W.KA cok tab56 hnt [] [4] (⟨[(4,.i (orI ([(cmpI a.proc b.proc),(cmpI a.number b.number)])))],[(2,⟨50,.fix [.i a.value,.i a.proc,.i a.number,.b a.gone]⟩),(3,⟨50,.fix [.i b.value,.i b.proc,.i b.number,.b b.gone]⟩)],[15,3,2,999]⟩)
  (True ∧ True ∧ True ∧ True ∧ (True ∧ (True ∧ True ∧ True) ∧ True) ∧ True ∧ True ∧ True ∧ True ∧ (True ∧ (True ∧ True ∧ True) ∧ True) ∧ (True ∧ True ∧ True) ∧ (True ∧ (True ∧ True) ∧ True) ∧ True ∧ True) (by kernel_rfl) (by kernel_rfl)
  ⟨tt,tt,tt,tt,⟨tt,⟨tt,tt,tt⟩,tt⟩,tt,tt,tt,tt,⟨tt,⟨tt,tt,tt⟩,tt⟩,⟨tt,tt,tt⟩,⟨tt,⟨tt,tt⟩,tt⟩,tt,tt⟩ ?_
 refine W.ret ?_
 exact endQ_ret (.i (orI ([(cmpI a.proc b.proc),(cmpI a.number b.number)]))) (by kernel_rfl) (@cast ((.int .i64 (orI ([(cmpI a.proc b.proc),(cmpI a.number b.number)])) : Value) = .int .i64 (cmpM a b)) _ (by kernel_rfl) (congrArg (Value.int .i64) (by first | rfl | simp_all)))
theorem ent56 : Entr prog 56 := ⟨_,func56,rfl,by decide⟩
end Go.Proofs.Try

set_option linter.unusedSimpArgs false
set_option linter.unusedVariables false
namespace Go.Proofs.Try
open Go.Ab Go.RowKit
def fs75 : FnS := fnS [.o] [.int] (fun _ (n,_) => (.b (!within n 0 20),[],True))
abbrev T75 : Tab := lk [(44,fs44)]
theorem tab75 : TabOK prog T75 := (TabOK.cons ok44 ent44 TabOK.nil)
set_option maxRecDepth 100000 in
set_option maxHeartbeats 1000000 in
theorem ok75 : FnOK prog 75 fs75 := by
 refine FnOK.mk cok func75 rfl rfl rfl ?_
 rintro fl ⟨(n : Int),_⟩ hpre F hnt0 _
 have hnt : F.nt = 6 := hnt0.trans ntmps75
 clear hpre
 refine W.to (⟨[(0,.i n)],[],[999]⟩) rfl ?_
 refine Kk cok tab75 hnt [] [0] (⟨[(0,.i n)],[],[999]⟩)
  (True ∧ True)
  ⟨tt,tt⟩ ?_
 refine Kk cok tab75 hnt [] [2] (⟨[(2,.b (!(within n (0 : Int) (20 : Int))))],[],[999]⟩)
  (True ∧ (True ∧ (True ∧ True ∧ True ∧ True) ∧ True) ∧ True ∧ True ∧ True)
  ⟨tt,⟨tt,⟨tt,tt,tt,tt⟩,tt⟩,tt,tt,tt⟩ ?_
 refine W.ret ?_
 exact endQ_ret (.b (!(within n (0 : Int) (20 : Int)))) (by kernel_rfl) (@cast ((.bool (!(within n (0 : Int) (20 : Int))) : Value) = .bool (!within n 0 20)) _ (by kernel_rfl) (congrArg Value.bool (by first | rfl | simp_all)))
theorem ent75 : Entr prog 75 := ⟨_,func75,rfl,by decide⟩
end Go.Proofs.Try

set_option linter.unusedSimpArgs false
set_option linter.unusedVariables false
namespace Go.Proofs.Try
open Go.Ab Go.RowKit
def fs89counts : FnS := fnS [.s .ints,.o] [.ints,(.fn0 75)] (fun _ (l,(),_) => (.i (firstI l.length (fun jj => !within (l.getD jj 0) 0 20)),[],True))
abbrev T89counts : Tab := lk [(75,fs75)]
theorem tab89counts : TabOK prog T89counts := (TabOK.cons ok75 ent75 TabOK.nil)
set_option maxRecDepth 100000 in
set_option maxHeartbeats 1000000 in
theorem ok89counts : FnOK prog 89 fs89counts := by
 refine FnOK.mk cok func89 rfl rfl rfl ?_
 rintro fl ⟨(l : List Int),⟨⟩,_⟩ hpre F hnt0 _
 have hnt : F.nt = 19 := hnt0.trans ntmps89
 clear hpre
 refine W.to (⟨[(0,.sl (.ints l)),(1,.fn 75 [])],[],[999]⟩) rfl ?_
 refine W.lenOf 0 (.ints l) (by kernel_rfl) ?_
 intro hl_l; replace hl_l : List.length l ≤ 9223372036854775807 := hl_l
 refine Kk cok tab89counts hnt [] [0,1] (⟨[(0,.sl (.ints l)),(1,.fn 75 [])],[],[999]⟩)
  (True ∧ True)
  ⟨tt,tt⟩ ?_
 refine W.seq ?_
 refine Kk cok tab89counts hnt [] [0,1,7,8] (⟨[(0,.sl (.ints l)),(1,.fn 75 []),(7,.i (l.length : Int)),(8,.i (0 : Int))],[],[999]⟩)
  (True ∧ True ∧ True ∧ True)
  ⟨tt,tt,tt,tt⟩ ?_
 refine W.block ?_
 refine W.loop (ι := Nat) (fun (i : Nat) => (⟨[(0,.sl (.ints l)),(1,.fn 75 []),(7,.i (l.length : Int)),(8,.i ((i : Nat) : Int))],[],[999]⟩ : St))
  (fun (i : Nat) => (i ≤ l.length) ∧ (∀ jj,jj < i → (!within (l.getD jj 0) 0 20) = false))
  (fun (i : Nat) => (l.length - i : Nat)) (0) ?_ ?_ ?_
 ·exact (show (0 ≤ l.length) ∧ (∀ jj,jj < 0 → (!within (l.getD jj 0) 0 20) = false) from ⟨(by first | assumption | omega | rfl | (intro _ hjj; omega) | (simp; done) | (simp; omega)),(by exact upto_zero)⟩)
 ·exact Sub.of [] (@cast (((Sd (.ints l)) ∧ (((75 : Nat) = 75) ∧ True) ∧ (Si (l.length : Int)) ∧ ((.int .i64 (0 : Int) : Value) = .int .i64 ((0 : Nat) : Int)) ∧ True) ∧ True ∧ (true = true) ∧ (true = true)) _ (by kernel_rfl) ⟨⟨rfl,⟨rfl,tt⟩,rfl,(congrArg (Value.int .i64) (by first | rfl | omega | assumption | simp | simp_all)),tt⟩,tt,rfl,rfl⟩)
 ·rintro i hC0
  have hC : (i ≤ l.length) ∧ (∀ jj,jj < i → (!within (l.getD jj 0) 0 20) = false) := hC0
  clear hC0
  obtain ⟨hi,hA⟩ := hC
  refine W.to (⟨[(0,.sl (.ints l)),(1,.fn 75 []),(7,.i (l.length : Int)),(8,.i ((i : Nat) : Int))],[],[999]⟩) rfl ?_
  refine Kk cok tab89counts hnt [] [0,1,7,8,9] (⟨[(0,.sl (.ints l)),(1,.fn 75 []),(7,.i (l.length : Int)),(8,.i ((i : Nat) : Int)),(9,.b (decide (((i : Nat) : Int) < (l.length : Int))))],[],[999]⟩)
   ((True ∧ True ∧ True) ∧ True)
   ⟨⟨tt,tt,tt⟩,tt⟩ ?_
  refine W.seq ?_
  refine W.ifP (((i : Nat) : Int) < (l.length : Int)) (.b (decide (((i : Nat) : Int) < (l.length : Int)))) (by kernel_rfl) rfl trivial ?_ ?_
  ·intro h9
   refine W.skip (thenQ_normal ?_)
   refine W.seq ?_
   refine W.block ?_
   refine Kk cok tab89counts hnt [] [0,1,5,7,8] (⟨[(0,.sl (.ints l)),(1,.fn 75 []),(5,.i ((i : Nat) : Int)),(7,.i (l.length : Int)),(8,.i ((i : Nat) : Int))],[],[999]⟩)
    (True ∧ True ∧ True)
    ⟨tt,tt,tt⟩ ?_
   refine Kk cok tab89counts hnt [] [0,1,5,7,8,16] (⟨[(0,.sl (.ints l)),(1,.fn 75 []),(5,.i ((i : Nat) : Int)),(7,.i (l.length : Int)),(8,.i ((i : Nat) : Int)),(16,.b (!within (l.getD i 0) 0 20))],[],[999]⟩)
    (True ∧ True ∧ True ∧ (True ∧ True ∧ (0 ≤ ((i : Nat) : Int)) ∧ (((i : Nat) : Int) < (l.length : Int))) ∧ True ∧ (True ∧ (True ∧ True) ∧ True) ∧ True)
    ⟨tt,tt,tt,⟨tt,tt,(by omega),(by omega)⟩,tt,⟨tt,⟨tt,tt⟩,tt⟩,tt⟩ ?_
   refine W.if' (!within (l.getD i 0) 0 20) (.b (!within (l.getD i 0) 0 20)) (by kernel_rfl) rfl trivial ?_ ?_
   ·intro h16
    refine Kk cok tab89counts hnt [] [4] (⟨[(4,.i ((i : Nat) : Int))],[],[999]⟩)
     (True ∧ True ∧ True)
     ⟨tt,tt,tt⟩ ?_
    refine W.ret (blockQ_ret (thenQ_ret (thenQ_ret (blockQ_ret (thenQ_ret ?_)))))
    exact endQ_ret (.i ((i : Nat) : Int)) (by kernel_rfl) (@cast ((.int .i64 ((i : Nat) : Int) : Value) = .int .i64 (firstI l.length (fun jj => !within (l.getD jj 0) 0 20))) _ (by kernel_rfl) (congrArg (Value.int .i64) (by exact (firstI_yes (by omega) h16 hA).symm)))
   ·intro n16
    refine W.skip (blockQ_normal (thenQ_normal ?_))
    refine Lk cok tab89counts hnt [] (⟨[(0,.sl (.ints l)),(1,.fn 75 []),(5,.i ((i : Nat) : Int)),(7,.i (l.length : Int)),(8,.i (((i + 1) : Nat) : Int)),(16,.b (!within (l.getD i 0) 0 20)),(18,.i (((i + 1) : Nat) : Int))],[],[999]⟩)
     ((True ∧ True ∧ (Fits .i64 (((i + 1) : Nat) : Int))) ∧ True ∧ True)
     ⟨⟨tt,tt,(by exact fits_i64 (by omega) (by omega))⟩,tt,tt⟩ ?_
    refine thenQ_normal ?_
    refine ⟨((i + 1)),(show ((i + 1) ≤ l.length) ∧ (∀ jj,jj < (i + 1) → (!within (l.getD jj 0) 0 20) = false) from ⟨(by first | assumption | omega | rfl | (intro _ hjj; omega) | (simp; done) | (simp; omega)),(by exact upto_succ hA n16)⟩),(show l.length - (i + 1) < l.length - i from (by first | omega | (simp_all; omega))),?_⟩
    exact Sub.of [] (@cast (((Sd (.ints l)) ∧ (((75 : Nat) = 75) ∧ True) ∧ (Si (l.length : Int)) ∧ (Si (((i + 1) : Nat) : Int)) ∧ True) ∧ True ∧ (true = true) ∧ (true = true)) _ (by kernel_rfl) ⟨⟨rfl,⟨rfl,tt⟩,rfl,rfl,tt⟩,tt,rfl,rfl⟩)
  ·intro n9
   refine W.exit (thenQ_exit (thenQ_exit (blockQ_hit ?_)))
   refine thenQ_normal ?_
   refine Kk cok tab89counts hnt [] [4] (⟨[(4,.i (-1 : Int))],[],[999]⟩)
    (True ∧ True)
    ⟨tt,tt⟩ ?_
   refine W.ret ?_
   exact endQ_ret (.i (-1 : Int)) (by kernel_rfl) (@cast ((.int .i64 (-1 : Int) : Value) = .int .i64 (firstI l.length (fun jj => !within (l.getD jj 0) 0 20))) _ (by kernel_rfl) (congrArg (Value.int .i64) (by exact (firstI_no (fun j hj => hA j (by omega))).symm)))
theorem ent89counts : Entr prog 89 := ⟨_,func89,rfl,by decide⟩
end Go.Proofs.Try
