import Derived.Test.YtfoifegcfbglpaaQF4S0
import Derived.Test.YtfoifegcfbglpaaQF4S1
set_option linter.unusedSimpArgs false
set_option linter.unusedVariables false
namespace Go.Proofs.Try
open Go.Ab Go.RowKit
def fs15 : FnS := fnS [.a [some .ints,some .ints,none,none,none,some .marks],.o] [.copy,.int] (fun _ (c,v,_) => (.agg [.own 0 (List.length ((takeOut c v).up)),.own 1 (List.length ((takeOut c v).down)),.i ((takeOut c v).value),.i ((takeOut c v).time),.i ((takeOut c v).proc),.own 2 (List.length ((takeOut c v).marks))],[(3,.ints ((takeOut c v).up)),(3,.ints ((takeOut c v).down)),(33,.marks ((takeOut c v).marks))],True))
abbrev T15 : Tab := lk [(13,fs13),(26,fs26)]
theorem tab15 : TabOK prog T15 := (TabOK.cons ok13 ent13 (TabOK.cons ok26 ent26 TabOK.nil))
set_option maxRecDepth 100000 in
set_option maxHeartbeats 1000000 in
theorem ok15 : FnOK prog 15 fs15 := by
 refine FnOK.mk cok func15 rfl rfl rfl ?_
 rintro fl ⟨(c : CopyD),(v : Int),_⟩ hpre F hnt0 _
 have hnt : F.nt = 33 := hnt0.trans ntmps15
 clear hpre
 refine W.to (⟨[(0,.agg (cC c)),(1,.i v)],[],[999]⟩) rfl ?_
 refine W.lenA 0 0 (cC c) (.ints c.up) (by kernel_rfl) (by kernel_rfl) ?_
 intro hl_c_up; replace hl_c_up : List.length c.up ≤ 9223372036854775807 := hl_c_up
 refine W.lenA 0 1 (cC c) (.ints c.down) (by kernel_rfl) (by kernel_rfl) ?_
 intro hl_c_down; replace hl_c_down : List.length c.down ≤ 9223372036854775807 := hl_c_down
 refine W.lenA 0 5 (cC c) (.marks c.marks) (by kernel_rfl) (by kernel_rfl) ?_
 intro hl_c_marks; replace hl_c_marks : List.length c.marks ≤ 9223372036854775807 := hl_c_marks
 refine Kk cok tab15 hnt [] [1,2,4] (⟨[(1,.i v),(2,.ptr 2 0),(4,.ptr 4 0)],[(2,⟨26,.fix (cC c)⟩),(4,⟨26,.fix [.v (.slice none 0 0),.v (.slice none 0 0),.i (0 : Int),.i (0 : Int),.i (0 : Int),.v (.slice none 0 0)]⟩)],[4,2,999]⟩)
  (True ∧ True ∧ True)
  ⟨tt,tt,tt⟩ ?_
 refine W.seq ?_
 refine Kk cok tab15 hnt [] [1,2,4,10] (⟨[(1,.i v),(2,.ptr 2 0),(4,.ptr 4 0),(10,.b (!(validCopy c)))],[(2,⟨26,.fix (cC c)⟩),(4,⟨26,.fix [.v (.slice none 0 0),.v (.slice none 0 0),.i (0 : Int),.i (0 : Int),.i (0 : Int),.v (.slice none 0 0)]⟩)],[4,2,999]⟩)
  (True ∧ (True ∧ ((True ∧ True ∧ True ∧ True ∧ True ∧ True ∧ True ∧ True) ∧ True) ∧ True) ∧ True ∧ True)
  ⟨tt,⟨tt,⟨⟨tt,tt,tt,tt,tt,tt,tt,tt⟩,tt⟩,tt⟩,tt,tt⟩ ?_
 refine W.if' (!(validCopy c)) (.b (!(validCopy c))) (by kernel_rfl) rfl trivial ?_ ?_
 ·intro h10
  refine Kk cok tab15 hnt [] [4] (⟨[(4,.ptr 4 0)],[(2,⟨26,.fix (cC c)⟩),(4,⟨26,.fix [.v (.slice none 0 0),.v (.slice none 0 0),.i (0 : Int),.i (0 : Int),.i (0 : Int),.v (.slice none 0 0)]⟩)],[4,2,999]⟩)
   (True ∧ (True ∧ True) ∧ True)
   ⟨tt,⟨tt,tt⟩,tt⟩ ?_
  refine W.nilCell 4 821 0 26 3 (.ints ([] : List Int)) [.v (.slice none 0 0),.v (.slice none 0 0),.i (0 : Int),.i (0 : Int),.i (0 : Int),.v (.slice none 0 0)] (⟨[(4,.ptr 4 0)],[(2,⟨26,.fix (cC c)⟩),(4,⟨26,.fix [.own 821 0,.v (.slice none 0 0),.i (0 : Int),.i (0 : Int),.i (0 : Int),.v (.slice none 0 0)]⟩),(821,⟨3,.row (.ints ([] : List Int))⟩)],[821,4,2,999]⟩) (by kernel_rfl) rfl rfl (by kernel_rfl) (by kernel_rfl) ?_
  refine W.nilCell 4 822 1 26 3 (.ints ([] : List Int)) [.own 821 0,.v (.slice none 0 0),.i (0 : Int),.i (0 : Int),.i (0 : Int),.v (.slice none 0 0)] (⟨[(4,.ptr 4 0)],[(2,⟨26,.fix (cC c)⟩),(4,⟨26,.fix [.own 821 0,.own 822 0,.i (0 : Int),.i (0 : Int),.i (0 : Int),.v (.slice none 0 0)]⟩),(821,⟨3,.row (.ints ([] : List Int))⟩),(822,⟨3,.row (.ints ([] : List Int))⟩)],[822,821,4,2,999]⟩) (by kernel_rfl) rfl rfl (by kernel_rfl) (by kernel_rfl) ?_
  refine W.nilCell 4 826 5 26 33 (.marks ([] : List MarkD)) [.own 821 0,.own 822 0,.i (0 : Int),.i (0 : Int),.i (0 : Int),.v (.slice none 0 0)] (⟨[(4,.ptr 4 0)],[(2,⟨26,.fix (cC c)⟩),(4,⟨26,.fix [.own 821 0,.own 822 0,.i (0 : Int),.i (0 : Int),.i (0 : Int),.own 826 0]⟩),(821,⟨3,.row (.ints ([] : List Int))⟩),(822,⟨3,.row (.ints ([] : List Int))⟩),(826,⟨33,.row (.marks ([] : List MarkD))⟩)],[826,822,821,4,2,999]⟩) (by kernel_rfl) rfl rfl (by kernel_rfl) (by kernel_rfl) ?_
  refine W.ret (thenQ_ret ?_)
  exact endQ_rows [(0,821),(1,822),(2,826)] (.agg [.own 821 0,.own 822 0,.i (0 : Int),.i (0 : Int),.i (0 : Int),.own 826 0]) (by kernel_rfl) (@cast ((((821 : Nat) = 821) ∧ (0 = (List.length ((takeOut c v).up))) ∧ ((0 : Nat) ∈ ([0,1,2] : List Nat))) ∧ (((822 : Nat) = 822) ∧ (0 = (List.length ((takeOut c v).down))) ∧ ((1 : Nat) ∈ ([0,1,2] : List Nat))) ∧ ((.int .i64 (0 : Int) : Value) = .int .i64 ((takeOut c v).value)) ∧ ((.int .i64 (0 : Int) : Value) = .int .i64 ((takeOut c v).time)) ∧ ((.int .i64 (0 : Int) : Value) = .int .i64 ((takeOut c v).proc)) ∧ (((826 : Nat) = 826) ∧ (0 = (List.length ((takeOut c v).marks))) ∧ ((2 : Nat) ∈ ([0,1,2] : List Nat))) ∧ True) _ (by kernel_rfl) ⟨⟨rfl,(by first | rfl | omega | assumption | (symm; assumption) | (exact congrArg List.length (by rw [takeOut_no (not_f h10)] <;> rfl)) | (rw [takeOut_no (not_f h10)] <;> rfl; done) | simp | simp_all),(by decide)⟩,⟨rfl,(by first | rfl | omega | assumption | (symm; assumption) | (exact congrArg List.length (by rw [takeOut_no (not_f h10)] <;> rfl)) | (rw [takeOut_no (not_f h10)] <;> rfl; done) | simp | simp_all),(by decide)⟩,(congrArg (Value.int .i64) (by first | rfl | omega | assumption | (rw [takeOut_no (not_f h10)] <;> rfl; done) | simp | simp_all)),(congrArg (Value.int .i64) (by first | rfl | omega | assumption | (rw [takeOut_no (not_f h10)] <;> rfl; done) | simp | simp_all)),(congrArg (Value.int .i64) (by first | rfl | omega | assumption | (rw [takeOut_no (not_f h10)] <;> rfl; done) | simp | simp_all)),⟨rfl,(by first | rfl | omega | assumption | (symm; assumption) | (exact congrArg List.length (by rw [takeOut_no (not_f h10)] <;> rfl)) | (rw [takeOut_no (not_f h10)] <;> rfl; done) | simp | simp_all),(by decide)⟩,tt⟩) (@cast ((((3 : Nat) = 3) ∧ ((.ints ([] : List Int) : Dat) = .ints ((takeOut c v).up)) ∧ ((0 : Nat) ∈ ([0,1,2] : List Nat))) ∧ (((3 : Nat) = 3) ∧ ((.ints ([] : List Int) : Dat) = .ints ((takeOut c v).down)) ∧ ((1 : Nat) ∈ ([0,1,2] : List Nat))) ∧ (((33 : Nat) = 33) ∧ ((.marks ([] : List MarkD) : Dat) = .marks ((takeOut c v).marks)) ∧ ((2 : Nat) ∈ ([0,1,2] : List Nat))) ∧ True) _ (by kernel_rfl) ⟨⟨rfl,(congrArg Dat.ints (by rw [takeOut_no (not_f h10)] <;> rfl)),(by decide)⟩,⟨rfl,(congrArg Dat.ints (by rw [takeOut_no (not_f h10)] <;> rfl)),(by decide)⟩,⟨rfl,(congrArg Dat.marks (by rw [takeOut_no (not_f h10)] <;> rfl)),(by decide)⟩,tt⟩) (by kernel_rfl)
 ·intro n10
  have hf := up_len (not_g n10)
  refine W.skip (thenQ_normal ?_)
  refine Kk cok tab15 hnt [] [1,4,5] (⟨[(1,.i v),(4,.ptr 4 0),(5,.ptr 5 0)],[(2,⟨26,.fix (cC c)⟩),(4,⟨26,.fix [.v (.slice none 0 0),.v (.slice none 0 0),.i (0 : Int),.i (0 : Int),.i (0 : Int),.v (.slice none 0 0)]⟩),(5,⟨26,.fix [.own 13 (List.length c.up),.own 1013 (List.length c.down),.i c.value,.i c.time,.i c.proc,.own 2013 (List.length c.marks)]⟩),(13,⟨3,.row (.ints c.up)⟩),(1013,⟨3,.row (.ints c.down)⟩),(2013,⟨33,.row (.marks c.marks)⟩)],[5,2013,1013,13,4,2,999]⟩)
   (True ∧ (True ∧ ((True ∧ True ∧ True ∧ True ∧ True ∧ True ∧ True ∧ True) ∧ True) ∧ c.up.length ≤ 1000 ∧ c.down.length ≤ 1000 ∧ c.marks.length ≤ 1000) ∧ True ∧ (True ∧ True) ∧ True)
   ⟨tt,⟨tt,⟨⟨tt,tt,tt,tt,tt,tt,tt,tt⟩,tt⟩,(by omega)⟩,tt,⟨tt,tt⟩,tt⟩ ?_
  refine W.seq ?_
  refine Kk cok tab15 hnt [] [1,4,5,15,16,17] (⟨[(1,.i v),(4,.ptr 4 0),(5,.ptr 5 0),(15,.own 2013 (List.length c.marks)),(16,.i (((List.length c.marks) : Nat) : Int)),(17,.i (0 : Int))],[(2,⟨26,.fix (cC c)⟩),(4,⟨26,.fix [.v (.slice none 0 0),.v (.slice none 0 0),.i (0 : Int),.i (0 : Int),.i (0 : Int),.v (.slice none 0 0)]⟩),(5,⟨26,.fix [.own 13 (List.length c.up),.own 1013 (List.length c.down),.i c.value,.i c.time,.i c.proc,.own 2013 (List.length c.marks)]⟩),(13,⟨3,.row (.ints c.up)⟩),(1013,⟨3,.row (.ints c.down)⟩),(2013,⟨33,.row (.marks c.marks)⟩)],[5,2013,1013,13,4,2,999]⟩)
   (True ∧ True ∧ True ∧ True ∧ True)
   ⟨tt,tt,tt,tt,tt⟩ ?_
  refine W.block ?_
  refine W.loop (ι := Nat × (List MarkD)) (fun (x : Nat × (List MarkD)) => match x with | (i,ms) => (⟨[(1,.i v),(4,.ptr 4 0),(5,.ptr 5 0),(15,.own 2013 (List.length c.marks)),(16,.i (((List.length c.marks) : Nat) : Int)),(17,.i ((i : Nat) : Int))],[(4,⟨26,.fix [.v (.slice none 0 0),.v (.slice none 0 0),.i (0 : Int),.i (0 : Int),.i (0 : Int),.v (.slice none 0 0)]⟩),(5,⟨26,.fix [.own 13 (List.length c.up),.own 1013 (List.length c.down),.i c.value,.i c.time,.i c.proc,.own 2013 ms.length]⟩),(13,⟨3,.row (.ints c.up)⟩),(1013,⟨3,.row (.ints c.down)⟩),(2013,⟨33,.row (.marks ms)⟩)],[4,5,13,999,1013,2013]⟩ : St))
   (fun (x : Nat × (List MarkD)) => match x with | (i,ms) => (i ≤ c.marks.length) ∧ (ms = goneUp v c.marks i))
   (fun (x : Nat × (List MarkD)) => match x with | (i,ms) => (c.marks.length - i : Nat)) (0,c.marks) ?_ ?_ ?_
  ·exact (show (0 ≤ c.marks.length) ∧ (c.marks = goneUp v c.marks 0) from ⟨(by first | assumption | omega | rfl | (intro _ hjj; omega) | (simp; done) | (simp; omega)),(by simp [goneUp])⟩)
  ·exact Sub.of [] (@cast (((Si v) ∧ (((4 : Nat) = 4) ∧ ((0 : Nat) = 0) ∧ ((4 : Nat) ∈ ([4,5,13,999,1013,2013] : List Nat))) ∧ (((5 : Nat) = 5) ∧ ((0 : Nat) = 0) ∧ ((5 : Nat) ∈ ([4,5,13,999,1013,2013] : List Nat))) ∧ (((2013 : Nat) = 2013) ∧ ((List.length c.marks) = (List.length c.marks)) ∧ ((2013 : Nat) ∈ ([4,5,13,999,1013,2013] : List Nat))) ∧ (Si (((List.length c.marks) : Nat) : Int)) ∧ ((.int .i64 (0 : Int) : Value) = .int .i64 ((0 : Nat) : Int)) ∧ True) ∧ ((((26 : Nat) = 26) ∧ ((((.slice none 0 0) : Value) = (.slice none 0 0)) ∧ (((.slice none 0 0) : Value) = (.slice none 0 0)) ∧ (Si (0 : Int)) ∧ (Si (0 : Int)) ∧ (Si (0 : Int)) ∧ (((.slice none 0 0) : Value) = (.slice none 0 0)) ∧ True) ∧ ((4 : Nat) ∈ ([4,5,13,999,1013,2013] : List Nat))) ∧ (((26 : Nat) = 26) ∧ ((((13 : Nat) = 13) ∧ ((List.length c.up) = (List.length c.up)) ∧ ((13 : Nat) ∈ ([4,5,13,999,1013,2013] : List Nat))) ∧ (((1013 : Nat) = 1013) ∧ ((List.length c.down) = (List.length c.down)) ∧ ((1013 : Nat) ∈ ([4,5,13,999,1013,2013] : List Nat))) ∧ (Si c.value) ∧ (Si c.time) ∧ (Si c.proc) ∧ (((2013 : Nat) = 2013) ∧ ((List.length c.marks) = (List.length c.marks)) ∧ ((2013 : Nat) ∈ ([4,5,13,999,1013,2013] : List Nat))) ∧ True) ∧ ((5 : Nat) ∈ ([4,5,13,999,1013,2013] : List Nat))) ∧ (((3 : Nat) = 3) ∧ (Sd (.ints c.up)) ∧ ((13 : Nat) ∈ ([4,5,13,999,1013,2013] : List Nat))) ∧ (((3 : Nat) = 3) ∧ (Sd (.ints c.down)) ∧ ((1013 : Nat) ∈ ([4,5,13,999,1013,2013] : List Nat))) ∧ (((33 : Nat) = 33) ∧ (Sd (.marks c.marks)) ∧ ((2013 : Nat) ∈ ([4,5,13,999,1013,2013] : List Nat))) ∧ True) ∧ (true = true) ∧ (true = true)) _ (by kernel_rfl) ⟨⟨rfl,⟨rfl,rfl,(by decide)⟩,⟨rfl,rfl,(by decide)⟩,⟨rfl,rfl,(by decide)⟩,rfl,(congrArg (Value.int .i64) (by first | rfl | omega | assumption | simp | simp_all)),tt⟩,⟨⟨rfl,⟨rfl,rfl,rfl,rfl,rfl,rfl,tt⟩,(by decide)⟩,⟨rfl,⟨⟨rfl,rfl,(by decide)⟩,⟨rfl,rfl,(by decide)⟩,rfl,rfl,rfl,⟨rfl,rfl,(by decide)⟩,tt⟩,(by decide)⟩,⟨rfl,rfl,(by decide)⟩,⟨rfl,rfl,(by decide)⟩,⟨rfl,rfl,(by decide)⟩,tt⟩,rfl,rfl⟩)
  ·rintro ⟨i,ms⟩ hC0
   have hC : (i ≤ c.marks.length) ∧ (ms = goneUp v c.marks i) := hC0
   clear hC0
   obtain ⟨hi,hm⟩ := hC
   refine W.to (⟨[(1,.i v),(4,.ptr 4 0),(5,.ptr 5 0),(15,.own 2013 (List.length c.marks)),(16,.i (((List.length c.marks) : Nat) : Int)),(17,.i ((i : Nat) : Int))],[(4,⟨26,.fix [.v (.slice none 0 0),.v (.slice none 0 0),.i (0 : Int),.i (0 : Int),.i (0 : Int),.v (.slice none 0 0)]⟩),(5,⟨26,.fix [.own 13 (List.length c.up),.own 1013 (List.length c.down),.i c.value,.i c.time,.i c.proc,.own 2013 ms.length]⟩),(13,⟨3,.row (.ints c.up)⟩),(1013,⟨3,.row (.ints c.down)⟩),(2013,⟨33,.row (.marks ms)⟩)],[4,5,13,999,1013,2013]⟩) rfl ?_
   have hml : ms.length = c.marks.length := by rw [hm]; exact goneUp_len _ _ _
   refine Kk cok tab15 hnt [] [1,4,5,15,16,17,18] (⟨[(1,.i v),(4,.ptr 4 0),(5,.ptr 5 0),(15,.own 2013 (List.length c.marks)),(16,.i (((List.length c.marks) : Nat) : Int)),(17,.i ((i : Nat) : Int)),(18,.b (decide (((i : Nat) : Int) < (((List.length c.marks) : Nat) : Int))))],[(4,⟨26,.fix [.v (.slice none 0 0),.v (.slice none 0 0),.i (0 : Int),.i (0 : Int),.i (0 : Int),.v (.slice none 0 0)]⟩),(5,⟨26,.fix [.own 13 (List.length c.up),.own 1013 (List.length c.down),.i c.value,.i c.time,.i c.proc,.own 2013 ms.length]⟩),(13,⟨3,.row (.ints c.up)⟩),(1013,⟨3,.row (.ints c.down)⟩),(2013,⟨33,.row (.marks ms)⟩)],[4,5,13,999,1013,2013]⟩)
    ((True ∧ True ∧ True) ∧ True)
    ⟨⟨tt,tt,tt⟩,tt⟩ ?_
   refine W.seq ?_
   refine W.ifP (((i : Nat) : Int) < (((List.length c.marks) : Nat) : Int)) (.b (decide (((i : Nat) : Int) < (((List.length c.marks) : Nat) : Int)))) (by kernel_rfl) rfl trivial ?_ ?_
   ·intro h18
    refine W.skip (thenQ_normal ?_)
    refine W.seq ?_
    refine W.block ?_
    refine Kk cok tab15 hnt [] [1,4,5,6,7,15,16,17] (⟨[(1,.i v),(4,.ptr 4 0),(5,.ptr 5 0),(6,.i ((i : Nat) : Int)),(7,.ptr 7 0),(15,.own 2013 (List.length c.marks)),(16,.i (((List.length c.marks) : Nat) : Int)),(17,.i ((i : Nat) : Int))],[(4,⟨26,.fix [.v (.slice none 0 0),.v (.slice none 0 0),.i (0 : Int),.i (0 : Int),.i (0 : Int),.v (.slice none 0 0)]⟩),(5,⟨26,.fix [.own 13 (List.length c.up),.own 1013 (List.length c.down),.i c.value,.i c.time,.i c.proc,.own 2013 ms.length]⟩),(7,⟨33,.fix [.i ((ms.getD i default).value),.i ((ms.getD i default).proc),.i ((ms.getD i default).number),.b ((ms.getD i default).gone)]⟩),(13,⟨3,.row (.ints c.up)⟩),(1013,⟨3,.row (.ints c.down)⟩),(2013,⟨33,.row (.marks ms)⟩)],[7,4,5,13,999,1013,2013]⟩)
     (True ∧ (True ∧ True ∧ (0 ≤ ((i : Nat) : Int)) ∧ (((i : Nat) : Int) < (((List.length c.marks) : Nat) : Int))) ∧ (True ∧ (i < ms.length)) ∧ True ∧ True ∧ (True ∧ True) ∧ True)
     ⟨tt,⟨tt,tt,(by omega),(by omega)⟩,⟨tt,(by omega)⟩,tt,tt,⟨tt,tt⟩,tt⟩ ?_
    refine Kk cok tab15 hnt [] [1,4,5,6,15,16,17,25] (⟨[(1,.i v),(4,.ptr 4 0),(5,.ptr 5 0),(6,.i ((i : Nat) : Int)),(15,.own 2013 (List.length c.marks)),(16,.i (((List.length c.marks) : Nat) : Int)),(17,.i ((i : Nat) : Int)),(25,.b (decide (((ms.getD i default).value) = v)))],[(4,⟨26,.fix [.v (.slice none 0 0),.v (.slice none 0 0),.i (0 : Int),.i (0 : Int),.i (0 : Int),.v (.slice none 0 0)]⟩),(5,⟨26,.fix [.own 13 (List.length c.up),.own 1013 (List.length c.down),.i c.value,.i c.time,.i c.proc,.own 2013 ms.length]⟩),(7,⟨33,.fix [.i ((ms.getD i default).value),.i ((ms.getD i default).proc),.i ((ms.getD i default).number),.b ((ms.getD i default).gone)]⟩),(13,⟨3,.row (.ints c.up)⟩),(1013,⟨3,.row (.ints c.down)⟩),(2013,⟨33,.row (.marks ms)⟩)],[7,4,5,13,999,1013,2013]⟩)
     (True ∧ True ∧ True ∧ (True ∧ True ∧ True) ∧ True)
     ⟨tt,tt,tt,⟨tt,tt,tt⟩,tt⟩ ?_
    refine W.ifP (((ms.getD i default).value) = v) (.b (decide (((ms.getD i default).value) = v))) (by kernel_rfl) rfl trivial ?_ ?_
    ·intro h25
     refine Lk cok tab15 hnt [] (⟨[(1,.i v),(4,.ptr 4 0),(5,.ptr 5 0),(6,.i ((i : Nat) : Int)),(15,.own 2013 (List.length c.marks)),(16,.i (((List.length c.marks) : Nat) : Int)),(17,.i ((i : Nat) : Int)),(25,.b (decide (((ms.getD i default).value) = v))),(26,.ptr 5 5),(27,.own 2013 ms.length),(28,.i ((i : Nat) : Int)),(29,.pel 2013 4 i 0),(30,.pel 2013 4 i 3)],[(4,⟨26,.fix [.v (.slice none 0 0),.v (.slice none 0 0),.i (0 : Int),.i (0 : Int),.i (0 : Int),.v (.slice none 0 0)]⟩),(5,⟨26,.fix [.own 13 (List.length c.up),.own 1013 (List.length c.down),.i c.value,.i c.time,.i c.proc,.own 2013 ms.length]⟩),(7,⟨33,.fix [.i ((ms.getD i default).value),.i ((ms.getD i default).proc),.i ((ms.getD i default).number),.b ((ms.getD i default).gone)]⟩),(13,⟨3,.row (.ints c.up)⟩),(1013,⟨3,.row (.ints c.down)⟩),(2013,⟨33,.row (.marks (List.set ms i ({ ms.getD i default with gone := true })))⟩)],[7,4,5,13,999,1013,2013]⟩)
      (True ∧ True ∧ True ∧ (True ∧ True ∧ (0 ≤ ((i : Nat) : Int)) ∧ (((i : Nat) : Int) < (ms.length : Int))) ∧ True ∧ (True ∧ True ∧ (i < ms.length)) ∧ True)
      ⟨tt,tt,tt,⟨tt,tt,(by omega),(by omega)⟩,tt,⟨tt,tt,(by omega)⟩,tt⟩ ?_
     refine blockQ_normal (thenQ_normal ?_)
     refine Lk cok tab15 hnt [] (⟨[(1,.i v),(4,.ptr 4 0),(5,.ptr 5 0),(6,.i ((i : Nat) : Int)),(15,.own 2013 (List.length c.marks)),(16,.i (((List.length c.marks) : Nat) : Int)),(17,.i (((i + 1) : Nat) : Int)),(25,.b (decide (((ms.getD i default).value) = v))),(26,.ptr 5 5),(27,.own 2013 ms.length),(28,.i ((i : Nat) : Int)),(29,.pel 2013 4 i 0),(30,.pel 2013 4 i 3),(31,.i (((i + 1) : Nat) : Int))],[(4,⟨26,.fix [.v (.slice none 0 0),.v (.slice none 0 0),.i (0 : Int),.i (0 : Int),.i (0 : Int),.v (.slice none 0 0)]⟩),(5,⟨26,.fix [.own 13 (List.length c.up),.own 1013 (List.length c.down),.i c.value,.i c.time,.i c.proc,.own 2013 ms.length]⟩),(7,⟨33,.fix [.i ((ms.getD i default).value),.i ((ms.getD i default).proc),.i ((ms.getD i default).number),.b ((ms.getD i default).gone)]⟩),(13,⟨3,.row (.ints c.up)⟩),(1013,⟨3,.row (.ints c.down)⟩),(2013,⟨33,.row (.marks (List.set ms i ({ ms.getD i default with gone := true })))⟩)],[7,4,5,13,999,1013,2013]⟩)
      ((True ∧ True ∧ (Fits .i64 (((i + 1) : Nat) : Int))) ∧ True ∧ True)
      ⟨⟨tt,tt,(by exact fits_i64 (by omega) (by omega))⟩,tt,tt⟩ ?_
     refine thenQ_normal ?_
     refine ⟨((i + 1),(List.set ms i ({ ms.getD i default with gone := true }))),(show ((i + 1) ≤ c.marks.length) ∧ ((List.set ms i ({ ms.getD i default with gone := true })) = goneUp v c.marks (i + 1)) from ⟨(by first | assumption | omega | rfl | (intro _ hjj; omega) | (simp; done) | (simp; omega)),(by first | exact gone_yes hm (by omega) h25 | exact gone_no hm (by omega) n25)⟩),(show c.marks.length - (i + 1) < c.marks.length - i from (by first | omega | (simp_all; omega))),?_⟩
     exact Sub.of [] (@cast (((Si v) ∧ (((4 : Nat) = 4) ∧ ((0 : Nat) = 0) ∧ ((4 : Nat) ∈ ([4,5,13,999,1013,2013] : List Nat))) ∧ (((5 : Nat) = 5) ∧ ((0 : Nat) = 0) ∧ ((5 : Nat) ∈ ([4,5,13,999,1013,2013] : List Nat))) ∧ (((2013 : Nat) = 2013) ∧ ((List.length c.marks) = (List.length c.marks)) ∧ ((2013 : Nat) ∈ ([4,5,13,999,1013,2013] : List Nat))) ∧ (Si (((List.length c.marks) : Nat) : Int)) ∧ (Si (((i + 1) : Nat) : Int)) ∧ True) ∧ ((((26 : Nat) = 26) ∧ ((((.slice none 0 0) : Value) = (.slice none 0 0)) ∧ (((.slice none 0 0) : Value) = (.slice none 0 0)) ∧ (Si (0 : Int)) ∧ (Si (0 : Int)) ∧ (Si (0 : Int)) ∧ (((.slice none 0 0) : Value) = (.slice none 0 0)) ∧ True) ∧ ((4 : Nat) ∈ ([4,5,13,999,1013,2013] : List Nat))) ∧ (((26 : Nat) = 26) ∧ ((((13 : Nat) = 13) ∧ ((List.length c.up) = (List.length c.up)) ∧ ((13 : Nat) ∈ ([4,5,13,999,1013,2013] : List Nat))) ∧ (((1013 : Nat) = 1013) ∧ ((List.length c.down) = (List.length c.down)) ∧ ((1013 : Nat) ∈ ([4,5,13,999,1013,2013] : List Nat))) ∧ (Si c.value) ∧ (Si c.time) ∧ (Si c.proc) ∧ (((2013 : Nat) = 2013) ∧ (ms.length = (List.length (List.set ms i ({ ms.getD i default with gone := true })))) ∧ ((2013 : Nat) ∈ ([4,5,13,999,1013,2013] : List Nat))) ∧ True) ∧ ((5 : Nat) ∈ ([4,5,13,999,1013,2013] : List Nat))) ∧ (((3 : Nat) = 3) ∧ (Sd (.ints c.up)) ∧ ((13 : Nat) ∈ ([4,5,13,999,1013,2013] : List Nat))) ∧ (((3 : Nat) = 3) ∧ (Sd (.ints c.down)) ∧ ((1013 : Nat) ∈ ([4,5,13,999,1013,2013] : List Nat))) ∧ (((33 : Nat) = 33) ∧ (Sd (.marks (List.set ms i ({ ms.getD i default with gone := true })))) ∧ ((2013 : Nat) ∈ ([4,5,13,999,1013,2013] : List Nat))) ∧ True) ∧ (true = true) ∧ (true = true)) _ (by kernel_rfl) ⟨⟨rfl,⟨rfl,rfl,(by decide)⟩,⟨rfl,rfl,(by decide)⟩,⟨rfl,rfl,(by decide)⟩,rfl,rfl,tt⟩,⟨⟨rfl,⟨rfl,rfl,rfl,rfl,rfl,rfl,tt⟩,(by decide)⟩,⟨rfl,⟨⟨rfl,rfl,(by decide)⟩,⟨rfl,rfl,(by decide)⟩,rfl,rfl,rfl,⟨rfl,(by first | rfl | omega | assumption | (symm; assumption) | simp | simp_all),(by decide)⟩,tt⟩,(by decide)⟩,⟨rfl,rfl,(by decide)⟩,⟨rfl,rfl,(by decide)⟩,⟨rfl,rfl,(by decide)⟩,tt⟩,rfl,rfl⟩)
    ·intro n25
     refine W.skip (blockQ_normal (thenQ_normal ?_))
     refine Lk cok tab15 hnt [] (⟨[(1,.i v),(4,.ptr 4 0),(5,.ptr 5 0),(6,.i ((i : Nat) : Int)),(15,.own 2013 (List.length c.marks)),(16,.i (((List.length c.marks) : Nat) : Int)),(17,.i (((i + 1) : Nat) : Int)),(25,.b (decide (((ms.getD i default).value) = v))),(31,.i (((i + 1) : Nat) : Int))],[(4,⟨26,.fix [.v (.slice none 0 0),.v (.slice none 0 0),.i (0 : Int),.i (0 : Int),.i (0 : Int),.v (.slice none 0 0)]⟩),(5,⟨26,.fix [.own 13 (List.length c.up),.own 1013 (List.length c.down),.i c.value,.i c.time,.i c.proc,.own 2013 ms.length]⟩),(7,⟨33,.fix [.i ((ms.getD i default).value),.i ((ms.getD i default).proc),.i ((ms.getD i default).number),.b ((ms.getD i default).gone)]⟩),(13,⟨3,.row (.ints c.up)⟩),(1013,⟨3,.row (.ints c.down)⟩),(2013,⟨33,.row (.marks ms)⟩)],[7,4,5,13,999,1013,2013]⟩)
      ((True ∧ True ∧ (Fits .i64 (((i + 1) : Nat) : Int))) ∧ True ∧ True)
      ⟨⟨tt,tt,(by exact fits_i64 (by omega) (by omega))⟩,tt,tt⟩ ?_
     refine thenQ_normal ?_
     refine ⟨((i + 1),ms),(show ((i + 1) ≤ c.marks.length) ∧ (ms = goneUp v c.marks (i + 1)) from ⟨(by first | assumption | omega | rfl | (intro _ hjj; omega) | (simp; done) | (simp; omega)),(by first | exact gone_yes hm (by omega) h25 | exact gone_no hm (by omega) n25)⟩),(show c.marks.length - (i + 1) < c.marks.length - i from (by first | omega | (simp_all; omega))),?_⟩
     exact Sub.of [] (@cast (((Si v) ∧ (((4 : Nat) = 4) ∧ ((0 : Nat) = 0) ∧ ((4 : Nat) ∈ ([4,5,13,999,1013,2013] : List Nat))) ∧ (((5 : Nat) = 5) ∧ ((0 : Nat) = 0) ∧ ((5 : Nat) ∈ ([4,5,13,999,1013,2013] : List Nat))) ∧ (((2013 : Nat) = 2013) ∧ ((List.length c.marks) = (List.length c.marks)) ∧ ((2013 : Nat) ∈ ([4,5,13,999,1013,2013] : List Nat))) ∧ (Si (((List.length c.marks) : Nat) : Int)) ∧ (Si (((i + 1) : Nat) : Int)) ∧ True) ∧ ((((26 : Nat) = 26) ∧ ((((.slice none 0 0) : Value) = (.slice none 0 0)) ∧ (((.slice none 0 0) : Value) = (.slice none 0 0)) ∧ (Si (0 : Int)) ∧ (Si (0 : Int)) ∧ (Si (0 : Int)) ∧ (((.slice none 0 0) : Value) = (.slice none 0 0)) ∧ True) ∧ ((4 : Nat) ∈ ([4,5,13,999,1013,2013] : List Nat))) ∧ (((26 : Nat) = 26) ∧ ((((13 : Nat) = 13) ∧ ((List.length c.up) = (List.length c.up)) ∧ ((13 : Nat) ∈ ([4,5,13,999,1013,2013] : List Nat))) ∧ (((1013 : Nat) = 1013) ∧ ((List.length c.down) = (List.length c.down)) ∧ ((1013 : Nat) ∈ ([4,5,13,999,1013,2013] : List Nat))) ∧ (Si c.value) ∧ (Si c.time) ∧ (Si c.proc) ∧ (((2013 : Nat) = 2013) ∧ (ms.length = ms.length) ∧ ((2013 : Nat) ∈ ([4,5,13,999,1013,2013] : List Nat))) ∧ True) ∧ ((5 : Nat) ∈ ([4,5,13,999,1013,2013] : List Nat))) ∧ (((3 : Nat) = 3) ∧ (Sd (.ints c.up)) ∧ ((13 : Nat) ∈ ([4,5,13,999,1013,2013] : List Nat))) ∧ (((3 : Nat) = 3) ∧ (Sd (.ints c.down)) ∧ ((1013 : Nat) ∈ ([4,5,13,999,1013,2013] : List Nat))) ∧ (((33 : Nat) = 33) ∧ (Sd (.marks ms)) ∧ ((2013 : Nat) ∈ ([4,5,13,999,1013,2013] : List Nat))) ∧ True) ∧ (true = true) ∧ (true = true)) _ (by kernel_rfl) ⟨⟨rfl,⟨rfl,rfl,(by decide)⟩,⟨rfl,rfl,(by decide)⟩,⟨rfl,rfl,(by decide)⟩,rfl,rfl,tt⟩,⟨⟨rfl,⟨rfl,rfl,rfl,rfl,rfl,rfl,tt⟩,(by decide)⟩,⟨rfl,⟨⟨rfl,rfl,(by decide)⟩,⟨rfl,rfl,(by decide)⟩,rfl,rfl,rfl,⟨rfl,rfl,(by decide)⟩,tt⟩,(by decide)⟩,⟨rfl,rfl,(by decide)⟩,⟨rfl,rfl,(by decide)⟩,⟨rfl,rfl,(by decide)⟩,tt⟩,rfl,rfl⟩)
   ·intro n18
    refine W.exit (thenQ_exit (thenQ_exit (blockQ_hit ?_)))
    refine thenQ_normal ?_
    refine Kk cok tab15 hnt [] [4] (⟨[(4,.ptr 4 0)],[(4,⟨26,.fix [.own 13 (List.length c.up),.own 1013 (List.length c.down),.i c.value,.i c.time,.i c.proc,.own 2013 ms.length]⟩),(5,⟨26,.fix [.own 13 (List.length c.up),.own 1013 (List.length c.down),.i c.value,.i c.time,.i c.proc,.own 2013 ms.length]⟩),(13,⟨3,.row (.ints c.up)⟩),(1013,⟨3,.row (.ints c.down)⟩),(2013,⟨33,.row (.marks ms)⟩)],[4,5,13,999,1013,2013]⟩)
     (True ∧ (True ∧ True) ∧ True)
     ⟨tt,⟨tt,tt⟩,tt⟩ ?_
    refine W.ret ?_
    exact endQ_rows [(0,13),(1,1013),(2,2013)] (.agg [.own 13 (List.length c.up),.own 1013 (List.length c.down),.i c.value,.i c.time,.i c.proc,.own 2013 ms.length]) (by kernel_rfl) (@cast ((((13 : Nat) = 13) ∧ ((List.length c.up) = (List.length ((takeOut c v).up))) ∧ ((0 : Nat) ∈ ([0,1,2] : List Nat))) ∧ (((1013 : Nat) = 1013) ∧ ((List.length c.down) = (List.length ((takeOut c v).down))) ∧ ((1 : Nat) ∈ ([0,1,2] : List Nat))) ∧ ((.int .i64 c.value : Value) = .int .i64 ((takeOut c v).value)) ∧ ((.int .i64 c.time : Value) = .int .i64 ((takeOut c v).time)) ∧ ((.int .i64 c.proc : Value) = .int .i64 ((takeOut c v).proc)) ∧ (((2013 : Nat) = 2013) ∧ (ms.length = (List.length ((takeOut c v).marks))) ∧ ((2 : Nat) ∈ ([0,1,2] : List Nat))) ∧ True) _ (by kernel_rfl) ⟨⟨rfl,(by first | rfl | omega | assumption | (symm; assumption) | (exact congrArg List.length (by rw [takeOut_ok (not_g n10)] <;> first | rfl | exact gone_all hm (by omega))) | (rw [takeOut_ok (not_g n10)] <;> first | rfl | exact gone_all hm (by omega); done) | simp | simp_all),(by decide)⟩,⟨rfl,(by first | rfl | omega | assumption | (symm; assumption) | (exact congrArg List.length (by rw [takeOut_ok (not_g n10)] <;> first | rfl | exact gone_all hm (by omega))) | (rw [takeOut_ok (not_g n10)] <;> first | rfl | exact gone_all hm (by omega); done) | simp | simp_all),(by decide)⟩,(congrArg (Value.int .i64) (by first | rfl | omega | assumption | (rw [takeOut_ok (not_g n10)] <;> first | rfl | exact gone_all hm (by omega); done) | simp | simp_all)),(congrArg (Value.int .i64) (by first | rfl | omega | assumption | (rw [takeOut_ok (not_g n10)] <;> first | rfl | exact gone_all hm (by omega); done) | simp | simp_all)),(congrArg (Value.int .i64) (by first | rfl | omega | assumption | (rw [takeOut_ok (not_g n10)] <;> first | rfl | exact gone_all hm (by omega); done) | simp | simp_all)),⟨rfl,(by first | rfl | omega | assumption | (symm; assumption) | (exact congrArg List.length (by rw [takeOut_ok (not_g n10)] <;> first | rfl | exact gone_all hm (by omega))) | (rw [takeOut_ok (not_g n10)] <;> first | rfl | exact gone_all hm (by omega); done) | simp | simp_all),(by decide)⟩,tt⟩) (@cast ((((3 : Nat) = 3) ∧ ((.ints c.up : Dat) = .ints ((takeOut c v).up)) ∧ ((0 : Nat) ∈ ([0,1,2] : List Nat))) ∧ (((3 : Nat) = 3) ∧ ((.ints c.down : Dat) = .ints ((takeOut c v).down)) ∧ ((1 : Nat) ∈ ([0,1,2] : List Nat))) ∧ (((33 : Nat) = 33) ∧ ((.marks ms : Dat) = .marks ((takeOut c v).marks)) ∧ ((2 : Nat) ∈ ([0,1,2] : List Nat))) ∧ True) _ (by kernel_rfl) ⟨⟨rfl,(congrArg Dat.ints (by rw [takeOut_ok (not_g n10)] <;> first | rfl | exact gone_all hm (by omega))),(by decide)⟩,⟨rfl,(congrArg Dat.ints (by rw [takeOut_ok (not_g n10)] <;> first | rfl | exact gone_all hm (by omega))),(by decide)⟩,⟨rfl,(congrArg Dat.marks (by rw [takeOut_ok (not_g n10)] <;> first | rfl | exact gone_all hm (by omega))),(by decide)⟩,tt⟩) (by kernel_rfl)
theorem ent15 : Entr prog 15 := ⟨_,func15,rfl,by decide⟩
end Go.Proofs.Try

set_option linter.unusedSimpArgs false
set_option linter.unusedVariables false
namespace Go.Proofs.Try
open Go.Ab Go.RowKit
def fs43 : FnS := fnS [.o,.o,.o] [.int,.int,.int] (fun _ (n,low,high,_) => (.b (within n low high),[],True))
abbrev T43 : Tab := lk []
theorem tab43 : TabOK prog T43 := TabOK.nil
set_option maxRecDepth 100000 in
set_option maxHeartbeats 1000000 in
theorem ok43 : FnOK prog 43 fs43 := by
 refine FnOK.mk cok func43 rfl rfl rfl ?_
 rintro fl ⟨(n : Int),(low : Int),(high : Int),_⟩ hpre F hnt0 _
 have hnt : F.nt = 15 := hnt0.trans ntmps43
 clear hpre
 refine W.to (⟨[(0,.i n),(1,.i low),(2,.i high)],[],[999]⟩) rfl ?_
 refine Kk cok tab43 hnt [] [0,1,2] (⟨[(0,.i n),(1,.i low),(2,.i high)],[],[999]⟩)
  (True ∧ True)
  ⟨tt,tt⟩ ?_
 refine Kk cok tab43 hnt [] [6] (⟨[(6,.b ((decide (low ≤ n)) && (decide (n ≤ high))))],[],[999]⟩)
  ((fun (Z1:Bool)=>(True ∧ (True ∧ ((True ∧ (True ∧ True)) ∧ (True ∧ ((Z1 = true → True) ∧ ((Z1 = true → True) ∧ ((Z1 = true → (((Z1 = true) ∧ True) ∧ (((Z1 = true) ∧ True) ∧ True))) ∧ ((True ∧ ((Z1 = true → (Z1 = true) ∧ True) ∧ (Z1 = false → True))) ∧ (True ∧ True)))))))))) (decide (low ≤ n)))
  ⟨tt,tt,⟨tt,tt,tt⟩,tt,(fun _ => trivial),(fun _ => trivial),(fun hG => ⟨⟨hG,tt⟩,⟨hG,tt⟩,tt⟩),⟨tt,(fun hp => ⟨hp,tt⟩),(fun _ => trivial)⟩,tt,tt⟩ ?_
 refine W.ret ?_
 exact endQ_ret (.b ((decide (low ≤ n)) && (decide (n ≤ high)))) (by kernel_rfl) (@cast ((.bool ((decide (low ≤ n)) && (decide (n ≤ high))) : Value) = .bool (within n low high)) _ (by kernel_rfl) (congrArg Value.bool (by first | rfl | simp_all)))
theorem ent43 : Entr prog 43 := ⟨_,func43,rfl,by decide⟩
end Go.Proofs.Try

set_option linter.unusedSimpArgs false
set_option linter.unusedVariables false
namespace Go.Proofs.Try
open Go.Ab Go.RowKit
def fs45 : FnS := fnS [.o,.o] [.mark,.mark] (fun _ (a,b,_) => (.b (lessM a b),[],True))
abbrev T45 : Tab := lk []
theorem tab45 : TabOK prog T45 := TabOK.nil
set_option maxRecDepth 100000 in
set_option maxHeartbeats 1000000 in
theorem ok45 : FnOK prog 45 fs45 := by
 refine FnOK.mk cok func45 rfl rfl rfl ?_
 rintro fl ⟨(a : MarkD),(b : MarkD),_⟩ hpre F hnt0 _
 have hnt : F.nt = 20 := hnt0.trans ntmps45
 clear hpre
 refine W.to (⟨[(0,.agg [.i a.value,.i a.proc,.i a.number,.b a.gone]),(1,.agg [.i b.value,.i b.proc,.i b.number,.b b.gone])],[],[999]⟩) rfl ?_
 refine Kk cok tab45 hnt [] [2,3] (⟨[(2,.ptr 2 0),(3,.ptr 3 0)],[(2,⟨33,.fix [.i a.value,.i a.proc,.i a.number,.b a.gone]⟩),(3,⟨33,.fix [.i b.value,.i b.proc,.i b.number,.b b.gone]⟩)],[3,2,999]⟩)
  (True ∧ True ∧ True ∧ True)
  ⟨tt,tt,tt,tt⟩ ?_
 refine W.seq ?_
 refine Kk cok tab45 hnt [] [2,3,9] (⟨[(2,.ptr 2 0),(3,.ptr 3 0),(9,.b (decide (a.proc ≠ b.proc)))],[(2,⟨33,.fix [.i a.value,.i a.proc,.i a.number,.b a.gone]⟩),(3,⟨33,.fix [.i b.value,.i b.proc,.i b.number,.b b.gone]⟩)],[3,2,999]⟩)
  (True ∧ True ∧ True ∧ True ∧ (True ∧ True ∧ True) ∧ True)
  ⟨tt,tt,tt,tt,⟨tt,tt,tt⟩,tt⟩ ?_
 refine W.ifP (a.proc ≠ b.proc) (.b (decide (a.proc ≠ b.proc))) (by kernel_rfl) rfl trivial ?_ ?_
 ·intro h9
  refine Kk cok tab45 hnt [] [4] (⟨[(4,.b (decide (a.proc < b.proc)))],[(2,⟨33,.fix [.i a.value,.i a.proc,.i a.number,.b a.gone]⟩),(3,⟨33,.fix [.i b.value,.i b.proc,.i b.number,.b b.gone]⟩)],[3,2,999]⟩)
   (True ∧ True ∧ True ∧ True ∧ (True ∧ True ∧ True) ∧ True ∧ True)
   ⟨tt,tt,tt,tt,⟨tt,tt,tt⟩,tt,tt⟩ ?_
  refine W.ret (thenQ_ret ?_)
  exact endQ_ret (.b (decide (a.proc < b.proc))) (by kernel_rfl) (@cast ((.bool (decide (a.proc < b.proc)) : Value) = .bool (lessM a b)) _ (by kernel_rfl) (congrArg Value.bool (by unfold lessM; rw [decide_eq_true h9]; rfl)))
 ·intro n9
  refine W.skip (thenQ_normal ?_)
  refine Kk cok tab45 hnt [] [4] (⟨[(4,.b (decide (a.number < b.number)))],[(2,⟨33,.fix [.i a.value,.i a.proc,.i a.number,.b a.gone]⟩),(3,⟨33,.fix [.i b.value,.i b.proc,.i b.number,.b b.gone]⟩)],[3,2,999]⟩)
   (True ∧ True ∧ True ∧ True ∧ (True ∧ True ∧ True) ∧ True ∧ True)
   ⟨tt,tt,tt,tt,⟨tt,tt,tt⟩,tt,tt⟩ ?_
  refine W.ret ?_
  exact endQ_ret (.b (decide (a.number < b.number))) (by kernel_rfl) (@cast ((.bool (decide (a.number < b.number)) : Value) = .bool (lessM a b)) _ (by kernel_rfl) (congrArg Value.bool (by unfold lessM; rw [decide_eq_false n9]; rfl)))
theorem ent45 : Entr prog 45 := ⟨_,func45,rfl,by decide⟩
end Go.Proofs.Try

set_option linter.unusedSimpArgs false
set_option linter.unusedVariables false
namespace Go.Proofs.Try
open Go.Ab Go.RowKit
def fs32 : FnS := fnS [.a [some .ints,some .ints,none,none,none,some .marks]] [.copy] (fun _ (c,_) => (.b (validCopy c),[],True))
abbrev T32 : Tab := lk [(43,fs43),(45,fs45)]
theorem tab32 : TabOK prog T32 := (TabOK.cons ok43 ent43 (TabOK.cons ok45 ent45 TabOK.nil))
set_option maxRecDepth 100000 in
set_option maxHeartbeats 1000000 in
theorem ok32 : FnOK prog 32 fs32 := by
 refine FnOK.mk cok func32 rfl rfl rfl ?_
 rintro fl ⟨(c : CopyD),_⟩ hpre F hnt0 _
 have hnt : F.nt = 116 := hnt0.trans ntmps32
 clear hpre
 refine W.to (⟨[(0,.agg (cC c))],[],[999]⟩) rfl ?_
 refine W.lenA 0 0 (cC c) (.ints c.up) (by kernel_rfl) (by kernel_rfl) ?_
 intro hl_c_up; replace hl_c_up : List.length c.up ≤ 9223372036854775807 := hl_c_up
 refine W.lenA 0 1 (cC c) (.ints c.down) (by kernel_rfl) (by kernel_rfl) ?_
 intro hl_c_down; replace hl_c_down : List.length c.down ≤ 9223372036854775807 := hl_c_down
 refine W.lenA 0 5 (cC c) (.marks c.marks) (by kernel_rfl) (by kernel_rfl) ?_
 intro hl_c_marks; replace hl_c_marks : List.length c.marks ≤ 9223372036854775807 := hl_c_marks
 refine Kk cok tab32 hnt [] [1] (⟨[(1,.ptr 1 0)],[(1,⟨26,.fix (cC c)⟩)],[1,999]⟩)
  (True ∧ True ∧ True)
  ⟨tt,tt,tt⟩ ?_
 refine W.seq ?_
 refine Kk cok tab32 hnt [] [1,48] (⟨[(1,.ptr 1 0),(48,.b ((((((decide ((((List.length c.up) : Nat) : Int) ≠ (3 : Int))) || (decide ((((List.length c.down) : Nat) : Int) ≠ (3 : Int)))) || (!(within c.value (0 : Int) (3 : Int)))) || (!(within c.time (0 : Int) (30 : Int)))) || (!(within c.proc (0 : Int) (2 : Int)))) || ((decide (c.time = (0 : Int))) && ((decide (c.value ≠ (0 : Int))) || (decide (c.proc ≠ (0 : Int)))))))],[(1,⟨26,.fix (cC c)⟩)],[1,999]⟩)
  ((fun (Z1:Bool)=>((fun (Z2:Bool)=>((fun (Z3:Bool)=>((fun (Z4:Bool)=>((fun (Z5:Bool)=>((fun (Z6:Bool)=>((fun (Z7:Bool)=>((fun (Z8:Bool)=>((fun (Z9:Bool)=>((fun (Z10:Bool)=>(True ∧ (True ∧ (True ∧ ((True ∧ (True ∧ True)) ∧ (True ∧ (((!Z3) = true → True) ∧ (((!Z3) = true → (((!Z3) = true) ∧ True)) ∧ (((!Z3) = true → (((!Z3) = true) ∧ True)) ∧ (((!Z3) = true → ((((!Z3) = true) ∧ True) ∧ (True ∧ True))) ∧ ((True ∧ ((Z3 = true → True) ∧ (Z3 = false → ((!Z3) = true) ∧ True))) ∧ (True ∧ (((!Z4) = true → True) ∧ (((!Z4) = true → (((!Z4) = true) ∧ True)) ∧ (((!Z4) = true → (True ∧ (((((!Z4) = true) ∧ True) ∧ (True ∧ (True ∧ True))) ∧ True))) ∧ (((!Z4) = true → (((!Z4) = true) ∧ True)) ∧ ((True ∧ ((Z4 = true → True) ∧ (Z4 = false → ((!Z4) = true) ∧ True))) ∧ (True ∧ (((!Z5) = true → True) ∧ (((!Z5) = true → (((!Z5) = true) ∧ True)) ∧ (((!Z5) = true → (True ∧ (((((!Z5) = true) ∧ True) ∧ (True ∧ (True ∧ True))) ∧ True))) ∧ (((!Z5) = true → (((!Z5) = true) ∧ True)) ∧ ((True ∧ ((Z5 = true → True) ∧ (Z5 = false → ((!Z5) = true) ∧ True))) ∧ (True ∧ (((!Z6) = true → True) ∧ (((!Z6) = true → (((!Z6) = true) ∧ True)) ∧ (((!Z6) = true → (True ∧ (((((!Z6) = true) ∧ True) ∧ (True ∧ (True ∧ True))) ∧ True))) ∧ (((!Z6) = true → (((!Z6) = true) ∧ True)) ∧ ((True ∧ ((Z6 = true → True) ∧ (Z6 = false → ((!Z6) = true) ∧ True))) ∧ (True ∧ ((Z8 = true → True) ∧ ((Z8 = true → ((Z8 = true) ∧ True)) ∧ ((Z8 = true → (((Z8 = true) ∧ True) ∧ (True ∧ True))) ∧ ((Z8 = true → True) ∧ ((Z9 = true → True) ∧ ((Z9 = true → ((Z9 = true) ∧ True)) ∧ ((Z9 = true → (((Z9 = true) ∧ True) ∧ (True ∧ True))) ∧ ((Z9 = true → True) ∧ ((Z10 = true → True) ∧ ((Z10 = true → ((Z10 = true) ∧ True)) ∧ ((Z10 = true → (((Z10 = true) ∧ True) ∧ (True ∧ True))) ∧ ((Z9 = true → (((Z9 = true) ∧ ((Z9 = true) ∧ True)) ∧ ((Z2 = true → True) ∧ (Z2 = false → (Z10 = true) ∧ True)))) ∧ ((Z8 = true → (((Z8 = true) ∧ ((Z8 = true) ∧ True)) ∧ ((Z1 = true → (Z9 = true) ∧ True) ∧ (Z1 = false → True)))) ∧ ((True ∧ ((Z7 = true → True) ∧ (Z7 = false → (Z8 = true) ∧ True))) ∧ True)))))))))))))))))))))))))))))))))))))))))))) (Z9 && (Z9 && (!Z2))))) (Z8 && (Z8 && Z1)))) (!Z7))) (Z6 || (!(within c.proc (0 : Int) (2 : Int)))))) (Z5 || (!(within c.time (0 : Int) (30 : Int)))))) (Z4 || (!(within c.value (0 : Int) (3 : Int)))))) (Z3 || (decide ((((List.length c.down) : Nat) : Int) ≠ (3 : Int)))))) (decide ((((List.length c.up) : Nat) : Int) ≠ (3 : Int))))) (decide (c.value ≠ (0 : Int))))) (decide (c.time = (0 : Int))))
  ⟨tt,tt,tt,⟨tt,tt,tt⟩,tt,(fun _ => trivial),(fun hG => ⟨hG,tt⟩),(fun hG => ⟨hG,tt⟩),(fun hG => ⟨⟨hG,tt⟩,tt,tt⟩),⟨tt,(fun _ => trivial),(fun hp => ⟨(not_t hp),tt⟩)⟩,tt,(fun _ => trivial),(fun hG => ⟨hG,tt⟩),(fun hG => ⟨tt,⟨⟨hG,tt⟩,tt,tt,tt⟩,tt⟩),(fun hG => ⟨hG,tt⟩),⟨tt,(fun _ => trivial),(fun hp => ⟨(not_t hp),tt⟩)⟩,tt,(fun _ => trivial),(fun hG => ⟨hG,tt⟩),(fun hG => ⟨tt,⟨⟨hG,tt⟩,tt,tt,tt⟩,tt⟩),(fun hG => ⟨hG,tt⟩),⟨tt,(fun _ => trivial),(fun hp => ⟨(not_t hp),tt⟩)⟩,tt,(fun _ => trivial),(fun hG => ⟨hG,tt⟩),(fun hG => ⟨tt,⟨⟨hG,tt⟩,tt,tt,tt⟩,tt⟩),(fun hG => ⟨hG,tt⟩),⟨tt,(fun _ => trivial),(fun hp => ⟨(not_t hp),tt⟩)⟩,tt,(fun _ => trivial),(fun hG => ⟨hG,tt⟩),(fun hG => ⟨⟨hG,tt⟩,tt,tt⟩),(fun _ => trivial),(fun _ => trivial),(fun hG => ⟨hG,tt⟩),(fun hG => ⟨⟨hG,tt⟩,tt,tt⟩),(fun _ => trivial),(fun _ => trivial),(fun hG => ⟨hG,tt⟩),(fun hG => ⟨⟨hG,tt⟩,tt,tt⟩),(fun hG => ⟨⟨hG,hG,tt⟩,(fun _ => trivial),(fun hp => ⟨(and_t hG (and_t hG (not_t hp))),tt⟩)⟩),(fun hG => ⟨⟨hG,hG,tt⟩,(fun hp => ⟨(and_t hG (and_t hG hp)),tt⟩),(fun _ => trivial)⟩),⟨tt,(fun _ => trivial),(fun hp => ⟨(not_t hp),tt⟩)⟩,tt⟩ ?_
 refine W.if' ((((((decide ((((List.length c.up) : Nat) : Int) ≠ (3 : Int))) || (decide ((((List.length c.down) : Nat) : Int) ≠ (3 : Int)))) || (!(within c.value (0 : Int) (3 : Int)))) || (!(within c.time (0 : Int) (30 : Int)))) || (!(within c.proc (0 : Int) (2 : Int)))) || ((decide (c.time = (0 : Int))) && ((decide (c.value ≠ (0 : Int))) || (decide (c.proc ≠ (0 : Int)))))) (.b ((((((decide ((((List.length c.up) : Nat) : Int) ≠ (3 : Int))) || (decide ((((List.length c.down) : Nat) : Int) ≠ (3 : Int)))) || (!(within c.value (0 : Int) (3 : Int)))) || (!(within c.time (0 : Int) (30 : Int)))) || (!(within c.proc (0 : Int) (2 : Int)))) || ((decide (c.time = (0 : Int))) && ((decide (c.value ≠ (0 : Int))) || (decide (c.proc ≠ (0 : Int))))))) (by kernel_rfl) rfl trivial ?_ ?_
 ·intro h48
  refine Kk cok tab32 hnt [] [2] (⟨[(2,.b false)],[(1,⟨26,.fix (cC c)⟩)],[1,999]⟩)
   (True ∧ True)
   ⟨tt,tt⟩ ?_
  refine W.ret (thenQ_ret ?_)
  exact endQ_ret (.b false) (by kernel_rfl) (@cast ((.bool false : Value) = .bool (validCopy c)) _ (by kernel_rfl) (congrArg Value.bool (by exact (valid_spec1 h48).symm)))
 ·intro n48
  have n48_0 : ¬ ((((List.length c.up) : Nat) : Int) ≠ (3 : Int)) := of_decide_eq_false (or_l (or_l (or_l (or_l (or_l n48)))))
  have n48_1 : ¬ ((((List.length c.down) : Nat) : Int) ≠ (3 : Int)) := of_decide_eq_false (or_r (or_l (or_l (or_l (or_l n48)))))
  refine W.skip (thenQ_normal ?_)
  refine W.seq ?_
  refine Kk cok tab32 hnt [] [1,3] (⟨[(1,.ptr 1 0),(3,.i (0 : Int))],[(1,⟨26,.fix (cC c)⟩)],[1,999]⟩)
   (True ∧ True)
   ⟨tt,tt⟩ ?_
  refine W.block ?_
  refine W.loop (ι := Nat) (fun (k : Nat) => (⟨[(1,.ptr 1 0),(3,.i ((k : Nat) : Int))],[(1,⟨26,.fix (cC c)⟩)],[1,999]⟩ : St))
   (fun (k : Nat) => (k ≤ 3) ∧ (∀ j,j < k → within (c.up.getD j 0) 0 20 = true) ∧ (∀ j,j < k → within (c.down.getD j 0) 0 20 = true))
   (fun (k : Nat) => (3 - k : Nat)) (0) ?_ ?_ ?_
  ·exact (show (0 ≤ 3) ∧ (∀ j,j < 0 → within (c.up.getD j 0) 0 20 = true) ∧ (∀ j,j < 0 → within (c.down.getD j 0) 0 20 = true) from ⟨(by first | assumption | omega | rfl | (intro _ hjj; omega) | (simp; done) | (simp; omega)),(by exact upto_zero),(by exact upto_zero)⟩)
  ·exact Sub.of [] (@cast (((((1 : Nat) = 1) ∧ ((0 : Nat) = 0) ∧ ((1 : Nat) ∈ ([1,999] : List Nat))) ∧ ((.int .i64 (0 : Int) : Value) = .int .i64 ((0 : Nat) : Int)) ∧ True) ∧ ((((26 : Nat) = 26) ∧ (Sc c) ∧ ((1 : Nat) ∈ ([1,999] : List Nat))) ∧ True) ∧ (true = true) ∧ (true = true)) _ (by kernel_rfl) ⟨⟨⟨rfl,rfl,(by decide)⟩,(congrArg (Value.int .i64) (by first | rfl | omega | assumption | simp | simp_all)),tt⟩,⟨⟨rfl,⟨rfl,rfl,rfl,rfl,rfl,rfl,tt⟩,(by decide)⟩,tt⟩,rfl,rfl⟩)
  ·rintro k hC0
   have hC : (k ≤ 3) ∧ (∀ j,j < k → within (c.up.getD j 0) 0 20 = true) ∧ (∀ j,j < k → within (c.down.getD j 0) 0 20 = true) := hC0
   clear hC0
   obtain ⟨hk,hU,hD⟩ := hC
   refine W.to (⟨[(1,.ptr 1 0),(3,.i ((k : Nat) : Int))],[(1,⟨26,.fix (cC c)⟩)],[1,999]⟩) rfl ?_
   have hs := valid_spec2 n48
   refine W.seq ?_
   refine Kk cok tab32 hnt [] [1,3,50] (⟨[(1,.ptr 1 0),(3,.i ((k : Nat) : Int)),(50,.b (decide (((k : Nat) : Int) < (3 : Int))))],[(1,⟨26,.fix (cC c)⟩)],[1,999]⟩)
    (True ∧ (True ∧ True ∧ True) ∧ True)
    ⟨tt,⟨tt,tt,tt⟩,tt⟩ ?_
   refine W.ifP (((k : Nat) : Int) < (3 : Int)) (.b (decide (((k : Nat) : Int) < (3 : Int)))) (by kernel_rfl) rfl trivial ?_ ?_
   ·intro h50
    refine W.skip (thenQ_normal ?_)
    refine W.seq ?_
    refine W.block ?_
    refine Kk cok tab32 hnt [] [1,3,68] (⟨[(1,.ptr 1 0),(3,.i ((k : Nat) : Int)),(68,.b ((!(within (List.getD c.up k 0) (0 : Int) (20 : Int))) || (!(within (List.getD c.down k 0) (0 : Int) (20 : Int)))))],[(1,⟨26,.fix (cC c)⟩)],[1,999]⟩)
     ((fun (Z1:Bool)=>(True ∧ (True ∧ (True ∧ ((True ∧ (True ∧ ((0 ≤ ((k : Nat) : Int)) ∧ (((k : Nat) : Int) < (((List.length c.up) : Nat) : Int))))) ∧ (True ∧ ((True ∧ ((True ∧ (True ∧ (True ∧ True))) ∧ True)) ∧ (True ∧ (True ∧ (((!Z1) = true → True) ∧ (((!Z1) = true → (((!Z1) = true) ∧ True)) ∧ (((!Z1) = true → True) ∧ (((!Z1) = true → ((((!Z1) = true) ∧ True) ∧ ((((!Z1) = true) ∧ True) ∧ ((0 ≤ ((k : Nat) : Int)) ∧ (((k : Nat) : Int) < (((List.length c.down) : Nat) : Int)))))) ∧ (((!Z1) = true → (((!Z1) = true) ∧ True)) ∧ (((!Z1) = true → (True ∧ (((((!Z1) = true) ∧ True) ∧ (True ∧ (True ∧ True))) ∧ True))) ∧ (((!Z1) = true → (((!Z1) = true) ∧ True)) ∧ ((True ∧ ((Z1 = true → True) ∧ (Z1 = false → ((!Z1) = true) ∧ True))) ∧ True))))))))))))))))) (!(within (List.getD c.up k 0) (0 : Int) (20 : Int))))
     ⟨tt,tt,tt,⟨tt,tt,(by omega),(by omega)⟩,tt,⟨tt,⟨tt,tt,tt,tt⟩,tt⟩,tt,tt,(fun _ => trivial),(fun hG => ⟨hG,tt⟩),(fun _ => trivial),(fun hG => ⟨⟨hG,tt⟩,⟨hG,tt⟩,(by omega),(by omega)⟩),(fun hG => ⟨hG,tt⟩),(fun hG => ⟨tt,⟨⟨hG,tt⟩,tt,tt,tt⟩,tt⟩),(fun hG => ⟨hG,tt⟩),⟨tt,(fun _ => trivial),(fun hp => ⟨(not_t hp),tt⟩)⟩,tt⟩ ?_
    refine W.if' ((!(within (List.getD c.up k 0) (0 : Int) (20 : Int))) || (!(within (List.getD c.down k 0) (0 : Int) (20 : Int)))) (.b ((!(within (List.getD c.up k 0) (0 : Int) (20 : Int))) || (!(within (List.getD c.down k 0) (0 : Int) (20 : Int))))) (by kernel_rfl) rfl trivial ?_ ?_
    ·intro h68
     refine Kk cok tab32 hnt [] [2] (⟨[(2,.b false)],[(1,⟨26,.fix (cC c)⟩)],[1,999]⟩)
      (True ∧ True)
      ⟨tt,tt⟩ ?_
     refine W.ret (blockQ_ret (thenQ_ret (thenQ_ret (blockQ_ret (thenQ_ret ?_)))))
     exact endQ_ret (.b false) (by kernel_rfl) (@cast ((.bool false : Value) = .bool (validCopy c)) _ (by kernel_rfl) (congrArg Value.bool (by exact (counts_bad hs.1 hs.2.1 (by omega) h68).symm)))
    ·intro n68
     refine W.skip (blockQ_normal (thenQ_normal ?_))
     refine Lk cok tab32 hnt [] (⟨[(1,.ptr 1 0),(3,.i (((k + 1) : Nat) : Int)),(51,.i ((k : Nat) : Int)),(52,.i (((k + 1) : Nat) : Int)),(68,.b ((!(within (List.getD c.up k 0) (0 : Int) (20 : Int))) || (!(within (List.getD c.down k 0) (0 : Int) (20 : Int)))))],[(1,⟨26,.fix (cC c)⟩)],[1,999]⟩)
      (True ∧ (True ∧ True ∧ (Fits .i64 (((k + 1) : Nat) : Int))) ∧ True ∧ True)
      ⟨tt,⟨tt,tt,(by exact fits_i64 (by omega) (by omega))⟩,tt,tt⟩ ?_
     refine thenQ_normal ?_
     refine ⟨((k + 1)),(show ((k + 1) ≤ 3) ∧ (∀ j,j < (k + 1) → within (c.up.getD j 0) 0 20 = true) ∧ (∀ j,j < (k + 1) → within (c.down.getD j 0) 0 20 = true) from ⟨(by first | assumption | omega | rfl | (intro _ hjj; omega) | (simp; done) | (simp; omega)),(by exact upto_succ hU (within_bad n68).1),(by exact upto_succ hD (within_bad n68).2)⟩),(show 3 - (k + 1) < 3 - k from (by first | omega | (simp_all; omega))),?_⟩
     exact Sub.of [] (@cast (((((1 : Nat) = 1) ∧ ((0 : Nat) = 0) ∧ ((1 : Nat) ∈ ([1,999] : List Nat))) ∧ (Si (((k + 1) : Nat) : Int)) ∧ True) ∧ ((((26 : Nat) = 26) ∧ (Sc c) ∧ ((1 : Nat) ∈ ([1,999] : List Nat))) ∧ True) ∧ (true = true) ∧ (true = true)) _ (by kernel_rfl) ⟨⟨⟨rfl,rfl,(by decide)⟩,rfl,tt⟩,⟨⟨rfl,⟨rfl,rfl,rfl,rfl,rfl,rfl,tt⟩,(by decide)⟩,tt⟩,rfl,rfl⟩)
   ·intro n50
    refine W.exit (thenQ_exit (thenQ_exit (blockQ_hit ?_)))
    refine thenQ_normal ?_
    refine W.seq ?_
    refine Kk cok tab32 hnt [] [1,4] (⟨[(1,.ptr 1 0),(4,.i (0 : Int))],[(1,⟨26,.fix (cC c)⟩)],[1,999]⟩)
     (True ∧ True)
     ⟨tt,tt⟩ ?_
    refine W.block ?_
    refine W.loop (ι := Nat) (fun (i : Nat) => (⟨[(1,.ptr 1 0),(4,.i ((i : Nat) : Int))],[(1,⟨26,.fix (cC c)⟩)],[1,999]⟩ : St))
     (fun (i : Nat) => (i ≤ c.marks.length) ∧ (∀ j,j < i → markOK c.marks j = true))
     (fun (i : Nat) => (c.marks.length - i : Nat)) (0) ?_ ?_ ?_
    ·exact (show (0 ≤ c.marks.length) ∧ (∀ j,j < 0 → markOK c.marks j = true) from ⟨(by first | assumption | omega | rfl | (intro _ hjj; omega) | (simp; done) | (simp; omega)),(by exact upto_zero)⟩)
    ·exact Sub.of [] (@cast (((((1 : Nat) = 1) ∧ ((0 : Nat) = 0) ∧ ((1 : Nat) ∈ ([1,999] : List Nat))) ∧ ((.int .i64 (0 : Int) : Value) = .int .i64 ((0 : Nat) : Int)) ∧ True) ∧ ((((26 : Nat) = 26) ∧ (Sc c) ∧ ((1 : Nat) ∈ ([1,999] : List Nat))) ∧ True) ∧ (true = true) ∧ (true = true)) _ (by kernel_rfl) ⟨⟨⟨rfl,rfl,(by decide)⟩,(congrArg (Value.int .i64) (by first | rfl | omega | assumption | simp | simp_all)),tt⟩,⟨⟨rfl,⟨rfl,rfl,rfl,rfl,rfl,rfl,tt⟩,(by decide)⟩,tt⟩,rfl,rfl⟩)
    ·rintro i hC0
     have hC : (i ≤ c.marks.length) ∧ (∀ j,j < i → markOK c.marks j = true) := hC0
     clear hC0
     obtain ⟨hi,hA⟩ := hC
     refine W.to (⟨[(1,.ptr 1 0),(4,.i ((i : Nat) : Int))],[(1,⟨26,.fix (cC c)⟩)],[1,999]⟩) rfl ?_
     refine W.seq ?_
     refine Kk cok tab32 hnt [] [1,4,73] (⟨[(1,.ptr 1 0),(4,.i ((i : Nat) : Int)),(73,.b (decide (((i : Nat) : Int) < (((List.length c.marks) : Nat) : Int))))],[(1,⟨26,.fix (cC c)⟩)],[1,999]⟩)
      (True ∧ True ∧ True ∧ True ∧ (True ∧ True ∧ True) ∧ True)
      ⟨tt,tt,tt,tt,⟨tt,tt,tt⟩,tt⟩ ?_
     refine W.ifP (((i : Nat) : Int) < (((List.length c.marks) : Nat) : Int)) (.b (decide (((i : Nat) : Int) < (((List.length c.marks) : Nat) : Int)))) (by kernel_rfl) rfl trivial ?_ ?_
     ·intro h73
      refine W.skip (thenQ_normal ?_)
      refine W.seq ?_
      refine W.block ?_
      refine Kk cok tab32 hnt [] [1,4,5] (⟨[(1,.ptr 1 0),(4,.i ((i : Nat) : Int)),(5,.ptr 5 0)],[(1,⟨26,.fix (cC c)⟩),(5,⟨33,.fix [.i ((List.getD c.marks i default).value),.i ((List.getD c.marks i default).proc),.i ((List.getD c.marks i default).number),.b ((List.getD c.marks i default).gone)]⟩)],[5,1,999]⟩)
       (True ∧ True ∧ True ∧ (True ∧ True ∧ (0 ≤ ((i : Nat) : Int)) ∧ (((i : Nat) : Int) < (((List.length c.marks) : Nat) : Int))) ∧ True ∧ True ∧ (True ∧ True) ∧ True)
       ⟨tt,tt,tt,⟨tt,tt,(by omega),(by omega)⟩,tt,tt,⟨tt,tt⟩,tt⟩ ?_
      refine W.KA cok tab32 hnt [] [1,4,111] (⟨[(1,.ptr 1 0),(4,.i ((i : Nat) : Int)),(111,.b ((((!(within ((List.getD c.marks i default).value) (0 : Int) (3 : Int))) || (!(within ((List.getD c.marks i default).proc) (0 : Int) (2 : Int)))) || (!(within ((List.getD c.marks i default).number) (1 : Int) (20 : Int)))) || ((decide ((0 : Int) < ((i : Nat) : Int))) && (!(lessM (List.getD c.marks (Int.toNat (((i : Nat) : Int) - (1 : Int))) default) (List.getD c.marks i default))))))],[(1,⟨26,.fix (cC c)⟩),(5,⟨33,.fix [.i ((List.getD c.marks i default).value),.i ((List.getD c.marks i default).proc),.i ((List.getD c.marks i default).number),.b ((List.getD c.marks i default).gone)]⟩)],[5,1,999]⟩)
       ((fun (Z1:Bool)=>((fun (Z2:Bool)=>((fun (Z3:Bool)=>((fun (Z4:Bool)=>((fun (Z5:Bool)=>((fun (Z6:Bool)=>(True ∧ (True ∧ ((True ∧ ((True ∧ (True ∧ (True ∧ True))) ∧ True)) ∧ (True ∧ (True ∧ (((!Z2) = true → True) ∧ (((!Z2) = true → (((!Z2) = true) ∧ True)) ∧ (((!Z2) = true → (True ∧ (((((!Z2) = true) ∧ True) ∧ (True ∧ (True ∧ True))) ∧ True))) ∧ (((!Z2) = true → (((!Z2) = true) ∧ True)) ∧ ((True ∧ ((Z2 = true → True) ∧ (Z2 = false → ((!Z2) = true) ∧ True))) ∧ (True ∧ (((!Z3) = true → True) ∧ (((!Z3) = true → (((!Z3) = true) ∧ True)) ∧ (((!Z3) = true → (True ∧ (((((!Z3) = true) ∧ True) ∧ (True ∧ (True ∧ True))) ∧ True))) ∧ (((!Z3) = true → (((!Z3) = true) ∧ True)) ∧ ((True ∧ ((Z3 = true → True) ∧ (Z3 = false → ((!Z3) = true) ∧ True))) ∧ (True ∧ ((Z5 = true → True) ∧ ((Z5 = true → (((Z5 = true) ∧ True) ∧ (True ∧ True))) ∧ ((Z5 = true → True) ∧ ((Z6 = true → True) ∧ ((Z6 = true → ((Z6 = true) ∧ True)) ∧ ((Z6 = true → True) ∧ ((Z6 = true → (((Z6 = true) ∧ True) ∧ (True ∧ (Fits .i64 (((i : Nat) : Int) - (1 : Int)))))) ∧ ((Z6 = true → (((Z6 = true) ∧ True) ∧ (((Z6 = true) ∧ True) ∧ ((0 ≤ (((i : Nat) : Int) - (1 : Int))) ∧ ((((i : Nat) : Int) - (1 : Int)) < (((List.length c.marks) : Nat) : Int)))))) ∧ ((Z6 = true → ((Z6 = true) ∧ True)) ∧ ((Z6 = true → True) ∧ ((Z6 = true → (True ∧ ((((Z6 = true) ∧ True) ∧ (((Z6 = true) ∧ True) ∧ True)) ∧ True))) ∧ ((Z6 = true → ((Z6 = true) ∧ True)) ∧ ((Z5 = true → (((Z5 = true) ∧ ((Z5 = true) ∧ True)) ∧ ((Z1 = true → (Z6 = true) ∧ True) ∧ (Z1 = false → True)))) ∧ ((True ∧ ((Z4 = true → True) ∧ (Z4 = false → (Z5 = true) ∧ True))) ∧ True)))))))))))))))))))))))))))))))) (Z5 && (Z5 && Z1)))) (!Z4))) (Z3 || (!(within ((List.getD c.marks i default).number) (1 : Int) (20 : Int)))))) (Z2 || (!(within ((List.getD c.marks i default).proc) (0 : Int) (2 : Int)))))) (!(within ((List.getD c.marks i default).value) (0 : Int) (3 : Int))))) (decide ((0 : Int) < ((i : Nat) : Int)))) (by kernel_rfl) (by kernel_rfl)
       ⟨tt,tt,⟨tt,⟨tt,tt,tt,tt⟩,tt⟩,tt,tt,(fun _ => trivial),(fun hG => ⟨hG,tt⟩),(fun hG => ⟨tt,⟨⟨hG,tt⟩,tt,tt,tt⟩,tt⟩),(fun hG => ⟨hG,tt⟩),⟨tt,(fun _ => trivial),(fun hp => ⟨(not_t hp),tt⟩)⟩,tt,(fun _ => trivial),(fun hG => ⟨hG,tt⟩),(fun hG => ⟨tt,⟨⟨hG,tt⟩,tt,tt,tt⟩,tt⟩),(fun hG => ⟨hG,tt⟩),⟨tt,(fun _ => trivial),(fun hp => ⟨(not_t hp),tt⟩)⟩,tt,(fun _ => trivial),(fun hG => ⟨⟨hG,tt⟩,tt,tt⟩),(fun _ => trivial),(fun _ => trivial),(fun hG => ⟨hG,tt⟩),(fun _ => trivial),(fun hG => ⟨⟨hG,tt⟩,tt,(by have hg0 : (0 : Int) < ((i : Nat) : Int) := of_decide_eq_true (and_r (and_r hG)); exact fits_i64 (by omega) (by omega))⟩),(fun hG => ⟨⟨hG,tt⟩,⟨hG,tt⟩,(by have hg0 : (0 : Int) < ((i : Nat) : Int) := of_decide_eq_true (and_r (and_r hG)); omega),(by have hg0 : (0 : Int) < ((i : Nat) : Int) := of_decide_eq_true (and_r (and_r hG)); omega)⟩),(fun hG => ⟨hG,tt⟩),(fun _ => trivial),(fun hG => ⟨tt,⟨⟨hG,tt⟩,⟨hG,tt⟩,tt⟩,tt⟩),(fun hG => ⟨hG,tt⟩),(fun hG => ⟨⟨hG,hG,tt⟩,(fun hp => ⟨(and_t hG (and_t hG hp)),tt⟩),(fun _ => trivial)⟩),⟨tt,(fun _ => trivial),(fun hp => ⟨(not_t hp),tt⟩)⟩,tt⟩ ?_
      refine W.if' ((((!(within ((List.getD c.marks i default).value) (0 : Int) (3 : Int))) || (!(within ((List.getD c.marks i default).proc) (0 : Int) (2 : Int)))) || (!(within ((List.getD c.marks i default).number) (1 : Int) (20 : Int)))) || ((decide ((0 : Int) < ((i : Nat) : Int))) && (!(lessM (List.getD c.marks (Int.toNat (((i : Nat) : Int) - (1 : Int))) default) (List.getD c.marks i default))))) (.b ((((!(within ((List.getD c.marks i default).value) (0 : Int) (3 : Int))) || (!(within ((List.getD c.marks i default).proc) (0 : Int) (2 : Int)))) || (!(within ((List.getD c.marks i default).number) (1 : Int) (20 : Int)))) || ((decide ((0 : Int) < ((i : Nat) : Int))) && (!(lessM (List.getD c.marks (Int.toNat (((i : Nat) : Int) - (1 : Int))) default) (List.getD c.marks i default)))))) (by kernel_rfl) rfl trivial ?_ ?_
      ·intro h111
       refine Kk cok tab32 hnt [] [2] (⟨[(2,.b false)],[(1,⟨26,.fix (cC c)⟩),(5,⟨33,.fix [.i ((List.getD c.marks i default).value),.i ((List.getD c.marks i default).proc),.i ((List.getD c.marks i default).number),.b ((List.getD c.marks i default).gone)]⟩)],[5,1,999]⟩)
        (True ∧ True)
        ⟨tt,tt⟩ ?_
       refine W.ret (blockQ_ret (thenQ_ret (thenQ_ret (blockQ_ret (thenQ_ret ?_)))))
       exact endQ_ret (.b false) (by kernel_rfl) (@cast ((.bool false : Value) = .bool (validCopy c)) _ (by kernel_rfl) (congrArg Value.bool (by rw [show ((i : Int) - 1).toNat = i - 1 by omega] at h111; exact (valid_marks (mark_bad (i := i) (by omega) (markS_no h111))).symm)))
      ·intro n111
       refine W.skip (blockQ_normal (thenQ_normal ?_))
       refine Lk cok tab32 hnt [] (⟨[(1,.ptr 1 0),(4,.i (((i + 1) : Nat) : Int)),(74,.i ((i : Nat) : Int)),(75,.i (((i + 1) : Nat) : Int)),(111,.b ((((!(within ((List.getD c.marks i default).value) (0 : Int) (3 : Int))) || (!(within ((List.getD c.marks i default).proc) (0 : Int) (2 : Int)))) || (!(within ((List.getD c.marks i default).number) (1 : Int) (20 : Int)))) || ((decide ((0 : Int) < ((i : Nat) : Int))) && (!(lessM (List.getD c.marks (Int.toNat (((i : Nat) : Int) - (1 : Int))) default) (List.getD c.marks i default))))))],[(1,⟨26,.fix (cC c)⟩),(5,⟨33,.fix [.i ((List.getD c.marks i default).value),.i ((List.getD c.marks i default).proc),.i ((List.getD c.marks i default).number),.b ((List.getD c.marks i default).gone)]⟩)],[5,1,999]⟩)
        (True ∧ (True ∧ True ∧ (Fits .i64 (((i + 1) : Nat) : Int))) ∧ True ∧ True)
        ⟨tt,⟨tt,tt,(by exact fits_i64 (by omega) (by omega))⟩,tt,tt⟩ ?_
       refine thenQ_normal ?_
       refine ⟨((i + 1)),(show ((i + 1) ≤ c.marks.length) ∧ (∀ j,j < (i + 1) → markOK c.marks j = true) from ⟨(by first | assumption | omega | rfl | (intro _ hjj; omega) | (simp; done) | (simp; omega)),(by rw [show ((i : Int) - 1).toNat = i - 1 by omega] at n111; exact upto_succ hA (markS_ok n111))⟩),(show c.marks.length - (i + 1) < c.marks.length - i from (by first | omega | (simp_all; omega))),?_⟩
       exact Sub.of [] (@cast (((((1 : Nat) = 1) ∧ ((0 : Nat) = 0) ∧ ((1 : Nat) ∈ ([1,999] : List Nat))) ∧ (Si (((i + 1) : Nat) : Int)) ∧ True) ∧ ((((26 : Nat) = 26) ∧ (Sc c) ∧ ((1 : Nat) ∈ ([1,999] : List Nat))) ∧ True) ∧ (true = true) ∧ (true = true)) _ (by kernel_rfl) ⟨⟨⟨rfl,rfl,(by decide)⟩,rfl,tt⟩,⟨⟨rfl,⟨rfl,rfl,rfl,rfl,rfl,rfl,tt⟩,(by decide)⟩,tt⟩,rfl,rfl⟩)
     ·intro n73
      refine W.exit (thenQ_exit (thenQ_exit (blockQ_hit ?_)))
      refine thenQ_normal ?_
      refine Kk cok tab32 hnt [] [2] (⟨[(2,.b (decide ((((List.length c.marks) : Nat) : Int) ≤ (20 : Int))))],[(1,⟨26,.fix (cC c)⟩)],[1,999]⟩)
       (True ∧ True ∧ True ∧ (True ∧ True ∧ True) ∧ True ∧ True)
       ⟨tt,tt,tt,⟨tt,tt,tt⟩,tt,tt⟩ ?_
      refine W.ret ?_
      exact endQ_ret (.b (decide ((((List.length c.marks) : Nat) : Int) ≤ (20 : Int)))) (by kernel_rfl) (@cast ((.bool (decide ((((List.length c.marks) : Nat) : Int) ≤ (20 : Int))) : Value) = .bool (validCopy c)) _ (by kernel_rfl) (congrArg Value.bool (by exact valid_spec (valid_spec2 n48).2.2 (counts_part (valid_spec2 n48).1 (fun j hj => hU j (by omega))) (counts_part (valid_spec2 n48).2.1 (fun j hj => hD j (by omega))) (allN_true (fun j hj => hA j (by omega))))))
theorem ent32 : Entr prog 32 := ⟨_,func32,rfl,by decide⟩
end Go.Proofs.Try

set_option linter.unusedSimpArgs false
set_option linter.unusedVariables false
namespace Go.Proofs.Try
open Go.Ab Go.RowKit
def fs33 : FnS := fnS [.a [some .ints,some .ints,none,none,none,some .marks]] [.copy] (fun _ (c,_) => (.agg [.own 0 (List.length c.up),.own 1 (List.length c.down),.i c.value,.i c.time,.i c.proc,.own 2 (List.length c.marks)],[(3,.ints c.up),(3,.ints c.down),(33,.marks c.marks)],(c.up.length ≤ 1000 ∧ c.down.length ≤ 1000 ∧ c.marks.length ≤ 1000)))
abbrev T33 : Tab := lk []
theorem tab33 : TabOK prog T33 := TabOK.nil
set_option maxRecDepth 100000 in
set_option maxHeartbeats 1000000 in
theorem ok33 : FnOK prog 33 fs33 := by
 refine FnOK.mk cok func33 rfl rfl rfl ?_
 rintro fl ⟨(c : CopyD),_⟩ hpre F hnt0 _
 have hnt : F.nt = 22 := hnt0.trans ntmps33
 replace hpre : (c.up.length ≤ 1000 ∧ c.down.length ≤ 1000 ∧ c.marks.length ≤ 1000) := hpre
 have hs := hpre
 refine W.to (⟨[(0,.agg (cC c))],[],[999]⟩) rfl ?_
 refine W.lenA 0 0 (cC c) (.ints c.up) (by kernel_rfl) (by kernel_rfl) ?_
 intro hl_c_up; replace hl_c_up : List.length c.up ≤ 9223372036854775807 := hl_c_up
 refine W.lenA 0 1 (cC c) (.ints c.down) (by kernel_rfl) (by kernel_rfl) ?_
 intro hl_c_down; replace hl_c_down : List.length c.down ≤ 9223372036854775807 := hl_c_down
 refine W.lenA 0 5 (cC c) (.marks c.marks) (by kernel_rfl) (by kernel_rfl) ?_
 intro hl_c_marks; replace hl_c_marks : List.length c.marks ≤ 9223372036854775807 := hl_c_marks
 refine Kk cok tab33 hnt [] [1,2] (⟨[(1,.ptr 1 0),(2,.ptr 2 0)],[(1,⟨26,.fix (cC c)⟩),(2,⟨26,.fix [.v (.slice none 0 0),.v (.slice none 0 0),.i (0 : Int),.i (0 : Int),.i (0 : Int),.v (.slice none 0 0)]⟩)],[2,1,999]⟩)
  (True ∧ True ∧ True)
  ⟨tt,tt,tt⟩ ?_
 refine W.KA cok tab33 hnt [3,6,7,10,17,20] [2] (⟨[(2,.ptr 2 0)],[(1,⟨26,.fix (cC c)⟩),(2,⟨26,.fix [.own 6 (List.length c.up),.own 10 (List.length c.down),.i c.value,.i c.time,.i c.proc,.own 20 (List.length c.marks)]⟩),(6,⟨3,.row (.ints c.up)⟩),(10,⟨3,.row (.ints c.down)⟩),(20,⟨33,.row (.marks c.marks)⟩)],[20,17,10,7,6,3,2,1,999]⟩)
  (True ∧ True ∧ True ∧ ((True ∧ ((List.length ([] : List Int)) = (List.length ([] : List Int)))) ∧ True ∧ (((List.length ([] : List Int)) + (List.length c.up)) * 8 ≤ 140737488355328)) ∧ True ∧ True ∧ True ∧ ((True ∧ ((List.length ([] : List Int)) = (List.length ([] : List Int)))) ∧ True ∧ (((List.length ([] : List Int)) + (List.length c.down)) * 8 ≤ 140737488355328)) ∧ True ∧ True ∧ True ∧ True ∧ True ∧ True ∧ True ∧ True ∧ True ∧ ((True ∧ ((List.length ([] : List MarkD)) = (List.length ([] : List MarkD)))) ∧ True ∧ (((List.length ([] : List MarkD)) + (List.length c.marks)) * 32 ≤ 140737488355328)) ∧ (True ∧ True ∧ True ∧ True ∧ True ∧ True ∧ True) ∧ (True ∧ True) ∧ True) (by kernel_rfl) (by kernel_rfl)
  ⟨tt,tt,tt,⟨⟨tt,rfl⟩,tt,(by (try simp only [List.length_append,List.length_cons,List.length_nil,List.length_set]); omega)⟩,tt,tt,tt,⟨⟨tt,rfl⟩,tt,(by (try simp only [List.length_append,List.length_cons,List.length_nil,List.length_set]); omega)⟩,tt,tt,tt,tt,tt,tt,tt,tt,tt,⟨⟨tt,rfl⟩,tt,(by (try simp only [List.length_append,List.length_cons,List.length_nil,List.length_set]); omega)⟩,⟨tt,tt,tt,tt,tt,tt,tt⟩,⟨tt,tt⟩,tt⟩ ?_
 refine W.ret ?_
 exact endQ_rows [(0,6),(1,10),(2,20)] (.agg [.own 6 (List.length c.up),.own 10 (List.length c.down),.i c.value,.i c.time,.i c.proc,.own 20 (List.length c.marks)]) (by kernel_rfl) (@cast ((((6 : Nat) = 6) ∧ ((List.length c.up) = (List.length c.up)) ∧ ((0 : Nat) ∈ ([0,1,2] : List Nat))) ∧ (((10 : Nat) = 10) ∧ ((List.length c.down) = (List.length c.down)) ∧ ((1 : Nat) ∈ ([0,1,2] : List Nat))) ∧ (Si c.value) ∧ (Si c.time) ∧ (Si c.proc) ∧ (((20 : Nat) = 20) ∧ ((List.length c.marks) = (List.length c.marks)) ∧ ((2 : Nat) ∈ ([0,1,2] : List Nat))) ∧ True) _ (by kernel_rfl) ⟨⟨rfl,rfl,(by decide)⟩,⟨rfl,rfl,(by decide)⟩,rfl,rfl,rfl,⟨rfl,rfl,(by decide)⟩,tt⟩) (@cast ((((3 : Nat) = 3) ∧ (Sd (.ints c.up)) ∧ ((0 : Nat) ∈ ([0,1,2] : List Nat))) ∧ (((3 : Nat) = 3) ∧ (Sd (.ints c.down)) ∧ ((1 : Nat) ∈ ([0,1,2] : List Nat))) ∧ (((33 : Nat) = 33) ∧ (Sd (.marks c.marks)) ∧ ((2 : Nat) ∈ ([0,1,2] : List Nat))) ∧ True) _ (by kernel_rfl) ⟨⟨rfl,rfl,(by decide)⟩,⟨rfl,rfl,(by decide)⟩,⟨rfl,rfl,(by decide)⟩,tt⟩) (by kernel_rfl)
theorem ent33 : Entr prog 33 := ⟨_,func33,rfl,by decide⟩
end Go.Proofs.Try

set_option linter.unusedSimpArgs false
set_option linter.unusedVariables false
namespace Go.Proofs.Try
open Go.Ab Go.RowKit
def fs16 : FnS := fnS [.a [some .ints,some .ints,none,none,none,some .marks],.o] [.copy,.int] (fun _ (c,v,_) => (.agg (cC ((takeOut c v))),[],True))
abbrev T16 : Tab := lk [(32,fs32),(33,fs33)]
theorem tab16 : TabOK prog T16 := (TabOK.cons ok32 ent32 (TabOK.cons ok33 ent33 TabOK.nil))
set_option maxRecDepth 100000 in
set_option maxHeartbeats 1000000 in
theorem ok16 : FnOK prog 16 fs16 := by
 refine FnOK.mk cok func16 rfl rfl rfl ?_
 rintro fl ⟨(c : CopyD),(v : Int),_⟩ hpre F hnt0 _
 have hnt : F.nt = 34 := hnt0.trans ntmps16
 clear hpre
 refine W.to (⟨[(0,.agg (cC c)),(1,.i v)],[],[999]⟩) rfl ?_
 refine W.lenA 0 0 (cC c) (.ints c.up) (by kernel_rfl) (by kernel_rfl) ?_
 intro hl_c_up; replace hl_c_up : List.length c.up ≤ 9223372036854775807 := hl_c_up
 refine W.lenA 0 1 (cC c) (.ints c.down) (by kernel_rfl) (by kernel_rfl) ?_
 intro hl_c_down; replace hl_c_down : List.length c.down ≤ 9223372036854775807 := hl_c_down
 refine W.lenA 0 5 (cC c) (.marks c.marks) (by kernel_rfl) (by kernel_rfl) ?_
 intro hl_c_marks; replace hl_c_marks : List.length c.marks ≤ 9223372036854775807 := hl_c_marks
 refine Kk cok tab16 hnt [] [1,2,4] (⟨[(1,.i v),(2,.ptr 2 0),(4,.ptr 4 0)],[(2,⟨26,.fix (cC c)⟩),(4,⟨26,.fix [.v (.slice none 0 0),.v (.slice none 0 0),.i (0 : Int),.i (0 : Int),.i (0 : Int),.v (.slice none 0 0)]⟩)],[4,2,999]⟩)
  (True ∧ True ∧ True)
  ⟨tt,tt,tt⟩ ?_
 refine W.seq ?_
 refine Kk cok tab16 hnt [] [1,2,4,9] (⟨[(1,.i v),(2,.ptr 2 0),(4,.ptr 4 0),(9,.b (!(validCopy c)))],[(2,⟨26,.fix (cC c)⟩),(4,⟨26,.fix [.v (.slice none 0 0),.v (.slice none 0 0),.i (0 : Int),.i (0 : Int),.i (0 : Int),.v (.slice none 0 0)]⟩)],[4,2,999]⟩)
  (True ∧ (True ∧ ((True ∧ True ∧ True ∧ True ∧ True ∧ True ∧ True ∧ True) ∧ True) ∧ True) ∧ True ∧ True)
  ⟨tt,⟨tt,⟨⟨tt,tt,tt,tt,tt,tt,tt,tt⟩,tt⟩,tt⟩,tt,tt⟩ ?_
 refine W.if' (!(validCopy c)) (.b (!(validCopy c))) (by kernel_rfl) rfl trivial ?_ ?_
 ·intro h9
  refine Kk cok tab16 hnt [] [4] (⟨[(4,.ptr 4 0)],[(2,⟨26,.fix (cC c)⟩),(4,⟨26,.fix [.v (.slice none 0 0),.v (.slice none 0 0),.i (0 : Int),.i (0 : Int),.i (0 : Int),.v (.slice none 0 0)]⟩)],[4,2,999]⟩)
   (True ∧ (True ∧ True) ∧ True)
   ⟨tt,⟨tt,tt⟩,tt⟩ ?_
  refine W.ret (thenQ_ret ?_)
  exact endQ_ret (.agg [.v (.slice none 0 0),.v (.slice none 0 0),.i (0 : Int),.i (0 : Int),.i (0 : Int),.v (.slice none 0 0)]) (by kernel_rfl) (@cast ((((Value.slice none 0 0 : Value) = .slice none 0 0) ∧ ((Dat.ints ((takeOut c v).up)).len = 0)) ∧ (((Value.slice none 0 0 : Value) = .slice none 0 0) ∧ ((Dat.ints ((takeOut c v).down)).len = 0)) ∧ ((.int .i64 (0 : Int) : Value) = .int .i64 ((takeOut c v).value)) ∧ ((.int .i64 (0 : Int) : Value) = .int .i64 ((takeOut c v).time)) ∧ ((.int .i64 (0 : Int) : Value) = .int .i64 ((takeOut c v).proc)) ∧ (((Value.slice none 0 0 : Value) = .slice none 0 0) ∧ ((Dat.marks ((takeOut c v).marks)).len = 0)) ∧ True) _ (by kernel_rfl) ⟨⟨rfl,(by show List.length ((takeOut c v).up) = 0; rw [takeOut_no (not_f h9)]; try rfl)⟩,⟨rfl,(by show List.length ((takeOut c v).down) = 0; rw [takeOut_no (not_f h9)]; try rfl)⟩,(congrArg (Value.int .i64) (by rw [takeOut_no (not_f h9)]; try rfl)),(congrArg (Value.int .i64) (by rw [takeOut_no (not_f h9)]; try rfl)),(congrArg (Value.int .i64) (by rw [takeOut_no (not_f h9)]; try rfl)),⟨rfl,(by show List.length ((takeOut c v).marks) = 0; rw [takeOut_no (not_f h9)]; try rfl)⟩,tt⟩)
 ·intro n9
  have hf := up_len (not_g n9)
  refine W.skip (thenQ_normal ?_)
  refine Kk cok tab16 hnt [] [1,4,5] (⟨[(1,.i v),(4,.ptr 4 0),(5,.ptr 5 0)],[(2,⟨26,.fix (cC c)⟩),(4,⟨26,.fix [.v (.slice none 0 0),.v (.slice none 0 0),.i (0 : Int),.i (0 : Int),.i (0 : Int),.v (.slice none 0 0)]⟩),(5,⟨26,.fix [.own 12 (List.length c.up),.own 1012 (List.length c.down),.i c.value,.i c.time,.i c.proc,.own 2012 (List.length c.marks)]⟩),(12,⟨3,.row (.ints c.up)⟩),(1012,⟨3,.row (.ints c.down)⟩),(2012,⟨33,.row (.marks c.marks)⟩)],[5,2012,1012,12,4,2,999]⟩)
   (True ∧ (True ∧ ((True ∧ True ∧ True ∧ True ∧ True ∧ True ∧ True ∧ True) ∧ True) ∧ c.up.length ≤ 1000 ∧ c.down.length ≤ 1000 ∧ c.marks.length ≤ 1000) ∧ True ∧ (True ∧ True) ∧ True)
   ⟨tt,⟨tt,⟨⟨tt,tt,tt,tt,tt,tt,tt,tt⟩,tt⟩,(by omega)⟩,tt,⟨tt,tt⟩,tt⟩ ?_
  refine W.seq ?_
  refine Kk cok tab16 hnt [] [1,4,5,6] (⟨[(1,.i v),(4,.ptr 4 0),(5,.ptr 5 0),(6,.i (0 : Int))],[(2,⟨26,.fix (cC c)⟩),(4,⟨26,.fix [.v (.slice none 0 0),.v (.slice none 0 0),.i (0 : Int),.i (0 : Int),.i (0 : Int),.v (.slice none 0 0)]⟩),(5,⟨26,.fix [.own 12 (List.length c.up),.own 1012 (List.length c.down),.i c.value,.i c.time,.i c.proc,.own 2012 (List.length c.marks)]⟩),(12,⟨3,.row (.ints c.up)⟩),(1012,⟨3,.row (.ints c.down)⟩),(2012,⟨33,.row (.marks c.marks)⟩)],[5,2012,1012,12,4,2,999]⟩)
   (True ∧ True)
   ⟨tt,tt⟩ ?_
  refine W.block ?_
  refine W.loop (ι := Nat × (List MarkD)) (fun (x : Nat × (List MarkD)) => match x with | (i,ms) => (⟨[(1,.i v),(4,.ptr 4 0),(5,.ptr 5 0),(6,.i ((i : Nat) : Int))],[(4,⟨26,.fix [.v (.slice none 0 0),.v (.slice none 0 0),.i (0 : Int),.i (0 : Int),.i (0 : Int),.v (.slice none 0 0)]⟩),(5,⟨26,.fix [.own 12 (List.length c.up),.own 1012 (List.length c.down),.i c.value,.i c.time,.i c.proc,.own 2012 ms.length]⟩),(12,⟨3,.row (.ints c.up)⟩),(1012,⟨3,.row (.ints c.down)⟩),(2012,⟨33,.row (.marks ms)⟩)],[4,5,12,999,1012,2012]⟩ : St))
   (fun (x : Nat × (List MarkD)) => match x with | (i,ms) => (i ≤ c.marks.length) ∧ (ms = goneUp v c.marks i))
   (fun (x : Nat × (List MarkD)) => match x with | (i,ms) => (c.marks.length - i : Nat)) (0,c.marks) ?_ ?_ ?_
  ·exact (show (0 ≤ c.marks.length) ∧ (c.marks = goneUp v c.marks 0) from ⟨(by first | assumption | omega | rfl | (intro _ hjj; omega) | (simp; done) | (simp; omega)),(by simp [goneUp])⟩)
  ·exact Sub.of [] (@cast (((Si v) ∧ (((4 : Nat) = 4) ∧ ((0 : Nat) = 0) ∧ ((4 : Nat) ∈ ([4,5,12,999,1012,2012] : List Nat))) ∧ (((5 : Nat) = 5) ∧ ((0 : Nat) = 0) ∧ ((5 : Nat) ∈ ([4,5,12,999,1012,2012] : List Nat))) ∧ ((.int .i64 (0 : Int) : Value) = .int .i64 ((0 : Nat) : Int)) ∧ True) ∧ ((((26 : Nat) = 26) ∧ ((((.slice none 0 0) : Value) = (.slice none 0 0)) ∧ (((.slice none 0 0) : Value) = (.slice none 0 0)) ∧ (Si (0 : Int)) ∧ (Si (0 : Int)) ∧ (Si (0 : Int)) ∧ (((.slice none 0 0) : Value) = (.slice none 0 0)) ∧ True) ∧ ((4 : Nat) ∈ ([4,5,12,999,1012,2012] : List Nat))) ∧ (((26 : Nat) = 26) ∧ ((((12 : Nat) = 12) ∧ ((List.length c.up) = (List.length c.up)) ∧ ((12 : Nat) ∈ ([4,5,12,999,1012,2012] : List Nat))) ∧ (((1012 : Nat) = 1012) ∧ ((List.length c.down) = (List.length c.down)) ∧ ((1012 : Nat) ∈ ([4,5,12,999,1012,2012] : List Nat))) ∧ (Si c.value) ∧ (Si c.time) ∧ (Si c.proc) ∧ (((2012 : Nat) = 2012) ∧ ((List.length c.marks) = (List.length c.marks)) ∧ ((2012 : Nat) ∈ ([4,5,12,999,1012,2012] : List Nat))) ∧ True) ∧ ((5 : Nat) ∈ ([4,5,12,999,1012,2012] : List Nat))) ∧ (((3 : Nat) = 3) ∧ (Sd (.ints c.up)) ∧ ((12 : Nat) ∈ ([4,5,12,999,1012,2012] : List Nat))) ∧ (((3 : Nat) = 3) ∧ (Sd (.ints c.down)) ∧ ((1012 : Nat) ∈ ([4,5,12,999,1012,2012] : List Nat))) ∧ (((33 : Nat) = 33) ∧ (Sd (.marks c.marks)) ∧ ((2012 : Nat) ∈ ([4,5,12,999,1012,2012] : List Nat))) ∧ True) ∧ (true = true) ∧ (true = true)) _ (by kernel_rfl) ⟨⟨rfl,⟨rfl,rfl,(by decide)⟩,⟨rfl,rfl,(by decide)⟩,(congrArg (Value.int .i64) (by first | rfl | omega | assumption | simp | simp_all)),tt⟩,⟨⟨rfl,⟨rfl,rfl,rfl,rfl,rfl,rfl,tt⟩,(by decide)⟩,⟨rfl,⟨⟨rfl,rfl,(by decide)⟩,⟨rfl,rfl,(by decide)⟩,rfl,rfl,rfl,⟨rfl,rfl,(by decide)⟩,tt⟩,(by decide)⟩,⟨rfl,rfl,(by decide)⟩,⟨rfl,rfl,(by decide)⟩,⟨rfl,rfl,(by decide)⟩,tt⟩,rfl,rfl⟩)
  ·rintro ⟨i,ms⟩ hC0
   have hC : (i ≤ c.marks.length) ∧ (ms = goneUp v c.marks i) := hC0
   clear hC0
   obtain ⟨hi,hm⟩ := hC
   refine W.to (⟨[(1,.i v),(4,.ptr 4 0),(5,.ptr 5 0),(6,.i ((i : Nat) : Int))],[(4,⟨26,.fix [.v (.slice none 0 0),.v (.slice none 0 0),.i (0 : Int),.i (0 : Int),.i (0 : Int),.v (.slice none 0 0)]⟩),(5,⟨26,.fix [.own 12 (List.length c.up),.own 1012 (List.length c.down),.i c.value,.i c.time,.i c.proc,.own 2012 ms.length]⟩),(12,⟨3,.row (.ints c.up)⟩),(1012,⟨3,.row (.ints c.down)⟩),(2012,⟨33,.row (.marks ms)⟩)],[4,5,12,999,1012,2012]⟩) rfl ?_
   have hml : ms.length = c.marks.length := by rw [hm]; exact goneUp_len _ _ _
   refine W.seq ?_
   refine Kk cok tab16 hnt [] [1,4,5,6,17] (⟨[(1,.i v),(4,.ptr 4 0),(5,.ptr 5 0),(6,.i ((i : Nat) : Int)),(17,.b (decide (((i : Nat) : Int) < (ms.length : Int))))],[(4,⟨26,.fix [.v (.slice none 0 0),.v (.slice none 0 0),.i (0 : Int),.i (0 : Int),.i (0 : Int),.v (.slice none 0 0)]⟩),(5,⟨26,.fix [.own 12 (List.length c.up),.own 1012 (List.length c.down),.i c.value,.i c.time,.i c.proc,.own 2012 ms.length]⟩),(12,⟨3,.row (.ints c.up)⟩),(1012,⟨3,.row (.ints c.down)⟩),(2012,⟨33,.row (.marks ms)⟩)],[4,5,12,999,1012,2012]⟩)
    (True ∧ True ∧ True ∧ True ∧ (True ∧ True ∧ True) ∧ True)
    ⟨tt,tt,tt,tt,⟨tt,tt,tt⟩,tt⟩ ?_
   refine W.ifP (((i : Nat) : Int) < (ms.length : Int)) (.b (decide (((i : Nat) : Int) < (ms.length : Int)))) (by kernel_rfl) rfl trivial ?_ ?_
   ·intro h17
    refine W.skip (thenQ_normal ?_)
    refine W.seq ?_
    refine W.block ?_
    refine Kk cok tab16 hnt [] [1,4,5,6,27] (⟨[(1,.i v),(4,.ptr 4 0),(5,.ptr 5 0),(6,.i ((i : Nat) : Int)),(27,.b (decide (((ms.getD i default).value) = v)))],[(4,⟨26,.fix [.v (.slice none 0 0),.v (.slice none 0 0),.i (0 : Int),.i (0 : Int),.i (0 : Int),.v (.slice none 0 0)]⟩),(5,⟨26,.fix [.own 12 (List.length c.up),.own 1012 (List.length c.down),.i c.value,.i c.time,.i c.proc,.own 2012 ms.length]⟩),(12,⟨3,.row (.ints c.up)⟩),(1012,⟨3,.row (.ints c.down)⟩),(2012,⟨33,.row (.marks ms)⟩)],[4,5,12,999,1012,2012]⟩)
     (True ∧ True ∧ True ∧ (True ∧ True ∧ (0 ≤ ((i : Nat) : Int)) ∧ (((i : Nat) : Int) < (ms.length : Int))) ∧ True ∧ (True ∧ (i < ms.length)) ∧ True ∧ (True ∧ True ∧ True) ∧ True)
     ⟨tt,tt,tt,⟨tt,tt,(by omega),(by omega)⟩,tt,⟨tt,(by omega)⟩,tt,⟨tt,tt,tt⟩,tt⟩ ?_
    refine W.ifP (((ms.getD i default).value) = v) (.b (decide (((ms.getD i default).value) = v))) (by kernel_rfl) rfl trivial ?_ ?_
    ·intro h27
     refine Lk cok tab16 hnt [] (⟨[(1,.i v),(4,.ptr 4 0),(5,.ptr 5 0),(6,.i ((i : Nat) : Int)),(27,.b (decide (((ms.getD i default).value) = v))),(28,.ptr 5 5),(29,.own 2012 ms.length),(30,.i ((i : Nat) : Int)),(31,.pel 2012 4 i 0),(32,.pel 2012 4 i 3)],[(4,⟨26,.fix [.v (.slice none 0 0),.v (.slice none 0 0),.i (0 : Int),.i (0 : Int),.i (0 : Int),.v (.slice none 0 0)]⟩),(5,⟨26,.fix [.own 12 (List.length c.up),.own 1012 (List.length c.down),.i c.value,.i c.time,.i c.proc,.own 2012 ms.length]⟩),(12,⟨3,.row (.ints c.up)⟩),(1012,⟨3,.row (.ints c.down)⟩),(2012,⟨33,.row (.marks (List.set ms i ({ ms.getD i default with gone := true })))⟩)],[4,5,12,999,1012,2012]⟩)
      (True ∧ True ∧ True ∧ (True ∧ True ∧ (0 ≤ ((i : Nat) : Int)) ∧ (((i : Nat) : Int) < (ms.length : Int))) ∧ True ∧ (True ∧ True ∧ (i < ms.length)) ∧ True)
      ⟨tt,tt,tt,⟨tt,tt,(by omega),(by omega)⟩,tt,⟨tt,tt,(by omega)⟩,tt⟩ ?_
     refine blockQ_normal (thenQ_normal ?_)
     refine Lk cok tab16 hnt [] (⟨[(1,.i v),(4,.ptr 4 0),(5,.ptr 5 0),(6,.i (((i + 1) : Nat) : Int)),(18,.i ((i : Nat) : Int)),(19,.i (((i + 1) : Nat) : Int)),(27,.b (decide (((ms.getD i default).value) = v))),(28,.ptr 5 5),(29,.own 2012 ms.length),(30,.i ((i : Nat) : Int)),(31,.pel 2012 4 i 0),(32,.pel 2012 4 i 3)],[(4,⟨26,.fix [.v (.slice none 0 0),.v (.slice none 0 0),.i (0 : Int),.i (0 : Int),.i (0 : Int),.v (.slice none 0 0)]⟩),(5,⟨26,.fix [.own 12 (List.length c.up),.own 1012 (List.length c.down),.i c.value,.i c.time,.i c.proc,.own 2012 ms.length]⟩),(12,⟨3,.row (.ints c.up)⟩),(1012,⟨3,.row (.ints c.down)⟩),(2012,⟨33,.row (.marks (List.set ms i ({ ms.getD i default with gone := true })))⟩)],[4,5,12,999,1012,2012]⟩)
      (True ∧ (True ∧ True ∧ (Fits .i64 (((i + 1) : Nat) : Int))) ∧ True ∧ True)
      ⟨tt,⟨tt,tt,(by exact fits_i64 (by omega) (by omega))⟩,tt,tt⟩ ?_
     refine thenQ_normal ?_
     refine ⟨((i + 1),(List.set ms i ({ ms.getD i default with gone := true }))),(show ((i + 1) ≤ c.marks.length) ∧ ((List.set ms i ({ ms.getD i default with gone := true })) = goneUp v c.marks (i + 1)) from ⟨(by first | assumption | omega | rfl | (intro _ hjj; omega) | (simp; done) | (simp; omega)),(by first | exact gone_yes hm (by omega) h27 | exact gone_no hm (by omega) n27)⟩),(show c.marks.length - (i + 1) < c.marks.length - i from (by first | omega | (simp_all; omega))),?_⟩
     exact Sub.of [] (@cast (((Si v) ∧ (((4 : Nat) = 4) ∧ ((0 : Nat) = 0) ∧ ((4 : Nat) ∈ ([4,5,12,999,1012,2012] : List Nat))) ∧ (((5 : Nat) = 5) ∧ ((0 : Nat) = 0) ∧ ((5 : Nat) ∈ ([4,5,12,999,1012,2012] : List Nat))) ∧ (Si (((i + 1) : Nat) : Int)) ∧ True) ∧ ((((26 : Nat) = 26) ∧ ((((.slice none 0 0) : Value) = (.slice none 0 0)) ∧ (((.slice none 0 0) : Value) = (.slice none 0 0)) ∧ (Si (0 : Int)) ∧ (Si (0 : Int)) ∧ (Si (0 : Int)) ∧ (((.slice none 0 0) : Value) = (.slice none 0 0)) ∧ True) ∧ ((4 : Nat) ∈ ([4,5,12,999,1012,2012] : List Nat))) ∧ (((26 : Nat) = 26) ∧ ((((12 : Nat) = 12) ∧ ((List.length c.up) = (List.length c.up)) ∧ ((12 : Nat) ∈ ([4,5,12,999,1012,2012] : List Nat))) ∧ (((1012 : Nat) = 1012) ∧ ((List.length c.down) = (List.length c.down)) ∧ ((1012 : Nat) ∈ ([4,5,12,999,1012,2012] : List Nat))) ∧ (Si c.value) ∧ (Si c.time) ∧ (Si c.proc) ∧ (((2012 : Nat) = 2012) ∧ (ms.length = (List.length (List.set ms i ({ ms.getD i default with gone := true })))) ∧ ((2012 : Nat) ∈ ([4,5,12,999,1012,2012] : List Nat))) ∧ True) ∧ ((5 : Nat) ∈ ([4,5,12,999,1012,2012] : List Nat))) ∧ (((3 : Nat) = 3) ∧ (Sd (.ints c.up)) ∧ ((12 : Nat) ∈ ([4,5,12,999,1012,2012] : List Nat))) ∧ (((3 : Nat) = 3) ∧ (Sd (.ints c.down)) ∧ ((1012 : Nat) ∈ ([4,5,12,999,1012,2012] : List Nat))) ∧ (((33 : Nat) = 33) ∧ (Sd (.marks (List.set ms i ({ ms.getD i default with gone := true })))) ∧ ((2012 : Nat) ∈ ([4,5,12,999,1012,2012] : List Nat))) ∧ True) ∧ (true = true) ∧ (true = true)) _ (by kernel_rfl) ⟨⟨rfl,⟨rfl,rfl,(by decide)⟩,⟨rfl,rfl,(by decide)⟩,rfl,tt⟩,⟨⟨rfl,⟨rfl,rfl,rfl,rfl,rfl,rfl,tt⟩,(by decide)⟩,⟨rfl,⟨⟨rfl,rfl,(by decide)⟩,⟨rfl,rfl,(by decide)⟩,rfl,rfl,rfl,⟨rfl,(by first | rfl | omega | assumption | (symm; assumption) | simp | simp_all),(by decide)⟩,tt⟩,(by decide)⟩,⟨rfl,rfl,(by decide)⟩,⟨rfl,rfl,(by decide)⟩,⟨rfl,rfl,(by decide)⟩,tt⟩,rfl,rfl⟩)
    ·intro n27
     refine W.skip (blockQ_normal (thenQ_normal ?_))
     refine Lk cok tab16 hnt [] (⟨[(1,.i v),(4,.ptr 4 0),(5,.ptr 5 0),(6,.i (((i + 1) : Nat) : Int)),(18,.i ((i : Nat) : Int)),(19,.i (((i + 1) : Nat) : Int)),(27,.b (decide (((ms.getD i default).value) = v)))],[(4,⟨26,.fix [.v (.slice none 0 0),.v (.slice none 0 0),.i (0 : Int),.i (0 : Int),.i (0 : Int),.v (.slice none 0 0)]⟩),(5,⟨26,.fix [.own 12 (List.length c.up),.own 1012 (List.length c.down),.i c.value,.i c.time,.i c.proc,.own 2012 ms.length]⟩),(12,⟨3,.row (.ints c.up)⟩),(1012,⟨3,.row (.ints c.down)⟩),(2012,⟨33,.row (.marks ms)⟩)],[4,5,12,999,1012,2012]⟩)
      (True ∧ (True ∧ True ∧ (Fits .i64 (((i + 1) : Nat) : Int))) ∧ True ∧ True)
      ⟨tt,⟨tt,tt,(by exact fits_i64 (by omega) (by omega))⟩,tt,tt⟩ ?_
     refine thenQ_normal ?_
     refine ⟨((i + 1),ms),(show ((i + 1) ≤ c.marks.length) ∧ (ms = goneUp v c.marks (i + 1)) from ⟨(by first | assumption | omega | rfl | (intro _ hjj; omega) | (simp; done) | (simp; omega)),(by first | exact gone_yes hm (by omega) h27 | exact gone_no hm (by omega) n27)⟩),(show c.marks.length - (i + 1) < c.marks.length - i from (by first | omega | (simp_all; omega))),?_⟩
     exact Sub.of [] (@cast (((Si v) ∧ (((4 : Nat) = 4) ∧ ((0 : Nat) = 0) ∧ ((4 : Nat) ∈ ([4,5,12,999,1012,2012] : List Nat))) ∧ (((5 : Nat) = 5) ∧ ((0 : Nat) = 0) ∧ ((5 : Nat) ∈ ([4,5,12,999,1012,2012] : List Nat))) ∧ (Si (((i + 1) : Nat) : Int)) ∧ True) ∧ ((((26 : Nat) = 26) ∧ ((((.slice none 0 0) : Value) = (.slice none 0 0)) ∧ (((.slice none 0 0) : Value) = (.slice none 0 0)) ∧ (Si (0 : Int)) ∧ (Si (0 : Int)) ∧ (Si (0 : Int)) ∧ (((.slice none 0 0) : Value) = (.slice none 0 0)) ∧ True) ∧ ((4 : Nat) ∈ ([4,5,12,999,1012,2012] : List Nat))) ∧ (((26 : Nat) = 26) ∧ ((((12 : Nat) = 12) ∧ ((List.length c.up) = (List.length c.up)) ∧ ((12 : Nat) ∈ ([4,5,12,999,1012,2012] : List Nat))) ∧ (((1012 : Nat) = 1012) ∧ ((List.length c.down) = (List.length c.down)) ∧ ((1012 : Nat) ∈ ([4,5,12,999,1012,2012] : List Nat))) ∧ (Si c.value) ∧ (Si c.time) ∧ (Si c.proc) ∧ (((2012 : Nat) = 2012) ∧ (ms.length = ms.length) ∧ ((2012 : Nat) ∈ ([4,5,12,999,1012,2012] : List Nat))) ∧ True) ∧ ((5 : Nat) ∈ ([4,5,12,999,1012,2012] : List Nat))) ∧ (((3 : Nat) = 3) ∧ (Sd (.ints c.up)) ∧ ((12 : Nat) ∈ ([4,5,12,999,1012,2012] : List Nat))) ∧ (((3 : Nat) = 3) ∧ (Sd (.ints c.down)) ∧ ((1012 : Nat) ∈ ([4,5,12,999,1012,2012] : List Nat))) ∧ (((33 : Nat) = 33) ∧ (Sd (.marks ms)) ∧ ((2012 : Nat) ∈ ([4,5,12,999,1012,2012] : List Nat))) ∧ True) ∧ (true = true) ∧ (true = true)) _ (by kernel_rfl) ⟨⟨rfl,⟨rfl,rfl,(by decide)⟩,⟨rfl,rfl,(by decide)⟩,rfl,tt⟩,⟨⟨rfl,⟨rfl,rfl,rfl,rfl,rfl,rfl,tt⟩,(by decide)⟩,⟨rfl,⟨⟨rfl,rfl,(by decide)⟩,⟨rfl,rfl,(by decide)⟩,rfl,rfl,rfl,⟨rfl,rfl,(by decide)⟩,tt⟩,(by decide)⟩,⟨rfl,rfl,(by decide)⟩,⟨rfl,rfl,(by decide)⟩,⟨rfl,rfl,(by decide)⟩,tt⟩,rfl,rfl⟩)
   ·intro n17
    refine W.exit (thenQ_exit (thenQ_exit (blockQ_hit ?_)))
    refine thenQ_normal ?_
    refine Kk cok tab16 hnt [] [4] (⟨[(4,.ptr 4 0)],[(4,⟨26,.fix [.own 12 (List.length c.up),.own 1012 (List.length c.down),.i c.value,.i c.time,.i c.proc,.own 2012 ms.length]⟩),(5,⟨26,.fix [.own 12 (List.length c.up),.own 1012 (List.length c.down),.i c.value,.i c.time,.i c.proc,.own 2012 ms.length]⟩),(12,⟨3,.row (.ints c.up)⟩),(1012,⟨3,.row (.ints c.down)⟩),(2012,⟨33,.row (.marks ms)⟩)],[4,5,12,999,1012,2012]⟩)
     (True ∧ (True ∧ True) ∧ True)
     ⟨tt,⟨tt,tt⟩,tt⟩ ?_
    refine W.ret ?_
    exact endQ_ret (.agg [.own 12 (List.length c.up),.own 1012 (List.length c.down),.i c.value,.i c.time,.i c.proc,.own 2012 ms.length]) (by kernel_rfl) (@cast ((((List.length c.up) = (List.length c.up)) ∧ ((.ints c.up : Dat) = .ints ((takeOut c v).up)) ∧ ((12 : Nat) ∉ ([] : List Nat))) ∧ (((List.length c.down) = (List.length c.down)) ∧ ((.ints c.down : Dat) = .ints ((takeOut c v).down)) ∧ ((1012 : Nat) ∉ ([] : List Nat))) ∧ ((.int .i64 c.value : Value) = .int .i64 ((takeOut c v).value)) ∧ ((.int .i64 c.time : Value) = .int .i64 ((takeOut c v).time)) ∧ ((.int .i64 c.proc : Value) = .int .i64 ((takeOut c v).proc)) ∧ ((ms.length = ms.length) ∧ ((.marks ms : Dat) = .marks ((takeOut c v).marks)) ∧ ((2012 : Nat) ∉ ([] : List Nat))) ∧ True) _ (by kernel_rfl) ⟨⟨rfl,(congrArg Dat.ints (by rw [takeOut_ok (not_g n9)]; first | rfl | exact gone_all hm (by omega))),(by decide)⟩,⟨rfl,(congrArg Dat.ints (by rw [takeOut_ok (not_g n9)]; first | rfl | exact gone_all hm (by omega))),(by decide)⟩,(congrArg (Value.int .i64) (by rw [takeOut_ok (not_g n9)]; first | rfl | exact gone_all hm (by omega))),(congrArg (Value.int .i64) (by rw [takeOut_ok (not_g n9)]; first | rfl | exact gone_all hm (by omega))),(congrArg (Value.int .i64) (by rw [takeOut_ok (not_g n9)]; first | rfl | exact gone_all hm (by omega))),⟨rfl,(congrArg Dat.marks (by rw [takeOut_ok (not_g n9)]; first | rfl | exact gone_all hm (by omega))),(by decide)⟩,tt⟩)
theorem ent16 : Entr prog 16 := ⟨_,func16,rfl,by decide⟩
end Go.Proofs.Try

set_option linter.unusedSimpArgs false
set_option linter.unusedVariables false
namespace Go.Proofs.Try
open Go.Ab Go.RowKit
def fs17 : FnS := fnS [.s .ints,.s .ints] [.ints,.ints] (fun _ (a,b,_) => (.b (decide (a = b)),[],True))
abbrev T17 : Tab := lk []
theorem tab17 : TabOK prog T17 := TabOK.nil
set_option maxRecDepth 100000 in
set_option maxHeartbeats 1000000 in
theorem ok17 : FnOK prog 17 fs17 := by
 refine FnOK.mk cok func17 rfl rfl rfl ?_
 rintro fl ⟨(a : List Int),(b : List Int),_⟩ hpre F hnt0 _
 have hnt : F.nt = 26 := hnt0.trans ntmps17
 clear hpre
 refine W.to (⟨[(0,.sl (.ints a)),(1,.sl (.ints b))],[],[999]⟩) rfl ?_
 refine W.lenOf 0 (.ints a) (by kernel_rfl) ?_
 intro hl_a; replace hl_a : List.length a ≤ 9223372036854775807 := hl_a
 refine W.lenOf 1 (.ints b) (by kernel_rfl) ?_
 intro hl_b; replace hl_b : List.length b ≤ 9223372036854775807 := hl_b
 refine Kk cok tab17 hnt [] [0,1] (⟨[(0,.sl (.ints a)),(1,.sl (.ints b))],[],[999]⟩)
  (True ∧ True)
  ⟨tt,tt⟩ ?_
 refine W.seq ?_
 refine Kk cok tab17 hnt [] [0,1,10] (⟨[(0,.sl (.ints a)),(1,.sl (.ints b)),(10,.b (decide ((a.length : Int) ≠ (b.length : Int))))],[],[999]⟩)
  (True ∧ True ∧ True ∧ True ∧ (True ∧ True ∧ True) ∧ True)
  ⟨tt,tt,tt,tt,⟨tt,tt,tt⟩,tt⟩ ?_
 refine W.ifP ((a.length : Int) ≠ (b.length : Int)) (.b (decide ((a.length : Int) ≠ (b.length : Int)))) (by kernel_rfl) rfl trivial ?_ ?_
 ·intro h10
  refine Kk cok tab17 hnt [] [4] (⟨[(4,.b false)],[],[999]⟩)
   (True ∧ True)
   ⟨tt,tt⟩ ?_
  refine W.ret (thenQ_ret ?_)
  exact endQ_ret (.b false) (by kernel_rfl) (@cast ((.bool false : Value) = .bool (decide (a = b))) _ (by kernel_rfl) (congrArg Value.bool (by symm; exact decide_eq_false (fun e => h10 (by rw [e])))))
 ·intro n10
  refine W.skip (thenQ_normal ?_)
  refine W.seq ?_
  refine Kk cok tab17 hnt [] [0,1,5] (⟨[(0,.sl (.ints a)),(1,.sl (.ints b)),(5,.i (0 : Int))],[],[999]⟩)
   (True ∧ True)
   ⟨tt,tt⟩ ?_
  refine W.block ?_
  refine W.loop (ι := Nat) (fun (i : Nat) => (⟨[(0,.sl (.ints a)),(1,.sl (.ints b)),(5,.i ((i : Nat) : Int))],[],[999]⟩ : St))
   (fun (i : Nat) => (i ≤ a.length) ∧ (∀ j,j < i → a.getD j 0 = b.getD j 0))
   (fun (i : Nat) => (a.length - i : Nat)) (0) ?_ ?_ ?_
  ·exact (show (0 ≤ a.length) ∧ (∀ j,j < 0 → a.getD j 0 = b.getD j 0) from ⟨(by first | assumption | omega | rfl | (intro _ hjj; omega) | (simp; done) | (simp; omega)),(by exact upto_zero)⟩)
  ·exact Sub.of [] (@cast (((Sd (.ints a)) ∧ (Sd (.ints b)) ∧ ((.int .i64 (0 : Int) : Value) = .int .i64 ((0 : Nat) : Int)) ∧ True) ∧ True ∧ (true = true) ∧ (true = true)) _ (by kernel_rfl) ⟨⟨rfl,rfl,(congrArg (Value.int .i64) (by first | rfl | omega | assumption | simp | simp_all)),tt⟩,tt,rfl,rfl⟩)
  ·rintro i hC0
   have hC : (i ≤ a.length) ∧ (∀ j,j < i → a.getD j 0 = b.getD j 0) := hC0
   clear hC0
   obtain ⟨hi,hA⟩ := hC
   refine W.to (⟨[(0,.sl (.ints a)),(1,.sl (.ints b)),(5,.i ((i : Nat) : Int))],[],[999]⟩) rfl ?_
   refine W.seq ?_
   refine Kk cok tab17 hnt [] [0,1,5,14] (⟨[(0,.sl (.ints a)),(1,.sl (.ints b)),(5,.i ((i : Nat) : Int)),(14,.b (decide (((i : Nat) : Int) < (a.length : Int))))],[],[999]⟩)
    (True ∧ True ∧ True ∧ (True ∧ True ∧ True) ∧ True)
    ⟨tt,tt,tt,⟨tt,tt,tt⟩,tt⟩ ?_
   refine W.ifP (((i : Nat) : Int) < (a.length : Int)) (.b (decide (((i : Nat) : Int) < (a.length : Int)))) (by kernel_rfl) rfl trivial ?_ ?_
   ·intro h14
    refine W.skip (thenQ_normal ?_)
    refine W.seq ?_
    refine W.block ?_
    refine W.KA cok tab17 hnt [] [0,1,5,25] (⟨[(0,.sl (.ints a)),(1,.sl (.ints b)),(5,.i ((i : Nat) : Int)),(25,.b (decide ((a.getD i 0) ≠ (b.getD i 0))))],[],[999]⟩)
     (True ∧ True ∧ (True ∧ True ∧ (0 ≤ ((i : Nat) : Int)) ∧ (((i : Nat) : Int) < (a.length : Int))) ∧ True ∧ True ∧ True ∧ (True ∧ True ∧ (0 ≤ ((i : Nat) : Int)) ∧ (((i : Nat) : Int) < (b.length : Int))) ∧ True ∧ (True ∧ True ∧ True) ∧ True) (by kernel_rfl) (by kernel_rfl)
     ⟨tt,tt,⟨tt,tt,(by omega),(by omega)⟩,tt,tt,tt,⟨tt,tt,(by omega),(by omega)⟩,tt,⟨tt,tt,tt⟩,tt⟩ ?_
    refine W.ifP ((a.getD i 0) ≠ (b.getD i 0)) (.b (decide ((a.getD i 0) ≠ (b.getD i 0)))) (by kernel_rfl) rfl trivial ?_ ?_
    ·intro h25
     refine Kk cok tab17 hnt [] [4] (⟨[(4,.b false)],[],[999]⟩)
      (True ∧ True)
      ⟨tt,tt⟩ ?_
     refine W.ret (blockQ_ret (thenQ_ret (thenQ_ret (blockQ_ret (thenQ_ret ?_)))))
     exact endQ_ret (.b false) (by kernel_rfl) (@cast ((.bool false : Value) = .bool (decide (a = b))) _ (by kernel_rfl) (congrArg Value.bool (by symm; exact decide_eq_false (fun e => h25 (by rw [e])))))
    ·intro n25
     refine W.skip (blockQ_normal (thenQ_normal ?_))
     refine Lk cok tab17 hnt [] (⟨[(0,.sl (.ints a)),(1,.sl (.ints b)),(5,.i (((i + 1) : Nat) : Int)),(15,.i ((i : Nat) : Int)),(16,.i (((i + 1) : Nat) : Int)),(25,.b (decide ((a.getD i 0) ≠ (b.getD i 0))))],[],[999]⟩)
      (True ∧ (True ∧ True ∧ (Fits .i64 (((i + 1) : Nat) : Int))) ∧ True ∧ True)
      ⟨tt,⟨tt,tt,(by exact fits_i64 (by omega) (by omega))⟩,tt,tt⟩ ?_
     refine thenQ_normal ?_
     refine ⟨((i + 1)),(show ((i + 1) ≤ a.length) ∧ (∀ j,j < (i + 1) → a.getD j 0 = b.getD j 0) from ⟨(by first | assumption | omega | rfl | (intro _ hjj; omega) | (simp; done) | (simp; omega)),(by exact upto_succ hA (Decidable.not_not.1 n25))⟩),(show a.length - (i + 1) < a.length - i from (by first | omega | (simp_all; omega))),?_⟩
     exact Sub.of [] (@cast (((Sd (.ints a)) ∧ (Sd (.ints b)) ∧ (Si (((i + 1) : Nat) : Int)) ∧ True) ∧ True ∧ (true = true) ∧ (true = true)) _ (by kernel_rfl) ⟨⟨rfl,rfl,rfl,tt⟩,tt,rfl,rfl⟩)
   ·intro n14
    refine W.exit (thenQ_exit (thenQ_exit (blockQ_hit ?_)))
    refine thenQ_normal ?_
    refine Kk cok tab17 hnt [] [4] (⟨[(4,.b true)],[],[999]⟩)
     (True ∧ True)
     ⟨tt,tt⟩ ?_
    refine W.ret ?_
    exact endQ_ret (.b true) (by kernel_rfl) (@cast ((.bool true : Value) = .bool (decide (a = b))) _ (by kernel_rfl) (congrArg Value.bool (by symm; exact decide_eq_true (ints_ext (by omega) (fun j hj => hA j (by omega))))))
theorem ent17 : Entr prog 17 := ⟨_,func17,rfl,by decide⟩
end Go.Proofs.Try
