import Derived.Test.YtpgppbgbmhlacaaOF7S0
import Derived.Test.YtpgppbgbmhlacaaOF7S1
import Derived.Test.YtpgppbgbmhlacaaOF7S5
set_option linter.unusedSimpArgs false
set_option linter.unusedVariables false
namespace Go.Proofs.Try
open Go.Ab Go.RowKit
def fs26 : FnS := fnS [.a [some .ints,some .ints,none,none,none,some .marks],.a [some .ints,some .ints,none,none,none,some .marks]] [.copy,.copy] (fun _ (a,b,_) => (.b (withinC a b),[],True))
abbrev T26 : Tab := lk [(52,fs52),(55,fs55)]
theorem tab26 : TabOK prog T26 := (TabOK.cons ok52 ent52 (TabOK.cons ok55 ent55 TabOK.nil))
set_option maxRecDepth 100000 in
set_option maxHeartbeats 1000000 in
theorem ok26 : FnOK prog 26 fs26 := by
 refine FnOK.mk cok func26 rfl rfl rfl ?_
 rintro fl ⟨(a : CopyD),(b : CopyD),_⟩ hpre F hnt0 _
 have hnt : F.nt = 19 := hnt0.trans ntmps26
 clear hpre
 refine W.to (⟨[(0,.agg (cC a)),(1,.agg (cC b))],[],[999]⟩) rfl ?_
 refine W.lenA 0 0 (cC a) (.ints a.up) (by kernel_rfl) (by kernel_rfl) ?_
 intro hl_a_up; replace hl_a_up : List.length a.up ≤ 9223372036854775807 := hl_a_up
 refine W.lenA 0 1 (cC a) (.ints a.down) (by kernel_rfl) (by kernel_rfl) ?_
 intro hl_a_down; replace hl_a_down : List.length a.down ≤ 9223372036854775807 := hl_a_down
 refine W.lenA 0 5 (cC a) (.marks a.marks) (by kernel_rfl) (by kernel_rfl) ?_
 intro hl_a_marks; replace hl_a_marks : List.length a.marks ≤ 9223372036854775807 := hl_a_marks
 refine W.lenA 1 0 (cC b) (.ints b.up) (by kernel_rfl) (by kernel_rfl) ?_
 intro hl_b_up; replace hl_b_up : List.length b.up ≤ 9223372036854775807 := hl_b_up
 refine W.lenA 1 1 (cC b) (.ints b.down) (by kernel_rfl) (by kernel_rfl) ?_
 intro hl_b_down; replace hl_b_down : List.length b.down ≤ 9223372036854775807 := hl_b_down
 refine W.lenA 1 5 (cC b) (.marks b.marks) (by kernel_rfl) (by kernel_rfl) ?_
 intro hl_b_marks; replace hl_b_marks : List.length b.marks ≤ 9223372036854775807 := hl_b_marks
 refine Kk cok tab26 hnt [] [2,3] (⟨[(2,.ptr 2 0),(3,.ptr 3 0)],[(2,⟨26,.fix (cC a)⟩),(3,⟨26,.fix (cC b)⟩)],[3,2,999]⟩)
  (True ∧ True ∧ True ∧ True)
  ⟨tt,tt,tt,tt⟩ ?_
 refine Kk cok tab26 hnt [] [3,5,6] (⟨[(3,.ptr 3 0),(5,.ptr 5 0),(6,.b ((mergeC a b).2))],[(2,⟨26,.fix (cC a)⟩),(3,⟨26,.fix (cC b)⟩),(5,⟨26,.fix (cC ((mergeC a b).1))⟩)],[5,3,2,999]⟩)
  (True ∧ True ∧ (True ∧ ((True ∧ True ∧ True ∧ True ∧ True ∧ True ∧ True ∧ True) ∧ (True ∧ True ∧ True ∧ True ∧ True ∧ True ∧ True ∧ True) ∧ True) ∧ True) ∧ True ∧ True ∧ True ∧ True ∧ (True ∧ True) ∧ True ∧ True)
  ⟨tt,tt,⟨tt,⟨⟨tt,tt,tt,tt,tt,tt,tt,tt⟩,⟨tt,tt,tt,tt,tt,tt,tt,tt⟩,tt⟩,tt⟩,tt,tt,tt,tt,⟨tt,tt⟩,tt,tt⟩ ?_
 refine Kk cok tab26 hnt [] [4] (⟨[(4,.b (((mergeC a b).2) && (sameC (mergeC a b).1 b)))],[(2,⟨26,.fix (cC a)⟩),(3,⟨26,.fix (cC b)⟩),(5,⟨26,.fix (cC ((mergeC a b).1))⟩)],[5,3,2,999]⟩)
  ((fun (Z1:Bool)=>(True ∧ (True ∧ ((Z1 = true → True) ∧ ((Z1 = true → True) ∧ ((Z1 = true → (True ∧ (((((Z1 = true) ∧ True) ∧ (True ∧ (True ∧ (True ∧ (True ∧ (True ∧ (True ∧ True))))))) ∧ ((((Z1 = true) ∧ True) ∧ (True ∧ (True ∧ (True ∧ (True ∧ (True ∧ (True ∧ True))))))) ∧ True)) ∧ (((mergeC a b).1.up.length = 3 ∧ (mergeC a b).1.down.length = 3) ∧ (b.up.length = 3 ∧ b.down.length = 3))))) ∧ ((True ∧ ((Z1 = true → (Z1 = true) ∧ True) ∧ (Z1 = false → True))) ∧ (True ∧ True)))))))) ((mergeC a b).2))
  ⟨tt,tt,(fun _ => trivial),(fun _ => trivial),(fun hG => ⟨tt,⟨⟨⟨hG,tt⟩,tt,tt,tt,tt,tt,tt,tt⟩,⟨⟨hG,tt⟩,tt,tt,tt,tt,tt,tt,tt⟩,tt⟩,(by have h8 := merge_valid (a := a) (b := b) hG; have h9 := merge_okb hG; have h1 := up_len h8; have h2 := up_len h9; exact ⟨⟨h1.1,h1.2.1⟩,h2.1,h2.2.1⟩)⟩),⟨tt,(fun hp => ⟨hp,tt⟩),(fun _ => trivial)⟩,tt,tt⟩ ?_
 refine W.ret ?_
 exact endQ_ret (.b (((mergeC a b).2) && (sameC (mergeC a b).1 b))) (by kernel_rfl) (@cast ((.bool (((mergeC a b).2) && (sameC (mergeC a b).1 b)) : Value) = .bool (withinC a b)) _ (by kernel_rfl) (congrArg Value.bool (by rfl)))
theorem ent26 : Entr prog 26 := ⟨_,func26,rfl,by decide⟩
end Go.Proofs.Try

set_option linter.unusedSimpArgs false
set_option linter.unusedVariables false
namespace Go.Proofs.Try
open Go.Ab Go.RowKit
def fs28 : FnS := fnS [.a [some .ints,some .ints,none,none,none,some .marks],.o] [.copy,.int] (fun _ (c,v,_) => (.agg [.own 0 (List.length ((takeOut c v).up)),.own 1 (List.length ((takeOut c v).down)),.i ((takeOut c v).value),.i ((takeOut c v).time),.i ((takeOut c v).proc),.own 2 (List.length ((takeOut c v).marks))],[(3,.ints ((takeOut c v).up)),(3,.ints ((takeOut c v).down)),(52,.marks ((takeOut c v).marks))],True))
abbrev T28 : Tab := lk [(12,fs12),(43,fs43)]
theorem tab28 : TabOK prog T28 := (TabOK.cons ok12 ent12 (TabOK.cons ok43 ent43 TabOK.nil))
set_option maxRecDepth 100000 in
set_option maxHeartbeats 1000000 in
theorem ok28 : FnOK prog 28 fs28 := by
 refine FnOK.mk cok func28 rfl rfl rfl ?_
 rintro fl ⟨(c : CopyD),(v : Int),_⟩ hpre F hnt0 _
 have hnt : F.nt = 33 := hnt0.trans ntmps28
 clear hpre
 refine W.to (⟨[(0,.agg (cC c)),(1,.i v)],[],[999]⟩) rfl ?_
 refine W.lenA 0 0 (cC c) (.ints c.up) (by kernel_rfl) (by kernel_rfl) ?_
 intro hl_c_up; replace hl_c_up : List.length c.up ≤ 9223372036854775807 := hl_c_up
 refine W.lenA 0 1 (cC c) (.ints c.down) (by kernel_rfl) (by kernel_rfl) ?_
 intro hl_c_down; replace hl_c_down : List.length c.down ≤ 9223372036854775807 := hl_c_down
 refine W.lenA 0 5 (cC c) (.marks c.marks) (by kernel_rfl) (by kernel_rfl) ?_
 intro hl_c_marks; replace hl_c_marks : List.length c.marks ≤ 9223372036854775807 := hl_c_marks
 refine Kk cok tab28 hnt [] [1,2,4] (⟨[(1,.i v),(2,.ptr 2 0),(4,.ptr 4 0)],[(2,⟨26,.fix (cC c)⟩),(4,⟨26,.fix [.v (.slice none 0 0),.v (.slice none 0 0),.i (0 : Int),.i (0 : Int),.i (0 : Int),.v (.slice none 0 0)]⟩)],[4,2,999]⟩)
  (True ∧ True ∧ True)
  ⟨tt,tt,tt⟩ ?_
 refine W.seq ?_
 refine Kk cok tab28 hnt [] [1,2,4,10] (⟨[(1,.i v),(2,.ptr 2 0),(4,.ptr 4 0),(10,.b (!(validCopy c)))],[(2,⟨26,.fix (cC c)⟩),(4,⟨26,.fix [.v (.slice none 0 0),.v (.slice none 0 0),.i (0 : Int),.i (0 : Int),.i (0 : Int),.v (.slice none 0 0)]⟩)],[4,2,999]⟩)
  (True ∧ (True ∧ ((True ∧ True ∧ True ∧ True ∧ True ∧ True ∧ True ∧ True) ∧ True) ∧ True) ∧ True ∧ True)
  ⟨tt,⟨tt,⟨⟨tt,tt,tt,tt,tt,tt,tt,tt⟩,tt⟩,tt⟩,tt,tt⟩ ?_
 refine W.if' (!(validCopy c)) (.b (!(validCopy c))) (by kernel_rfl) rfl trivial ?_ ?_
 ·intro h10
  refine Kk cok tab28 hnt [] [4] (⟨[(4,.ptr 4 0)],[(2,⟨26,.fix (cC c)⟩),(4,⟨26,.fix [.v (.slice none 0 0),.v (.slice none 0 0),.i (0 : Int),.i (0 : Int),.i (0 : Int),.v (.slice none 0 0)]⟩)],[4,2,999]⟩)
   (True ∧ (True ∧ True) ∧ True)
   ⟨tt,⟨tt,tt⟩,tt⟩ ?_
  refine W.nilCell 4 821 0 26 3 (.ints ([] : List Int)) [.v (.slice none 0 0),.v (.slice none 0 0),.i (0 : Int),.i (0 : Int),.i (0 : Int),.v (.slice none 0 0)] (⟨[(4,.ptr 4 0)],[(2,⟨26,.fix (cC c)⟩),(4,⟨26,.fix [.own 821 0,.v (.slice none 0 0),.i (0 : Int),.i (0 : Int),.i (0 : Int),.v (.slice none 0 0)]⟩),(821,⟨3,.row (.ints ([] : List Int))⟩)],[821,4,2,999]⟩) (by kernel_rfl) rfl rfl (by kernel_rfl) (by kernel_rfl) ?_
  refine W.nilCell 4 822 1 26 3 (.ints ([] : List Int)) [.own 821 0,.v (.slice none 0 0),.i (0 : Int),.i (0 : Int),.i (0 : Int),.v (.slice none 0 0)] (⟨[(4,.ptr 4 0)],[(2,⟨26,.fix (cC c)⟩),(4,⟨26,.fix [.own 821 0,.own 822 0,.i (0 : Int),.i (0 : Int),.i (0 : Int),.v (.slice none 0 0)]⟩),(821,⟨3,.row (.ints ([] : List Int))⟩),(822,⟨3,.row (.ints ([] : List Int))⟩)],[822,821,4,2,999]⟩) (by kernel_rfl) rfl rfl (by kernel_rfl) (by kernel_rfl) ?_
  refine W.nilCell 4 826 5 26 52 (.marks ([] : List MarkD)) [.own 821 0,.own 822 0,.i (0 : Int),.i (0 : Int),.i (0 : Int),.v (.slice none 0 0)] (⟨[(4,.ptr 4 0)],[(2,⟨26,.fix (cC c)⟩),(4,⟨26,.fix [.own 821 0,.own 822 0,.i (0 : Int),.i (0 : Int),.i (0 : Int),.own 826 0]⟩),(821,⟨3,.row (.ints ([] : List Int))⟩),(822,⟨3,.row (.ints ([] : List Int))⟩),(826,⟨52,.row (.marks ([] : List MarkD))⟩)],[826,822,821,4,2,999]⟩) (by kernel_rfl) rfl rfl (by kernel_rfl) (by kernel_rfl) ?_
  refine W.ret (thenQ_ret ?_)
  exact endQ_rows [(0,821),(1,822),(2,826)] (.agg [.own 821 0,.own 822 0,.i (0 : Int),.i (0 : Int),.i (0 : Int),.own 826 0]) (by kernel_rfl) (@cast ((((821 : Nat) = 821) ∧ (0 = (List.length ((takeOut c v).up))) ∧ ((0 : Nat) ∈ ([0,1,2] : List Nat))) ∧ (((822 : Nat) = 822) ∧ (0 = (List.length ((takeOut c v).down))) ∧ ((1 : Nat) ∈ ([0,1,2] : List Nat))) ∧ ((.int .i64 (0 : Int) : Value) = .int .i64 ((takeOut c v).value)) ∧ ((.int .i64 (0 : Int) : Value) = .int .i64 ((takeOut c v).time)) ∧ ((.int .i64 (0 : Int) : Value) = .int .i64 ((takeOut c v).proc)) ∧ (((826 : Nat) = 826) ∧ (0 = (List.length ((takeOut c v).marks))) ∧ ((2 : Nat) ∈ ([0,1,2] : List Nat))) ∧ True) _ (by kernel_rfl) ⟨⟨rfl,(by first | rfl | omega | assumption | (symm; assumption) | (exact congrArg List.length (by rw [takeOut_no (not_f h10)] <;> rfl)) | (rw [takeOut_no (not_f h10)] <;> rfl; done) | simp | simp_all),(by decide)⟩,⟨rfl,(by first | rfl | omega | assumption | (symm; assumption) | (exact congrArg List.length (by rw [takeOut_no (not_f h10)] <;> rfl)) | (rw [takeOut_no (not_f h10)] <;> rfl; done) | simp | simp_all),(by decide)⟩,(congrArg (Value.int .i64) (by first | rfl | omega | assumption | (rw [takeOut_no (not_f h10)] <;> rfl; done) | simp | simp_all)),(congrArg (Value.int .i64) (by first | rfl | omega | assumption | (rw [takeOut_no (not_f h10)] <;> rfl; done) | simp | simp_all)),(congrArg (Value.int .i64) (by first | rfl | omega | assumption | (rw [takeOut_no (not_f h10)] <;> rfl; done) | simp | simp_all)),⟨rfl,(by first | rfl | omega | assumption | (symm; assumption) | (exact congrArg List.length (by rw [takeOut_no (not_f h10)] <;> rfl)) | (rw [takeOut_no (not_f h10)] <;> rfl; done) | simp | simp_all),(by decide)⟩,tt⟩) (@cast ((((3 : Nat) = 3) ∧ ((.ints ([] : List Int) : Dat) = .ints ((takeOut c v).up)) ∧ ((0 : Nat) ∈ ([0,1,2] : List Nat))) ∧ (((3 : Nat) = 3) ∧ ((.ints ([] : List Int) : Dat) = .ints ((takeOut c v).down)) ∧ ((1 : Nat) ∈ ([0,1,2] : List Nat))) ∧ (((52 : Nat) = 52) ∧ ((.marks ([] : List MarkD) : Dat) = .marks ((takeOut c v).marks)) ∧ ((2 : Nat) ∈ ([0,1,2] : List Nat))) ∧ True) _ (by kernel_rfl) ⟨⟨rfl,(congrArg Dat.ints (by rw [takeOut_no (not_f h10)] <;> rfl)),(by decide)⟩,⟨rfl,(congrArg Dat.ints (by rw [takeOut_no (not_f h10)] <;> rfl)),(by decide)⟩,⟨rfl,(congrArg Dat.marks (by rw [takeOut_no (not_f h10)] <;> rfl)),(by decide)⟩,tt⟩) (by kernel_rfl)
 ·intro n10
  have hf := up_len (not_g n10)
  refine W.skip (thenQ_normal ?_)
  refine Kk cok tab28 hnt [] [1,4,5] (⟨[(1,.i v),(4,.ptr 4 0),(5,.ptr 5 0)],[(2,⟨26,.fix (cC c)⟩),(4,⟨26,.fix [.v (.slice none 0 0),.v (.slice none 0 0),.i (0 : Int),.i (0 : Int),.i (0 : Int),.v (.slice none 0 0)]⟩),(5,⟨26,.fix [.own 13 (List.length c.up),.own 1013 (List.length c.down),.i c.value,.i c.time,.i c.proc,.own 2013 (List.length c.marks)]⟩),(13,⟨3,.row (.ints c.up)⟩),(1013,⟨3,.row (.ints c.down)⟩),(2013,⟨52,.row (.marks c.marks)⟩)],[5,2013,1013,13,4,2,999]⟩)
   (True ∧ (True ∧ ((True ∧ True ∧ True ∧ True ∧ True ∧ True ∧ True ∧ True) ∧ True) ∧ c.up.length ≤ 1000 ∧ c.down.length ≤ 1000 ∧ c.marks.length ≤ 1000) ∧ True ∧ (True ∧ True) ∧ True)
   ⟨tt,⟨tt,⟨⟨tt,tt,tt,tt,tt,tt,tt,tt⟩,tt⟩,(by omega)⟩,tt,⟨tt,tt⟩,tt⟩ ?_
  refine W.seq ?_
  refine Kk cok tab28 hnt [] [1,4,5,15,16,17] (⟨[(1,.i v),(4,.ptr 4 0),(5,.ptr 5 0),(15,.own 2013 (List.length c.marks)),(16,.i (((List.length c.marks) : Nat) : Int)),(17,.i (0 : Int))],[(2,⟨26,.fix (cC c)⟩),(4,⟨26,.fix [.v (.slice none 0 0),.v (.slice none 0 0),.i (0 : Int),.i (0 : Int),.i (0 : Int),.v (.slice none 0 0)]⟩),(5,⟨26,.fix [.own 13 (List.length c.up),.own 1013 (List.length c.down),.i c.value,.i c.time,.i c.proc,.own 2013 (List.length c.marks)]⟩),(13,⟨3,.row (.ints c.up)⟩),(1013,⟨3,.row (.ints c.down)⟩),(2013,⟨52,.row (.marks c.marks)⟩)],[5,2013,1013,13,4,2,999]⟩)
   (True ∧ True ∧ True ∧ True ∧ True)
   ⟨tt,tt,tt,tt,tt⟩ ?_
  refine W.block ?_
  refine W.loop (ι := Nat × (List MarkD)) (fun (x : Nat × (List MarkD)) => match x with | (i,ms) => (⟨[(1,.i v),(4,.ptr 4 0),(5,.ptr 5 0),(15,.own 2013 (List.length c.marks)),(16,.i (((List.length c.marks) : Nat) : Int)),(17,.i ((i : Nat) : Int))],[(4,⟨26,.fix [.v (.slice none 0 0),.v (.slice none 0 0),.i (0 : Int),.i (0 : Int),.i (0 : Int),.v (.slice none 0 0)]⟩),(5,⟨26,.fix [.own 13 (List.length c.up),.own 1013 (List.length c.down),.i c.value,.i c.time,.i c.proc,.own 2013 ms.length]⟩),(13,⟨3,.row (.ints c.up)⟩),(1013,⟨3,.row (.ints c.down)⟩),(2013,⟨52,.row (.marks ms)⟩)],[4,5,13,999,1013,2013]⟩ : St))
   (fun (x : Nat × (List MarkD)) => match x with | (i,ms) => (i ≤ c.marks.length) ∧ (ms = goneUp v c.marks i))
   (fun (x : Nat × (List MarkD)) => match x with | (i,ms) => (c.marks.length - i : Nat)) (0,c.marks) ?_ ?_ ?_
  ·exact (show (0 ≤ c.marks.length) ∧ (c.marks = goneUp v c.marks 0) from ⟨(by first | assumption | omega | rfl | (intro _ hjj; omega) | (simp; done) | (simp; omega)),(by simp [goneUp])⟩)
  ·exact Sub.of [] (@cast (((Si v) ∧ (((4 : Nat) = 4) ∧ ((0 : Nat) = 0) ∧ ((4 : Nat) ∈ ([4,5,13,999,1013,2013] : List Nat))) ∧ (((5 : Nat) = 5) ∧ ((0 : Nat) = 0) ∧ ((5 : Nat) ∈ ([4,5,13,999,1013,2013] : List Nat))) ∧ (((2013 : Nat) = 2013) ∧ ((List.length c.marks) = (List.length c.marks)) ∧ ((2013 : Nat) ∈ ([4,5,13,999,1013,2013] : List Nat))) ∧ (Si (((List.length c.marks) : Nat) : Int)) ∧ ((.int .i64 (0 : Int) : Value) = .int .i64 ((0 : Nat) : Int)) ∧ True) ∧ ((((26 : Nat) = 26) ∧ ((((.slice none 0 0) : Value) = (.slice none 0 0)) ∧ (((.slice none 0 0) : Value) = (.slice none 0 0)) ∧ (Si (0 : Int)) ∧ (Si (0 : Int)) ∧ (Si (0 : Int)) ∧ (((.slice none 0 0) : Value) = (.slice none 0 0)) ∧ True) ∧ ((4 : Nat) ∈ ([4,5,13,999,1013,2013] : List Nat))) ∧ (((26 : Nat) = 26) ∧ ((((13 : Nat) = 13) ∧ ((List.length c.up) = (List.length c.up)) ∧ ((13 : Nat) ∈ ([4,5,13,999,1013,2013] : List Nat))) ∧ (((1013 : Nat) = 1013) ∧ ((List.length c.down) = (List.length c.down)) ∧ ((1013 : Nat) ∈ ([4,5,13,999,1013,2013] : List Nat))) ∧ (Si c.value) ∧ (Si c.time) ∧ (Si c.proc) ∧ (((2013 : Nat) = 2013) ∧ ((List.length c.marks) = (List.length c.marks)) ∧ ((2013 : Nat) ∈ ([4,5,13,999,1013,2013] : List Nat))) ∧ True) ∧ ((5 : Nat) ∈ ([4,5,13,999,1013,2013] : List Nat))) ∧ (((3 : Nat) = 3) ∧ (Sd (.ints c.up)) ∧ ((13 : Nat) ∈ ([4,5,13,999,1013,2013] : List Nat))) ∧ (((3 : Nat) = 3) ∧ (Sd (.ints c.down)) ∧ ((1013 : Nat) ∈ ([4,5,13,999,1013,2013] : List Nat))) ∧ (((52 : Nat) = 52) ∧ (Sd (.marks c.marks)) ∧ ((2013 : Nat) ∈ ([4,5,13,999,1013,2013] : List Nat))) ∧ True) ∧ (true = true) ∧ (true = true)) _ (by kernel_rfl) ⟨⟨rfl,⟨rfl,rfl,(by decide)⟩,⟨rfl,rfl,(by decide)⟩,⟨rfl,rfl,(by decide)⟩,rfl,(congrArg (Value.int .i64) (by first | rfl | omega | assumption | simp | simp_all)),tt⟩,⟨⟨rfl,⟨rfl,rfl,rfl,rfl,rfl,rfl,tt⟩,(by decide)⟩,⟨rfl,⟨⟨rfl,rfl,(by decide)⟩,⟨rfl,rfl,(by decide)⟩,rfl,rfl,rfl,⟨rfl,rfl,(by decide)⟩,tt⟩,(by decide)⟩,⟨rfl,rfl,(by decide)⟩,⟨rfl,rfl,(by decide)⟩,⟨rfl,rfl,(by decide)⟩,tt⟩,rfl,rfl⟩)
  ·rintro ⟨i,ms⟩ hC0
   have hC : (i ≤ c.marks.length) ∧ (ms = goneUp v c.marks i) := hC0
   clear hC0
   obtain ⟨hi,hm⟩ := hC
   refine W.to (⟨[(1,.i v),(4,.ptr 4 0),(5,.ptr 5 0),(15,.own 2013 (List.length c.marks)),(16,.i (((List.length c.marks) : Nat) : Int)),(17,.i ((i : Nat) : Int))],[(4,⟨26,.fix [.v (.slice none 0 0),.v (.slice none 0 0),.i (0 : Int),.i (0 : Int),.i (0 : Int),.v (.slice none 0 0)]⟩),(5,⟨26,.fix [.own 13 (List.length c.up),.own 1013 (List.length c.down),.i c.value,.i c.time,.i c.proc,.own 2013 ms.length]⟩),(13,⟨3,.row (.ints c.up)⟩),(1013,⟨3,.row (.ints c.down)⟩),(2013,⟨52,.row (.marks ms)⟩)],[4,5,13,999,1013,2013]⟩) rfl ?_
   have hml : ms.length = c.marks.length := by rw [hm]; exact goneUp_len _ _ _
   refine Kk cok tab28 hnt [] [1,4,5,15,16,17,18] (⟨[(1,.i v),(4,.ptr 4 0),(5,.ptr 5 0),(15,.own 2013 (List.length c.marks)),(16,.i (((List.length c.marks) : Nat) : Int)),(17,.i ((i : Nat) : Int)),(18,.b (decide (((i : Nat) : Int) < (((List.length c.marks) : Nat) : Int))))],[(4,⟨26,.fix [.v (.slice none 0 0),.v (.slice none 0 0),.i (0 : Int),.i (0 : Int),.i (0 : Int),.v (.slice none 0 0)]⟩),(5,⟨26,.fix [.own 13 (List.length c.up),.own 1013 (List.length c.down),.i c.value,.i c.time,.i c.proc,.own 2013 ms.length]⟩),(13,⟨3,.row (.ints c.up)⟩),(1013,⟨3,.row (.ints c.down)⟩),(2013,⟨52,.row (.marks ms)⟩)],[4,5,13,999,1013,2013]⟩)
    ((True ∧ True ∧ True) ∧ True)
    ⟨⟨tt,tt,tt⟩,tt⟩ ?_
   refine W.seq ?_
   refine W.ifP (((i : Nat) : Int) < (((List.length c.marks) : Nat) : Int)) (.b (decide (((i : Nat) : Int) < (((List.length c.marks) : Nat) : Int)))) (by kernel_rfl) rfl trivial ?_ ?_
   ·intro h18
    refine W.skip (thenQ_normal ?_)
    refine W.seq ?_
    refine W.block ?_
    refine Kk cok tab28 hnt [] [1,4,5,6,7,15,16,17] (⟨[(1,.i v),(4,.ptr 4 0),(5,.ptr 5 0),(6,.i ((i : Nat) : Int)),(7,.ptr 7 0),(15,.own 2013 (List.length c.marks)),(16,.i (((List.length c.marks) : Nat) : Int)),(17,.i ((i : Nat) : Int))],[(4,⟨26,.fix [.v (.slice none 0 0),.v (.slice none 0 0),.i (0 : Int),.i (0 : Int),.i (0 : Int),.v (.slice none 0 0)]⟩),(5,⟨26,.fix [.own 13 (List.length c.up),.own 1013 (List.length c.down),.i c.value,.i c.time,.i c.proc,.own 2013 ms.length]⟩),(7,⟨52,.fix [.i ((ms.getD i default).value),.i ((ms.getD i default).proc),.i ((ms.getD i default).number),.b ((ms.getD i default).gone)]⟩),(13,⟨3,.row (.ints c.up)⟩),(1013,⟨3,.row (.ints c.down)⟩),(2013,⟨52,.row (.marks ms)⟩)],[7,4,5,13,999,1013,2013]⟩)
     (True ∧ (True ∧ True ∧ (0 ≤ ((i : Nat) : Int)) ∧ (((i : Nat) : Int) < (((List.length c.marks) : Nat) : Int))) ∧ (True ∧ (i < ms.length)) ∧ True ∧ True ∧ (True ∧ True) ∧ True)
     ⟨tt,⟨tt,tt,(by omega),(by omega)⟩,⟨tt,(by omega)⟩,tt,tt,⟨tt,tt⟩,tt⟩ ?_
    refine Kk cok tab28 hnt [] [1,4,5,6,15,16,17,25] (⟨[(1,.i v),(4,.ptr 4 0),(5,.ptr 5 0),(6,.i ((i : Nat) : Int)),(15,.own 2013 (List.length c.marks)),(16,.i (((List.length c.marks) : Nat) : Int)),(17,.i ((i : Nat) : Int)),(25,.b (decide (((ms.getD i default).value) = v)))],[(4,⟨26,.fix [.v (.slice none 0 0),.v (.slice none 0 0),.i (0 : Int),.i (0 : Int),.i (0 : Int),.v (.slice none 0 0)]⟩),(5,⟨26,.fix [.own 13 (List.length c.up),.own 1013 (List.length c.down),.i c.value,.i c.time,.i c.proc,.own 2013 ms.length]⟩),(7,⟨52,.fix [.i ((ms.getD i default).value),.i ((ms.getD i default).proc),.i ((ms.getD i default).number),.b ((ms.getD i default).gone)]⟩),(13,⟨3,.row (.ints c.up)⟩),(1013,⟨3,.row (.ints c.down)⟩),(2013,⟨52,.row (.marks ms)⟩)],[7,4,5,13,999,1013,2013]⟩)
     (True ∧ True ∧ True ∧ (True ∧ True ∧ True) ∧ True)
     ⟨tt,tt,tt,⟨tt,tt,tt⟩,tt⟩ ?_
    refine W.ifP (((ms.getD i default).value) = v) (.b (decide (((ms.getD i default).value) = v))) (by kernel_rfl) rfl trivial ?_ ?_
    ·intro h25
     refine Lk cok tab28 hnt [] (⟨[(1,.i v),(4,.ptr 4 0),(5,.ptr 5 0),(6,.i ((i : Nat) : Int)),(15,.own 2013 (List.length c.marks)),(16,.i (((List.length c.marks) : Nat) : Int)),(17,.i ((i : Nat) : Int)),(25,.b (decide (((ms.getD i default).value) = v))),(26,.ptr 5 5),(27,.own 2013 ms.length),(28,.i ((i : Nat) : Int)),(29,.pel 2013 4 i 0),(30,.pel 2013 4 i 3)],[(4,⟨26,.fix [.v (.slice none 0 0),.v (.slice none 0 0),.i (0 : Int),.i (0 : Int),.i (0 : Int),.v (.slice none 0 0)]⟩),(5,⟨26,.fix [.own 13 (List.length c.up),.own 1013 (List.length c.down),.i c.value,.i c.time,.i c.proc,.own 2013 ms.length]⟩),(7,⟨52,.fix [.i ((ms.getD i default).value),.i ((ms.getD i default).proc),.i ((ms.getD i default).number),.b ((ms.getD i default).gone)]⟩),(13,⟨3,.row (.ints c.up)⟩),(1013,⟨3,.row (.ints c.down)⟩),(2013,⟨52,.row (.marks (List.set ms i ({ ms.getD i default with gone := true })))⟩)],[7,4,5,13,999,1013,2013]⟩)
      (True ∧ True ∧ True ∧ (True ∧ True ∧ (0 ≤ ((i : Nat) : Int)) ∧ (((i : Nat) : Int) < (ms.length : Int))) ∧ True ∧ (True ∧ True ∧ (i < ms.length)) ∧ True)
      ⟨tt,tt,tt,⟨tt,tt,(by omega),(by omega)⟩,tt,⟨tt,tt,(by omega)⟩,tt⟩ ?_
     refine blockQ_normal (thenQ_normal ?_)
     refine Lk cok tab28 hnt [] (⟨[(1,.i v),(4,.ptr 4 0),(5,.ptr 5 0),(6,.i ((i : Nat) : Int)),(15,.own 2013 (List.length c.marks)),(16,.i (((List.length c.marks) : Nat) : Int)),(17,.i (((i + 1) : Nat) : Int)),(25,.b (decide (((ms.getD i default).value) = v))),(26,.ptr 5 5),(27,.own 2013 ms.length),(28,.i ((i : Nat) : Int)),(29,.pel 2013 4 i 0),(30,.pel 2013 4 i 3),(31,.i (((i + 1) : Nat) : Int))],[(4,⟨26,.fix [.v (.slice none 0 0),.v (.slice none 0 0),.i (0 : Int),.i (0 : Int),.i (0 : Int),.v (.slice none 0 0)]⟩),(5,⟨26,.fix [.own 13 (List.length c.up),.own 1013 (List.length c.down),.i c.value,.i c.time,.i c.proc,.own 2013 ms.length]⟩),(7,⟨52,.fix [.i ((ms.getD i default).value),.i ((ms.getD i default).proc),.i ((ms.getD i default).number),.b ((ms.getD i default).gone)]⟩),(13,⟨3,.row (.ints c.up)⟩),(1013,⟨3,.row (.ints c.down)⟩),(2013,⟨52,.row (.marks (List.set ms i ({ ms.getD i default with gone := true })))⟩)],[7,4,5,13,999,1013,2013]⟩)
      ((True ∧ True ∧ (Fits .i64 (((i + 1) : Nat) : Int))) ∧ True ∧ True)
      ⟨⟨tt,tt,(by exact fits_i64 (by omega) (by omega))⟩,tt,tt⟩ ?_
     refine thenQ_normal ?_
     refine ⟨((i + 1),(List.set ms i ({ ms.getD i default with gone := true }))),(show ((i + 1) ≤ c.marks.length) ∧ ((List.set ms i ({ ms.getD i default with gone := true })) = goneUp v c.marks (i + 1)) from ⟨(by first | assumption | omega | rfl | (intro _ hjj; omega) | (simp; done) | (simp; omega)),(by first | exact gone_yes hm (by omega) h25 | exact gone_no hm (by omega) n25)⟩),(show c.marks.length - (i + 1) < c.marks.length - i from (by first | omega | (simp_all; omega))),?_⟩
     exact Sub.of [] (@cast (((Si v) ∧ (((4 : Nat) = 4) ∧ ((0 : Nat) = 0) ∧ ((4 : Nat) ∈ ([4,5,13,999,1013,2013] : List Nat))) ∧ (((5 : Nat) = 5) ∧ ((0 : Nat) = 0) ∧ ((5 : Nat) ∈ ([4,5,13,999,1013,2013] : List Nat))) ∧ (((2013 : Nat) = 2013) ∧ ((List.length c.marks) = (List.length c.marks)) ∧ ((2013 : Nat) ∈ ([4,5,13,999,1013,2013] : List Nat))) ∧ (Si (((List.length c.marks) : Nat) : Int)) ∧ (Si (((i + 1) : Nat) : Int)) ∧ True) ∧ ((((26 : Nat) = 26) ∧ ((((.slice none 0 0) : Value) = (.slice none 0 0)) ∧ (((.slice none 0 0) : Value) = (.slice none 0 0)) ∧ (Si (0 : Int)) ∧ (Si (0 : Int)) ∧ (Si (0 : Int)) ∧ (((.slice none 0 0) : Value) = (.slice none 0 0)) ∧ True) ∧ ((4 : Nat) ∈ ([4,5,13,999,1013,2013] : List Nat))) ∧ (((26 : Nat) = 26) ∧ ((((13 : Nat) = 13) ∧ ((List.length c.up) = (List.length c.up)) ∧ ((13 : Nat) ∈ ([4,5,13,999,1013,2013] : List Nat))) ∧ (((1013 : Nat) = 1013) ∧ ((List.length c.down) = (List.length c.down)) ∧ ((1013 : Nat) ∈ ([4,5,13,999,1013,2013] : List Nat))) ∧ (Si c.value) ∧ (Si c.time) ∧ (Si c.proc) ∧ (((2013 : Nat) = 2013) ∧ (ms.length = (List.length (List.set ms i ({ ms.getD i default with gone := true })))) ∧ ((2013 : Nat) ∈ ([4,5,13,999,1013,2013] : List Nat))) ∧ True) ∧ ((5 : Nat) ∈ ([4,5,13,999,1013,2013] : List Nat))) ∧ (((3 : Nat) = 3) ∧ (Sd (.ints c.up)) ∧ ((13 : Nat) ∈ ([4,5,13,999,1013,2013] : List Nat))) ∧ (((3 : Nat) = 3) ∧ (Sd (.ints c.down)) ∧ ((1013 : Nat) ∈ ([4,5,13,999,1013,2013] : List Nat))) ∧ (((52 : Nat) = 52) ∧ (Sd (.marks (List.set ms i ({ ms.getD i default with gone := true })))) ∧ ((2013 : Nat) ∈ ([4,5,13,999,1013,2013] : List Nat))) ∧ True) ∧ (true = true) ∧ (true = true)) _ (by kernel_rfl) ⟨⟨rfl,⟨rfl,rfl,(by decide)⟩,⟨rfl,rfl,(by decide)⟩,⟨rfl,rfl,(by decide)⟩,rfl,rfl,tt⟩,⟨⟨rfl,⟨rfl,rfl,rfl,rfl,rfl,rfl,tt⟩,(by decide)⟩,⟨rfl,⟨⟨rfl,rfl,(by decide)⟩,⟨rfl,rfl,(by decide)⟩,rfl,rfl,rfl,⟨rfl,(by first | rfl | omega | assumption | (symm; assumption) | simp | simp_all),(by decide)⟩,tt⟩,(by decide)⟩,⟨rfl,rfl,(by decide)⟩,⟨rfl,rfl,(by decide)⟩,⟨rfl,rfl,(by decide)⟩,tt⟩,rfl,rfl⟩)
    ·intro n25
     refine W.skip (blockQ_normal (thenQ_normal ?_))
     refine Lk cok tab28 hnt [] (⟨[(1,.i v),(4,.ptr 4 0),(5,.ptr 5 0),(6,.i ((i : Nat) : Int)),(15,.own 2013 (List.length c.marks)),(16,.i (((List.length c.marks) : Nat) : Int)),(17,.i (((i + 1) : Nat) : Int)),(25,.b (decide (((ms.getD i default).value) = v))),(31,.i (((i + 1) : Nat) : Int))],[(4,⟨26,.fix [.v (.slice none 0 0),.v (.slice none 0 0),.i (0 : Int),.i (0 : Int),.i (0 : Int),.v (.slice none 0 0)]⟩),(5,⟨26,.fix [.own 13 (List.length c.up),.own 1013 (List.length c.down),.i c.value,.i c.time,.i c.proc,.own 2013 ms.length]⟩),(7,⟨52,.fix [.i ((ms.getD i default).value),.i ((ms.getD i default).proc),.i ((ms.getD i default).number),.b ((ms.getD i default).gone)]⟩),(13,⟨3,.row (.ints c.up)⟩),(1013,⟨3,.row (.ints c.down)⟩),(2013,⟨52,.row (.marks ms)⟩)],[7,4,5,13,999,1013,2013]⟩)
      ((True ∧ True ∧ (Fits .i64 (((i + 1) : Nat) : Int))) ∧ True ∧ True)
      ⟨⟨tt,tt,(by exact fits_i64 (by omega) (by omega))⟩,tt,tt⟩ ?_
     refine thenQ_normal ?_
     refine ⟨((i + 1),ms),(show ((i + 1) ≤ c.marks.length) ∧ (ms = goneUp v c.marks (i + 1)) from ⟨(by first | assumption | omega | rfl | (intro _ hjj; omega) | (simp; done) | (simp; omega)),(by first | exact gone_yes hm (by omega) h25 | exact gone_no hm (by omega) n25)⟩),(show c.marks.length - (i + 1) < c.marks.length - i from (by first | omega | (simp_all; omega))),?_⟩
     exact Sub.of [] (@cast (((Si v) ∧ (((4 : Nat) = 4) ∧ ((0 : Nat) = 0) ∧ ((4 : Nat) ∈ ([4,5,13,999,1013,2013] : List Nat))) ∧ (((5 : Nat) = 5) ∧ ((0 : Nat) = 0) ∧ ((5 : Nat) ∈ ([4,5,13,999,1013,2013] : List Nat))) ∧ (((2013 : Nat) = 2013) ∧ ((List.length c.marks) = (List.length c.marks)) ∧ ((2013 : Nat) ∈ ([4,5,13,999,1013,2013] : List Nat))) ∧ (Si (((List.length c.marks) : Nat) : Int)) ∧ (Si (((i + 1) : Nat) : Int)) ∧ True) ∧ ((((26 : Nat) = 26) ∧ ((((.slice none 0 0) : Value) = (.slice none 0 0)) ∧ (((.slice none 0 0) : Value) = (.slice none 0 0)) ∧ (Si (0 : Int)) ∧ (Si (0 : Int)) ∧ (Si (0 : Int)) ∧ (((.slice none 0 0) : Value) = (.slice none 0 0)) ∧ True) ∧ ((4 : Nat) ∈ ([4,5,13,999,1013,2013] : List Nat))) ∧ (((26 : Nat) = 26) ∧ ((((13 : Nat) = 13) ∧ ((List.length c.up) = (List.length c.up)) ∧ ((13 : Nat) ∈ ([4,5,13,999,1013,2013] : List Nat))) ∧ (((1013 : Nat) = 1013) ∧ ((List.length c.down) = (List.length c.down)) ∧ ((1013 : Nat) ∈ ([4,5,13,999,1013,2013] : List Nat))) ∧ (Si c.value) ∧ (Si c.time) ∧ (Si c.proc) ∧ (((2013 : Nat) = 2013) ∧ (ms.length = ms.length) ∧ ((2013 : Nat) ∈ ([4,5,13,999,1013,2013] : List Nat))) ∧ True) ∧ ((5 : Nat) ∈ ([4,5,13,999,1013,2013] : List Nat))) ∧ (((3 : Nat) = 3) ∧ (Sd (.ints c.up)) ∧ ((13 : Nat) ∈ ([4,5,13,999,1013,2013] : List Nat))) ∧ (((3 : Nat) = 3) ∧ (Sd (.ints c.down)) ∧ ((1013 : Nat) ∈ ([4,5,13,999,1013,2013] : List Nat))) ∧ (((52 : Nat) = 52) ∧ (Sd (.marks ms)) ∧ ((2013 : Nat) ∈ ([4,5,13,999,1013,2013] : List Nat))) ∧ True) ∧ (true = true) ∧ (true = true)) _ (by kernel_rfl) ⟨⟨rfl,⟨rfl,rfl,(by decide)⟩,⟨rfl,rfl,(by decide)⟩,⟨rfl,rfl,(by decide)⟩,rfl,rfl,tt⟩,⟨⟨rfl,⟨rfl,rfl,rfl,rfl,rfl,rfl,tt⟩,(by decide)⟩,⟨rfl,⟨⟨rfl,rfl,(by decide)⟩,⟨rfl,rfl,(by decide)⟩,rfl,rfl,rfl,⟨rfl,rfl,(by decide)⟩,tt⟩,(by decide)⟩,⟨rfl,rfl,(by decide)⟩,⟨rfl,rfl,(by decide)⟩,⟨rfl,rfl,(by decide)⟩,tt⟩,rfl,rfl⟩)
   ·intro n18
    refine W.exit (thenQ_exit (thenQ_exit (blockQ_hit ?_)))
    refine thenQ_normal ?_
    refine Kk cok tab28 hnt [] [4] (⟨[(4,.ptr 4 0)],[(4,⟨26,.fix [.own 13 (List.length c.up),.own 1013 (List.length c.down),.i c.value,.i c.time,.i c.proc,.own 2013 ms.length]⟩),(5,⟨26,.fix [.own 13 (List.length c.up),.own 1013 (List.length c.down),.i c.value,.i c.time,.i c.proc,.own 2013 ms.length]⟩),(13,⟨3,.row (.ints c.up)⟩),(1013,⟨3,.row (.ints c.down)⟩),(2013,⟨52,.row (.marks ms)⟩)],[4,5,13,999,1013,2013]⟩)
     (True ∧ (True ∧ True) ∧ True)
     ⟨tt,⟨tt,tt⟩,tt⟩ ?_
    refine W.ret ?_
    exact endQ_rows [(0,13),(1,1013),(2,2013)] (.agg [.own 13 (List.length c.up),.own 1013 (List.length c.down),.i c.value,.i c.time,.i c.proc,.own 2013 ms.length]) (by kernel_rfl) (@cast ((((13 : Nat) = 13) ∧ ((List.length c.up) = (List.length ((takeOut c v).up))) ∧ ((0 : Nat) ∈ ([0,1,2] : List Nat))) ∧ (((1013 : Nat) = 1013) ∧ ((List.length c.down) = (List.length ((takeOut c v).down))) ∧ ((1 : Nat) ∈ ([0,1,2] : List Nat))) ∧ ((.int .i64 c.value : Value) = .int .i64 ((takeOut c v).value)) ∧ ((.int .i64 c.time : Value) = .int .i64 ((takeOut c v).time)) ∧ ((.int .i64 c.proc : Value) = .int .i64 ((takeOut c v).proc)) ∧ (((2013 : Nat) = 2013) ∧ (ms.length = (List.length ((takeOut c v).marks))) ∧ ((2 : Nat) ∈ ([0,1,2] : List Nat))) ∧ True) _ (by kernel_rfl) ⟨⟨rfl,(by first | rfl | omega | assumption | (symm; assumption) | (exact congrArg List.length (by rw [takeOut_ok (not_g n10)] <;> first | rfl | exact gone_all hm (by omega))) | (rw [takeOut_ok (not_g n10)] <;> first | rfl | exact gone_all hm (by omega); done) | simp | simp_all),(by decide)⟩,⟨rfl,(by first | rfl | omega | assumption | (symm; assumption) | (exact congrArg List.length (by rw [takeOut_ok (not_g n10)] <;> first | rfl | exact gone_all hm (by omega))) | (rw [takeOut_ok (not_g n10)] <;> first | rfl | exact gone_all hm (by omega); done) | simp | simp_all),(by decide)⟩,(congrArg (Value.int .i64) (by first | rfl | omega | assumption | (rw [takeOut_ok (not_g n10)] <;> first | rfl | exact gone_all hm (by omega); done) | simp | simp_all)),(congrArg (Value.int .i64) (by first | rfl | omega | assumption | (rw [takeOut_ok (not_g n10)] <;> first | rfl | exact gone_all hm (by omega); done) | simp | simp_all)),(congrArg (Value.int .i64) (by first | rfl | omega | assumption | (rw [takeOut_ok (not_g n10)] <;> first | rfl | exact gone_all hm (by omega); done) | simp | simp_all)),⟨rfl,(by first | rfl | omega | assumption | (symm; assumption) | (exact congrArg List.length (by rw [takeOut_ok (not_g n10)] <;> first | rfl | exact gone_all hm (by omega))) | (rw [takeOut_ok (not_g n10)] <;> first | rfl | exact gone_all hm (by omega); done) | simp | simp_all),(by decide)⟩,tt⟩) (@cast ((((3 : Nat) = 3) ∧ ((.ints c.up : Dat) = .ints ((takeOut c v).up)) ∧ ((0 : Nat) ∈ ([0,1,2] : List Nat))) ∧ (((3 : Nat) = 3) ∧ ((.ints c.down : Dat) = .ints ((takeOut c v).down)) ∧ ((1 : Nat) ∈ ([0,1,2] : List Nat))) ∧ (((52 : Nat) = 52) ∧ ((.marks ms : Dat) = .marks ((takeOut c v).marks)) ∧ ((2 : Nat) ∈ ([0,1,2] : List Nat))) ∧ True) _ (by kernel_rfl) ⟨⟨rfl,(congrArg Dat.ints (by rw [takeOut_ok (not_g n10)] <;> first | rfl | exact gone_all hm (by omega))),(by decide)⟩,⟨rfl,(congrArg Dat.ints (by rw [takeOut_ok (not_g n10)] <;> first | rfl | exact gone_all hm (by omega))),(by decide)⟩,⟨rfl,(congrArg Dat.marks (by rw [takeOut_ok (not_g n10)] <;> first | rfl | exact gone_all hm (by omega))),(by decide)⟩,tt⟩) (by kernel_rfl)
theorem ent28 : Entr prog 28 := ⟨_,func28,rfl,by decide⟩
end Go.Proofs.Try

set_option linter.unusedSimpArgs false
set_option linter.unusedVariables false
namespace Go.Proofs.Try
open Go.Ab Go.RowKit
def fs31 : FnS := fnS [.s .ints,.s .ints] [.ints,.ints] (fun _ (a,b,_) => (.b (decide (a = b)),[],True))
abbrev T31 : Tab := lk []
theorem tab31 : TabOK prog T31 := TabOK.nil
set_option maxRecDepth 100000 in
set_option maxHeartbeats 1000000 in
theorem ok31 : FnOK prog 31 fs31 := by
 refine FnOK.mk cok func31 rfl rfl rfl ?_
 rintro fl ⟨(a : List Int),(b : List Int),_⟩ hpre F hnt0 _
 have hnt : F.nt = 26 := hnt0.trans ntmps31
 clear hpre
 refine W.to (⟨[(0,.sl (.ints a)),(1,.sl (.ints b))],[],[999]⟩) rfl ?_
 refine W.lenOf 0 (.ints a) (by kernel_rfl) ?_
 intro hl_a; replace hl_a : List.length a ≤ 9223372036854775807 := hl_a
 refine W.lenOf 1 (.ints b) (by kernel_rfl) ?_
 intro hl_b; replace hl_b : List.length b ≤ 9223372036854775807 := hl_b
 refine Kk cok tab31 hnt [] [0,1] (⟨[(0,.sl (.ints a)),(1,.sl (.ints b))],[],[999]⟩)
  (True ∧ True)
  ⟨tt,tt⟩ ?_
 refine W.seq ?_
 refine Kk cok tab31 hnt [] [0,1,10] (⟨[(0,.sl (.ints a)),(1,.sl (.ints b)),(10,.b (decide ((a.length : Int) ≠ (b.length : Int))))],[],[999]⟩)
  (True ∧ True ∧ True ∧ True ∧ (True ∧ True ∧ True) ∧ True)
  ⟨tt,tt,tt,tt,⟨tt,tt,tt⟩,tt⟩ ?_
 refine W.ifP ((a.length : Int) ≠ (b.length : Int)) (.b (decide ((a.length : Int) ≠ (b.length : Int)))) (by kernel_rfl) rfl trivial ?_ ?_
 ·intro h10
  refine Kk cok tab31 hnt [] [4] (⟨[(4,.b false)],[],[999]⟩)
   (True ∧ True)
   ⟨tt,tt⟩ ?_
  refine W.ret (thenQ_ret ?_)
  exact endQ_ret (.b false) (by kernel_rfl) (@cast ((.bool false : Value) = .bool (decide (a = b))) _ (by kernel_rfl) (congrArg Value.bool (by symm; exact decide_eq_false (fun e => h10 (by rw [e])))))
 ·intro n10
  refine W.skip (thenQ_normal ?_)
  refine W.seq ?_
  refine Kk cok tab31 hnt [] [0,1,5] (⟨[(0,.sl (.ints a)),(1,.sl (.ints b)),(5,.i (0 : Int))],[],[999]⟩)
   (True ∧ True)
   ⟨tt,tt⟩ ?_
  refine W.block ?_
  refine W.loop (ι := Nat) (fun (i : Nat) => (⟨[(0,.sl (.ints a)),(1,.sl (.ints b)),(5,.i ((i : Nat) : Int))],[],[999]⟩ : St))
   (fun (i : Nat) => (i ≤ a.length) ∧ (∀ j,j < i → a.getD j 0 = b.getD j 0))
   (fun (i : Nat) => (a.length - i : Nat)) (0) ?_ ?_ ?_
  ·exact (show (0 ≤ a.length) ∧ (∀ j,j < 0 → a.getD j 0 = b.getD j 0) from ⟨(by first | assumption | omega | rfl | (intro _ hjj; omega) | (simp; done) | (simp; omega)),(by exact upto_zero)⟩)
  ·exact Sub.of [] (@cast (((Sd (.ints a)) ∧ (Sd (.ints b)) ∧ ((.int .i64 (0 : Int) : Value) = .int .i64 ((0 : Nat) : Int)) ∧ True) ∧ True ∧ (true = true) ∧ (true = true)) _ (by kernel_rfl) ⟨⟨rfl,rfl,(congrArg (Value.int .i64) (by first | rfl | omega | assumption | simp | simp_all)),tt⟩,tt,rfl,rfl⟩)
  ·rintro i hC0
   have hC : (i ≤ a.length) ∧ (∀ j,j < i → a.getD j 0 = b.getD j 0) := hC0
   clear hC0
   obtain ⟨hi,hA⟩ := hC
   refine W.to (⟨[(0,.sl (.ints a)),(1,.sl (.ints b)),(5,.i ((i : Nat) : Int))],[],[999]⟩) rfl ?_
   refine W.seq ?_
   refine Kk cok tab31 hnt [] [0,1,5,14] (⟨[(0,.sl (.ints a)),(1,.sl (.ints b)),(5,.i ((i : Nat) : Int)),(14,.b (decide (((i : Nat) : Int) < (a.length : Int))))],[],[999]⟩)
    (True ∧ True ∧ True ∧ (True ∧ True ∧ True) ∧ True)
    ⟨tt,tt,tt,⟨tt,tt,tt⟩,tt⟩ ?_
   refine W.ifP (((i : Nat) : Int) < (a.length : Int)) (.b (decide (((i : Nat) : Int) < (a.length : Int)))) (by kernel_rfl) rfl trivial ?_ ?_
   ·intro h14
    refine W.skip (thenQ_normal ?_)
    refine W.seq ?_
    refine W.block ?_
    refine W.KA cok tab31 hnt [] [0,1,5,25] (⟨[(0,.sl (.ints a)),(1,.sl (.ints b)),(5,.i ((i : Nat) : Int)),(25,.b (decide ((a.getD i 0) ≠ (b.getD i 0))))],[],[999]⟩)
     (True ∧ True ∧ (True ∧ True ∧ (0 ≤ ((i : Nat) : Int)) ∧ (((i : Nat) : Int) < (a.length : Int))) ∧ True ∧ True ∧ True ∧ (True ∧ True ∧ (0 ≤ ((i : Nat) : Int)) ∧ (((i : Nat) : Int) < (b.length : Int))) ∧ True ∧ (True ∧ True ∧ True) ∧ True) (by kernel_rfl) (by kernel_rfl)
     ⟨tt,tt,⟨tt,tt,(by omega),(by omega)⟩,tt,tt,tt,⟨tt,tt,(by omega),(by omega)⟩,tt,⟨tt,tt,tt⟩,tt⟩ ?_
    refine W.ifP ((a.getD i 0) ≠ (b.getD i 0)) (.b (decide ((a.getD i 0) ≠ (b.getD i 0)))) (by kernel_rfl) rfl trivial ?_ ?_
    ·intro h25
     refine Kk cok tab31 hnt [] [4] (⟨[(4,.b false)],[],[999]⟩)
      (True ∧ True)
      ⟨tt,tt⟩ ?_
     refine W.ret (blockQ_ret (thenQ_ret (thenQ_ret (blockQ_ret (thenQ_ret ?_)))))
     exact endQ_ret (.b false) (by kernel_rfl) (@cast ((.bool false : Value) = .bool (decide (a = b))) _ (by kernel_rfl) (congrArg Value.bool (by symm; exact decide_eq_false (fun e => h25 (by rw [e])))))
    ·intro n25
     refine W.skip (blockQ_normal (thenQ_normal ?_))
     refine Lk cok tab31 hnt [] (⟨[(0,.sl (.ints a)),(1,.sl (.ints b)),(5,.i (((i + 1) : Nat) : Int)),(15,.i ((i : Nat) : Int)),(16,.i (((i + 1) : Nat) : Int)),(25,.b (decide ((a.getD i 0) ≠ (b.getD i 0))))],[],[999]⟩)
      (True ∧ (True ∧ True ∧ (Fits .i64 (((i + 1) : Nat) : Int))) ∧ True ∧ True)
      ⟨tt,⟨tt,tt,(by exact fits_i64 (by omega) (by omega))⟩,tt,tt⟩ ?_
     refine thenQ_normal ?_
     refine ⟨((i + 1)),(show ((i + 1) ≤ a.length) ∧ (∀ j,j < (i + 1) → a.getD j 0 = b.getD j 0) from ⟨(by first | assumption | omega | rfl | (intro _ hjj; omega) | (simp; done) | (simp; omega)),(by exact upto_succ hA (Decidable.not_not.1 n25))⟩),(show a.length - (i + 1) < a.length - i from (by first | omega | (simp_all; omega))),?_⟩
     exact Sub.of [] (@cast (((Sd (.ints a)) ∧ (Sd (.ints b)) ∧ (Si (((i + 1) : Nat) : Int)) ∧ True) ∧ True ∧ (true = true) ∧ (true = true)) _ (by kernel_rfl) ⟨⟨rfl,rfl,rfl,tt⟩,tt,rfl,rfl⟩)
   ·intro n14
    refine W.exit (thenQ_exit (thenQ_exit (blockQ_hit ?_)))
    refine thenQ_normal ?_
    refine Kk cok tab31 hnt [] [4] (⟨[(4,.b true)],[],[999]⟩)
     (True ∧ True)
     ⟨tt,tt⟩ ?_
    refine W.ret ?_
    exact endQ_ret (.b true) (by kernel_rfl) (@cast ((.bool true : Value) = .bool (decide (a = b))) _ (by kernel_rfl) (congrArg Value.bool (by symm; exact decide_eq_true (ints_ext (by omega) (fun j hj => hA j (by omega))))))
theorem ent31 : Entr prog 31 := ⟨_,func31,rfl,by decide⟩
end Go.Proofs.Try

set_option linter.unusedSimpArgs false
set_option linter.unusedVariables false
namespace Go.Proofs.Try
open Go.Ab Go.RowKit
def fs21 : FnS := fnS [.a [some .ints,some .ints,none,none,none,some .marks],.a [some .ints,some .ints,none,none,none,some .marks]] [.copy,.copy] (fun _ (a,b,_) => (.b (sameC a b),[],True))
abbrev T21 : Tab := lk [(31,fs31)]
theorem tab21 : TabOK prog T21 := (TabOK.cons ok31 ent31 TabOK.nil)
set_option maxRecDepth 100000 in
set_option maxHeartbeats 1000000 in
theorem ok21 : FnOK prog 21 fs21 := by
 refine FnOK.mk cok func21 rfl rfl rfl ?_
 rintro fl ⟨(a : CopyD),(b : CopyD),_⟩ hpre F hnt0 _
 have hnt : F.nt = 64 := hnt0.trans ntmps21
 clear hpre
 refine W.to (⟨[(0,.agg (cC a)),(1,.agg (cC b))],[],[999]⟩) rfl ?_
 refine W.lenA 0 0 (cC a) (.ints a.up) (by kernel_rfl) (by kernel_rfl) ?_
 intro hl_a_up; replace hl_a_up : List.length a.up ≤ 9223372036854775807 := hl_a_up
 refine W.lenA 0 1 (cC a) (.ints a.down) (by kernel_rfl) (by kernel_rfl) ?_
 intro hl_a_down; replace hl_a_down : List.length a.down ≤ 9223372036854775807 := hl_a_down
 refine W.lenA 0 5 (cC a) (.marks a.marks) (by kernel_rfl) (by kernel_rfl) ?_
 intro hl_a_marks; replace hl_a_marks : List.length a.marks ≤ 9223372036854775807 := hl_a_marks
 refine W.lenA 1 0 (cC b) (.ints b.up) (by kernel_rfl) (by kernel_rfl) ?_
 intro hl_b_up; replace hl_b_up : List.length b.up ≤ 9223372036854775807 := hl_b_up
 refine W.lenA 1 1 (cC b) (.ints b.down) (by kernel_rfl) (by kernel_rfl) ?_
 intro hl_b_down; replace hl_b_down : List.length b.down ≤ 9223372036854775807 := hl_b_down
 refine W.lenA 1 5 (cC b) (.marks b.marks) (by kernel_rfl) (by kernel_rfl) ?_
 intro hl_b_marks; replace hl_b_marks : List.length b.marks ≤ 9223372036854775807 := hl_b_marks
 refine Kk cok tab21 hnt [] [2,3] (⟨[(2,.ptr 2 0),(3,.ptr 3 0)],[(2,⟨26,.fix (cC a)⟩),(3,⟨26,.fix (cC b)⟩)],[3,2,999]⟩)
  (True ∧ True ∧ True ∧ True)
  ⟨tt,tt,tt,tt⟩ ?_
 refine W.seq ?_
 refine Kk cok tab21 hnt [] [2,3,12] (⟨[(2,.ptr 2 0),(3,.ptr 3 0),(12,.b (decide ((((List.length a.marks) : Nat) : Int) ≠ (((List.length b.marks) : Nat) : Int))))],[(2,⟨26,.fix (cC a)⟩),(3,⟨26,.fix (cC b)⟩)],[3,2,999]⟩)
  (True ∧ True ∧ True ∧ True ∧ True ∧ True ∧ (True ∧ True ∧ True) ∧ True)
  ⟨tt,tt,tt,tt,tt,tt,⟨tt,tt,tt⟩,tt⟩ ?_
 refine W.ifP ((((List.length a.marks) : Nat) : Int) ≠ (((List.length b.marks) : Nat) : Int)) (.b (decide ((((List.length a.marks) : Nat) : Int) ≠ (((List.length b.marks) : Nat) : Int)))) (by kernel_rfl) rfl trivial ?_ ?_
 ·intro h12
  refine Kk cok tab21 hnt [] [4] (⟨[(4,.b false)],[(2,⟨26,.fix (cC a)⟩),(3,⟨26,.fix (cC b)⟩)],[3,2,999]⟩)
   (True ∧ True)
   ⟨tt,tt⟩ ?_
  refine W.ret (thenQ_ret ?_)
  exact endQ_ret (.b false) (by kernel_rfl) (@cast ((.bool false : Value) = .bool (sameC a b)) _ (by kernel_rfl) (congrArg Value.bool (by symm; exact same_no (fun e => h12 (by rw [e])))))
 ·intro n12
  refine W.skip (thenQ_normal ?_)
  refine W.seq ?_
  refine Kk cok tab21 hnt [] [2,3,5] (⟨[(2,.ptr 2 0),(3,.ptr 3 0),(5,.i (0 : Int))],[(2,⟨26,.fix (cC a)⟩),(3,⟨26,.fix (cC b)⟩)],[3,2,999]⟩)
   (True ∧ True)
   ⟨tt,tt⟩ ?_
  refine W.block ?_
  refine W.loop (ι := Nat) (fun (i : Nat) => (⟨[(2,.ptr 2 0),(3,.ptr 3 0),(5,.i ((i : Nat) : Int))],[(2,⟨26,.fix (cC a)⟩),(3,⟨26,.fix (cC b)⟩)],[2,3,999]⟩ : St))
   (fun (i : Nat) => (i ≤ a.marks.length) ∧ (∀ j,j < i → a.marks.getD j default = b.marks.getD j default))
   (fun (i : Nat) => (a.marks.length - i : Nat)) (0) ?_ ?_ ?_
  ·exact (show (0 ≤ a.marks.length) ∧ (∀ j,j < 0 → a.marks.getD j default = b.marks.getD j default) from ⟨(by first | assumption | omega | rfl | (intro _ hjj; omega) | (simp; done) | (simp; omega)),(by exact upto_zero)⟩)
  ·exact Sub.of [] (@cast (((((2 : Nat) = 2) ∧ ((0 : Nat) = 0) ∧ ((2 : Nat) ∈ ([2,3,999] : List Nat))) ∧ (((3 : Nat) = 3) ∧ ((0 : Nat) = 0) ∧ ((3 : Nat) ∈ ([2,3,999] : List Nat))) ∧ ((.int .i64 (0 : Int) : Value) = .int .i64 ((0 : Nat) : Int)) ∧ True) ∧ ((((26 : Nat) = 26) ∧ (Sc a) ∧ ((2 : Nat) ∈ ([2,3,999] : List Nat))) ∧ (((26 : Nat) = 26) ∧ (Sc b) ∧ ((3 : Nat) ∈ ([2,3,999] : List Nat))) ∧ True) ∧ (true = true) ∧ (true = true)) _ (by kernel_rfl) ⟨⟨⟨rfl,rfl,(by decide)⟩,⟨rfl,rfl,(by decide)⟩,(congrArg (Value.int .i64) (by first | rfl | omega | assumption | simp | simp_all)),tt⟩,⟨⟨rfl,⟨rfl,rfl,rfl,rfl,rfl,rfl,tt⟩,(by decide)⟩,⟨rfl,⟨rfl,rfl,rfl,rfl,rfl,rfl,tt⟩,(by decide)⟩,tt⟩,rfl,rfl⟩)
  ·rintro i hC0
   have hC : (i ≤ a.marks.length) ∧ (∀ j,j < i → a.marks.getD j default = b.marks.getD j default) := hC0
   clear hC0
   obtain ⟨hi,hA⟩ := hC
   refine W.to (⟨[(2,.ptr 2 0),(3,.ptr 3 0),(5,.i ((i : Nat) : Int))],[(2,⟨26,.fix (cC a)⟩),(3,⟨26,.fix (cC b)⟩)],[2,3,999]⟩) rfl ?_
   refine W.seq ?_
   refine Kk cok tab21 hnt [] [2,3,5,17] (⟨[(2,.ptr 2 0),(3,.ptr 3 0),(5,.i ((i : Nat) : Int)),(17,.b (decide (((i : Nat) : Int) < (((List.length a.marks) : Nat) : Int))))],[(2,⟨26,.fix (cC a)⟩),(3,⟨26,.fix (cC b)⟩)],[2,3,999]⟩)
    (True ∧ True ∧ True ∧ True ∧ (True ∧ True ∧ True) ∧ True)
    ⟨tt,tt,tt,tt,⟨tt,tt,tt⟩,tt⟩ ?_
   refine W.ifP (((i : Nat) : Int) < (((List.length a.marks) : Nat) : Int)) (.b (decide (((i : Nat) : Int) < (((List.length a.marks) : Nat) : Int)))) (by kernel_rfl) rfl trivial ?_ ?_
   ·intro h17
    refine W.skip (thenQ_normal ?_)
    refine W.seq ?_
    refine W.block ?_
    refine W.KA cok tab21 hnt [] [2,3,5,30] (⟨[(2,.ptr 2 0),(3,.ptr 3 0),(5,.i ((i : Nat) : Int)),(30,.b (!((decide (((List.getD a.marks i default).value) = ((List.getD b.marks i default).value))) && ((decide (((List.getD a.marks i default).proc) = ((List.getD b.marks i default).proc))) && ((decide (((List.getD a.marks i default).number) = ((List.getD b.marks i default).number))) && ((((List.getD a.marks i default).gone) == ((List.getD b.marks i default).gone)) && true))))))],[(2,⟨26,.fix (cC a)⟩),(3,⟨26,.fix (cC b)⟩)],[2,3,999]⟩)
     (True ∧ True ∧ True ∧ (True ∧ True ∧ (0 ≤ ((i : Nat) : Int)) ∧ (((i : Nat) : Int) < (((List.length a.marks) : Nat) : Int))) ∧ True ∧ True ∧ True ∧ True ∧ (True ∧ True ∧ (0 ≤ ((i : Nat) : Int)) ∧ (((i : Nat) : Int) < (((List.length b.marks) : Nat) : Int))) ∧ True ∧ (True ∧ True) ∧ True) (by kernel_rfl) (by kernel_rfl)
     ⟨tt,tt,tt,⟨tt,tt,(by omega),(by omega)⟩,tt,tt,tt,tt,⟨tt,tt,(by omega),(by omega)⟩,tt,⟨tt,tt⟩,tt⟩ ?_
    refine W.if' (!((decide (((List.getD a.marks i default).value) = ((List.getD b.marks i default).value))) && ((decide (((List.getD a.marks i default).proc) = ((List.getD b.marks i default).proc))) && ((decide (((List.getD a.marks i default).number) = ((List.getD b.marks i default).number))) && ((((List.getD a.marks i default).gone) == ((List.getD b.marks i default).gone)) && true))))) (.b (!((decide (((List.getD a.marks i default).value) = ((List.getD b.marks i default).value))) && ((decide (((List.getD a.marks i default).proc) = ((List.getD b.marks i default).proc))) && ((decide (((List.getD a.marks i default).number) = ((List.getD b.marks i default).number))) && ((((List.getD a.marks i default).gone) == ((List.getD b.marks i default).gone)) && true)))))) (by kernel_rfl) rfl trivial ?_ ?_
    ·intro h30
     refine Kk cok tab21 hnt [] [4] (⟨[(4,.b false)],[(2,⟨26,.fix (cC a)⟩),(3,⟨26,.fix (cC b)⟩)],[2,3,999]⟩)
      (True ∧ True)
      ⟨tt,tt⟩ ?_
     refine W.ret (blockQ_ret (thenQ_ret (thenQ_ret (blockQ_ret (thenQ_ret ?_)))))
     exact endQ_ret (.b false) (by kernel_rfl) (@cast ((.bool false : Value) = .bool (sameC a b)) _ (by kernel_rfl) (congrArg Value.bool (by symm; exact same_no (fun e => by rw [e] at h30; exact mark_self h30))))
    ·intro n30
     have n30_0 : ((List.getD a.marks i default).value) = ((List.getD b.marks i default).value) := of_decide_eq_true (and_l (not_g n30))
     have n30_1 : ((List.getD a.marks i default).proc) = ((List.getD b.marks i default).proc) := of_decide_eq_true (and_l (and_r (not_g n30)))
     have n30_2 : ((List.getD a.marks i default).number) = ((List.getD b.marks i default).number) := of_decide_eq_true (and_l (and_r (and_r (not_g n30))))
     refine W.skip (blockQ_normal (thenQ_normal ?_))
     refine Lk cok tab21 hnt [] (⟨[(2,.ptr 2 0),(3,.ptr 3 0),(5,.i (((i + 1) : Nat) : Int)),(18,.i ((i : Nat) : Int)),(19,.i (((i + 1) : Nat) : Int)),(30,.b (!((decide (((List.getD a.marks i default).value) = ((List.getD b.marks i default).value))) && ((decide (((List.getD a.marks i default).proc) = ((List.getD b.marks i default).proc))) && ((decide (((List.getD a.marks i default).number) = ((List.getD b.marks i default).number))) && ((((List.getD a.marks i default).gone) == ((List.getD b.marks i default).gone)) && true))))))],[(2,⟨26,.fix (cC a)⟩),(3,⟨26,.fix (cC b)⟩)],[2,3,999]⟩)
      (True ∧ (True ∧ True ∧ (Fits .i64 (((i + 1) : Nat) : Int))) ∧ True ∧ True)
      ⟨tt,⟨tt,tt,(by exact fits_i64 (by omega) (by omega))⟩,tt,tt⟩ ?_
     refine thenQ_normal ?_
     refine ⟨((i + 1)),(show ((i + 1) ≤ a.marks.length) ∧ (∀ j,j < (i + 1) → a.marks.getD j default = b.marks.getD j default) from ⟨(by first | assumption | omega | rfl | (intro _ hjj; omega) | (simp; done) | (simp; omega)),(by exact upto_succ hA (mark_same n30))⟩),(show a.marks.length - (i + 1) < a.marks.length - i from (by first | omega | (simp_all; omega))),?_⟩
     exact Sub.of [] (@cast (((((2 : Nat) = 2) ∧ ((0 : Nat) = 0) ∧ ((2 : Nat) ∈ ([2,3,999] : List Nat))) ∧ (((3 : Nat) = 3) ∧ ((0 : Nat) = 0) ∧ ((3 : Nat) ∈ ([2,3,999] : List Nat))) ∧ (Si (((i + 1) : Nat) : Int)) ∧ True) ∧ ((((26 : Nat) = 26) ∧ (Sc a) ∧ ((2 : Nat) ∈ ([2,3,999] : List Nat))) ∧ (((26 : Nat) = 26) ∧ (Sc b) ∧ ((3 : Nat) ∈ ([2,3,999] : List Nat))) ∧ True) ∧ (true = true) ∧ (true = true)) _ (by kernel_rfl) ⟨⟨⟨rfl,rfl,(by decide)⟩,⟨rfl,rfl,(by decide)⟩,rfl,tt⟩,⟨⟨rfl,⟨rfl,rfl,rfl,rfl,rfl,rfl,tt⟩,(by decide)⟩,⟨rfl,⟨rfl,rfl,rfl,rfl,rfl,rfl,tt⟩,(by decide)⟩,tt⟩,rfl,rfl⟩)
   ·intro n17
    refine W.exit (thenQ_exit (thenQ_exit (blockQ_hit ?_)))
    refine thenQ_normal ?_
    refine Kk cok tab21 hnt [] [4] (⟨[(4,.b (((((decide (a.up = b.up)) && (decide (a.down = b.down))) && (decide (a.value = b.value))) && (decide (a.time = b.time))) && (decide (a.proc = b.proc))))],[(2,⟨26,.fix (cC a)⟩),(3,⟨26,.fix (cC b)⟩)],[2,3,999]⟩)
     ((fun (Z1:Bool)=>((fun (Z2:Bool)=>((fun (Z3:Bool)=>((fun (Z4:Bool)=>(True ∧ (True ∧ (True ∧ (True ∧ ((True ∧ ((True ∧ (True ∧ True)) ∧ True)) ∧ (True ∧ ((Z1 = true → True) ∧ ((Z1 = true → ((Z1 = true) ∧ True)) ∧ ((Z1 = true → True) ∧ ((Z1 = true → ((Z1 = true) ∧ True)) ∧ ((Z1 = true → (True ∧ ((((Z1 = true) ∧ True) ∧ (((Z1 = true) ∧ True) ∧ True)) ∧ True))) ∧ ((True ∧ ((Z1 = true → (Z1 = true) ∧ True) ∧ (Z1 = false → True))) ∧ (True ∧ ((Z2 = true → True) ∧ ((Z2 = true → ((Z2 = true) ∧ True)) ∧ ((Z2 = true → True) ∧ ((Z2 = true → ((Z2 = true) ∧ True)) ∧ ((Z2 = true → (((Z2 = true) ∧ True) ∧ (((Z2 = true) ∧ True) ∧ True))) ∧ ((True ∧ ((Z2 = true → (Z2 = true) ∧ True) ∧ (Z2 = false → True))) ∧ (True ∧ ((Z3 = true → True) ∧ ((Z3 = true → ((Z3 = true) ∧ True)) ∧ ((Z3 = true → True) ∧ ((Z3 = true → ((Z3 = true) ∧ True)) ∧ ((Z3 = true → (((Z3 = true) ∧ True) ∧ (((Z3 = true) ∧ True) ∧ True))) ∧ ((True ∧ ((Z3 = true → (Z3 = true) ∧ True) ∧ (Z3 = false → True))) ∧ (True ∧ ((Z4 = true → True) ∧ ((Z4 = true → ((Z4 = true) ∧ True)) ∧ ((Z4 = true → True) ∧ ((Z4 = true → ((Z4 = true) ∧ True)) ∧ ((Z4 = true → (((Z4 = true) ∧ True) ∧ (((Z4 = true) ∧ True) ∧ True))) ∧ ((True ∧ ((Z4 = true → (Z4 = true) ∧ True) ∧ (Z4 = false → True))) ∧ (True ∧ True))))))))))))))))))))))))))))))))))) (Z3 && (decide (a.time = b.time))))) (Z2 && (decide (a.value = b.value))))) (Z1 && (decide (a.down = b.down))))) (decide (a.up = b.up)))
     ⟨tt,tt,tt,tt,⟨tt,⟨tt,tt,tt⟩,tt⟩,tt,(fun _ => trivial),(fun hG => ⟨hG,tt⟩),(fun _ => trivial),(fun hG => ⟨hG,tt⟩),(fun hG => ⟨tt,⟨⟨hG,tt⟩,⟨hG,tt⟩,tt⟩,tt⟩),⟨tt,(fun hp => ⟨hp,tt⟩),(fun _ => trivial)⟩,tt,(fun _ => trivial),(fun hG => ⟨hG,tt⟩),(fun _ => trivial),(fun hG => ⟨hG,tt⟩),(fun hG => ⟨⟨hG,tt⟩,⟨hG,tt⟩,tt⟩),⟨tt,(fun hp => ⟨hp,tt⟩),(fun _ => trivial)⟩,tt,(fun _ => trivial),(fun hG => ⟨hG,tt⟩),(fun _ => trivial),(fun hG => ⟨hG,tt⟩),(fun hG => ⟨⟨hG,tt⟩,⟨hG,tt⟩,tt⟩),⟨tt,(fun hp => ⟨hp,tt⟩),(fun _ => trivial)⟩,tt,(fun _ => trivial),(fun hG => ⟨hG,tt⟩),(fun _ => trivial),(fun hG => ⟨hG,tt⟩),(fun hG => ⟨⟨hG,tt⟩,⟨hG,tt⟩,tt⟩),⟨tt,(fun hp => ⟨hp,tt⟩),(fun _ => trivial)⟩,tt,tt⟩ ?_
    refine W.ret ?_
    exact endQ_ret (.b (((((decide (a.up = b.up)) && (decide (a.down = b.down))) && (decide (a.value = b.value))) && (decide (a.time = b.time))) && (decide (a.proc = b.proc)))) (by kernel_rfl) (@cast ((.bool (((((decide (a.up = b.up)) && (decide (a.down = b.down))) && (decide (a.value = b.value))) && (decide (a.time = b.time))) && (decide (a.proc = b.proc))) : Value) = .bool (sameC a b)) _ (by kernel_rfl) (congrArg Value.bool (by exact same_yes (marks_ext (by omega) (fun j hj => hA j (by omega))))))
theorem ent21 : Entr prog 21 := ⟨_,func21,rfl,by decide⟩
end Go.Proofs.Try

set_option linter.unusedSimpArgs false
set_option linter.unusedVariables false
namespace Go.Proofs.Try
open Go.Ab Go.RowKit
def pre51x : List AV → List AV → Prop := preP [.int] [.bytes,.int] (fun (n,_) (l,p,_) => (0 ≤ p ∧ p ≤ 1000000))
def rel51x : RelS := relP [.int] [.bytes,.int] (ι := Unit) (fun (n,_) (l,p,_) _ => True) (fun (n,_) (l,p,_) _ => (.i (pickV l p n),[],[.sl (.bytes l),.i (p + 1)]))
abbrev T51x : Tab := lk []
theorem tab51x : TabOK prog T51x := TabOK.nil
set_option maxRecDepth 100000 in
set_option maxHeartbeats 1000000 in
theorem rok51x : RelOK prog 51 (some 69) [.o] pre51x rel51x := by
 refine RelOK.mk cok func51 rfl rfl rfl ?_
 rintro ⟨(n : Int),_⟩ ⟨(l : List UInt8),(p : Int),_⟩ hpre F hnt0
 have hnt : F.nt = 99 := hnt0.trans ntmps51
 replace hpre : (0 ≤ p ∧ p ≤ 1000000) := hpre
 have hp := hpre
 refine W.to (⟨[(0,.ptr 998 0),(1,.i n)],[(998,⟨69,.fix [.sl (.bytes l),.i p]⟩)],[998,999]⟩) rfl ?_
 have hu : ∀ i : Nat,((UInt8.toNat (l.getD i default) : Nat) : Int) ≤ 255 := fun i => by have := (l.getD i default).toNat_lt; omega
 refine Kk cok tab51x hnt [] [0,1] (⟨[(0,.ptr 998 0),(1,.i n)],[(998,⟨69,.fix [.sl (.bytes l),.i p]⟩)],[998,999]⟩)
  (True ∧ True)
  ⟨tt,tt⟩ ?_
 refine Kk cok tab51x hnt [] [0,1] (⟨[(0,.ptr 998 0),(1,.i n)],[(998,⟨69,.fix [.sl (.bytes l),.i (p + (1 : Int))]⟩)],[998,999]⟩)
  (True ∧ True ∧ True ∧ True ∧ True ∧ (True ∧ True ∧ (Fits .i64 (p + (1 : Int)))) ∧ True ∧ True ∧ (True ∧ True) ∧ True)
  ⟨tt,tt,tt,tt,tt,⟨tt,tt,(by exact fits_i64 (by omega) (by omega))⟩,tt,tt,⟨tt,tt⟩,tt⟩ ?_
 refine W.seq ?_
 refine Kk cok tab51x hnt [] [0,1,24] (⟨[(0,.ptr 998 0),(1,.i n),(24,.b ((decide (n < (1 : Int))) || (decide ((l.length : Int) = (0 : Int)))))],[(998,⟨69,.fix [.sl (.bytes l),.i (p + (1 : Int))]⟩)],[998,999]⟩)
  ((fun (Z1:Bool)=>(True ∧ ((True ∧ (True ∧ True)) ∧ (True ∧ (((!Z1) = true → True) ∧ (((!Z1) = true → (((!Z1) = true) ∧ True)) ∧ (((!Z1) = true → (((!Z1) = true) ∧ True)) ∧ (((!Z1) = true → (((!Z1) = true) ∧ True)) ∧ (((!Z1) = true → (((!Z1) = true) ∧ True)) ∧ (((!Z1) = true → ((((!Z1) = true) ∧ True) ∧ (True ∧ True))) ∧ ((True ∧ ((Z1 = true → True) ∧ (Z1 = false → ((!Z1) = true) ∧ True))) ∧ True))))))))))) (decide (n < (1 : Int))))
  ⟨tt,⟨tt,tt,tt⟩,tt,(fun _ => trivial),(fun hG => ⟨hG,tt⟩),(fun hG => ⟨hG,tt⟩),(fun hG => ⟨hG,tt⟩),(fun hG => ⟨hG,tt⟩),(fun hG => ⟨⟨hG,tt⟩,tt,tt⟩),⟨tt,(fun _ => trivial),(fun hp => ⟨(not_t hp),tt⟩)⟩,tt⟩ ?_
 refine W.if' ((decide (n < (1 : Int))) || (decide ((l.length : Int) = (0 : Int)))) (.b ((decide (n < (1 : Int))) || (decide ((l.length : Int) = (0 : Int))))) (by kernel_rfl) rfl trivial ?_ ?_
 ·intro h24
  refine Kk cok tab51x hnt [] [4] (⟨[(4,.i (0 : Int))],[(998,⟨69,.fix [.sl (.bytes l),.i (p + (1 : Int))]⟩)],[998,999]⟩)
   (True ∧ True)
   ⟨tt,tt⟩ ?_
  refine W.ret (thenQ_ret ?_)
  exact endP_ret () (show True from trivial) [(0,998)] (.i (0 : Int)) (by kernel_rfl) (@cast (((.int .i64 (0 : Int) : Value) = .int .i64 (pickV l p n)) ∧ ((((69 : Nat) = 69) ∧ ((Sd (.bytes l)) ∧ ((.int .i64 (p + (1 : Int)) : Value) = .int .i64 (p + 1)) ∧ True) ∧ ((0 : Nat) ∈ ([0] : List Nat))) ∧ True) ∧ (true = true) ∧ ((([] : List Nat) = []) ∧ True) ∧ (true = true → (998 : Nat) = 998)) _ (by kernel_rfl) ⟨(congrArg (Value.int .i64) (by first | rfl | omega | assumption | (exact pickV_0 h24; done) | simp | simp_all)),⟨⟨rfl,⟨rfl,(congrArg (Value.int .i64) (by first | rfl | omega | assumption | simp | simp_all)),tt⟩,(by decide)⟩,tt⟩,rfl,⟨rfl,tt⟩,(fun _ => rfl)⟩)
 ·intro n24
  have n24_0 : ¬ (n < (1 : Int)) := of_decide_eq_false (or_l n24)
  have n24_1 : ¬ ((l.length : Int) = (0 : Int)) := of_decide_eq_false (or_r n24)
  refine W.skip (thenQ_normal ?_)
  refine Kk cok tab51x hnt [] [0,1,5] (⟨[(0,.ptr 998 0),(1,.i n),(5,.i ((p + (1 : Int)) - (1 : Int)))],[(998,⟨69,.fix [.sl (.bytes l),.i (p + (1 : Int))]⟩)],[998,999]⟩)
   (True ∧ True ∧ True ∧ True ∧ (True ∧ True ∧ (Fits .i64 ((p + (1 : Int)) - (1 : Int)))) ∧ True ∧ True)
   ⟨tt,tt,tt,tt,⟨tt,tt,(by exact fits_i64 (by omega) (by omega))⟩,tt,tt⟩ ?_
  refine W.seq ?_
  refine Kk cok tab51x hnt [] [0,1,5,36] (⟨[(0,.ptr 998 0),(1,.i n),(5,.i ((p + (1 : Int)) - (1 : Int))),(36,.b (decide (((p + (1 : Int)) - (1 : Int)) < (l.length : Int))))],[(998,⟨69,.fix [.sl (.bytes l),.i (p + (1 : Int))]⟩)],[998,999]⟩)
   (True ∧ True ∧ True ∧ True ∧ True ∧ True ∧ (True ∧ True ∧ True) ∧ True)
   ⟨tt,tt,tt,tt,tt,tt,⟨tt,tt,tt⟩,tt⟩ ?_
  refine W.ifP (((p + (1 : Int)) - (1 : Int)) < (l.length : Int)) (.b (decide (((p + (1 : Int)) - (1 : Int)) < (l.length : Int)))) (by kernel_rfl) rfl trivial ?_ ?_
  ·intro h36
   have hu1 := hu (Int.toNat (p + 1 - 1))
   refine Kk cok tab51x hnt [] [4] (⟨[(4,.i (Int.tmod (((UInt8.toNat (l.getD (Int.toNat ((p + (1 : Int)) - (1 : Int))) default)) : Nat) : Int) n))],[(998,⟨69,.fix [.sl (.bytes l),.i (p + (1 : Int))]⟩)],[998,999]⟩)
    (True ∧ True ∧ True ∧ True ∧ True ∧ (True ∧ True ∧ (0 ≤ ((p + (1 : Int)) - (1 : Int))) ∧ (((p + (1 : Int)) - (1 : Int)) < (l.length : Int))) ∧ True ∧ (True ∧ (Fits .i64 (((UInt8.toNat (l.getD (Int.toNat ((p + (1 : Int)) - (1 : Int))) default)) : Nat) : Int))) ∧ True ∧ (True ∧ True ∧ (n ≠ 0)) ∧ True ∧ True)
    ⟨tt,tt,tt,tt,tt,⟨tt,tt,(by omega),(by omega)⟩,tt,⟨tt,(by exact fits_i64 (by (first | omega | (simp only [List.length_set]; done) | (simp only [List.length_append,List.length_cons,List.length_nil,List.length_take,List.length_drop,List.length_set,List.length_replicate,List.length_map] at *; omega) | assumption)) (by (first | omega | (simp only [List.length_set]; done) | (simp only [List.length_append,List.length_cons,List.length_nil,List.length_take,List.length_drop,List.length_set,List.length_replicate,List.length_map] at *; omega) | assumption)))⟩,tt,⟨tt,tt,(by omega)⟩,tt,tt⟩ ?_
   refine W.ret (thenQ_ret ?_)
   exact endP_ret () (show True from trivial) [(0,998)] (.i (Int.tmod (((UInt8.toNat (l.getD (Int.toNat ((p + (1 : Int)) - (1 : Int))) default)) : Nat) : Int) n)) (by kernel_rfl) (@cast (((.int .i64 (Int.tmod (((UInt8.toNat (l.getD (Int.toNat ((p + (1 : Int)) - (1 : Int))) default)) : Nat) : Int) n) : Value) = .int .i64 (pickV l p n)) ∧ ((((69 : Nat) = 69) ∧ ((Sd (.bytes l)) ∧ ((.int .i64 (p + (1 : Int)) : Value) = .int .i64 (p + 1)) ∧ True) ∧ ((0 : Nat) ∈ ([0] : List Nat))) ∧ True) ∧ (true = true) ∧ ((([] : List Nat) = []) ∧ True) ∧ (true = true → (998 : Nat) = 998)) _ (by kernel_rfl) ⟨(congrArg (Value.int .i64) (by first | rfl | omega | assumption | (exact pickV_1 n24 h36; done) | simp | simp_all)),⟨⟨rfl,⟨rfl,(congrArg (Value.int .i64) (by first | rfl | omega | assumption | simp | simp_all)),tt⟩,(by decide)⟩,tt⟩,rfl,⟨rfl,tt⟩,(fun _ => rfl)⟩)
  ·intro n36
   refine W.skip (thenQ_normal ?_)
   have hl0 : 0 < (List.length l : Int) := by omega
   have hm1 := Int.tmod_lt_of_pos (p + 1 - 1) hl0
   have hm2 := Int.tmod_nonneg (List.length l : Int) (show 0 ≤ p + 1 - 1 by omega)
   have hm3 := Int.tmod_lt_of_pos ((p + 1 - 1) * 7 + 3) hl0
   have hm4 := Int.tmod_nonneg (List.length l : Int) (show 0 ≤ (p + 1 - 1) * 7 + 3 by omega)
   have hd1 : 0 ≤ Int.tdiv (p + 1 - 1) (List.length l : Int) := Int.tdiv_nonneg (by omega) (by omega)
   have hd2 : Int.tdiv (p + 1 - 1) (List.length l : Int) ≤ p + 1 - 1 := Int.tdiv_le_self _ (by omega)
   have hu2 := hu (Int.toNat (Int.tmod (p + 1 - 1) (List.length l : Int)))
   have hu3 := hu (Int.toNat (Int.tmod ((p + 1 - 1) * 7 + 3) (List.length l : Int)))
   refine W.KA cok tab51x hnt [] [1,6] (⟨[(1,.i n),(6,.i (((((((UInt8.toNat (l.getD (Int.toNat (Int.tmod ((p + (1 : Int)) - (1 : Int)) (l.length : Int))) default)) : Nat) : Int) * (131 : Int)) + ((((UInt8.toNat (l.getD (Int.toNat (Int.tmod ((((p + (1 : Int)) - (1 : Int)) * (7 : Int)) + (3 : Int)) (l.length : Int))) default)) : Nat) : Int) * (1117 : Int))) + (((p + (1 : Int)) - (1 : Int)) * (29 : Int))) + ((Int.tdiv ((p + (1 : Int)) - (1 : Int)) (l.length : Int)) * (53 : Int))))],[(998,⟨69,.fix [.sl (.bytes l),.i (p + (1 : Int))]⟩)],[998,999]⟩)
    (True ∧ True ∧ True ∧ True ∧ True ∧ True ∧ True ∧ True ∧ True ∧ True ∧ (True ∧ True ∧ ((l.length : Int) ≠ 0)) ∧ (True ∧ True ∧ (0 ≤ (Int.tmod ((p + (1 : Int)) - (1 : Int)) (l.length : Int))) ∧ ((Int.tmod ((p + (1 : Int)) - (1 : Int)) (l.length : Int)) < (l.length : Int))) ∧ True ∧ (True ∧ (Fits .i64 (((UInt8.toNat (l.getD (Int.toNat (Int.tmod ((p + (1 : Int)) - (1 : Int)) (l.length : Int))) default)) : Nat) : Int))) ∧ (True ∧ True ∧ (Fits .i64 ((((UInt8.toNat (l.getD (Int.toNat (Int.tmod ((p + (1 : Int)) - (1 : Int)) (l.length : Int))) default)) : Nat) : Int) * (131 : Int)))) ∧ True ∧ True ∧ True ∧ True ∧ True ∧ (True ∧ True ∧ (Fits .i64 (((p + (1 : Int)) - (1 : Int)) * (7 : Int)))) ∧ (True ∧ True ∧ (Fits .i64 ((((p + (1 : Int)) - (1 : Int)) * (7 : Int)) + (3 : Int)))) ∧ True ∧ True ∧ True ∧ True ∧ True ∧ (True ∧ True ∧ ((l.length : Int) ≠ 0)) ∧ (True ∧ True ∧ (0 ≤ (Int.tmod ((((p + (1 : Int)) - (1 : Int)) * (7 : Int)) + (3 : Int)) (l.length : Int))) ∧ ((Int.tmod ((((p + (1 : Int)) - (1 : Int)) * (7 : Int)) + (3 : Int)) (l.length : Int)) < (l.length : Int))) ∧ True ∧ (True ∧ (Fits .i64 (((UInt8.toNat (l.getD (Int.toNat (Int.tmod ((((p + (1 : Int)) - (1 : Int)) * (7 : Int)) + (3 : Int)) (l.length : Int))) default)) : Nat) : Int))) ∧ (True ∧ True ∧ (Fits .i64 ((((UInt8.toNat (l.getD (Int.toNat (Int.tmod ((((p + (1 : Int)) - (1 : Int)) * (7 : Int)) + (3 : Int)) (l.length : Int))) default)) : Nat) : Int) * (1117 : Int)))) ∧ (True ∧ True ∧ (Fits .i64 (((((UInt8.toNat (l.getD (Int.toNat (Int.tmod ((p + (1 : Int)) - (1 : Int)) (l.length : Int))) default)) : Nat) : Int) * (131 : Int)) + ((((UInt8.toNat (l.getD (Int.toNat (Int.tmod ((((p + (1 : Int)) - (1 : Int)) * (7 : Int)) + (3 : Int)) (l.length : Int))) default)) : Nat) : Int) * (1117 : Int))))) ∧ True ∧ (True ∧ True ∧ (Fits .i64 (((p + (1 : Int)) - (1 : Int)) * (29 : Int)))) ∧ (True ∧ True ∧ (Fits .i64 ((((((UInt8.toNat (l.getD (Int.toNat (Int.tmod ((p + (1 : Int)) - (1 : Int)) (l.length : Int))) default)) : Nat) : Int) * (131 : Int)) + ((((UInt8.toNat (l.getD (Int.toNat (Int.tmod ((((p + (1 : Int)) - (1 : Int)) * (7 : Int)) + (3 : Int)) (l.length : Int))) default)) : Nat) : Int) * (1117 : Int))) + (((p + (1 : Int)) - (1 : Int)) * (29 : Int))))) ∧ True ∧ True ∧ True ∧ True ∧ True ∧ True ∧ (True ∧ True ∧ ((l.length : Int) ≠ 0) ∧ (Fits .i64 (Int.tdiv ((p + (1 : Int)) - (1 : Int)) (l.length : Int)))) ∧ (True ∧ True ∧ (Fits .i64 ((Int.tdiv ((p + (1 : Int)) - (1 : Int)) (l.length : Int)) * (53 : Int)))) ∧ (True ∧ True ∧ (Fits .i64 (((((((UInt8.toNat (l.getD (Int.toNat (Int.tmod ((p + (1 : Int)) - (1 : Int)) (l.length : Int))) default)) : Nat) : Int) * (131 : Int)) + ((((UInt8.toNat (l.getD (Int.toNat (Int.tmod ((((p + (1 : Int)) - (1 : Int)) * (7 : Int)) + (3 : Int)) (l.length : Int))) default)) : Nat) : Int) * (1117 : Int))) + (((p + (1 : Int)) - (1 : Int)) * (29 : Int))) + ((Int.tdiv ((p + (1 : Int)) - (1 : Int)) (l.length : Int)) * (53 : Int))))) ∧ True ∧ True) (by kernel_rfl) (by kernel_rfl)
    ⟨tt,tt,tt,tt,tt,tt,tt,tt,tt,tt,⟨tt,tt,(by omega)⟩,⟨tt,tt,(by omega),(by omega)⟩,tt,⟨tt,(by exact fits_i64 (by (first | omega | (simp only [List.length_set]; done) | (simp only [List.length_append,List.length_cons,List.length_nil,List.length_take,List.length_drop,List.length_set,List.length_replicate,List.length_map] at *; omega) | assumption)) (by (first | omega | (simp only [List.length_set]; done) | (simp only [List.length_append,List.length_cons,List.length_nil,List.length_take,List.length_drop,List.length_set,List.length_replicate,List.length_map] at *; omega) | assumption)))⟩,⟨tt,tt,(by exact fits_i64 (by (first | omega | (simp only [List.length_set]; done) | (simp only [List.length_append,List.length_cons,List.length_nil,List.length_take,List.length_drop,List.length_set,List.length_replicate,List.length_map] at *; omega) | assumption)) (by (first | omega | (simp only [List.length_set]; done) | (simp only [List.length_append,List.length_cons,List.length_nil,List.length_take,List.length_drop,List.length_set,List.length_replicate,List.length_map] at *; omega) | assumption)))⟩,tt,tt,tt,tt,tt,⟨tt,tt,(by exact fits_i64 (by omega) (by omega))⟩,⟨tt,tt,(by exact fits_i64 (by omega) (by omega))⟩,tt,tt,tt,tt,tt,⟨tt,tt,(by omega)⟩,⟨tt,tt,(by omega),(by omega)⟩,tt,⟨tt,(by exact fits_i64 (by (first | omega | (simp only [List.length_set]; done) | (simp only [List.length_append,List.length_cons,List.length_nil,List.length_take,List.length_drop,List.length_set,List.length_replicate,List.length_map] at *; omega) | assumption)) (by (first | omega | (simp only [List.length_set]; done) | (simp only [List.length_append,List.length_cons,List.length_nil,List.length_take,List.length_drop,List.length_set,List.length_replicate,List.length_map] at *; omega) | assumption)))⟩,⟨tt,tt,(by exact fits_i64 (by (first | omega | (simp only [List.length_set]; done) | (simp only [List.length_append,List.length_cons,List.length_nil,List.length_take,List.length_drop,List.length_set,List.length_replicate,List.length_map] at *; omega) | assumption)) (by (first | omega | (simp only [List.length_set]; done) | (simp only [List.length_append,List.length_cons,List.length_nil,List.length_take,List.length_drop,List.length_set,List.length_replicate,List.length_map] at *; omega) | assumption)))⟩,⟨tt,tt,(by exact fits_i64 (by (first | omega | (simp only [List.length_set]; done) | (simp only [List.length_append,List.length_cons,List.length_nil,List.length_take,List.length_drop,List.length_set,List.length_replicate,List.length_map] at *; omega) | assumption)) (by (first | omega | (simp only [List.length_set]; done) | (simp only [List.length_append,List.length_cons,List.length_nil,List.length_take,List.length_drop,List.length_set,List.length_replicate,List.length_map] at *; omega) | assumption)))⟩,tt,⟨tt,tt,(by exact fits_i64 (by omega) (by omega))⟩,⟨tt,tt,(by exact fits_i64 (by (first | omega | (simp only [List.length_set]; done) | (simp only [List.length_append,List.length_cons,List.length_nil,List.length_take,List.length_drop,List.length_set,List.length_replicate,List.length_map] at *; omega) | assumption)) (by (first | omega | (simp only [List.length_set]; done) | (simp only [List.length_append,List.length_cons,List.length_nil,List.length_take,List.length_drop,List.length_set,List.length_replicate,List.length_map] at *; omega) | assumption)))⟩,tt,tt,tt,tt,tt,tt,⟨tt,tt,(by omega),(by exact fits_i64 (by omega) (by omega))⟩,⟨tt,tt,(by exact fits_i64 (by omega) (by omega))⟩,⟨tt,tt,(by exact fits_i64 (by (first | omega | (simp only [List.length_set]; done) | (simp only [List.length_append,List.length_cons,List.length_nil,List.length_take,List.length_drop,List.length_set,List.length_replicate,List.length_map] at *; omega) | assumption)) (by (first | omega | (simp only [List.length_set]; done) | (simp only [List.length_append,List.length_cons,List.length_nil,List.length_take,List.length_drop,List.length_set,List.length_replicate,List.length_map] at *; omega) | assumption)))⟩,tt,tt⟩ ?_
   refine Kk cok tab51x hnt [] [1,6] (⟨[(1,.i n),(6,.i (bitsI .xor .i64 (((((((UInt8.toNat (l.getD (Int.toNat (Int.tmod ((p + (1 : Int)) - (1 : Int)) (l.length : Int))) default)) : Nat) : Int) * (131 : Int)) + ((((UInt8.toNat (l.getD (Int.toNat (Int.tmod ((((p + (1 : Int)) - (1 : Int)) * (7 : Int)) + (3 : Int)) (l.length : Int))) default)) : Nat) : Int) * (1117 : Int))) + (((p + (1 : Int)) - (1 : Int)) * (29 : Int))) + ((Int.tdiv ((p + (1 : Int)) - (1 : Int)) (l.length : Int)) * (53 : Int))) (Int.tdiv (((((((UInt8.toNat (l.getD (Int.toNat (Int.tmod ((p + (1 : Int)) - (1 : Int)) (l.length : Int))) default)) : Nat) : Int) * (131 : Int)) + ((((UInt8.toNat (l.getD (Int.toNat (Int.tmod ((((p + (1 : Int)) - (1 : Int)) * (7 : Int)) + (3 : Int)) (l.length : Int))) default)) : Nat) : Int) * (1117 : Int))) + (((p + (1 : Int)) - (1 : Int)) * (29 : Int))) + ((Int.tdiv ((p + (1 : Int)) - (1 : Int)) (l.length : Int)) * (53 : Int))) (64 : Int))))],[(998,⟨69,.fix [.sl (.bytes l),.i (p + (1 : Int))]⟩)],[998,999]⟩)
    (True ∧ True ∧ (True ∧ True ∧ ((64 : Int) ≠ 0) ∧ (Fits .i64 (Int.tdiv (((((((UInt8.toNat (l.getD (Int.toNat (Int.tmod ((p + (1 : Int)) - (1 : Int)) (l.length : Int))) default)) : Nat) : Int) * (131 : Int)) + ((((UInt8.toNat (l.getD (Int.toNat (Int.tmod ((((p + (1 : Int)) - (1 : Int)) * (7 : Int)) + (3 : Int)) (l.length : Int))) default)) : Nat) : Int) * (1117 : Int))) + (((p + (1 : Int)) - (1 : Int)) * (29 : Int))) + ((Int.tdiv ((p + (1 : Int)) - (1 : Int)) (l.length : Int)) * (53 : Int))) (64 : Int)))) ∧ (True ∧ True ∧ True) ∧ True ∧ True)
    ⟨tt,tt,⟨tt,tt,(by decide),(by exact fits_i64 (Int.le_trans (by omega) (Int.tdiv_nonneg (by omega) (by omega))) (Int.le_trans (Int.tdiv_le_self _ (by omega)) (by omega)))⟩,⟨tt,tt,tt⟩,tt,tt⟩ ?_
   refine Kk cok tab51x hnt [] [4] (⟨[(4,.i (Int.tmod (bitsI .xor .i64 (((((((UInt8.toNat (l.getD (Int.toNat (Int.tmod ((p + (1 : Int)) - (1 : Int)) (l.length : Int))) default)) : Nat) : Int) * (131 : Int)) + ((((UInt8.toNat (l.getD (Int.toNat (Int.tmod ((((p + (1 : Int)) - (1 : Int)) * (7 : Int)) + (3 : Int)) (l.length : Int))) default)) : Nat) : Int) * (1117 : Int))) + (((p + (1 : Int)) - (1 : Int)) * (29 : Int))) + ((Int.tdiv ((p + (1 : Int)) - (1 : Int)) (l.length : Int)) * (53 : Int))) (Int.tdiv (((((((UInt8.toNat (l.getD (Int.toNat (Int.tmod ((p + (1 : Int)) - (1 : Int)) (l.length : Int))) default)) : Nat) : Int) * (131 : Int)) + ((((UInt8.toNat (l.getD (Int.toNat (Int.tmod ((((p + (1 : Int)) - (1 : Int)) * (7 : Int)) + (3 : Int)) (l.length : Int))) default)) : Nat) : Int) * (1117 : Int))) + (((p + (1 : Int)) - (1 : Int)) * (29 : Int))) + ((Int.tdiv ((p + (1 : Int)) - (1 : Int)) (l.length : Int)) * (53 : Int))) (64 : Int))) n))],[(998,⟨69,.fix [.sl (.bytes l),.i (p + (1 : Int))]⟩)],[998,999]⟩)
    (True ∧ True ∧ (True ∧ True ∧ (n ≠ 0)) ∧ True ∧ True)
    ⟨tt,tt,⟨tt,tt,(by omega)⟩,tt,tt⟩ ?_
   refine W.ret ?_
   exact endP_ret () (show True from trivial) [(0,998)] (.i (Int.tmod (bitsI .xor .i64 (((((((UInt8.toNat (l.getD (Int.toNat (Int.tmod ((p + (1 : Int)) - (1 : Int)) (l.length : Int))) default)) : Nat) : Int) * (131 : Int)) + ((((UInt8.toNat (l.getD (Int.toNat (Int.tmod ((((p + (1 : Int)) - (1 : Int)) * (7 : Int)) + (3 : Int)) (l.length : Int))) default)) : Nat) : Int) * (1117 : Int))) + (((p + (1 : Int)) - (1 : Int)) * (29 : Int))) + ((Int.tdiv ((p + (1 : Int)) - (1 : Int)) (l.length : Int)) * (53 : Int))) (Int.tdiv (((((((UInt8.toNat (l.getD (Int.toNat (Int.tmod ((p + (1 : Int)) - (1 : Int)) (l.length : Int))) default)) : Nat) : Int) * (131 : Int)) + ((((UInt8.toNat (l.getD (Int.toNat (Int.tmod ((((p + (1 : Int)) - (1 : Int)) * (7 : Int)) + (3 : Int)) (l.length : Int))) default)) : Nat) : Int) * (1117 : Int))) + (((p + (1 : Int)) - (1 : Int)) * (29 : Int))) + ((Int.tdiv ((p + (1 : Int)) - (1 : Int)) (l.length : Int)) * (53 : Int))) (64 : Int))) n)) (by kernel_rfl) (@cast (((.int .i64 (Int.tmod (bitsI .xor .i64 (((((((UInt8.toNat (l.getD (Int.toNat (Int.tmod ((p + (1 : Int)) - (1 : Int)) (l.length : Int))) default)) : Nat) : Int) * (131 : Int)) + ((((UInt8.toNat (l.getD (Int.toNat (Int.tmod ((((p + (1 : Int)) - (1 : Int)) * (7 : Int)) + (3 : Int)) (l.length : Int))) default)) : Nat) : Int) * (1117 : Int))) + (((p + (1 : Int)) - (1 : Int)) * (29 : Int))) + ((Int.tdiv ((p + (1 : Int)) - (1 : Int)) (l.length : Int)) * (53 : Int))) (Int.tdiv (((((((UInt8.toNat (l.getD (Int.toNat (Int.tmod ((p + (1 : Int)) - (1 : Int)) (l.length : Int))) default)) : Nat) : Int) * (131 : Int)) + ((((UInt8.toNat (l.getD (Int.toNat (Int.tmod ((((p + (1 : Int)) - (1 : Int)) * (7 : Int)) + (3 : Int)) (l.length : Int))) default)) : Nat) : Int) * (1117 : Int))) + (((p + (1 : Int)) - (1 : Int)) * (29 : Int))) + ((Int.tdiv ((p + (1 : Int)) - (1 : Int)) (l.length : Int)) * (53 : Int))) (64 : Int))) n) : Value) = .int .i64 (pickV l p n)) ∧ ((((69 : Nat) = 69) ∧ ((Sd (.bytes l)) ∧ ((.int .i64 (p + (1 : Int)) : Value) = .int .i64 (p + 1)) ∧ True) ∧ ((0 : Nat) ∈ ([0] : List Nat))) ∧ True) ∧ (true = true) ∧ ((([] : List Nat) = []) ∧ True) ∧ (true = true → (998 : Nat) = 998)) _ (by kernel_rfl) ⟨(congrArg (Value.int .i64) (by first | rfl | omega | assumption | (exact pickV_2 n24 n36 rfl; done) | simp | simp_all)),⟨⟨rfl,⟨rfl,(congrArg (Value.int .i64) (by first | rfl | omega | assumption | simp | simp_all)),tt⟩,(by decide)⟩,tt⟩,rfl,⟨rfl,tt⟩,(fun _ => rfl)⟩)
theorem ent51x : Entr prog 51 := ⟨_,func51,rfl,by decide⟩
def fs51x : FnS := fnP 69 [.o] [.int] [.bytes,.int] (fun (n,_) (l,p,_) => (0 ≤ p ∧ p ≤ 1000000)) (fun (n,_) (l,p,_) _ => (.i (pickV l p n),[],[.sl (.bytes l),.i (p + 1)]))
theorem ok51x : FnX prog 51 fs51x := FnX.mk rok51x (fun _ _ => rfl)
end Go.Proofs.Try

set_option linter.unusedSimpArgs false
set_option linter.unusedVariables false
namespace Go.Proofs.Try
open Go.Ab Go.RowKit
def pre42x : List AV → List AV → Prop := preP [.ints] [.bytes,.int] (fun (xs,_) (l,p,_) => (0 ≤ p ∧ p ≤ 1000000) ∧ (0 < xs.length) ∧ (xs.length ≤ 1000))
def rel42x : RelS := relP [.ints] [.bytes,.int] (ι := Unit) (fun (xs,_) (l,p,_) _ => True) (fun (xs,_) (l,p,_) _ => (.i (oneV l p xs),[],[.sl (.bytes l),.i (p + 1)]))
abbrev T42x : Tab := lk [(51,fs51x)]
theorem tab42x : TabOK prog T42x := (TabOK.cons ok51x ent51x TabOK.nil)
set_option maxRecDepth 100000 in
set_option maxHeartbeats 1000000 in
theorem rok42x : RelOK prog 42 (some 69) [.s .ints] pre42x rel42x := by
 refine RelOK.mk cok func42 rfl rfl rfl ?_
 rintro ⟨(xs : List Int),_⟩ ⟨(l : List UInt8),(p : Int),_⟩ hpre F hnt0
 have hnt : F.nt = 12 := hnt0.trans ntmps42
 replace hpre : (0 ≤ p ∧ p ≤ 1000000) ∧ (0 < xs.length) ∧ (xs.length ≤ 1000) := hpre
 obtain ⟨hp,hx,hx2⟩ := hpre
 refine W.to (⟨[(0,.ptr 998 0),(1,.sl (.ints xs))],[(998,⟨69,.fix [.sl (.bytes l),.i p]⟩)],[998,999]⟩) rfl ?_
 refine Kk cok tab42x hnt [] [0,1] (⟨[(0,.ptr 998 0),(1,.sl (.ints xs))],[(998,⟨69,.fix [.sl (.bytes l),.i p]⟩)],[998,999]⟩)
  (True ∧ True)
  ⟨tt,tt⟩ ?_
 refine Kk cok tab42x hnt [] [4] (⟨[(4,.i (xs.getD (Int.toNat (pickV l p (xs.length : Int))) 0))],[(998,⟨69,.fix [.sl (.bytes l),.i (p + 1)]⟩)],[9,998,999]⟩)
  (True ∧ True ∧ True ∧ True ∧ (True ∧ True ∧ (True ∧ True) ∧ 0 ≤ p ∧ p ≤ 1000000) ∧ (True ∧ True ∧ (0 ≤ (pickV l p (xs.length : Int))) ∧ ((pickV l p (xs.length : Int)) < (xs.length : Int))) ∧ True ∧ True ∧ True)
  ⟨tt,tt,tt,tt,⟨tt,tt,⟨tt,tt⟩,(by omega)⟩,⟨tt,tt,(by have h9 := pickV_bnd (l := l) (n := (xs.length : Int)) hp; omega),(by have h9 := pickV_bnd (l := l) (n := (xs.length : Int)) hp; omega)⟩,tt,tt,tt⟩ ?_
 refine W.ret ?_
 exact endP_ret () (show True from trivial) [(0,998)] (.i (xs.getD (Int.toNat (pickV l p (xs.length : Int))) 0)) (by kernel_rfl) (@cast (((.int .i64 (xs.getD (Int.toNat (pickV l p (xs.length : Int))) 0) : Value) = .int .i64 (oneV l p xs)) ∧ ((((69 : Nat) = 69) ∧ ((Sd (.bytes l)) ∧ (Si (p + 1)) ∧ True) ∧ ((0 : Nat) ∈ ([0] : List Nat))) ∧ True) ∧ (true = true) ∧ ((([] : List Nat) = []) ∧ True) ∧ (true = true → (998 : Nat) = 998)) _ (by kernel_rfl) ⟨(congrArg (Value.int .i64) (by first | rfl | omega | assumption | (rfl; done) | simp | simp_all)),⟨⟨rfl,⟨rfl,rfl,tt⟩,(by decide)⟩,tt⟩,rfl,⟨rfl,tt⟩,(fun _ => rfl)⟩)
theorem ent42x : Entr prog 42 := ⟨_,func42,rfl,by decide⟩
def fs42x : FnS := fnP 69 [.s .ints] [.ints] [.bytes,.int] (fun (xs,_) (l,p,_) => (0 ≤ p ∧ p ≤ 1000000) ∧ (0 < xs.length) ∧ (xs.length ≤ 1000)) (fun (xs,_) (l,p,_) _ => (.i (oneV l p xs),[],[.sl (.bytes l),.i (p + 1)]))
theorem ok42x : FnX prog 42 fs42x := FnX.mk rok42x (fun _ _ => rfl)
end Go.Proofs.Try
