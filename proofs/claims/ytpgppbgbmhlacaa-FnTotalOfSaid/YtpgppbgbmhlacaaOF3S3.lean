import Derived.Test.YtpgppbgbmhlacaaOF3S0
import Derived.Test.YtpgppbgbmhlacaaOF3S1
set_option linter.unusedSimpArgs false
set_option linter.unusedVariables false
namespace Go.Proofs.Try
open Go.Ab Go.RowKit
def fs46 : FnS := fnS [.a [some .ints,some .ints,none,none,none,some .marks]] [.copy] (fun _ (c,_) => (.agg [.own 0 (List.length c.up),.own 1 (List.length c.down),.i c.value,.i c.time,.i c.proc,.own 2 (List.length c.marks)],[(3,.ints c.up),(3,.ints c.down),(52,.marks c.marks)],(c.up.length ≤ 1000 ∧ c.down.length ≤ 1000 ∧ c.marks.length ≤ 1000)))
abbrev T46 : Tab := lk []
theorem tab46 : TabOK prog T46 := TabOK.nil
set_option maxRecDepth 100000 in
set_option maxHeartbeats 1000000 in
theorem ok46 : FnOK prog 46 fs46 := by
 refine FnOK.mk cok func46 rfl rfl rfl ?_
 rintro fl ⟨(c : CopyD),_⟩ hpre F hnt0 _
 have hnt : F.nt = 22 := hnt0.trans ntmps46
 replace hpre : (c.up.length ≤ 1000 ∧ c.down.length ≤ 1000 ∧ c.marks.length ≤ 1000) := hpre
 have hs := hpre
 refine W.to (⟨[(0,.agg [.sl (.ints c.up),.sl (.ints c.down),.i c.value,.i c.time,.i c.proc,.sl (.marks c.marks)])],[],[999]⟩) rfl ?_
 refine W.lenA 0 0 [.sl (.ints c.up),.sl (.ints c.down),.i c.value,.i c.time,.i c.proc,.sl (.marks c.marks)] (.ints c.up) (by kernel_rfl) (by kernel_rfl) ?_
 intro hl_c_up; replace hl_c_up : List.length c.up ≤ 9223372036854775807 := hl_c_up
 refine W.lenA 0 1 [.sl (.ints c.up),.sl (.ints c.down),.i c.value,.i c.time,.i c.proc,.sl (.marks c.marks)] (.ints c.down) (by kernel_rfl) (by kernel_rfl) ?_
 intro hl_c_down; replace hl_c_down : List.length c.down ≤ 9223372036854775807 := hl_c_down
 refine W.lenA 0 5 [.sl (.ints c.up),.sl (.ints c.down),.i c.value,.i c.time,.i c.proc,.sl (.marks c.marks)] (.marks c.marks) (by kernel_rfl) (by kernel_rfl) ?_
 intro hl_c_marks; replace hl_c_marks : List.length c.marks ≤ 9223372036854775807 := hl_c_marks
 refine W.K cok tab46 hnt [] [1,2] (⟨[(1,.ptr 1 0),(2,.ptr 2 0)],[(1,⟨26,.fix [.sl (.ints c.up),.sl (.ints c.down),.i c.value,.i c.time,.i c.proc,.sl (.marks c.marks)]⟩),(2,⟨26,.fix [.v (.slice none 0 0),.v (.slice none 0 0),.i (0 : Int),.i (0 : Int),.i (0 : Int),.v (.slice none 0 0)]⟩)],[2,1,999]⟩)
  (True ∧ True ∧ True) (by kernel_rfl)
  ⟨tt,tt,tt⟩ ?_
 refine W.KA cok tab46 hnt [3,6,7,10,17,20] [2] (⟨[(2,.ptr 2 0)],[(1,⟨26,.fix [.sl (.ints c.up),.sl (.ints c.down),.i c.value,.i c.time,.i c.proc,.sl (.marks c.marks)]⟩),(2,⟨26,.fix [.own 6 (List.length c.up),.own 10 (List.length c.down),.i c.value,.i c.time,.i c.proc,.own 20 (List.length c.marks)]⟩),(6,⟨3,.row (.ints c.up)⟩),(10,⟨3,.row (.ints c.down)⟩),(20,⟨52,.row (.marks c.marks)⟩)],[20,17,10,7,6,3,2,1,999]⟩)
  (True ∧ True ∧ True ∧ ((True ∧ ((List.length ([] : List Int)) = (List.length ([] : List Int)))) ∧ True ∧ (((List.length ([] : List Int)) + (List.length c.up)) * 8 ≤ 140737488355328)) ∧ True ∧ True ∧ True ∧ ((True ∧ ((List.length ([] : List Int)) = (List.length ([] : List Int)))) ∧ True ∧ (((List.length ([] : List Int)) + (List.length c.down)) * 8 ≤ 140737488355328)) ∧ True ∧ True ∧ True ∧ True ∧ True ∧ True ∧ True ∧ True ∧ True ∧ ((True ∧ ((List.length ([] : List MarkD)) = (List.length ([] : List MarkD)))) ∧ True ∧ (((List.length ([] : List MarkD)) + (List.length c.marks)) * 32 ≤ 140737488355328)) ∧ (True ∧ True ∧ True ∧ True ∧ True ∧ True ∧ True) ∧ (True ∧ True) ∧ True) (by kernel_rfl) (by kernel_rfl)
  ⟨tt,tt,tt,⟨⟨tt,rfl⟩,tt,(by (try simp only [List.length_append,List.length_cons,List.length_nil,List.length_set]); omega)⟩,tt,tt,tt,⟨⟨tt,rfl⟩,tt,(by (try simp only [List.length_append,List.length_cons,List.length_nil,List.length_set]); omega)⟩,tt,tt,tt,tt,tt,tt,tt,tt,tt,⟨⟨tt,rfl⟩,tt,(by (try simp only [List.length_append,List.length_cons,List.length_nil,List.length_set]); omega)⟩,⟨tt,tt,tt,tt,tt,tt,tt⟩,⟨tt,tt⟩,tt⟩ ?_
 refine W.ret ?_
 exact endQ_rows [(0,6),(1,10),(2,20)] (.agg [.own 6 (List.length c.up),.own 10 (List.length c.down),.i c.value,.i c.time,.i c.proc,.own 20 (List.length c.marks)]) (by kernel_rfl) (@cast ((((6 : Nat) = 6) ∧ (((List.length c.up) = (List.length c.up)) ∧ ((0 : Nat) ∈ ([0,1,2] : List Nat)))) ∧ ((((10 : Nat) = 10) ∧ (((List.length c.down) = (List.length c.down)) ∧ ((1 : Nat) ∈ ([0,1,2] : List Nat)))) ∧ (((.int .i64 c.value : Value) = .int .i64 c.value) ∧ (((.int .i64 c.time : Value) = .int .i64 c.time) ∧ (((.int .i64 c.proc : Value) = .int .i64 c.proc) ∧ ((((20 : Nat) = 20) ∧ (((List.length c.marks) = (List.length c.marks)) ∧ ((2 : Nat) ∈ ([0,1,2] : List Nat)))) ∧ True)))))) _ (by kernel_rfl) ⟨⟨rfl,rfl,(by decide)⟩,⟨rfl,rfl,(by decide)⟩,rfl,rfl,rfl,⟨rfl,rfl,(by decide)⟩,tt⟩) (@cast ((((3 : Nat) = 3) ∧ (((.ints c.up : Dat) = .ints c.up) ∧ ((0 : Nat) ∈ ([0,1,2] : List Nat)))) ∧ ((((3 : Nat) = 3) ∧ (((.ints c.down : Dat) = .ints c.down) ∧ ((1 : Nat) ∈ ([0,1,2] : List Nat)))) ∧ ((((52 : Nat) = 52) ∧ (((.marks c.marks : Dat) = .marks c.marks) ∧ ((2 : Nat) ∈ ([0,1,2] : List Nat)))) ∧ True))) _ (by kernel_rfl) ⟨⟨rfl,rfl,(by decide)⟩,⟨rfl,rfl,(by decide)⟩,⟨rfl,rfl,(by decide)⟩,tt⟩) (by kernel_rfl)
theorem ent46 : Entr prog 46 := ⟨_,func46,rfl,by decide⟩
end Go.Proofs.Try

set_option linter.unusedSimpArgs false
set_option linter.unusedVariables false
namespace Go.Proofs.Try
open Go.Ab Go.RowKit
def fs47 : FnS := fnS [.a [some .ints,some .ints,none,none,none,some .marks],.a [some .ints,some .ints,none,none,none,some .marks]] [.copy,.copy] (fun _ (a,b,_) => (.b (newerC a b),[],True))
abbrev T47 : Tab := lk []
theorem tab47 : TabOK prog T47 := TabOK.nil
set_option maxRecDepth 100000 in
set_option maxHeartbeats 1000000 in
theorem ok47 : FnOK prog 47 fs47 := by
 refine FnOK.mk cok func47 rfl rfl rfl ?_
 rintro fl ⟨(a : CopyD),(b : CopyD),_⟩ hpre F hnt0 _
 have hnt : F.nt = 30 := hnt0.trans ntmps47
 clear hpre
 refine W.to (⟨[(0,.agg [.sl (.ints a.up),.sl (.ints a.down),.i a.value,.i a.time,.i a.proc,.sl (.marks a.marks)]),(1,.agg [.sl (.ints b.up),.sl (.ints b.down),.i b.value,.i b.time,.i b.proc,.sl (.marks b.marks)])],[],[999]⟩) rfl ?_
 refine W.lenA 0 0 [.sl (.ints a.up),.sl (.ints a.down),.i a.value,.i a.time,.i a.proc,.sl (.marks a.marks)] (.ints a.up) (by kernel_rfl) (by kernel_rfl) ?_
 intro hl_a_up; replace hl_a_up : List.length a.up ≤ 9223372036854775807 := hl_a_up
 refine W.lenA 0 1 [.sl (.ints a.up),.sl (.ints a.down),.i a.value,.i a.time,.i a.proc,.sl (.marks a.marks)] (.ints a.down) (by kernel_rfl) (by kernel_rfl) ?_
 intro hl_a_down; replace hl_a_down : List.length a.down ≤ 9223372036854775807 := hl_a_down
 refine W.lenA 0 5 [.sl (.ints a.up),.sl (.ints a.down),.i a.value,.i a.time,.i a.proc,.sl (.marks a.marks)] (.marks a.marks) (by kernel_rfl) (by kernel_rfl) ?_
 intro hl_a_marks; replace hl_a_marks : List.length a.marks ≤ 9223372036854775807 := hl_a_marks
 refine W.lenA 1 0 [.sl (.ints b.up),.sl (.ints b.down),.i b.value,.i b.time,.i b.proc,.sl (.marks b.marks)] (.ints b.up) (by kernel_rfl) (by kernel_rfl) ?_
 intro hl_b_up; replace hl_b_up : List.length b.up ≤ 9223372036854775807 := hl_b_up
 refine W.lenA 1 1 [.sl (.ints b.up),.sl (.ints b.down),.i b.value,.i b.time,.i b.proc,.sl (.marks b.marks)] (.ints b.down) (by kernel_rfl) (by kernel_rfl) ?_
 intro hl_b_down; replace hl_b_down : List.length b.down ≤ 9223372036854775807 := hl_b_down
 refine W.lenA 1 5 [.sl (.ints b.up),.sl (.ints b.down),.i b.value,.i b.time,.i b.proc,.sl (.marks b.marks)] (.marks b.marks) (by kernel_rfl) (by kernel_rfl) ?_
 intro hl_b_marks; replace hl_b_marks : List.length b.marks ≤ 9223372036854775807 := hl_b_marks
 refine W.K cok tab47 hnt [] [2,3] (⟨[(2,.ptr 2 0),(3,.ptr 3 0)],[(2,⟨26,.fix [.sl (.ints a.up),.sl (.ints a.down),.i a.value,.i a.time,.i a.proc,.sl (.marks a.marks)]⟩),(3,⟨26,.fix [.sl (.ints b.up),.sl (.ints b.down),.i b.value,.i b.time,.i b.proc,.sl (.marks b.marks)]⟩)],[3,2,999]⟩)
  (True ∧ True ∧ True ∧ True) (by kernel_rfl)
  ⟨tt,tt,tt,tt⟩ ?_
 refine W.seq ?_
 refine W.K cok tab47 hnt [] [2,3,9] (⟨[(2,.ptr 2 0),(3,.ptr 3 0),(9,.b (decide (a.time ≠ b.time)))],[(2,⟨26,.fix [.sl (.ints a.up),.sl (.ints a.down),.i a.value,.i a.time,.i a.proc,.sl (.marks a.marks)]⟩),(3,⟨26,.fix [.sl (.ints b.up),.sl (.ints b.down),.i b.value,.i b.time,.i b.proc,.sl (.marks b.marks)]⟩)],[3,2,999]⟩)
  (True ∧ True ∧ True ∧ True ∧ (True ∧ True ∧ True) ∧ True) (by kernel_rfl)
  ⟨tt,tt,tt,tt,⟨tt,tt,tt⟩,tt⟩ ?_
 refine W.ifP (a.time ≠ b.time) (.b (decide (a.time ≠ b.time))) (by kernel_rfl) rfl trivial ?_ ?_
 ·intro h9
  refine W.K cok tab47 hnt [] [4] (⟨[(4,.b (decide (b.time < a.time)))],[(2,⟨26,.fix [.sl (.ints a.up),.sl (.ints a.down),.i a.value,.i a.time,.i a.proc,.sl (.marks a.marks)]⟩),(3,⟨26,.fix [.sl (.ints b.up),.sl (.ints b.down),.i b.value,.i b.time,.i b.proc,.sl (.marks b.marks)]⟩)],[3,2,999]⟩)
   (True ∧ True ∧ True ∧ True ∧ (True ∧ True ∧ True) ∧ True ∧ True) (by kernel_rfl)
   ⟨tt,tt,tt,tt,⟨tt,tt,tt⟩,tt,tt⟩ ?_
  refine W.ret (thenQ_ret ?_)
  exact endQ_ret (.b (decide (b.time < a.time))) (by kernel_rfl) (@cast ((.bool (decide (b.time < a.time)) : Value) = .bool (newerC a b)) _ (by kernel_rfl) (congrArg Value.bool (by unfold newerC; rw [decide_eq_true h9]; rfl)))
 ·intro n9
  refine W.skip (thenQ_normal ?_)
  refine W.seq ?_
  refine W.K cok tab47 hnt [] [2,3,19] (⟨[(2,.ptr 2 0),(3,.ptr 3 0),(19,.b (decide (a.proc ≠ b.proc)))],[(2,⟨26,.fix [.sl (.ints a.up),.sl (.ints a.down),.i a.value,.i a.time,.i a.proc,.sl (.marks a.marks)]⟩),(3,⟨26,.fix [.sl (.ints b.up),.sl (.ints b.down),.i b.value,.i b.time,.i b.proc,.sl (.marks b.marks)]⟩)],[3,2,999]⟩)
   (True ∧ True ∧ True ∧ True ∧ (True ∧ True ∧ True) ∧ True) (by kernel_rfl)
   ⟨tt,tt,tt,tt,⟨tt,tt,tt⟩,tt⟩ ?_
  refine W.ifP (a.proc ≠ b.proc) (.b (decide (a.proc ≠ b.proc))) (by kernel_rfl) rfl trivial ?_ ?_
  ·intro h19
   refine W.K cok tab47 hnt [] [4] (⟨[(4,.b (decide (b.proc < a.proc)))],[(2,⟨26,.fix [.sl (.ints a.up),.sl (.ints a.down),.i a.value,.i a.time,.i a.proc,.sl (.marks a.marks)]⟩),(3,⟨26,.fix [.sl (.ints b.up),.sl (.ints b.down),.i b.value,.i b.time,.i b.proc,.sl (.marks b.marks)]⟩)],[3,2,999]⟩)
    (True ∧ True ∧ True ∧ True ∧ (True ∧ True ∧ True) ∧ True ∧ True) (by kernel_rfl)
    ⟨tt,tt,tt,tt,⟨tt,tt,tt⟩,tt,tt⟩ ?_
   refine W.ret (thenQ_ret ?_)
   exact endQ_ret (.b (decide (b.proc < a.proc))) (by kernel_rfl) (@cast ((.bool (decide (b.proc < a.proc)) : Value) = .bool (newerC a b)) _ (by kernel_rfl) (congrArg Value.bool (by unfold newerC; rw [decide_eq_false n9,decide_eq_true h19]; rfl)))
  ·intro n19
   refine W.skip (thenQ_normal ?_)
   refine W.K cok tab47 hnt [] [4] (⟨[(4,.b (decide (b.value < a.value)))],[(2,⟨26,.fix [.sl (.ints a.up),.sl (.ints a.down),.i a.value,.i a.time,.i a.proc,.sl (.marks a.marks)]⟩),(3,⟨26,.fix [.sl (.ints b.up),.sl (.ints b.down),.i b.value,.i b.time,.i b.proc,.sl (.marks b.marks)]⟩)],[3,2,999]⟩)
    (True ∧ True ∧ True ∧ True ∧ (True ∧ True ∧ True) ∧ True ∧ True) (by kernel_rfl)
    ⟨tt,tt,tt,tt,⟨tt,tt,tt⟩,tt,tt⟩ ?_
   refine W.ret ?_
   exact endQ_ret (.b (decide (b.value < a.value))) (by kernel_rfl) (@cast ((.bool (decide (b.value < a.value)) : Value) = .bool (newerC a b)) _ (by kernel_rfl) (congrArg Value.bool (by unfold newerC; rw [decide_eq_false n9,decide_eq_false n19]; rfl)))
theorem ent47 : Entr prog 47 := ⟨_,func47,rfl,by decide⟩
end Go.Proofs.Try

set_option linter.unusedSimpArgs false
set_option linter.unusedVariables false
namespace Go.Proofs.Try
open Go.Ab Go.RowKit
def fs70 : FnS := fnS [.s .marks,.s .marks] [.marks,.marks] (fun _ (a,b,_) => (.tup [.sl (.marks ((uniteP a b).1)),.b ((uniteP a b).2)],[],(a.length ≤ 1000 ∧ b.length ≤ 1000)))
abbrev T70 : Tab := lk [(61,fs61)]
theorem tab70 : TabOK prog T70 := (TabOK.cons ok61 ent61 TabOK.nil)
set_option maxRecDepth 100000 in
set_option maxHeartbeats 1000000 in
theorem ok70 : FnOK prog 70 fs70 := by
 refine FnOK.mk cok func70 rfl rfl rfl ?_
 rintro fl ⟨(a : List MarkD),(b : List MarkD),_⟩ hpre F hnt0 _
 have hnt : F.nt = 112 := hnt0.trans ntmps70
 replace hpre : (a.length ≤ 1000 ∧ b.length ≤ 1000) := hpre
 have hs := hpre
 refine W.to (⟨[(0,.sl (.marks a)),(1,.sl (.marks b))],[],[999]⟩) rfl ?_
 refine W.lenOf 0 (.marks a) (by kernel_rfl) ?_
 intro hl_a; replace hl_a : List.length a ≤ 9223372036854775807 := hl_a
 refine W.lenOf 1 (.marks b) (by kernel_rfl) ?_
 intro hl_b; replace hl_b : List.length b ≤ 9223372036854775807 := hl_b
 refine W.K cok tab70 hnt [] [0,1] (⟨[(0,.sl (.marks a)),(1,.sl (.marks b))],[],[999]⟩)
  (True ∧ True ∧ True) (by kernel_rfl)
  ⟨tt,tt,tt⟩ ?_
 refine W.K cok tab70 hnt [10] [0,1,6] (⟨[(0,.sl (.marks a)),(1,.sl (.marks b)),(6,.own 10 (List.length ([] : List MarkD)))],[(10,⟨52,.row (.marks ([] : List MarkD))⟩)],[10,999]⟩)
  (True ∧ True ∧ True) (by kernel_rfl)
  ⟨tt,tt,tt⟩ ?_
 refine W.K cok tab70 hnt [] [0,1,6,7] (⟨[(0,.sl (.marks a)),(1,.sl (.marks b)),(6,.own 10 (List.length ([] : List MarkD))),(7,.i (0 : Int))],[(10,⟨52,.row (.marks ([] : List MarkD))⟩)],[10,999]⟩)
  (True ∧ True) (by kernel_rfl)
  ⟨tt,tt⟩ ?_
 refine W.K cok tab70 hnt [] [0,1,6,7,8] (⟨[(0,.sl (.marks a)),(1,.sl (.marks b)),(6,.own 10 (List.length ([] : List MarkD))),(7,.i (0 : Int)),(8,.i (0 : Int))],[(10,⟨52,.row (.marks ([] : List MarkD))⟩)],[10,999]⟩)
  (True ∧ True) (by kernel_rfl)
  ⟨tt,tt⟩ ?_
 refine W.seq ?_
 refine W.block ?_
 refine W.loop (ι := (List MarkD) × Nat × Nat) (fun (x : (List MarkD) × Nat × Nat) => match x with | (o,i,k) => (⟨[(0,.sl (.marks a)),(1,.sl (.marks b)),(6,.own 10 o.length),(7,.i ((i : Nat) : Int)),(8,.i ((k : Nat) : Int))],[(10,⟨52,.row (.marks o)⟩)],[10,999]⟩ : St))
  (fun (x : (List MarkD) × Nat × Nat) => match x with | (o,i,k) => (i ≤ a.length ∧ k ≤ b.length) ∧ (unUp a b i k o) ∧ (o.length ≤ i + k))
  (fun (x : (List MarkD) × Nat × Nat) => match x with | (o,i,k) => (a.length - i + (b.length - k) : Nat)) (([] : List MarkD),0,0) ?_ ?_ ?_
 ·exact (show (0 ≤ a.length ∧ 0 ≤ b.length) ∧ (unUp a b 0 0 ([] : List MarkD)) ∧ (([] : List MarkD).length ≤ 0 + 0) from ⟨(by first | assumption | omega | rfl | (intro _ hjj; omega) | (simp; done) | (simp; omega)),(by exact unUp_zero a b),(by exact Nat.le_refl _)⟩)
 ·exact Sub.of [] (@cast ((((.marks a : Dat) = .marks a) ∧ (((.marks b : Dat) = .marks b) ∧ ((((10 : Nat) = 10) ∧ (((List.length ([] : List MarkD)) = (List.length ([] : List MarkD))) ∧ ((10 : Nat) ∈ ([10,999] : List Nat)))) ∧ (((.int .i64 (0 : Int) : Value) = .int .i64 ((0 : Nat) : Int)) ∧ (((.int .i64 (0 : Int) : Value) = .int .i64 ((0 : Nat) : Int)) ∧ True))))) ∧ (((((52 : Nat) = 52) ∧ (((.marks ([] : List MarkD) : Dat) = .marks ([] : List MarkD)) ∧ ((10 : Nat) ∈ ([10,999] : List Nat)))) ∧ True) ∧ ((true = true) ∧ (true = true)))) _ (by kernel_rfl) ⟨⟨rfl,rfl,⟨rfl,rfl,(by decide)⟩,(congrArg (Value.int .i64) (by first | rfl | omega | assumption | simp | simp_all)),(congrArg (Value.int .i64) (by first | rfl | omega | assumption | simp | simp_all)),tt⟩,⟨⟨rfl,rfl,(by decide)⟩,tt⟩,rfl,rfl⟩)
 ·rintro ⟨o,i,k⟩ hC0
  have hC : (i ≤ a.length ∧ k ≤ b.length) ∧ (unUp a b i k o) ∧ (o.length ≤ i + k) := hC0
  clear hC0
  obtain ⟨hik,hu,hol⟩ := hC
  refine W.to (⟨[(0,.sl (.marks a)),(1,.sl (.marks b)),(6,.own 10 o.length),(7,.i ((i : Nat) : Int)),(8,.i ((k : Nat) : Int))],[(10,⟨52,.row (.marks o)⟩)],[10,999]⟩) rfl ?_
  refine W.seq ?_
  refine W.K cok tab70 hnt [] [0,1,6,7,8,20] (⟨[(0,.sl (.marks a)),(1,.sl (.marks b)),(6,.own 10 o.length),(7,.i ((i : Nat) : Int)),(8,.i ((k : Nat) : Int)),(20,.b ((decide (((i : Nat) : Int) < (a.length : Int))) || (decide (((k : Nat) : Int) < (b.length : Int)))))],[(10,⟨52,.row (.marks o)⟩)],[10,999]⟩)
   (True ∧ True ∧ True ∧ (True ∧ True ∧ True) ∧ True ∧ ((!(decide (((i : Nat) : Int) < (a.length : Int)))) = true → True) ∧ ((!(decide (((i : Nat) : Int) < (a.length : Int)))) = true → True) ∧ ((!(decide (((i : Nat) : Int) < (a.length : Int)))) = true → (((!(decide (((i : Nat) : Int) < (a.length : Int)))) = true) ∧ True)) ∧ ((!(decide (((i : Nat) : Int) < (a.length : Int)))) = true → ((((!(decide (((i : Nat) : Int) < (a.length : Int)))) = true) ∧ True) ∧ (((!(decide (((i : Nat) : Int) < (a.length : Int)))) = true) ∧ True) ∧ True)) ∧ (True ∧ ((decide (((i : Nat) : Int) < (a.length : Int))) = true → True) ∧ ((decide (((i : Nat) : Int) < (a.length : Int))) = false → ((!(decide (((i : Nat) : Int) < (a.length : Int)))) = true) ∧ True)) ∧ True) (by kernel_rfl)
   ⟨tt,tt,tt,⟨tt,tt,tt⟩,tt,(fun _ => trivial),(fun _ => trivial),(fun hG => ⟨hG,tt⟩),(fun hG => ⟨⟨hG,tt⟩,⟨hG,tt⟩,tt⟩),⟨tt,(fun _ => trivial),(fun hp => ⟨(not_t hp),tt⟩)⟩,tt⟩ ?_
  refine W.if' ((decide (((i : Nat) : Int) < (a.length : Int))) || (decide (((k : Nat) : Int) < (b.length : Int)))) (.b ((decide (((i : Nat) : Int) < (a.length : Int))) || (decide (((k : Nat) : Int) < (b.length : Int))))) (by kernel_rfl) rfl trivial ?_ ?_
  ·intro h20
   refine W.skip (thenQ_normal ?_)
   refine W.block ?_
   refine W.KA cok tab70 hnt [] [0,1,6,7,8,41] (⟨[(0,.sl (.marks a)),(1,.sl (.marks b)),(6,.own 10 o.length),(7,.i ((i : Nat) : Int)),(8,.i ((k : Nat) : Int)),(41,.b ((decide (((k : Nat) : Int) = (b.length : Int))) || ((decide (((i : Nat) : Int) < (a.length : Int))) && (lessM (a.getD i default) (b.getD k default)))))],[(10,⟨52,.row (.marks o)⟩)],[10,999]⟩)
    (True ∧ True ∧ True ∧ (True ∧ True ∧ True) ∧ True ∧ ((!(decide (((k : Nat) : Int) = (b.length : Int)))) = true → True) ∧ ((!(decide (((k : Nat) : Int) = (b.length : Int)))) = true → True) ∧ ((!(decide (((k : Nat) : Int) = (b.length : Int)))) = true → (((!(decide (((k : Nat) : Int) = (b.length : Int)))) = true) ∧ True)) ∧ ((!(decide (((k : Nat) : Int) = (b.length : Int)))) = true → ((((!(decide (((k : Nat) : Int) = (b.length : Int)))) = true) ∧ True) ∧ (((!(decide (((k : Nat) : Int) = (b.length : Int)))) = true) ∧ True) ∧ True)) ∧ ((!(decide (((k : Nat) : Int) = (b.length : Int)))) = true → True) ∧ (((!(decide (((k : Nat) : Int) = (b.length : Int)))) && ((!(decide (((k : Nat) : Int) = (b.length : Int)))) && (decide (((i : Nat) : Int) < (a.length : Int))))) = true → True) ∧ (((!(decide (((k : Nat) : Int) = (b.length : Int)))) && ((!(decide (((k : Nat) : Int) = (b.length : Int)))) && (decide (((i : Nat) : Int) < (a.length : Int))))) = true → True) ∧ (((!(decide (((k : Nat) : Int) = (b.length : Int)))) && ((!(decide (((k : Nat) : Int) = (b.length : Int)))) && (decide (((i : Nat) : Int) < (a.length : Int))))) = true → (((((!(decide (((k : Nat) : Int) = (b.length : Int)))) && ((!(decide (((k : Nat) : Int) = (b.length : Int)))) && (decide (((i : Nat) : Int) < (a.length : Int))))) = true) ∧ True) ∧ ((((!(decide (((k : Nat) : Int) = (b.length : Int)))) && ((!(decide (((k : Nat) : Int) = (b.length : Int)))) && (decide (((i : Nat) : Int) < (a.length : Int))))) = true) ∧ True) ∧ (0 ≤ ((i : Nat) : Int)) ∧ (((i : Nat) : Int) < (a.length : Int)))) ∧ (((!(decide (((k : Nat) : Int) = (b.length : Int)))) && ((!(decide (((k : Nat) : Int) = (b.length : Int)))) && (decide (((i : Nat) : Int) < (a.length : Int))))) = true → ((((!(decide (((k : Nat) : Int) = (b.length : Int)))) && ((!(decide (((k : Nat) : Int) = (b.length : Int)))) && (decide (((i : Nat) : Int) < (a.length : Int))))) = true) ∧ True)) ∧ (((!(decide (((k : Nat) : Int) = (b.length : Int)))) && ((!(decide (((k : Nat) : Int) = (b.length : Int)))) && (decide (((i : Nat) : Int) < (a.length : Int))))) = true → True) ∧ (((!(decide (((k : Nat) : Int) = (b.length : Int)))) && ((!(decide (((k : Nat) : Int) = (b.length : Int)))) && (decide (((i : Nat) : Int) < (a.length : Int))))) = true → True) ∧ (((!(decide (((k : Nat) : Int) = (b.length : Int)))) && ((!(decide (((k : Nat) : Int) = (b.length : Int)))) && (decide (((i : Nat) : Int) < (a.length : Int))))) = true → (((((!(decide (((k : Nat) : Int) = (b.length : Int)))) && ((!(decide (((k : Nat) : Int) = (b.length : Int)))) && (decide (((i : Nat) : Int) < (a.length : Int))))) = true) ∧ True) ∧ ((((!(decide (((k : Nat) : Int) = (b.length : Int)))) && ((!(decide (((k : Nat) : Int) = (b.length : Int)))) && (decide (((i : Nat) : Int) < (a.length : Int))))) = true) ∧ True) ∧ (0 ≤ ((k : Nat) : Int)) ∧ (((k : Nat) : Int) < (b.length : Int)))) ∧ (((!(decide (((k : Nat) : Int) = (b.length : Int)))) && ((!(decide (((k : Nat) : Int) = (b.length : Int)))) && (decide (((i : Nat) : Int) < (a.length : Int))))) = true → ((((!(decide (((k : Nat) : Int) = (b.length : Int)))) && ((!(decide (((k : Nat) : Int) = (b.length : Int)))) && (decide (((i : Nat) : Int) < (a.length : Int))))) = true) ∧ True)) ∧ (((!(decide (((k : Nat) : Int) = (b.length : Int)))) && ((!(decide (((k : Nat) : Int) = (b.length : Int)))) && (decide (((i : Nat) : Int) < (a.length : Int))))) = true → (True ∧ (((((!(decide (((k : Nat) : Int) = (b.length : Int)))) && ((!(decide (((k : Nat) : Int) = (b.length : Int)))) && (decide (((i : Nat) : Int) < (a.length : Int))))) = true) ∧ True) ∧ ((((!(decide (((k : Nat) : Int) = (b.length : Int)))) && ((!(decide (((k : Nat) : Int) = (b.length : Int)))) && (decide (((i : Nat) : Int) < (a.length : Int))))) = true) ∧ True) ∧ True) ∧ True)) ∧ ((!(decide (((k : Nat) : Int) = (b.length : Int)))) = true → ((((!(decide (((k : Nat) : Int) = (b.length : Int)))) = true) ∧ ((!(decide (((k : Nat) : Int) = (b.length : Int)))) = true) ∧ True) ∧ ((decide (((i : Nat) : Int) < (a.length : Int))) = true → (((!(decide (((k : Nat) : Int) = (b.length : Int)))) && ((!(decide (((k : Nat) : Int) = (b.length : Int)))) && (decide (((i : Nat) : Int) < (a.length : Int))))) = true) ∧ True) ∧ ((decide (((i : Nat) : Int) < (a.length : Int))) = false → True))) ∧ (True ∧ ((decide (((k : Nat) : Int) = (b.length : Int))) = true → True) ∧ ((decide (((k : Nat) : Int) = (b.length : Int))) = false → ((!(decide (((k : Nat) : Int) = (b.length : Int)))) = true) ∧ True)) ∧ True) (by kernel_rfl) (by kernel_rfl)
    ⟨tt,tt,tt,⟨tt,tt,tt⟩,tt,(fun _ => trivial),(fun _ => trivial),(fun hG => ⟨hG,tt⟩),(fun hG => ⟨⟨hG,tt⟩,⟨hG,tt⟩,tt⟩),(fun _ => trivial),(fun _ => trivial),(fun _ => trivial),(fun hG => ⟨⟨hG,tt⟩,⟨hG,tt⟩,(by have hg0 : ¬ (((k : Nat) : Int) = (b.length : Int)) := of_decide_eq_false (not_f (and_l hG)); have hg1 : ¬ (((k : Nat) : Int) = (b.length : Int)) := of_decide_eq_false (not_f (and_l (and_r hG))); have hg2 : ((i : Nat) : Int) < (a.length : Int) := of_decide_eq_true (and_r (and_r hG)); omega),(by have hg0 : ¬ (((k : Nat) : Int) = (b.length : Int)) := of_decide_eq_false (not_f (and_l hG)); have hg1 : ¬ (((k : Nat) : Int) = (b.length : Int)) := of_decide_eq_false (not_f (and_l (and_r hG))); have hg2 : ((i : Nat) : Int) < (a.length : Int) := of_decide_eq_true (and_r (and_r hG)); omega)⟩),(fun hG => ⟨hG,tt⟩),(fun _ => trivial),(fun _ => trivial),(fun hG => ⟨⟨hG,tt⟩,⟨hG,tt⟩,(by have hg0 : ¬ (((k : Nat) : Int) = (b.length : Int)) := of_decide_eq_false (not_f (and_l hG)); have hg1 : ¬ (((k : Nat) : Int) = (b.length : Int)) := of_decide_eq_false (not_f (and_l (and_r hG))); have hg2 : ((i : Nat) : Int) < (a.length : Int) := of_decide_eq_true (and_r (and_r hG)); omega),(by have hg0 : ¬ (((k : Nat) : Int) = (b.length : Int)) := of_decide_eq_false (not_f (and_l hG)); have hg1 : ¬ (((k : Nat) : Int) = (b.length : Int)) := of_decide_eq_false (not_f (and_l (and_r hG))); have hg2 : ((i : Nat) : Int) < (a.length : Int) := of_decide_eq_true (and_r (and_r hG)); omega)⟩),(fun hG => ⟨hG,tt⟩),(fun hG => ⟨tt,⟨⟨hG,tt⟩,⟨hG,tt⟩,tt⟩,tt⟩),(fun hG => ⟨⟨hG,hG,tt⟩,(fun hp => ⟨(and_t hG (and_t hG hp)),tt⟩),(fun _ => trivial)⟩),⟨tt,(fun _ => trivial),(fun hp => ⟨(not_t hp),tt⟩)⟩,tt⟩ ?_
   refine W.if' ((decide (((k : Nat) : Int) = (b.length : Int))) || ((decide (((i : Nat) : Int) < (a.length : Int))) && (lessM (a.getD i default) (b.getD k default)))) (.b ((decide (((k : Nat) : Int) = (b.length : Int))) || ((decide (((i : Nat) : Int) < (a.length : Int))) && (lessM (a.getD i default) (b.getD k default))))) (by kernel_rfl) rfl trivial ?_ ?_
   ·intro h41
    have hai := (un_a hu (by simp at h20; omega) hik h41).2
    refine W.K cok tab70 hnt [48] [0,1,6,7,8] (⟨[(0,.sl (.marks a)),(1,.sl (.marks b)),(6,.own 48 (List.length (o ++ ([(a.getD i default)])))),(7,.i ((i : Nat) : Int)),(8,.i ((k : Nat) : Int))],[(48,⟨52,.row (.marks (o ++ ([(a.getD i default)])))⟩)],[48,47,10,999]⟩)
     (True ∧ True ∧ True ∧ (True ∧ True ∧ (0 ≤ ((i : Nat) : Int)) ∧ (((i : Nat) : Int) < (a.length : Int))) ∧ True ∧ (True ∧ True) ∧ ((True ∧ (o.length = o.length)) ∧ True ∧ ((o.length + (List.length ([(a.getD i default)]))) * 32 ≤ 140737488355328)) ∧ True ∧ True) (by kernel_rfl)
     ⟨tt,tt,tt,⟨tt,tt,(by omega),(by omega)⟩,tt,⟨tt,tt⟩,⟨⟨tt,rfl⟩,tt,(by (try simp only [List.length_append,List.length_cons,List.length_nil,List.length_set]); omega)⟩,tt,tt⟩ ?_
    refine W.L cok tab70 hnt [] (⟨[(0,.sl (.marks a)),(1,.sl (.marks b)),(6,.own 48 (List.length (o ++ ([(a.getD i default)])))),(7,.i (((i + 1) : Nat) : Int)),(8,.i ((k : Nat) : Int)),(49,.i ((i : Nat) : Int)),(50,.i (((i + 1) : Nat) : Int))],[(48,⟨52,.row (.marks (o ++ ([(a.getD i default)])))⟩)],[48,47,10,999]⟩)
     (True ∧ (True ∧ True ∧ (Fits .i64 (((i + 1) : Nat) : Int))) ∧ True ∧ True) (by kernel_rfl)
     ⟨tt,⟨tt,tt,(by exact fits_i64 (by omega) (by omega))⟩,tt,tt⟩ ?_
    refine blockQ_normal (thenQ_normal ?_)
    refine ⟨((o ++ ([(a.getD i default)])),(i + 1),k),(show ((i + 1) ≤ a.length ∧ k ≤ b.length) ∧ (unUp a b (i + 1) k (o ++ ([(a.getD i default)]))) ∧ ((o ++ ([(a.getD i default)])).length ≤ (i + 1) + k) from ⟨(by first | (have := (un_a hu (by simp at h20; omega) hik h41).2; omega) | (have := (un_b hu hik n41 h65).2; omega) | omega),(by first | exact (un_a hu (by simp at h20; omega) hik h41).1 | exact (un_b hu hik n41 h65).1 | exact un_c hu hbb n85),(by simp; omega)⟩),(show a.length - (i + 1) + (b.length - k) < a.length - i + (b.length - k) from (by first | (have := (un_a hu (by simp at h20; omega) hik h41).2; omega) | (have := (un_b hu hik n41 h65).2; omega) | omega)),?_⟩
    exact Sub.of [(10,48)] (@cast ((((.marks a : Dat) = .marks a) ∧ (((.marks b : Dat) = .marks b) ∧ ((((48 : Nat) = 48) ∧ (((List.length (o ++ ([(a.getD i default)]))) = (List.length (o ++ ([(a.getD i default)])))) ∧ ((10 : Nat) ∈ ([10,999] : List Nat)))) ∧ (((.int .i64 (((i + 1) : Nat) : Int) : Value) = .int .i64 (((i + 1) : Nat) : Int)) ∧ (((.int .i64 ((k : Nat) : Int) : Value) = .int .i64 ((k : Nat) : Int)) ∧ True))))) ∧ (((((52 : Nat) = 52) ∧ (((.marks (o ++ ([(a.getD i default)])) : Dat) = .marks (o ++ ([(a.getD i default)]))) ∧ ((10 : Nat) ∈ ([10,999] : List Nat)))) ∧ True) ∧ ((true = true) ∧ (true = true)))) _ (by kernel_rfl) ⟨⟨rfl,rfl,⟨rfl,rfl,(by decide)⟩,rfl,rfl,tt⟩,⟨⟨rfl,rfl,(by decide)⟩,tt⟩,rfl,rfl⟩)
   ·intro n41
    have n41_0 : ¬ (((k : Nat) : Int) = (b.length : Int)) := of_decide_eq_false (or_l n41)
    refine W.KA cok tab70 hnt [] [0,1,6,7,8,65] (⟨[(0,.sl (.marks a)),(1,.sl (.marks b)),(6,.own 10 o.length),(7,.i ((i : Nat) : Int)),(8,.i ((k : Nat) : Int)),(65,.b ((decide (((i : Nat) : Int) = (a.length : Int))) || (lessM (b.getD k default) (a.getD i default))))],[(10,⟨52,.row (.marks o)⟩)],[10,999]⟩)
     (True ∧ True ∧ True ∧ (True ∧ True ∧ True) ∧ True ∧ ((!(decide (((i : Nat) : Int) = (a.length : Int)))) = true → True) ∧ ((!(decide (((i : Nat) : Int) = (a.length : Int)))) = true → True) ∧ ((!(decide (((i : Nat) : Int) = (a.length : Int)))) = true → ((((!(decide (((i : Nat) : Int) = (a.length : Int)))) = true) ∧ True) ∧ (((!(decide (((i : Nat) : Int) = (a.length : Int)))) = true) ∧ True) ∧ (0 ≤ ((k : Nat) : Int)) ∧ (((k : Nat) : Int) < (b.length : Int)))) ∧ ((!(decide (((i : Nat) : Int) = (a.length : Int)))) = true → (((!(decide (((i : Nat) : Int) = (a.length : Int)))) = true) ∧ True)) ∧ ((!(decide (((i : Nat) : Int) = (a.length : Int)))) = true → True) ∧ ((!(decide (((i : Nat) : Int) = (a.length : Int)))) = true → True) ∧ ((!(decide (((i : Nat) : Int) = (a.length : Int)))) = true → ((((!(decide (((i : Nat) : Int) = (a.length : Int)))) = true) ∧ True) ∧ (((!(decide (((i : Nat) : Int) = (a.length : Int)))) = true) ∧ True) ∧ (0 ≤ ((i : Nat) : Int)) ∧ (((i : Nat) : Int) < (a.length : Int)))) ∧ ((!(decide (((i : Nat) : Int) = (a.length : Int)))) = true → (((!(decide (((i : Nat) : Int) = (a.length : Int)))) = true) ∧ True)) ∧ ((!(decide (((i : Nat) : Int) = (a.length : Int)))) = true → (True ∧ ((((!(decide (((i : Nat) : Int) = (a.length : Int)))) = true) ∧ True) ∧ (((!(decide (((i : Nat) : Int) = (a.length : Int)))) = true) ∧ True) ∧ True) ∧ True)) ∧ (True ∧ ((decide (((i : Nat) : Int) = (a.length : Int))) = true → True) ∧ ((decide (((i : Nat) : Int) = (a.length : Int))) = false → ((!(decide (((i : Nat) : Int) = (a.length : Int)))) = true) ∧ True)) ∧ True) (by kernel_rfl) (by kernel_rfl)
     ⟨tt,tt,tt,⟨tt,tt,tt⟩,tt,(fun _ => trivial),(fun _ => trivial),(fun hG => ⟨⟨hG,tt⟩,⟨hG,tt⟩,(by have hg0 : ¬ (((i : Nat) : Int) = (a.length : Int)) := of_decide_eq_false (not_f hG); omega),(by have hg0 : ¬ (((i : Nat) : Int) = (a.length : Int)) := of_decide_eq_false (not_f hG); omega)⟩),(fun hG => ⟨hG,tt⟩),(fun _ => trivial),(fun _ => trivial),(fun hG => ⟨⟨hG,tt⟩,⟨hG,tt⟩,(by have hg0 : ¬ (((i : Nat) : Int) = (a.length : Int)) := of_decide_eq_false (not_f hG); omega),(by have hg0 : ¬ (((i : Nat) : Int) = (a.length : Int)) := of_decide_eq_false (not_f hG); omega)⟩),(fun hG => ⟨hG,tt⟩),(fun hG => ⟨tt,⟨⟨hG,tt⟩,⟨hG,tt⟩,tt⟩,tt⟩),⟨tt,(fun _ => trivial),(fun hp => ⟨(not_t hp),tt⟩)⟩,tt⟩ ?_
    refine W.if' ((decide (((i : Nat) : Int) = (a.length : Int))) || (lessM (b.getD k default) (a.getD i default))) (.b ((decide (((i : Nat) : Int) = (a.length : Int))) || (lessM (b.getD k default) (a.getD i default)))) (by kernel_rfl) rfl trivial ?_ ?_
    ·intro h65
     have hbi := (un_b hu hik n41 h65).2
     refine W.K cok tab70 hnt [72] [0,1,6,7,8] (⟨[(0,.sl (.marks a)),(1,.sl (.marks b)),(6,.own 72 (List.length (o ++ ([(b.getD k default)])))),(7,.i ((i : Nat) : Int)),(8,.i ((k : Nat) : Int))],[(72,⟨52,.row (.marks (o ++ ([(b.getD k default)])))⟩)],[72,71,10,999]⟩)
      (True ∧ True ∧ True ∧ (True ∧ True ∧ (0 ≤ ((k : Nat) : Int)) ∧ (((k : Nat) : Int) < (b.length : Int))) ∧ True ∧ (True ∧ True) ∧ ((True ∧ (o.length = o.length)) ∧ True ∧ ((o.length + (List.length ([(b.getD k default)]))) * 32 ≤ 140737488355328)) ∧ True ∧ True) (by kernel_rfl)
      ⟨tt,tt,tt,⟨tt,tt,(by omega),(by omega)⟩,tt,⟨tt,tt⟩,⟨⟨tt,rfl⟩,tt,(by (try simp only [List.length_append,List.length_cons,List.length_nil,List.length_set]); omega)⟩,tt,tt⟩ ?_
     refine W.L cok tab70 hnt [] (⟨[(0,.sl (.marks a)),(1,.sl (.marks b)),(6,.own 72 (List.length (o ++ ([(b.getD k default)])))),(7,.i ((i : Nat) : Int)),(8,.i (((k + 1) : Nat) : Int)),(73,.i ((k : Nat) : Int)),(74,.i (((k + 1) : Nat) : Int))],[(72,⟨52,.row (.marks (o ++ ([(b.getD k default)])))⟩)],[72,71,10,999]⟩)
      (True ∧ (True ∧ True ∧ (Fits .i64 (((k + 1) : Nat) : Int))) ∧ True ∧ True) (by kernel_rfl)
      ⟨tt,⟨tt,tt,(by exact fits_i64 (by omega) (by omega))⟩,tt,tt⟩ ?_
     refine blockQ_normal (thenQ_normal ?_)
     refine ⟨((o ++ ([(b.getD k default)])),i,(k + 1)),(show (i ≤ a.length ∧ (k + 1) ≤ b.length) ∧ (unUp a b i (k + 1) (o ++ ([(b.getD k default)]))) ∧ ((o ++ ([(b.getD k default)])).length ≤ i + (k + 1)) from ⟨(by first | (have := (un_a hu (by simp at h20; omega) hik h41).2; omega) | (have := (un_b hu hik n41 h65).2; omega) | omega),(by first | exact (un_a hu (by simp at h20; omega) hik h41).1 | exact (un_b hu hik n41 h65).1 | exact un_c hu hbb n85),(by simp; omega)⟩),(show a.length - i + (b.length - (k + 1)) < a.length - i + (b.length - k) from (by first | (have := (un_a hu (by simp at h20; omega) hik h41).2; omega) | (have := (un_b hu hik n41 h65).2; omega) | omega)),?_⟩
     exact Sub.of [(10,72)] (@cast ((((.marks a : Dat) = .marks a) ∧ (((.marks b : Dat) = .marks b) ∧ ((((72 : Nat) = 72) ∧ (((List.length (o ++ ([(b.getD k default)]))) = (List.length (o ++ ([(b.getD k default)])))) ∧ ((10 : Nat) ∈ ([10,999] : List Nat)))) ∧ (((.int .i64 ((i : Nat) : Int) : Value) = .int .i64 ((i : Nat) : Int)) ∧ (((.int .i64 (((k + 1) : Nat) : Int) : Value) = .int .i64 (((k + 1) : Nat) : Int)) ∧ True))))) ∧ (((((52 : Nat) = 52) ∧ (((.marks (o ++ ([(b.getD k default)])) : Dat) = .marks (o ++ ([(b.getD k default)]))) ∧ ((10 : Nat) ∈ ([10,999] : List Nat)))) ∧ True) ∧ ((true = true) ∧ (true = true)))) _ (by kernel_rfl) ⟨⟨rfl,rfl,⟨rfl,rfl,(by decide)⟩,rfl,rfl,tt⟩,⟨⟨rfl,rfl,(by decide)⟩,tt⟩,rfl,rfl⟩)
    ·intro n65
     have n65_0 : ¬ (((i : Nat) : Int) = (a.length : Int)) := of_decide_eq_false (or_l n65)
     have hbb := un_both hik n41 n65
     refine W.seq ?_
     refine W.KA cok tab70 hnt [] [0,1,6,7,8,85] (⟨[(0,.sl (.marks a)),(1,.sl (.marks b)),(6,.own 10 o.length),(7,.i ((i : Nat) : Int)),(8,.i ((k : Nat) : Int)),(85,.b (decide (((a.getD i default).value) ≠ ((b.getD k default).value))))],[(10,⟨52,.row (.marks o)⟩)],[10,999]⟩)
      (True ∧ True ∧ (True ∧ True ∧ (0 ≤ ((i : Nat) : Int)) ∧ (((i : Nat) : Int) < (a.length : Int))) ∧ True ∧ True ∧ True ∧ True ∧ (True ∧ True ∧ (0 ≤ ((k : Nat) : Int)) ∧ (((k : Nat) : Int) < (b.length : Int))) ∧ True ∧ True ∧ (True ∧ True ∧ True) ∧ True) (by kernel_rfl) (by kernel_rfl)
      ⟨tt,tt,⟨tt,tt,(by omega),(by omega)⟩,tt,tt,tt,tt,⟨tt,tt,(by omega),(by omega)⟩,tt,tt,⟨tt,tt,tt⟩,tt⟩ ?_
     refine W.ifP (((a.getD i default).value) ≠ ((b.getD k default).value)) (.b (decide (((a.getD i default).value) ≠ ((b.getD k default).value)))) (by kernel_rfl) rfl trivial ?_ ?_
     ·intro h85
      refine W.K cok tab70 hnt [] [4,5] (⟨[(4,.v (.slice none 0 0)),(5,.b false)],[(10,⟨52,.row (.marks o)⟩)],[10,999]⟩)
       (True ∧ True ∧ True) (by kernel_rfl)
       ⟨tt,tt,tt⟩ ?_
      refine W.ret (thenQ_ret (blockQ_ret (thenQ_ret (blockQ_ret (thenQ_ret ?_)))))
      exact endQ_ret (.tup [.v (.slice none 0 0),.b false]) (by kernel_rfl) (@cast ((((Value.slice none 0 0 : Value) = .slice none 0 0) ∧ ((Dat.marks ((uniteP a b).1)).len = 0)) ∧ (((.bool false : Value) = .bool ((uniteP a b).2)) ∧ True)) _ (by kernel_rfl) ⟨⟨rfl,(by show List.length ((uniteP a b).1) = 0; rw [un_no hu hbb h85]; try rfl)⟩,(congrArg Value.bool (by rw [un_no hu hbb h85]; try rfl)),tt⟩)
     ·intro n85
      refine W.skip (thenQ_normal ?_)
      refine W.K cok tab70 hnt [] [0,1,6,7,8,9] (⟨[(0,.sl (.marks a)),(1,.sl (.marks b)),(6,.own 10 o.length),(7,.i ((i : Nat) : Int)),(8,.i ((k : Nat) : Int)),(9,.ptr 9 0)],[(9,⟨52,.fix [.i ((a.getD i default).value),.i ((a.getD i default).proc),.i ((a.getD i default).number),.b ((a.getD i default).gone)]⟩),(10,⟨52,.row (.marks o)⟩)],[9,10,999]⟩)
       (True ∧ True ∧ (True ∧ True ∧ (0 ≤ ((i : Nat) : Int)) ∧ (((i : Nat) : Int) < (a.length : Int))) ∧ True ∧ True ∧ (True ∧ True) ∧ True) (by kernel_rfl)
       ⟨tt,tt,⟨tt,tt,(by omega),(by omega)⟩,tt,tt,⟨tt,tt⟩,tt⟩ ?_
      refine W.K cok tab70 hnt [] [0,1,6,7,8,9] (⟨[(0,.sl (.marks a)),(1,.sl (.marks b)),(6,.own 10 o.length),(7,.i ((i : Nat) : Int)),(8,.i ((k : Nat) : Int)),(9,.ptr 9 0)],[(9,⟨52,.fix [.i ((a.getD i default).value),.i ((a.getD i default).proc),.i ((a.getD i default).number),.b (((a.getD i default).gone) || ((b.getD k default).gone))]⟩),(10,⟨52,.row (.marks o)⟩)],[9,10,999]⟩)
       (True ∧ True ∧ (True ∧ True ∧ (0 ≤ ((i : Nat) : Int)) ∧ (((i : Nat) : Int) < (a.length : Int))) ∧ True ∧ True ∧ True ∧ ((!((a.getD i default).gone)) = true → True) ∧ ((!((a.getD i default).gone)) = true → True) ∧ ((!((a.getD i default).gone)) = true → ((((!((a.getD i default).gone)) = true) ∧ True) ∧ (((!((a.getD i default).gone)) = true) ∧ True) ∧ (0 ≤ ((k : Nat) : Int)) ∧ (((k : Nat) : Int) < (b.length : Int)))) ∧ ((!((a.getD i default).gone)) = true → (((!((a.getD i default).gone)) = true) ∧ True)) ∧ ((!((a.getD i default).gone)) = true → (((!((a.getD i default).gone)) = true) ∧ True)) ∧ (True ∧ (((a.getD i default).gone) = true → True) ∧ (((a.getD i default).gone) = false → ((!((a.getD i default).gone)) = true) ∧ True)) ∧ True ∧ (True ∧ True) ∧ True) (by kernel_rfl)
       ⟨tt,tt,⟨tt,tt,(by omega),(by omega)⟩,tt,tt,tt,(fun _ => trivial),(fun _ => trivial),(fun hG => ⟨⟨hG,tt⟩,⟨hG,tt⟩,(by omega),(by omega)⟩),(fun hG => ⟨hG,tt⟩),(fun hG => ⟨hG,tt⟩),⟨tt,(fun _ => trivial),(fun hp => ⟨(not_t hp),tt⟩)⟩,tt,⟨tt,tt⟩,tt⟩ ?_
      refine W.K cok tab70 hnt [106] [0,1,6,7,8] (⟨[(0,.sl (.marks a)),(1,.sl (.marks b)),(6,.own 106 (List.length (o ++ ([(⟨((a.getD i default).value),((a.getD i default).proc),((a.getD i default).number),(((a.getD i default).gone) || ((b.getD k default).gone))⟩ : MarkD)])))),(7,.i ((i : Nat) : Int)),(8,.i ((k : Nat) : Int))],[(9,⟨52,.fix [.i ((a.getD i default).value),.i ((a.getD i default).proc),.i ((a.getD i default).number),.b (((a.getD i default).gone) || ((b.getD k default).gone))]⟩),(106,⟨52,.row (.marks (o ++ ([(⟨((a.getD i default).value),((a.getD i default).proc),((a.getD i default).number),(((a.getD i default).gone) || ((b.getD k default).gone))⟩ : MarkD)])))⟩)],[106,105,9,10,999]⟩)
       (True ∧ True ∧ (True ∧ True) ∧ ((True ∧ (o.length = o.length)) ∧ True ∧ ((o.length + (List.length ([(⟨((a.getD i default).value),((a.getD i default).proc),((a.getD i default).number),(((a.getD i default).gone) || ((b.getD k default).gone))⟩ : MarkD)]))) * 32 ≤ 140737488355328)) ∧ True ∧ True) (by kernel_rfl)
       ⟨tt,tt,⟨tt,tt⟩,⟨⟨tt,rfl⟩,tt,(by (try simp only [List.length_append,List.length_cons,List.length_nil,List.length_set]); omega)⟩,tt,tt⟩ ?_
      refine W.K cok tab70 hnt [] [0,1,6,7,8] (⟨[(0,.sl (.marks a)),(1,.sl (.marks b)),(6,.own 106 (List.length (o ++ ([(⟨((a.getD i default).value),((a.getD i default).proc),((a.getD i default).number),(((a.getD i default).gone) || ((b.getD k default).gone))⟩ : MarkD)])))),(7,.i (((i + 1) : Nat) : Int)),(8,.i ((k : Nat) : Int))],[(9,⟨52,.fix [.i ((a.getD i default).value),.i ((a.getD i default).proc),.i ((a.getD i default).number),.b (((a.getD i default).gone) || ((b.getD k default).gone))]⟩),(106,⟨52,.row (.marks (o ++ ([(⟨((a.getD i default).value),((a.getD i default).proc),((a.getD i default).number),(((a.getD i default).gone) || ((b.getD k default).gone))⟩ : MarkD)])))⟩)],[106,105,9,10,999]⟩)
       (True ∧ (True ∧ True ∧ (Fits .i64 (((i + 1) : Nat) : Int))) ∧ True ∧ True) (by kernel_rfl)
       ⟨tt,⟨tt,tt,(by exact fits_i64 (by omega) (by omega))⟩,tt,tt⟩ ?_
      refine W.L cok tab70 hnt [] (⟨[(0,.sl (.marks a)),(1,.sl (.marks b)),(6,.own 106 (List.length (o ++ ([(⟨((a.getD i default).value),((a.getD i default).proc),((a.getD i default).number),(((a.getD i default).gone) || ((b.getD k default).gone))⟩ : MarkD)])))),(7,.i (((i + 1) : Nat) : Int)),(8,.i (((k + 1) : Nat) : Int)),(109,.i ((k : Nat) : Int)),(110,.i (((k + 1) : Nat) : Int))],[(9,⟨52,.fix [.i ((a.getD i default).value),.i ((a.getD i default).proc),.i ((a.getD i default).number),.b (((a.getD i default).gone) || ((b.getD k default).gone))]⟩),(106,⟨52,.row (.marks (o ++ ([(⟨((a.getD i default).value),((a.getD i default).proc),((a.getD i default).number),(((a.getD i default).gone) || ((b.getD k default).gone))⟩ : MarkD)])))⟩)],[106,105,9,10,999]⟩)
       (True ∧ (True ∧ True ∧ (Fits .i64 (((k + 1) : Nat) : Int))) ∧ True ∧ True) (by kernel_rfl)
       ⟨tt,⟨tt,tt,(by exact fits_i64 (by omega) (by omega))⟩,tt,tt⟩ ?_
      refine blockQ_normal (thenQ_normal ?_)
      refine ⟨((o ++ ([(⟨((a.getD i default).value),((a.getD i default).proc),((a.getD i default).number),(((a.getD i default).gone) || ((b.getD k default).gone))⟩ : MarkD)])),(i + 1),(k + 1)),(show ((i + 1) ≤ a.length ∧ (k + 1) ≤ b.length) ∧ (unUp a b (i + 1) (k + 1) (o ++ ([(⟨((a.getD i default).value),((a.getD i default).proc),((a.getD i default).number),(((a.getD i default).gone) || ((b.getD k default).gone))⟩ : MarkD)]))) ∧ ((o ++ ([(⟨((a.getD i default).value),((a.getD i default).proc),((a.getD i default).number),(((a.getD i default).gone) || ((b.getD k default).gone))⟩ : MarkD)])).length ≤ (i + 1) + (k + 1)) from ⟨(by first | (have := (un_a hu (by simp at h20; omega) hik h41).2; omega) | (have := (un_b hu hik n41 h65).2; omega) | omega),(by first | exact (un_a hu (by simp at h20; omega) hik h41).1 | exact (un_b hu hik n41 h65).1 | exact un_c hu hbb n85),(by simp; omega)⟩),(show a.length - (i + 1) + (b.length - (k + 1)) < a.length - i + (b.length - k) from (by first | (have := (un_a hu (by simp at h20; omega) hik h41).2; omega) | (have := (un_b hu hik n41 h65).2; omega) | omega)),?_⟩
      exact Sub.of [(10,106)] (@cast ((((.marks a : Dat) = .marks a) ∧ (((.marks b : Dat) = .marks b) ∧ ((((106 : Nat) = 106) ∧ (((List.length (o ++ ([(⟨((a.getD i default).value),((a.getD i default).proc),((a.getD i default).number),(((a.getD i default).gone) || ((b.getD k default).gone))⟩ : MarkD)]))) = (List.length (o ++ ([(⟨((a.getD i default).value),((a.getD i default).proc),((a.getD i default).number),(((a.getD i default).gone) || ((b.getD k default).gone))⟩ : MarkD)])))) ∧ ((10 : Nat) ∈ ([10,999] : List Nat)))) ∧ (((.int .i64 (((i + 1) : Nat) : Int) : Value) = .int .i64 (((i + 1) : Nat) : Int)) ∧ (((.int .i64 (((k + 1) : Nat) : Int) : Value) = .int .i64 (((k + 1) : Nat) : Int)) ∧ True))))) ∧ (((((52 : Nat) = 52) ∧ (((.marks (o ++ ([(⟨((a.getD i default).value),((a.getD i default).proc),((a.getD i default).number),(((a.getD i default).gone) || ((b.getD k default).gone))⟩ : MarkD)])) : Dat) = .marks (o ++ ([(⟨((a.getD i default).value),((a.getD i default).proc),((a.getD i default).number),(((a.getD i default).gone) || ((b.getD k default).gone))⟩ : MarkD)]))) ∧ ((10 : Nat) ∈ ([10,999] : List Nat)))) ∧ True) ∧ ((true = true) ∧ (true = true)))) _ (by kernel_rfl) ⟨⟨rfl,rfl,⟨rfl,rfl,(by decide)⟩,rfl,rfl,tt⟩,⟨⟨rfl,rfl,(by decide)⟩,tt⟩,rfl,rfl⟩)
  ·intro n20
   have n20_0 : ¬ (((i : Nat) : Int) < (a.length : Int)) := of_decide_eq_false (or_l n20)
   have n20_1 : ¬ (((k : Nat) : Int) < (b.length : Int)) := of_decide_eq_false (or_r n20)
   refine W.exit (thenQ_exit (thenQ_exit (blockQ_hit ?_)))
   refine thenQ_normal ?_
   refine W.K cok tab70 hnt [] [4,5] (⟨[(4,.own 10 o.length),(5,.b true)],[(10,⟨52,.row (.marks o)⟩)],[10,999]⟩)
    (True ∧ True ∧ True ∧ True) (by kernel_rfl)
    ⟨tt,tt,tt,tt⟩ ?_
   refine W.ret ?_
   exact endQ_ret (.tup [.own 10 o.length,.b true]) (by kernel_rfl) (@cast (((o.length = o.length) ∧ (((.marks o : Dat) = .marks ((uniteP a b).1)) ∧ ((10 : Nat) ∉ ([] : List Nat)))) ∧ (((.bool true : Value) = .bool ((uniteP a b).2)) ∧ True)) _ (by kernel_rfl) ⟨⟨rfl,(congrArg Dat.marks (by rw [un_end hu n20]; try rfl)),(by decide)⟩,(congrArg Value.bool (by rw [un_end hu n20]; try rfl)),tt⟩)
theorem ent70 : Entr prog 70 := ⟨_,func70,rfl,by decide⟩
end Go.Proofs.Try
