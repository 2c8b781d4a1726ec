import Derived.Test.YtfoifegcfbglpaaQF3S0
import Derived.Test.YtfoifegcfbglpaaQF3S5
import Derived.Test.YtfoifegcfbglpaaQF3S1
import Derived.Test.YtfoifegcfbglpaaFrameB
import Derived.Test.YtfoifegcfbglpaaQF3S2
set_option linter.unusedSimpArgs false
set_option linter.unusedVariables false
namespace Go.Proofs.Try
open Go.Ab Go.RowKit
def fs8 : FnS := fnS [.a [some .ints,some .ints,none,none,none,some .marks],.a [some .ints,some .ints,none,none,none,some .marks]] [.copy,.copy] (fun _ (a,b,_) => (.tup [.agg (cC ((mergeC a b).1)),.b ((mergeC a b).2)],[],True))
abbrev T8 : Tab := lk [(32,fs32),(33,fs33),(34,fs34),(35,fs35)]
theorem tab8 : TabOK prog T8 := (TabOK.cons ok32 ent32 (TabOK.cons ok33 ent33 (TabOK.cons ok34 ent34 (TabOK.cons ok35 ent35 TabOK.nil))))
set_option maxRecDepth 100000 in
set_option maxHeartbeats 1000000 in
theorem ok8 : FnOK prog 8 fs8 := by
 refine FnOK.mk cok func8 rfl rfl rfl ?_
 rintro fl ⟨(a : CopyD),(b : CopyD),_⟩ hpre F hnt0 _
 have hnt : F.nt = 86 := hnt0.trans ntmps8
 clear hpre
 refine W.to (⟨[(0,.agg (cC a)),(1,.agg (cC b))],[],[999]⟩) rfl ?_
 refine W.lenA 0 0 (cC a) (.ints a.up) (by kernel_rfl) (by kernel_rfl) ?_
 intro hl_a_up; replace hl_a_up : List.length a.up ≤ 9223372036854775807 := hl_a_up
 refine W.lenA 0 1 (cC a) (.ints a.down) (by kernel_rfl) (by kernel_rfl) ?_
 intro hl_a_down; replace hl_a_down : List.length a.down ≤ 9223372036854775807 := hl_a_down
 refine W.lenA 0 5 (cC a) (.marks a.marks) (by kernel_rfl) (by kernel_rfl) ?_
 intro hl_a_marks; replace hl_a_marks : List.length a.marks ≤ 9223372036854775807 := hl_a_marks
 refine W.lenA 1 0 (cC b) (.ints b.up) (by kernel_rfl) (by kernel_rfl) ?_
 intro hl_b_up; replace hl_b_up : List.length b.up ≤ 9223372036854775807 := hl_b_up
 refine W.lenA 1 1 (cC b) (.ints b.down) (by kernel_rfl) (by kernel_rfl) ?_
 intro hl_b_down; replace hl_b_down : List.length b.down ≤ 9223372036854775807 := hl_b_down
 refine W.lenA 1 5 (cC b) (.marks b.marks) (by kernel_rfl) (by kernel_rfl) ?_
 intro hl_b_marks; replace hl_b_marks : List.length b.marks ≤ 9223372036854775807 := hl_b_marks
 refine Kk cok tab8 hnt [] [2,3,4] (⟨[(2,.ptr 2 0),(3,.ptr 3 0),(4,.ptr 4 0)],[(2,⟨26,.fix (cC a)⟩),(3,⟨26,.fix (cC b)⟩),(4,⟨26,.fix [.v (.slice none 0 0),.v (.slice none 0 0),.i (0 : Int),.i (0 : Int),.i (0 : Int),.v (.slice none 0 0)]⟩)],[4,3,2,999]⟩)
  (True ∧ True ∧ True ∧ True ∧ True)
  ⟨tt,tt,tt,tt,tt⟩ ?_
 refine W.seq ?_
 refine Kk cok tab8 hnt [] [2,3,4,17] (⟨[(2,.ptr 2 0),(3,.ptr 3 0),(4,.ptr 4 0),(17,.b ((!(validCopy a)) || (!(validCopy b))))],[(2,⟨26,.fix (cC a)⟩),(3,⟨26,.fix (cC b)⟩),(4,⟨26,.fix [.v (.slice none 0 0),.v (.slice none 0 0),.i (0 : Int),.i (0 : Int),.i (0 : Int),.v (.slice none 0 0)]⟩)],[4,3,2,999]⟩)
  ((fun (Z1:Bool)=>(True ∧ ((True ∧ (((True ∧ (True ∧ (True ∧ (True ∧ (True ∧ (True ∧ (True ∧ True))))))) ∧ True) ∧ True)) ∧ (True ∧ (True ∧ (((!Z1) = true → True) ∧ (((!Z1) = true → (True ∧ ((((((!Z1) = true) ∧ True) ∧ (True ∧ (True ∧ (True ∧ (True ∧ (True ∧ (True ∧ True))))))) ∧ True) ∧ True))) ∧ (((!Z1) = true → (((!Z1) = true) ∧ True)) ∧ ((True ∧ ((Z1 = true → True) ∧ (Z1 = false → ((!Z1) = true) ∧ True))) ∧ True))))))))) (!(validCopy a)))
  ⟨tt,⟨tt,⟨⟨tt,tt,tt,tt,tt,tt,tt,tt⟩,tt⟩,tt⟩,tt,tt,(fun _ => trivial),(fun hG => ⟨tt,⟨⟨⟨hG,tt⟩,tt,tt,tt,tt,tt,tt,tt⟩,tt⟩,tt⟩),(fun hG => ⟨hG,tt⟩),⟨tt,(fun _ => trivial),(fun hp => ⟨(not_t hp),tt⟩)⟩,tt⟩ ?_
 refine W.if' ((!(validCopy a)) || (!(validCopy b))) (.b ((!(validCopy a)) || (!(validCopy b)))) (by kernel_rfl) rfl trivial ?_ ?_
 ·intro h17
  refine Kk cok tab8 hnt [] [4,5] (⟨[(4,.ptr 4 0),(5,.b false)],[(2,⟨26,.fix (cC a)⟩),(3,⟨26,.fix (cC b)⟩),(4,⟨26,.fix [.v (.slice none 0 0),.v (.slice none 0 0),.i (0 : Int),.i (0 : Int),.i (0 : Int),.v (.slice none 0 0)]⟩)],[4,3,2,999]⟩)
   (True ∧ (True ∧ True) ∧ True ∧ True)
   ⟨tt,⟨tt,tt⟩,tt,tt⟩ ?_
  refine W.ret (thenQ_ret ?_)
  exact endQ_ret (.tup [.agg [.v (.slice none 0 0),.v (.slice none 0 0),.i (0 : Int),.i (0 : Int),.i (0 : Int),.v (.slice none 0 0)],.b false]) (by kernel_rfl) (@cast (((((Value.slice none 0 0 : Value) = .slice none 0 0) ∧ ((Dat.ints ((mergeC a b).1.up)).len = 0)) ∧ (((Value.slice none 0 0 : Value) = .slice none 0 0) ∧ ((Dat.ints ((mergeC a b).1.down)).len = 0)) ∧ ((.int .i64 (0 : Int) : Value) = .int .i64 ((mergeC a b).1.value)) ∧ ((.int .i64 (0 : Int) : Value) = .int .i64 ((mergeC a b).1.time)) ∧ ((.int .i64 (0 : Int) : Value) = .int .i64 ((mergeC a b).1.proc)) ∧ (((Value.slice none 0 0 : Value) = .slice none 0 0) ∧ ((Dat.marks ((mergeC a b).1.marks)).len = 0)) ∧ True) ∧ ((.bool false : Value) = .bool ((mergeC a b).2)) ∧ True) _ (by kernel_rfl) ⟨⟨⟨rfl,(by show List.length ((mergeC a b).1.up) = 0; rw [merge_no (gen_bad1 h17)]; try rfl)⟩,⟨rfl,(by show List.length ((mergeC a b).1.down) = 0; rw [merge_no (gen_bad1 h17)]; try rfl)⟩,(congrArg (Value.int .i64) (by rw [merge_no (gen_bad1 h17)]; try rfl)),(congrArg (Value.int .i64) (by rw [merge_no (gen_bad1 h17)]; try rfl)),(congrArg (Value.int .i64) (by rw [merge_no (gen_bad1 h17)]; try rfl)),⟨rfl,(by show List.length ((mergeC a b).1.marks) = 0; rw [merge_no (gen_bad1 h17)]; try rfl)⟩,tt⟩,(congrArg Value.bool (by rw [merge_no (gen_bad1 h17)]; try rfl)),tt⟩)
 ·intro n17
  have hg : (validCopy a && validCopy b) = true := gen_ok1 n17
  have hf := up_len (and_l hg)
  have hfb := up_len (and_r hg)
  have hul := uniteP_len a.marks b.marks
  refine W.skip (thenQ_normal ?_)
  refine Kk cok tab8 hnt [] [2,3,4,6] (⟨[(2,.ptr 2 0),(3,.ptr 3 0),(4,.ptr 4 0),(6,.ptr 6 0)],[(2,⟨26,.fix (cC a)⟩),(3,⟨26,.fix (cC b)⟩),(4,⟨26,.fix [.v (.slice none 0 0),.v (.slice none 0 0),.i (0 : Int),.i (0 : Int),.i (0 : Int),.v (.slice none 0 0)]⟩),(6,⟨26,.fix [.own 20 (List.length a.up),.own 1020 (List.length a.down),.i a.value,.i a.time,.i a.proc,.own 2020 (List.length a.marks)]⟩),(20,⟨3,.row (.ints a.up)⟩),(1020,⟨3,.row (.ints a.down)⟩),(2020,⟨33,.row (.marks a.marks)⟩)],[6,2020,1020,20,4,3,2,999]⟩)
   (True ∧ (True ∧ ((True ∧ True ∧ True ∧ True ∧ True ∧ True ∧ True ∧ True) ∧ True) ∧ a.up.length ≤ 1000 ∧ a.down.length ≤ 1000 ∧ a.marks.length ≤ 1000) ∧ True ∧ (True ∧ True) ∧ True)
   ⟨tt,⟨tt,⟨⟨tt,tt,tt,tt,tt,tt,tt,tt⟩,tt⟩,(by omega)⟩,tt,⟨tt,tt⟩,tt⟩ ?_
  refine W.seq ?_
  refine Kk cok tab8 hnt [] [2,3,4,6,23] (⟨[(2,.ptr 2 0),(3,.ptr 3 0),(4,.ptr 4 0),(6,.ptr 6 0),(23,.b (newerC b a))],[(2,⟨26,.fix (cC a)⟩),(3,⟨26,.fix (cC b)⟩),(4,⟨26,.fix [.v (.slice none 0 0),.v (.slice none 0 0),.i (0 : Int),.i (0 : Int),.i (0 : Int),.v (.slice none 0 0)]⟩),(6,⟨26,.fix [.own 20 (List.length a.up),.own 1020 (List.length a.down),.i a.value,.i a.time,.i a.proc,.own 2020 (List.length a.marks)]⟩),(20,⟨3,.row (.ints a.up)⟩),(1020,⟨3,.row (.ints a.down)⟩),(2020,⟨33,.row (.marks a.marks)⟩)],[6,2020,1020,20,4,3,2,999]⟩)
   (True ∧ True ∧ (True ∧ ((True ∧ True ∧ True ∧ True ∧ True ∧ True ∧ True ∧ True) ∧ (True ∧ True ∧ True ∧ True ∧ True ∧ True ∧ True ∧ True) ∧ True) ∧ True) ∧ True)
   ⟨tt,tt,⟨tt,⟨⟨tt,tt,tt,tt,tt,tt,tt,tt⟩,⟨tt,tt,tt,tt,tt,tt,tt,tt⟩,tt⟩,tt⟩,tt⟩ ?_
  refine W.meetT (ι := Int × Int × Int) (fun (x : Int × Int × Int) => match x with | (jv,jt,jp) => (⟨[(2,.ptr 2 0),(3,.ptr 3 0),(4,.ptr 4 0),(6,.ptr 6 0)],[(2,⟨26,.fix (cC a)⟩),(3,⟨26,.fix (cC b)⟩),(4,⟨26,.fix [.v (.slice none 0 0),.v (.slice none 0 0),.i (0 : Int),.i (0 : Int),.i (0 : Int),.v (.slice none 0 0)]⟩),(6,⟨26,.fix [.own 20 (List.length a.up),.own 1020 (List.length a.down),.i jv,.i jt,.i jp,.own 2020 (List.length a.marks)]⟩),(20,⟨3,.row (.ints a.up)⟩),(1020,⟨3,.row (.ints a.down)⟩),(2020,⟨33,.row (.marks a.marks)⟩)],[2,3,4,6,20,999,1020,2020]⟩ : St)) (fun (x : Int × Int × Int) => match x with | (jv,jt,jp) => (jv = (bif newerC b a then b.value else a.value)) ∧ (jt = (bif newerC b a then b.time else a.time)) ∧ (jp = (bif newerC b a then b.proc else a.proc))) ?_ ?_
  ·skip
   refine W.if' (newerC b a) (.b (newerC b a)) (by kernel_rfl) rfl trivial ?_ ?_
   ·intro h23
    refine Kk cok tab8 hnt [] [2,3,4,6] (⟨[(2,.ptr 2 0),(3,.ptr 3 0),(4,.ptr 4 0),(6,.ptr 6 0)],[(2,⟨26,.fix (cC a)⟩),(3,⟨26,.fix (cC b)⟩),(4,⟨26,.fix [.v (.slice none 0 0),.v (.slice none 0 0),.i (0 : Int),.i (0 : Int),.i (0 : Int),.v (.slice none 0 0)]⟩),(6,⟨26,.fix [.own 20 (List.length a.up),.own 1020 (List.length a.down),.i b.value,.i a.time,.i a.proc,.own 2020 (List.length a.marks)]⟩),(20,⟨3,.row (.ints a.up)⟩),(1020,⟨3,.row (.ints a.down)⟩),(2020,⟨33,.row (.marks a.marks)⟩)],[6,2020,1020,20,4,3,2,999]⟩)
     (True ∧ True ∧ True ∧ (True ∧ True) ∧ True)
     ⟨tt,tt,tt,⟨tt,tt⟩,tt⟩ ?_
    refine Kk cok tab8 hnt [] [2,3,4,6] (⟨[(2,.ptr 2 0),(3,.ptr 3 0),(4,.ptr 4 0),(6,.ptr 6 0)],[(2,⟨26,.fix (cC a)⟩),(3,⟨26,.fix (cC b)⟩),(4,⟨26,.fix [.v (.slice none 0 0),.v (.slice none 0 0),.i (0 : Int),.i (0 : Int),.i (0 : Int),.v (.slice none 0 0)]⟩),(6,⟨26,.fix [.own 20 (List.length a.up),.own 1020 (List.length a.down),.i b.value,.i b.time,.i a.proc,.own 2020 (List.length a.marks)]⟩),(20,⟨3,.row (.ints a.up)⟩),(1020,⟨3,.row (.ints a.down)⟩),(2020,⟨33,.row (.marks a.marks)⟩)],[6,2020,1020,20,4,3,2,999]⟩)
     (True ∧ True ∧ True ∧ (True ∧ True) ∧ True)
     ⟨tt,tt,tt,⟨tt,tt⟩,tt⟩ ?_
    refine Lk cok tab8 hnt [] (⟨[(2,.ptr 2 0),(3,.ptr 3 0),(4,.ptr 4 0),(6,.ptr 6 0),(30,.ptr 3 4),(31,.i b.proc),(32,.ptr 6 4)],[(2,⟨26,.fix (cC a)⟩),(3,⟨26,.fix (cC b)⟩),(4,⟨26,.fix [.v (.slice none 0 0),.v (.slice none 0 0),.i (0 : Int),.i (0 : Int),.i (0 : Int),.v (.slice none 0 0)]⟩),(6,⟨26,.fix [.own 20 (List.length a.up),.own 1020 (List.length a.down),.i b.value,.i b.time,.i b.proc,.own 2020 (List.length a.marks)]⟩),(20,⟨3,.row (.ints a.up)⟩),(1020,⟨3,.row (.ints a.down)⟩),(2020,⟨33,.row (.marks a.marks)⟩)],[6,2020,1020,20,4,3,2,999]⟩)
     (True ∧ True ∧ True ∧ (True ∧ True) ∧ True)
     ⟨tt,tt,tt,⟨tt,tt⟩,tt⟩ ?_
    refine thenQ_normal ?_
    refine ⟨(b.value,b.time,b.proc),(show (b.value = (bif newerC b a then b.value else a.value)) ∧ (b.time = (bif newerC b a then b.time else a.time)) ∧ (b.proc = (bif newerC b a then b.proc else a.proc)) from ⟨(by first | (rw [h23]; rfl) | (rw [n23]; rfl)),(by first | (rw [h23]; rfl) | (rw [n23]; rfl)),(by first | (rw [h23]; rfl) | (rw [n23]; rfl))⟩),?_⟩
    exact Sub.of [] (@cast (((((2 : Nat) = 2) ∧ ((0 : Nat) = 0) ∧ ((2 : Nat) ∈ ([2,3,4,6,20,999,1020,2020] : List Nat))) ∧ (((3 : Nat) = 3) ∧ ((0 : Nat) = 0) ∧ ((3 : Nat) ∈ ([2,3,4,6,20,999,1020,2020] : List Nat))) ∧ (((4 : Nat) = 4) ∧ ((0 : Nat) = 0) ∧ ((4 : Nat) ∈ ([2,3,4,6,20,999,1020,2020] : List Nat))) ∧ (((6 : Nat) = 6) ∧ ((0 : Nat) = 0) ∧ ((6 : Nat) ∈ ([2,3,4,6,20,999,1020,2020] : List Nat))) ∧ True) ∧ ((((26 : Nat) = 26) ∧ (Sc a) ∧ ((2 : Nat) ∈ ([2,3,4,6,20,999,1020,2020] : List Nat))) ∧ (((26 : Nat) = 26) ∧ (Sc b) ∧ ((3 : Nat) ∈ ([2,3,4,6,20,999,1020,2020] : List Nat))) ∧ (((26 : Nat) = 26) ∧ ((((.slice none 0 0) : Value) = (.slice none 0 0)) ∧ (((.slice none 0 0) : Value) = (.slice none 0 0)) ∧ (Si (0 : Int)) ∧ (Si (0 : Int)) ∧ (Si (0 : Int)) ∧ (((.slice none 0 0) : Value) = (.slice none 0 0)) ∧ True) ∧ ((4 : Nat) ∈ ([2,3,4,6,20,999,1020,2020] : List Nat))) ∧ (((26 : Nat) = 26) ∧ ((((20 : Nat) = 20) ∧ ((List.length a.up) = (List.length a.up)) ∧ ((20 : Nat) ∈ ([2,3,4,6,20,999,1020,2020] : List Nat))) ∧ (((1020 : Nat) = 1020) ∧ ((List.length a.down) = (List.length a.down)) ∧ ((1020 : Nat) ∈ ([2,3,4,6,20,999,1020,2020] : List Nat))) ∧ (Si b.value) ∧ (Si b.time) ∧ (Si b.proc) ∧ (((2020 : Nat) = 2020) ∧ ((List.length a.marks) = (List.length a.marks)) ∧ ((2020 : Nat) ∈ ([2,3,4,6,20,999,1020,2020] : List Nat))) ∧ True) ∧ ((6 : Nat) ∈ ([2,3,4,6,20,999,1020,2020] : List Nat))) ∧ (((3 : Nat) = 3) ∧ (Sd (.ints a.up)) ∧ ((20 : Nat) ∈ ([2,3,4,6,20,999,1020,2020] : List Nat))) ∧ (((3 : Nat) = 3) ∧ (Sd (.ints a.down)) ∧ ((1020 : Nat) ∈ ([2,3,4,6,20,999,1020,2020] : List Nat))) ∧ (((33 : Nat) = 33) ∧ (Sd (.marks a.marks)) ∧ ((2020 : Nat) ∈ ([2,3,4,6,20,999,1020,2020] : List Nat))) ∧ True) ∧ (true = true) ∧ (true = true)) _ (by kernel_rfl) ⟨⟨⟨rfl,rfl,(by decide)⟩,⟨rfl,rfl,(by decide)⟩,⟨rfl,rfl,(by decide)⟩,⟨rfl,rfl,(by decide)⟩,tt⟩,⟨⟨rfl,⟨rfl,rfl,rfl,rfl,rfl,rfl,tt⟩,(by decide)⟩,⟨rfl,⟨rfl,rfl,rfl,rfl,rfl,rfl,tt⟩,(by decide)⟩,⟨rfl,⟨rfl,rfl,rfl,rfl,rfl,rfl,tt⟩,(by decide)⟩,⟨rfl,⟨⟨rfl,rfl,(by decide)⟩,⟨rfl,rfl,(by decide)⟩,rfl,rfl,rfl,⟨rfl,rfl,(by decide)⟩,tt⟩,(by decide)⟩,⟨rfl,rfl,(by decide)⟩,⟨rfl,rfl,(by decide)⟩,⟨rfl,rfl,(by decide)⟩,tt⟩,rfl,rfl⟩)
   ·intro n23
    refine W.skip (thenQ_normal ?_)
    refine ⟨(a.value,a.time,a.proc),(show (a.value = (bif newerC b a then b.value else a.value)) ∧ (a.time = (bif newerC b a then b.time else a.time)) ∧ (a.proc = (bif newerC b a then b.proc else a.proc)) from ⟨(by first | (rw [h23]; rfl) | (rw [n23]; rfl)),(by first | (rw [h23]; rfl) | (rw [n23]; rfl)),(by first | (rw [h23]; rfl) | (rw [n23]; rfl))⟩),?_⟩
    exact Sub.of [] (@cast (((((2 : Nat) = 2) ∧ ((0 : Nat) = 0) ∧ ((2 : Nat) ∈ ([2,3,4,6,20,999,1020,2020] : List Nat))) ∧ (((3 : Nat) = 3) ∧ ((0 : Nat) = 0) ∧ ((3 : Nat) ∈ ([2,3,4,6,20,999,1020,2020] : List Nat))) ∧ (((4 : Nat) = 4) ∧ ((0 : Nat) = 0) ∧ ((4 : Nat) ∈ ([2,3,4,6,20,999,1020,2020] : List Nat))) ∧ (((6 : Nat) = 6) ∧ ((0 : Nat) = 0) ∧ ((6 : Nat) ∈ ([2,3,4,6,20,999,1020,2020] : List Nat))) ∧ True) ∧ ((((26 : Nat) = 26) ∧ (Sc a) ∧ ((2 : Nat) ∈ ([2,3,4,6,20,999,1020,2020] : List Nat))) ∧ (((26 : Nat) = 26) ∧ (Sc b) ∧ ((3 : Nat) ∈ ([2,3,4,6,20,999,1020,2020] : List Nat))) ∧ (((26 : Nat) = 26) ∧ ((((.slice none 0 0) : Value) = (.slice none 0 0)) ∧ (((.slice none 0 0) : Value) = (.slice none 0 0)) ∧ (Si (0 : Int)) ∧ (Si (0 : Int)) ∧ (Si (0 : Int)) ∧ (((.slice none 0 0) : Value) = (.slice none 0 0)) ∧ True) ∧ ((4 : Nat) ∈ ([2,3,4,6,20,999,1020,2020] : List Nat))) ∧ (((26 : Nat) = 26) ∧ ((((20 : Nat) = 20) ∧ ((List.length a.up) = (List.length a.up)) ∧ ((20 : Nat) ∈ ([2,3,4,6,20,999,1020,2020] : List Nat))) ∧ (((1020 : Nat) = 1020) ∧ ((List.length a.down) = (List.length a.down)) ∧ ((1020 : Nat) ∈ ([2,3,4,6,20,999,1020,2020] : List Nat))) ∧ (Si a.value) ∧ (Si a.time) ∧ (Si a.proc) ∧ (((2020 : Nat) = 2020) ∧ ((List.length a.marks) = (List.length a.marks)) ∧ ((2020 : Nat) ∈ ([2,3,4,6,20,999,1020,2020] : List Nat))) ∧ True) ∧ ((6 : Nat) ∈ ([2,3,4,6,20,999,1020,2020] : List Nat))) ∧ (((3 : Nat) = 3) ∧ (Sd (.ints a.up)) ∧ ((20 : Nat) ∈ ([2,3,4,6,20,999,1020,2020] : List Nat))) ∧ (((3 : Nat) = 3) ∧ (Sd (.ints a.down)) ∧ ((1020 : Nat) ∈ ([2,3,4,6,20,999,1020,2020] : List Nat))) ∧ (((33 : Nat) = 33) ∧ (Sd (.marks a.marks)) ∧ ((2020 : Nat) ∈ ([2,3,4,6,20,999,1020,2020] : List Nat))) ∧ True) ∧ (true = true) ∧ (true = true)) _ (by kernel_rfl) ⟨⟨⟨rfl,rfl,(by decide)⟩,⟨rfl,rfl,(by decide)⟩,⟨rfl,rfl,(by decide)⟩,⟨rfl,rfl,(by decide)⟩,tt⟩,⟨⟨rfl,⟨rfl,rfl,rfl,rfl,rfl,rfl,tt⟩,(by decide)⟩,⟨rfl,⟨rfl,rfl,rfl,rfl,rfl,rfl,tt⟩,(by decide)⟩,⟨rfl,⟨rfl,rfl,rfl,rfl,rfl,rfl,tt⟩,(by decide)⟩,⟨rfl,⟨⟨rfl,rfl,(by decide)⟩,⟨rfl,rfl,(by decide)⟩,rfl,rfl,rfl,⟨rfl,rfl,(by decide)⟩,tt⟩,(by decide)⟩,⟨rfl,rfl,(by decide)⟩,⟨rfl,rfl,(by decide)⟩,⟨rfl,rfl,(by decide)⟩,tt⟩,rfl,rfl⟩)
  ·rintro ⟨jv,jt,jp⟩ hC0
   have hC : (jv = (bif newerC b a then b.value else a.value)) ∧ (jt = (bif newerC b a then b.time else a.time)) ∧ (jp = (bif newerC b a then b.proc else a.proc)) := hC0
   clear hC0
   obtain ⟨hjv,hjt,hjp⟩ := hC
   refine W.to (⟨[(2,.ptr 2 0),(3,.ptr 3 0),(4,.ptr 4 0),(6,.ptr 6 0)],[(2,⟨26,.fix (cC a)⟩),(3,⟨26,.fix (cC b)⟩),(4,⟨26,.fix [.v (.slice none 0 0),.v (.slice none 0 0),.i (0 : Int),.i (0 : Int),.i (0 : Int),.v (.slice none 0 0)]⟩),(6,⟨26,.fix [.own 20 (List.length a.up),.own 1020 (List.length a.down),.i jv,.i jt,.i jp,.own 2020 (List.length a.marks)]⟩),(20,⟨3,.row (.ints a.up)⟩),(1020,⟨3,.row (.ints a.down)⟩),(2020,⟨33,.row (.marks a.marks)⟩)],[2,3,4,6,20,999,1020,2020]⟩) rfl ?_
   refine W.seq ?_
   refine Kk cok tab8 hnt [] [2,3,4,6,7] (⟨[(2,.ptr 2 0),(3,.ptr 3 0),(4,.ptr 4 0),(6,.ptr 6 0),(7,.i (0 : Int))],[(2,⟨26,.fix (cC a)⟩),(3,⟨26,.fix (cC b)⟩),(4,⟨26,.fix [.v (.slice none 0 0),.v (.slice none 0 0),.i (0 : Int),.i (0 : Int),.i (0 : Int),.v (.slice none 0 0)]⟩),(6,⟨26,.fix [.own 20 (List.length a.up),.own 1020 (List.length a.down),.i jv,.i jt,.i jp,.own 2020 (List.length a.marks)]⟩),(20,⟨3,.row (.ints a.up)⟩),(1020,⟨3,.row (.ints a.down)⟩),(2020,⟨33,.row (.marks a.marks)⟩)],[2,3,4,6,20,999,1020,2020]⟩)
    (True ∧ True)
    ⟨tt,tt⟩ ?_
   refine W.block ?_
   refine W.loop (ι := Nat × (List Int) × (List Int)) (fun (x : Nat × (List Int) × (List Int)) => match x with | (k,us,ds) => (⟨[(2,.ptr 2 0),(3,.ptr 3 0),(4,.ptr 4 0),(6,.ptr 6 0),(7,.i ((k : Nat) : Int))],[(2,⟨26,.fix (cC a)⟩),(3,⟨26,.fix (cC b)⟩),(4,⟨26,.fix [.v (.slice none 0 0),.v (.slice none 0 0),.i (0 : Int),.i (0 : Int),.i (0 : Int),.v (.slice none 0 0)]⟩),(6,⟨26,.fix [.own 20 us.length,.own 1020 ds.length,.i jv,.i jt,.i jp,.own 2020 (List.length a.marks)]⟩),(20,⟨3,.row (.ints us)⟩),(1020,⟨3,.row (.ints ds)⟩),(2020,⟨33,.row (.marks a.marks)⟩)],[2,3,4,6,20,999,1020,2020]⟩ : St))
    (fun (x : Nat × (List Int) × (List Int)) => match x with | (k,us,ds) => (k ≤ 3) ∧ (us = maxUp a.up b.up k) ∧ (ds = maxUp a.down b.down k))
    (fun (x : Nat × (List Int) × (List Int)) => match x with | (k,us,ds) => (3 - k : Nat)) (0,a.up,a.down) ?_ ?_ ?_
   ·exact (show (0 ≤ 3) ∧ (a.up = maxUp a.up b.up 0) ∧ (a.down = maxUp a.down b.down 0) from ⟨(by first | assumption | omega | rfl | (intro _ hjj; omega) | (simp; done) | (simp; omega)),(by exact maxUp_zero _ _),(by exact maxUp_zero _ _)⟩)
   ·exact Sub.of [] (@cast (((((2 : Nat) = 2) ∧ ((0 : Nat) = 0) ∧ ((2 : Nat) ∈ ([2,3,4,6,20,999,1020,2020] : List Nat))) ∧ (((3 : Nat) = 3) ∧ ((0 : Nat) = 0) ∧ ((3 : Nat) ∈ ([2,3,4,6,20,999,1020,2020] : List Nat))) ∧ (((4 : Nat) = 4) ∧ ((0 : Nat) = 0) ∧ ((4 : Nat) ∈ ([2,3,4,6,20,999,1020,2020] : List Nat))) ∧ (((6 : Nat) = 6) ∧ ((0 : Nat) = 0) ∧ ((6 : Nat) ∈ ([2,3,4,6,20,999,1020,2020] : List Nat))) ∧ ((.int .i64 (0 : Int) : Value) = .int .i64 ((0 : Nat) : Int)) ∧ True) ∧ ((((26 : Nat) = 26) ∧ (Sc a) ∧ ((2 : Nat) ∈ ([2,3,4,6,20,999,1020,2020] : List Nat))) ∧ (((26 : Nat) = 26) ∧ (Sc b) ∧ ((3 : Nat) ∈ ([2,3,4,6,20,999,1020,2020] : List Nat))) ∧ (((26 : Nat) = 26) ∧ ((((.slice none 0 0) : Value) = (.slice none 0 0)) ∧ (((.slice none 0 0) : Value) = (.slice none 0 0)) ∧ (Si (0 : Int)) ∧ (Si (0 : Int)) ∧ (Si (0 : Int)) ∧ (((.slice none 0 0) : Value) = (.slice none 0 0)) ∧ True) ∧ ((4 : Nat) ∈ ([2,3,4,6,20,999,1020,2020] : List Nat))) ∧ (((26 : Nat) = 26) ∧ ((((20 : Nat) = 20) ∧ ((List.length a.up) = (List.length a.up)) ∧ ((20 : Nat) ∈ ([2,3,4,6,20,999,1020,2020] : List Nat))) ∧ (((1020 : Nat) = 1020) ∧ ((List.length a.down) = (List.length a.down)) ∧ ((1020 : Nat) ∈ ([2,3,4,6,20,999,1020,2020] : List Nat))) ∧ (Si jv) ∧ (Si jt) ∧ (Si jp) ∧ (((2020 : Nat) = 2020) ∧ ((List.length a.marks) = (List.length a.marks)) ∧ ((2020 : Nat) ∈ ([2,3,4,6,20,999,1020,2020] : List Nat))) ∧ True) ∧ ((6 : Nat) ∈ ([2,3,4,6,20,999,1020,2020] : List Nat))) ∧ (((3 : Nat) = 3) ∧ (Sd (.ints a.up)) ∧ ((20 : Nat) ∈ ([2,3,4,6,20,999,1020,2020] : List Nat))) ∧ (((3 : Nat) = 3) ∧ (Sd (.ints a.down)) ∧ ((1020 : Nat) ∈ ([2,3,4,6,20,999,1020,2020] : List Nat))) ∧ (((33 : Nat) = 33) ∧ (Sd (.marks a.marks)) ∧ ((2020 : Nat) ∈ ([2,3,4,6,20,999,1020,2020] : List Nat))) ∧ True) ∧ (true = true) ∧ (true = true)) _ (by kernel_rfl) ⟨⟨⟨rfl,rfl,(by decide)⟩,⟨rfl,rfl,(by decide)⟩,⟨rfl,rfl,(by decide)⟩,⟨rfl,rfl,(by decide)⟩,(congrArg (Value.int .i64) (by first | rfl | omega | assumption | simp | simp_all)),tt⟩,⟨⟨rfl,⟨rfl,rfl,rfl,rfl,rfl,rfl,tt⟩,(by decide)⟩,⟨rfl,⟨rfl,rfl,rfl,rfl,rfl,rfl,tt⟩,(by decide)⟩,⟨rfl,⟨rfl,rfl,rfl,rfl,rfl,rfl,tt⟩,(by decide)⟩,⟨rfl,⟨⟨rfl,rfl,(by decide)⟩,⟨rfl,rfl,(by decide)⟩,rfl,rfl,rfl,⟨rfl,rfl,(by decide)⟩,tt⟩,(by decide)⟩,⟨rfl,rfl,(by decide)⟩,⟨rfl,rfl,(by decide)⟩,⟨rfl,rfl,(by decide)⟩,tt⟩,rfl,rfl⟩)
   ·rintro ⟨k,us,ds⟩ hC0
    have hC : (k ≤ 3) ∧ (us = maxUp a.up b.up k) ∧ (ds = maxUp a.down b.down k) := hC0
    clear hC0
    obtain ⟨hk,hus,hds⟩ := hC
    refine W.to (⟨[(2,.ptr 2 0),(3,.ptr 3 0),(4,.ptr 4 0),(6,.ptr 6 0),(7,.i ((k : Nat) : Int))],[(2,⟨26,.fix (cC a)⟩),(3,⟨26,.fix (cC b)⟩),(4,⟨26,.fix [.v (.slice none 0 0),.v (.slice none 0 0),.i (0 : Int),.i (0 : Int),.i (0 : Int),.v (.slice none 0 0)]⟩),(6,⟨26,.fix [.own 20 us.length,.own 1020 ds.length,.i jv,.i jt,.i jp,.own 2020 (List.length a.marks)]⟩),(20,⟨3,.row (.ints us)⟩),(1020,⟨3,.row (.ints ds)⟩),(2020,⟨33,.row (.marks a.marks)⟩)],[2,3,4,6,20,999,1020,2020]⟩) rfl ?_
    have hul2 : us.length = 3 := by rw [hus,maxUp_len (by omega)]; omega
    have hdl2 : ds.length = 3 := by rw [hds,maxUp_len (by omega)]; omega
    refine W.seq ?_
    refine Kk cok tab8 hnt [] [2,3,4,6,7,34] (⟨[(2,.ptr 2 0),(3,.ptr 3 0),(4,.ptr 4 0),(6,.ptr 6 0),(7,.i ((k : Nat) : Int)),(34,.b (decide (((k : Nat) : Int) < (3 : Int))))],[(2,⟨26,.fix (cC a)⟩),(3,⟨26,.fix (cC b)⟩),(4,⟨26,.fix [.v (.slice none 0 0),.v (.slice none 0 0),.i (0 : Int),.i (0 : Int),.i (0 : Int),.v (.slice none 0 0)]⟩),(6,⟨26,.fix [.own 20 us.length,.own 1020 ds.length,.i jv,.i jt,.i jp,.own 2020 (List.length a.marks)]⟩),(20,⟨3,.row (.ints us)⟩),(1020,⟨3,.row (.ints ds)⟩),(2020,⟨33,.row (.marks a.marks)⟩)],[2,3,4,6,20,999,1020,2020]⟩)
     (True ∧ (True ∧ True ∧ True) ∧ True)
     ⟨tt,⟨tt,tt,tt⟩,tt⟩ ?_
    refine W.ifP (((k : Nat) : Int) < (3 : Int)) (.b (decide (((k : Nat) : Int) < (3 : Int)))) (by kernel_rfl) rfl trivial ?_ ?_
    ·intro h34
     refine W.skip (thenQ_normal ?_)
     refine W.seq ?_
     refine W.block ?_
     refine W.KA cok tab8 hnt [] [2,3,4,6,7] (⟨[(2,.ptr 2 0),(3,.ptr 3 0),(4,.ptr 4 0),(6,.ptr 6 0),(7,.i ((k : Nat) : Int))],[(2,⟨26,.fix (cC a)⟩),(3,⟨26,.fix (cC b)⟩),(4,⟨26,.fix [.v (.slice none 0 0),.v (.slice none 0 0),.i (0 : Int),.i (0 : Int),.i (0 : Int),.v (.slice none 0 0)]⟩),(6,⟨26,.fix [.own 20 us.length,.own 1020 ds.length,.i jv,.i jt,.i jp,.own 2020 (List.length a.marks)]⟩),(20,⟨3,.row (.ints (List.set us k (max (List.getD a.up k 0) (List.getD b.up k 0))))⟩),(1020,⟨3,.row (.ints ds)⟩),(2020,⟨33,.row (.marks a.marks)⟩)],[2,3,4,6,20,999,1020,2020]⟩)
      (True ∧ True ∧ True ∧ True ∧ True ∧ True ∧ (True ∧ True ∧ (0 ≤ ((k : Nat) : Int)) ∧ (((k : Nat) : Int) < (((List.length a.up) : Nat) : Int))) ∧ True ∧ True ∧ True ∧ True ∧ (True ∧ True ∧ (0 ≤ ((k : Nat) : Int)) ∧ (((k : Nat) : Int) < (((List.length b.up) : Nat) : Int))) ∧ True ∧ (True ∧ True) ∧ (True ∧ True ∧ (0 ≤ ((k : Nat) : Int)) ∧ (((k : Nat) : Int) < (us.length : Int))) ∧ (True ∧ True ∧ (k < us.length)) ∧ True) (by kernel_rfl) (by kernel_rfl)
      ⟨tt,tt,tt,tt,tt,tt,⟨tt,tt,(by omega),(by omega)⟩,tt,tt,tt,tt,⟨tt,tt,(by omega),(by omega)⟩,tt,⟨tt,tt⟩,⟨tt,tt,(by omega),(by omega)⟩,⟨tt,tt,(by omega)⟩,tt⟩ ?_
     refine W.LA cok tab8 hnt [] (⟨[(2,.ptr 2 0),(3,.ptr 3 0),(4,.ptr 4 0),(6,.ptr 6 0),(7,.i ((k : Nat) : Int)),(52,.ptr 6 1),(53,.own 1020 ds.length),(54,.i ((k : Nat) : Int)),(55,.ptr 2 1),(56,.sl (.ints a.down)),(57,.i ((k : Nat) : Int)),(58,.ep [.i (List.getD a.down k 0)]),(59,.i (List.getD a.down k 0)),(60,.ptr 3 1),(61,.sl (.ints b.down)),(62,.i ((k : Nat) : Int)),(63,.ep [.i (List.getD b.down k 0)]),(64,.i (List.getD b.down k 0)),(65,.i (max (List.getD a.down k 0) (List.getD b.down k 0))),(66,.pel 1020 1 k 0)],[(2,⟨26,.fix (cC a)⟩),(3,⟨26,.fix (cC b)⟩),(4,⟨26,.fix [.v (.slice none 0 0),.v (.slice none 0 0),.i (0 : Int),.i (0 : Int),.i (0 : Int),.v (.slice none 0 0)]⟩),(6,⟨26,.fix [.own 20 us.length,.own 1020 ds.length,.i jv,.i jt,.i jp,.own 2020 (List.length a.marks)]⟩),(20,⟨3,.row (.ints (List.set us k (max (List.getD a.up k 0) (List.getD b.up k 0))))⟩),(1020,⟨3,.row (.ints (List.set ds k (max (List.getD a.down k 0) (List.getD b.down k 0))))⟩),(2020,⟨33,.row (.marks a.marks)⟩)],[2,3,4,6,20,999,1020,2020]⟩)
      (True ∧ True ∧ True ∧ True ∧ True ∧ True ∧ (True ∧ True ∧ (0 ≤ ((k : Nat) : Int)) ∧ (((k : Nat) : Int) < (((List.length a.down) : Nat) : Int))) ∧ True ∧ True ∧ True ∧ True ∧ (True ∧ True ∧ (0 ≤ ((k : Nat) : Int)) ∧ (((k : Nat) : Int) < (((List.length b.down) : Nat) : Int))) ∧ True ∧ (True ∧ True) ∧ (True ∧ True ∧ (0 ≤ ((k : Nat) : Int)) ∧ (((k : Nat) : Int) < (ds.length : Int))) ∧ (True ∧ True ∧ (k < ds.length)) ∧ True) (by kernel_rfl) (by kernel_rfl)
      ⟨tt,tt,tt,tt,tt,tt,⟨tt,tt,(by omega),(by omega)⟩,tt,tt,tt,tt,⟨tt,tt,(by omega),(by omega)⟩,tt,⟨tt,tt⟩,⟨tt,tt,(by omega),(by omega)⟩,⟨tt,tt,(by omega)⟩,tt⟩ ?_
     refine blockQ_normal (thenQ_normal ?_)
     refine Lk cok tab8 hnt [] (⟨[(2,.ptr 2 0),(3,.ptr 3 0),(4,.ptr 4 0),(6,.ptr 6 0),(7,.i (((k + 1) : Nat) : Int)),(35,.i ((k : Nat) : Int)),(36,.i (((k + 1) : Nat) : Int)),(52,.ptr 6 1),(53,.own 1020 ds.length),(54,.i ((k : Nat) : Int)),(55,.ptr 2 1),(56,.sl (.ints a.down)),(57,.i ((k : Nat) : Int)),(58,.ep [.i (List.getD a.down k 0)]),(59,.i (List.getD a.down k 0)),(60,.ptr 3 1),(61,.sl (.ints b.down)),(62,.i ((k : Nat) : Int)),(63,.ep [.i (List.getD b.down k 0)]),(64,.i (List.getD b.down k 0)),(65,.i (max (List.getD a.down k 0) (List.getD b.down k 0))),(66,.pel 1020 1 k 0)],[(2,⟨26,.fix (cC a)⟩),(3,⟨26,.fix (cC b)⟩),(4,⟨26,.fix [.v (.slice none 0 0),.v (.slice none 0 0),.i (0 : Int),.i (0 : Int),.i (0 : Int),.v (.slice none 0 0)]⟩),(6,⟨26,.fix [.own 20 us.length,.own 1020 ds.length,.i jv,.i jt,.i jp,.own 2020 (List.length a.marks)]⟩),(20,⟨3,.row (.ints (List.set us k (max (List.getD a.up k 0) (List.getD b.up k 0))))⟩),(1020,⟨3,.row (.ints (List.set ds k (max (List.getD a.down k 0) (List.getD b.down k 0))))⟩),(2020,⟨33,.row (.marks a.marks)⟩)],[2,3,4,6,20,999,1020,2020]⟩)
      (True ∧ (True ∧ True ∧ (Fits .i64 (((k + 1) : Nat) : Int))) ∧ True ∧ True)
      ⟨tt,⟨tt,tt,(by exact fits_i64 (by omega) (by omega))⟩,tt,tt⟩ ?_
     refine thenQ_normal ?_
     refine ⟨((k + 1),(List.set us k (max (List.getD a.up k 0) (List.getD b.up k 0))),(List.set ds k (max (List.getD a.down k 0) (List.getD b.down k 0)))),(show ((k + 1) ≤ 3) ∧ ((List.set us k (max (List.getD a.up k 0) (List.getD b.up k 0))) = maxUp a.up b.up (k + 1)) ∧ ((List.set ds k (max (List.getD a.down k 0) (List.getD b.down k 0))) = maxUp a.down b.down (k + 1)) from ⟨(by first | assumption | omega | rfl | (intro _ hjj; omega) | (simp; done) | (simp; omega)),(by exact maxUp_step hus (by omega)),(by exact maxUp_step hds (by omega))⟩),(show 3 - (k + 1) < 3 - k from (by first | omega | (simp_all; omega))),?_⟩
     exact Sub.of [] (@cast (((((2 : Nat) = 2) ∧ ((0 : Nat) = 0) ∧ ((2 : Nat) ∈ ([2,3,4,6,20,999,1020,2020] : List Nat))) ∧ (((3 : Nat) = 3) ∧ ((0 : Nat) = 0) ∧ ((3 : Nat) ∈ ([2,3,4,6,20,999,1020,2020] : List Nat))) ∧ (((4 : Nat) = 4) ∧ ((0 : Nat) = 0) ∧ ((4 : Nat) ∈ ([2,3,4,6,20,999,1020,2020] : List Nat))) ∧ (((6 : Nat) = 6) ∧ ((0 : Nat) = 0) ∧ ((6 : Nat) ∈ ([2,3,4,6,20,999,1020,2020] : List Nat))) ∧ (Si (((k + 1) : Nat) : Int)) ∧ True) ∧ ((((26 : Nat) = 26) ∧ (Sc a) ∧ ((2 : Nat) ∈ ([2,3,4,6,20,999,1020,2020] : List Nat))) ∧ (((26 : Nat) = 26) ∧ (Sc b) ∧ ((3 : Nat) ∈ ([2,3,4,6,20,999,1020,2020] : List Nat))) ∧ (((26 : Nat) = 26) ∧ ((((.slice none 0 0) : Value) = (.slice none 0 0)) ∧ (((.slice none 0 0) : Value) = (.slice none 0 0)) ∧ (Si (0 : Int)) ∧ (Si (0 : Int)) ∧ (Si (0 : Int)) ∧ (((.slice none 0 0) : Value) = (.slice none 0 0)) ∧ True) ∧ ((4 : Nat) ∈ ([2,3,4,6,20,999,1020,2020] : List Nat))) ∧ (((26 : Nat) = 26) ∧ ((((20 : Nat) = 20) ∧ (us.length = (List.length (List.set us k (max (List.getD a.up k 0) (List.getD b.up k 0))))) ∧ ((20 : Nat) ∈ ([2,3,4,6,20,999,1020,2020] : List Nat))) ∧ (((1020 : Nat) = 1020) ∧ (ds.length = (List.length (List.set ds k (max (List.getD a.down k 0) (List.getD b.down k 0))))) ∧ ((1020 : Nat) ∈ ([2,3,4,6,20,999,1020,2020] : List Nat))) ∧ (Si jv) ∧ (Si jt) ∧ (Si jp) ∧ (((2020 : Nat) = 2020) ∧ ((List.length a.marks) = (List.length a.marks)) ∧ ((2020 : Nat) ∈ ([2,3,4,6,20,999,1020,2020] : List Nat))) ∧ True) ∧ ((6 : Nat) ∈ ([2,3,4,6,20,999,1020,2020] : List Nat))) ∧ (((3 : Nat) = 3) ∧ (Sd (.ints (List.set us k (max (List.getD a.up k 0) (List.getD b.up k 0))))) ∧ ((20 : Nat) ∈ ([2,3,4,6,20,999,1020,2020] : List Nat))) ∧ (((3 : Nat) = 3) ∧ (Sd (.ints (List.set ds k (max (List.getD a.down k 0) (List.getD b.down k 0))))) ∧ ((1020 : Nat) ∈ ([2,3,4,6,20,999,1020,2020] : List Nat))) ∧ (((33 : Nat) = 33) ∧ (Sd (.marks a.marks)) ∧ ((2020 : Nat) ∈ ([2,3,4,6,20,999,1020,2020] : List Nat))) ∧ True) ∧ (true = true) ∧ (true = true)) _ (by kernel_rfl) ⟨⟨⟨rfl,rfl,(by decide)⟩,⟨rfl,rfl,(by decide)⟩,⟨rfl,rfl,(by decide)⟩,⟨rfl,rfl,(by decide)⟩,rfl,tt⟩,⟨⟨rfl,⟨rfl,rfl,rfl,rfl,rfl,rfl,tt⟩,(by decide)⟩,⟨rfl,⟨rfl,rfl,rfl,rfl,rfl,rfl,tt⟩,(by decide)⟩,⟨rfl,⟨rfl,rfl,rfl,rfl,rfl,rfl,tt⟩,(by decide)⟩,⟨rfl,⟨⟨rfl,(by first | rfl | omega | assumption | (symm; assumption) | simp | simp_all),(by decide)⟩,⟨rfl,(by first | rfl | omega | assumption | (symm; assumption) | simp | simp_all),(by decide)⟩,rfl,rfl,rfl,⟨rfl,rfl,(by decide)⟩,tt⟩,(by decide)⟩,⟨rfl,rfl,(by decide)⟩,⟨rfl,rfl,(by decide)⟩,⟨rfl,rfl,(by decide)⟩,tt⟩,rfl,rfl⟩)
    ·intro n34
     refine W.exit (thenQ_exit (thenQ_exit (blockQ_hit ?_)))
     refine thenQ_normal ?_
     refine Kk cok tab8 hnt [] [4,6,8,9] (⟨[(4,.ptr 4 0),(6,.ptr 6 0),(8,.sl (.marks ((uniteP a.marks b.marks).1))),(9,.b ((uniteP a.marks b.marks).2))],[(2,⟨26,.fix (cC a)⟩),(3,⟨26,.fix (cC b)⟩),(4,⟨26,.fix [.v (.slice none 0 0),.v (.slice none 0 0),.i (0 : Int),.i (0 : Int),.i (0 : Int),.v (.slice none 0 0)]⟩),(6,⟨26,.fix [.own 20 us.length,.own 1020 ds.length,.i jv,.i jt,.i jp,.own 2020 (List.length a.marks)]⟩),(20,⟨3,.row (.ints us)⟩),(1020,⟨3,.row (.ints ds)⟩),(2020,⟨33,.row (.marks a.marks)⟩)],[2,3,4,6,20,999,1020,2020]⟩)
      (True ∧ True ∧ True ∧ True ∧ (True ∧ (True ∧ True ∧ True) ∧ a.marks.length ≤ 1000 ∧ b.marks.length ≤ 1000) ∧ True ∧ True ∧ True ∧ True ∧ True ∧ True)
      ⟨tt,tt,tt,tt,⟨tt,⟨tt,tt,tt⟩,(by omega)⟩,tt,tt,tt,tt,tt,tt⟩ ?_
     refine Kk cok tab8 hnt [] [4,6,9] (⟨[(4,.ptr 4 0),(6,.ptr 6 0),(9,.b ((uniteP a.marks b.marks).2))],[(2,⟨26,.fix (cC a)⟩),(3,⟨26,.fix (cC b)⟩),(4,⟨26,.fix [.v (.slice none 0 0),.v (.slice none 0 0),.i (0 : Int),.i (0 : Int),.i (0 : Int),.v (.slice none 0 0)]⟩),(6,⟨26,.fix [.own 20 us.length,.own 1020 ds.length,.i jv,.i jt,.i jp,.sl (.marks ((uniteP a.marks b.marks).1))]⟩),(20,⟨3,.row (.ints us)⟩),(1020,⟨3,.row (.ints ds)⟩),(2020,⟨33,.row (.marks a.marks)⟩)],[2,3,4,6,20,999,1020,2020]⟩)
      (True ∧ True ∧ (True ∧ True) ∧ True)
      ⟨tt,tt,⟨tt,tt⟩,tt⟩ ?_
     refine W.seq ?_
     refine Kk cok tab8 hnt [] [4,6,83] (⟨[(4,.ptr 4 0),(6,.ptr 6 0),(83,.b ((!((uniteP a.marks b.marks).2)) || (!(validCopy ⟨us,ds,jv,jt,jp,(uniteP a.marks b.marks).1⟩))))],[(2,⟨26,.fix (cC a)⟩),(3,⟨26,.fix (cC b)⟩),(4,⟨26,.fix [.v (.slice none 0 0),.v (.slice none 0 0),.i (0 : Int),.i (0 : Int),.i (0 : Int),.v (.slice none 0 0)]⟩),(6,⟨26,.fix [.own 20 us.length,.own 1020 ds.length,.i jv,.i jt,.i jp,.sl (.marks ((uniteP a.marks b.marks).1))]⟩),(20,⟨3,.row (.ints us)⟩),(1020,⟨3,.row (.ints ds)⟩),(2020,⟨33,.row (.marks a.marks)⟩)],[2,3,4,6,20,999,1020,2020]⟩)
      ((fun (Z1:Bool)=>(True ∧ (True ∧ (True ∧ (((!Z1) = true → True) ∧ (((!Z1) = true → (True ∧ ((((((!Z1) = true) ∧ True) ∧ ((True ∧ (us.length = us.length)) ∧ ((True ∧ (ds.length = ds.length)) ∧ (True ∧ (True ∧ (True ∧ (True ∧ True))))))) ∧ True) ∧ True))) ∧ (((!Z1) = true → (((!Z1) = true) ∧ True)) ∧ ((True ∧ ((Z1 = true → True) ∧ (Z1 = false → ((!Z1) = true) ∧ True))) ∧ True)))))))) (!((uniteP a.marks b.marks).2)))
      ⟨tt,tt,tt,(fun _ => trivial),(fun hG => ⟨tt,⟨⟨⟨hG,tt⟩,⟨tt,rfl⟩,⟨tt,rfl⟩,tt,tt,tt,tt,tt⟩,tt⟩,tt⟩),(fun hG => ⟨hG,tt⟩),⟨tt,(fun _ => trivial),(fun hp => ⟨(not_t hp),tt⟩)⟩,tt⟩ ?_
     refine W.if' ((!((uniteP a.marks b.marks).2)) || (!(validCopy ⟨us,ds,jv,jt,jp,(uniteP a.marks b.marks).1⟩))) (.b ((!((uniteP a.marks b.marks).2)) || (!(validCopy ⟨us,ds,jv,jt,jp,(uniteP a.marks b.marks).1⟩)))) (by kernel_rfl) rfl trivial ?_ ?_
     ·intro h83
      refine Kk cok tab8 hnt [] [4,5] (⟨[(4,.ptr 4 0),(5,.b false)],[(2,⟨26,.fix (cC a)⟩),(3,⟨26,.fix (cC b)⟩),(4,⟨26,.fix [.v (.slice none 0 0),.v (.slice none 0 0),.i (0 : Int),.i (0 : Int),.i (0 : Int),.v (.slice none 0 0)]⟩),(6,⟨26,.fix [.own 20 us.length,.own 1020 ds.length,.i jv,.i jt,.i jp,.sl (.marks ((uniteP a.marks b.marks).1))]⟩),(20,⟨3,.row (.ints us)⟩),(1020,⟨3,.row (.ints ds)⟩),(2020,⟨33,.row (.marks a.marks)⟩)],[2,3,4,6,20,999,1020,2020]⟩)
       (True ∧ (True ∧ True) ∧ True ∧ True)
       ⟨tt,⟨tt,tt⟩,tt,tt⟩ ?_
      refine W.ret (thenQ_ret ?_)
      exact endQ_ret (.tup [.agg [.v (.slice none 0 0),.v (.slice none 0 0),.i (0 : Int),.i (0 : Int),.i (0 : Int),.v (.slice none 0 0)],.b false]) (by kernel_rfl) (@cast (((((Value.slice none 0 0 : Value) = .slice none 0 0) ∧ ((Dat.ints ((mergeC a b).1.up)).len = 0)) ∧ (((Value.slice none 0 0 : Value) = .slice none 0 0) ∧ ((Dat.ints ((mergeC a b).1.down)).len = 0)) ∧ ((.int .i64 (0 : Int) : Value) = .int .i64 ((mergeC a b).1.value)) ∧ ((.int .i64 (0 : Int) : Value) = .int .i64 ((mergeC a b).1.time)) ∧ ((.int .i64 (0 : Int) : Value) = .int .i64 ((mergeC a b).1.proc)) ∧ (((Value.slice none 0 0 : Value) = .slice none 0 0) ∧ ((Dat.marks ((mergeC a b).1.marks)).len = 0)) ∧ True) ∧ ((.bool false : Value) = .bool ((mergeC a b).2)) ∧ True) _ (by kernel_rfl) ⟨⟨⟨rfl,(by show List.length ((mergeC a b).1.up) = 0; rw [mg_bad hg (join_eq (maxUp_all (by rw [hus,show k = 3 by omega]) hf.1) (maxUp_all (by rw [hds,show k = 3 by omega]) hf.2.1) ⟨hjv,hjt,hjp⟩) h83]; try rfl)⟩,⟨rfl,(by show List.length ((mergeC a b).1.down) = 0; rw [mg_bad hg (join_eq (maxUp_all (by rw [hus,show k = 3 by omega]) hf.1) (maxUp_all (by rw [hds,show k = 3 by omega]) hf.2.1) ⟨hjv,hjt,hjp⟩) h83]; try rfl)⟩,(congrArg (Value.int .i64) (by rw [mg_bad hg (join_eq (maxUp_all (by rw [hus,show k = 3 by omega]) hf.1) (maxUp_all (by rw [hds,show k = 3 by omega]) hf.2.1) ⟨hjv,hjt,hjp⟩) h83]; try rfl)),(congrArg (Value.int .i64) (by rw [mg_bad hg (join_eq (maxUp_all (by rw [hus,show k = 3 by omega]) hf.1) (maxUp_all (by rw [hds,show k = 3 by omega]) hf.2.1) ⟨hjv,hjt,hjp⟩) h83]; try rfl)),(congrArg (Value.int .i64) (by rw [mg_bad hg (join_eq (maxUp_all (by rw [hus,show k = 3 by omega]) hf.1) (maxUp_all (by rw [hds,show k = 3 by omega]) hf.2.1) ⟨hjv,hjt,hjp⟩) h83]; try rfl)),⟨rfl,(by show List.length ((mergeC a b).1.marks) = 0; rw [mg_bad hg (join_eq (maxUp_all (by rw [hus,show k = 3 by omega]) hf.1) (maxUp_all (by rw [hds,show k = 3 by omega]) hf.2.1) ⟨hjv,hjt,hjp⟩) h83]; try rfl)⟩,tt⟩,(congrArg Value.bool (by rw [mg_bad hg (join_eq (maxUp_all (by rw [hus,show k = 3 by omega]) hf.1) (maxUp_all (by rw [hds,show k = 3 by omega]) hf.2.1) ⟨hjv,hjt,hjp⟩) h83]; try rfl)),tt⟩)
     ·intro n83
      refine W.skip (thenQ_normal ?_)
      refine Kk cok tab8 hnt [] [4,5] (⟨[(4,.ptr 4 0),(5,.b true)],[(2,⟨26,.fix (cC a)⟩),(3,⟨26,.fix (cC b)⟩),(4,⟨26,.fix [.own 20 us.length,.own 1020 ds.length,.i jv,.i jt,.i jp,.sl (.marks ((uniteP a.marks b.marks).1))]⟩),(6,⟨26,.fix [.own 20 us.length,.own 1020 ds.length,.i jv,.i jt,.i jp,.sl (.marks ((uniteP a.marks b.marks).1))]⟩),(20,⟨3,.row (.ints us)⟩),(1020,⟨3,.row (.ints ds)⟩),(2020,⟨33,.row (.marks a.marks)⟩)],[2,3,4,6,20,999,1020,2020]⟩)
       (True ∧ (True ∧ True) ∧ True ∧ True)
       ⟨tt,⟨tt,tt⟩,tt,tt⟩ ?_
      refine W.ret ?_
      exact endQ_ret (.tup [.agg [.own 20 us.length,.own 1020 ds.length,.i jv,.i jt,.i jp,.sl (.marks ((uniteP a.marks b.marks).1))],.b true]) (by kernel_rfl) (@cast ((((us.length = us.length) ∧ ((.ints us : Dat) = .ints ((mergeC a b).1.up)) ∧ ((20 : Nat) ∉ ([] : List Nat))) ∧ ((ds.length = ds.length) ∧ ((.ints ds : Dat) = .ints ((mergeC a b).1.down)) ∧ ((1020 : Nat) ∉ ([] : List Nat))) ∧ ((.int .i64 jv : Value) = .int .i64 ((mergeC a b).1.value)) ∧ ((.int .i64 jt : Value) = .int .i64 ((mergeC a b).1.time)) ∧ ((.int .i64 jp : Value) = .int .i64 ((mergeC a b).1.proc)) ∧ ((.marks ((uniteP a.marks b.marks).1) : Dat) = .marks ((mergeC a b).1.marks)) ∧ True) ∧ ((.bool true : Value) = .bool ((mergeC a b).2)) ∧ True) _ (by kernel_rfl) ⟨⟨⟨rfl,(congrArg Dat.ints (by rw [mg_ok hg (join_eq (maxUp_all (by rw [hus,show k = 3 by omega]) hf.1) (maxUp_all (by rw [hds,show k = 3 by omega]) hf.2.1) ⟨hjv,hjt,hjp⟩) n83]; try rfl)),(by decide)⟩,⟨rfl,(congrArg Dat.ints (by rw [mg_ok hg (join_eq (maxUp_all (by rw [hus,show k = 3 by omega]) hf.1) (maxUp_all (by rw [hds,show k = 3 by omega]) hf.2.1) ⟨hjv,hjt,hjp⟩) n83]; try rfl)),(by decide)⟩,(congrArg (Value.int .i64) (by rw [mg_ok hg (join_eq (maxUp_all (by rw [hus,show k = 3 by omega]) hf.1) (maxUp_all (by rw [hds,show k = 3 by omega]) hf.2.1) ⟨hjv,hjt,hjp⟩) n83]; try rfl)),(congrArg (Value.int .i64) (by rw [mg_ok hg (join_eq (maxUp_all (by rw [hus,show k = 3 by omega]) hf.1) (maxUp_all (by rw [hds,show k = 3 by omega]) hf.2.1) ⟨hjv,hjt,hjp⟩) n83]; try rfl)),(congrArg (Value.int .i64) (by rw [mg_ok hg (join_eq (maxUp_all (by rw [hus,show k = 3 by omega]) hf.1) (maxUp_all (by rw [hds,show k = 3 by omega]) hf.2.1) ⟨hjv,hjt,hjp⟩) n83]; try rfl)),(congrArg Dat.marks (by rw [mg_ok hg (join_eq (maxUp_all (by rw [hus,show k = 3 by omega]) hf.1) (maxUp_all (by rw [hds,show k = 3 by omega]) hf.2.1) ⟨hjv,hjt,hjp⟩) n83]; try rfl)),tt⟩,(congrArg Value.bool (by rw [mg_ok hg (join_eq (maxUp_all (by rw [hus,show k = 3 by omega]) hf.1) (maxUp_all (by rw [hds,show k = 3 by omega]) hf.2.1) ⟨hjv,hjt,hjp⟩) n83]; try rfl)),tt⟩)
theorem ent8 : Entr prog 8 := ⟨_,func8,rfl,by decide⟩
end Go.Proofs.Try

set_option linter.unusedSimpArgs false
set_option linter.unusedVariables false
namespace Go.Proofs.Try
open Go.Ab Go.RowKit
def fs17 : FnS := fnS [.s .ints,.s .ints] [.ints,.ints] (fun _ (a,b,_) => (.b (decide (a = b)),[],True))
abbrev T17 : Tab := lk []
theorem tab17 : TabOK prog T17 := TabOK.nil
set_option maxRecDepth 100000 in
set_option maxHeartbeats 1000000 in
theorem ok17 : FnOK prog 17 fs17 := by
 refine FnOK.mk cok func17 rfl rfl rfl ?_
 rintro fl ⟨(a : List Int),(b : List Int),_⟩ hpre F hnt0 _
 have hnt : F.nt = 26 := hnt0.trans ntmps17
 clear hpre
 refine W.to (⟨[(0,.sl (.ints a)),(1,.sl (.ints b))],[],[999]⟩) rfl ?_
 refine W.lenOf 0 (.ints a) (by kernel_rfl) ?_
 intro hl_a; replace hl_a : List.length a ≤ 9223372036854775807 := hl_a
 refine W.lenOf 1 (.ints b) (by kernel_rfl) ?_
 intro hl_b; replace hl_b : List.length b ≤ 9223372036854775807 := hl_b
 refine Kk cok tab17 hnt [] [0,1] (⟨[(0,.sl (.ints a)),(1,.sl (.ints b))],[],[999]⟩)
  (True ∧ True)
  ⟨tt,tt⟩ ?_
 refine W.seq ?_
 refine Kk cok tab17 hnt [] [0,1,10] (⟨[(0,.sl (.ints a)),(1,.sl (.ints b)),(10,.b (decide ((a.length : Int) ≠ (b.length : Int))))],[],[999]⟩)
  (True ∧ True ∧ True ∧ True ∧ (True ∧ True ∧ True) ∧ True)
  ⟨tt,tt,tt,tt,⟨tt,tt,tt⟩,tt⟩ ?_
 refine W.ifP ((a.length : Int) ≠ (b.length : Int)) (.b (decide ((a.length : Int) ≠ (b.length : Int)))) (by kernel_rfl) rfl trivial ?_ ?_
 ·intro h10
  refine Kk cok tab17 hnt [] [4] (⟨[(4,.b false)],[],[999]⟩)
   (True ∧ True)
   ⟨tt,tt⟩ ?_
  refine W.ret (thenQ_ret ?_)
  exact endQ_ret (.b false) (by kernel_rfl) (@cast ((.bool false : Value) = .bool (decide (a = b))) _ (by kernel_rfl) (congrArg Value.bool (by symm; exact decide_eq_false (fun e => h10 (by rw [e])))))
 ·intro n10
  refine W.skip (thenQ_normal ?_)
  refine W.seq ?_
  refine Kk cok tab17 hnt [] [0,1,5] (⟨[(0,.sl (.ints a)),(1,.sl (.ints b)),(5,.i (0 : Int))],[],[999]⟩)
   (True ∧ True)
   ⟨tt,tt⟩ ?_
  refine W.block ?_
  refine W.loop (ι := Nat) (fun (i : Nat) => (⟨[(0,.sl (.ints a)),(1,.sl (.ints b)),(5,.i ((i : Nat) : Int))],[],[999]⟩ : St))
   (fun (i : Nat) => (i ≤ a.length) ∧ (∀ j,j < i → a.getD j 0 = b.getD j 0))
   (fun (i : Nat) => (a.length - i : Nat)) (0) ?_ ?_ ?_
  ·exact (show (0 ≤ a.length) ∧ (∀ j,j < 0 → a.getD j 0 = b.getD j 0) from ⟨(by first | assumption | omega | rfl | (intro _ hjj; omega) | (simp; done) | (simp; omega)),(by exact upto_zero)⟩)
  ·exact Sub.of [] (@cast (((Sd (.ints a)) ∧ (Sd (.ints b)) ∧ ((.int .i64 (0 : Int) : Value) = .int .i64 ((0 : Nat) : Int)) ∧ True) ∧ True ∧ (true = true) ∧ (true = true)) _ (by kernel_rfl) ⟨⟨rfl,rfl,(congrArg (Value.int .i64) (by first | rfl | omega | assumption | simp | simp_all)),tt⟩,tt,rfl,rfl⟩)
  ·rintro i hC0
   have hC : (i ≤ a.length) ∧ (∀ j,j < i → a.getD j 0 = b.getD j 0) := hC0
   clear hC0
   obtain ⟨hi,hA⟩ := hC
   refine W.to (⟨[(0,.sl (.ints a)),(1,.sl (.ints b)),(5,.i ((i : Nat) : Int))],[],[999]⟩) rfl ?_
   refine W.seq ?_
   refine Kk cok tab17 hnt [] [0,1,5,14] (⟨[(0,.sl (.ints a)),(1,.sl (.ints b)),(5,.i ((i : Nat) : Int)),(14,.b (decide (((i : Nat) : Int) < (a.length : Int))))],[],[999]⟩)
    (True ∧ True ∧ True ∧ (True ∧ True ∧ True) ∧ True)
    ⟨tt,tt,tt,⟨tt,tt,tt⟩,tt⟩ ?_
   refine W.ifP (((i : Nat) : Int) < (a.length : Int)) (.b (decide (((i : Nat) : Int) < (a.length : Int)))) (by kernel_rfl) rfl trivial ?_ ?_
   ·intro h14
    refine W.skip (thenQ_normal ?_)
    refine W.seq ?_
    refine W.block ?_
    refine W.KA cok tab17 hnt [] [0,1,5,25] (⟨[(0,.sl (.ints a)),(1,.sl (.ints b)),(5,.i ((i : Nat) : Int)),(25,.b (decide ((a.getD i 0) ≠ (b.getD i 0))))],[],[999]⟩)
     (True ∧ True ∧ (True ∧ True ∧ (0 ≤ ((i : Nat) : Int)) ∧ (((i : Nat) : Int) < (a.length : Int))) ∧ True ∧ True ∧ True ∧ (True ∧ True ∧ (0 ≤ ((i : Nat) : Int)) ∧ (((i : Nat) : Int) < (b.length : Int))) ∧ True ∧ (True ∧ True ∧ True) ∧ True) (by kernel_rfl) (by kernel_rfl)
     ⟨tt,tt,⟨tt,tt,(by omega),(by omega)⟩,tt,tt,tt,⟨tt,tt,(by omega),(by omega)⟩,tt,⟨tt,tt,tt⟩,tt⟩ ?_
    refine W.ifP ((a.getD i 0) ≠ (b.getD i 0)) (.b (decide ((a.getD i 0) ≠ (b.getD i 0)))) (by kernel_rfl) rfl trivial ?_ ?_
    ·intro h25
     refine Kk cok tab17 hnt [] [4] (⟨[(4,.b false)],[],[999]⟩)
      (True ∧ True)
      ⟨tt,tt⟩ ?_
     refine W.ret (blockQ_ret (thenQ_ret (thenQ_ret (blockQ_ret (thenQ_ret ?_)))))
     exact endQ_ret (.b false) (by kernel_rfl) (@cast ((.bool false : Value) = .bool (decide (a = b))) _ (by kernel_rfl) (congrArg Value.bool (by symm; exact decide_eq_false (fun e => h25 (by rw [e])))))
    ·intro n25
     refine W.skip (blockQ_normal (thenQ_normal ?_))
     refine Lk cok tab17 hnt [] (⟨[(0,.sl (.ints a)),(1,.sl (.ints b)),(5,.i (((i + 1) : Nat) : Int)),(15,.i ((i : Nat) : Int)),(16,.i (((i + 1) : Nat) : Int)),(25,.b (decide ((a.getD i 0) ≠ (b.getD i 0))))],[],[999]⟩)
      (True ∧ (True ∧ True ∧ (Fits .i64 (((i + 1) : Nat) : Int))) ∧ True ∧ True)
      ⟨tt,⟨tt,tt,(by exact fits_i64 (by omega) (by omega))⟩,tt,tt⟩ ?_
     refine thenQ_normal ?_
     refine ⟨((i + 1)),(show ((i + 1) ≤ a.length) ∧ (∀ j,j < (i + 1) → a.getD j 0 = b.getD j 0) from ⟨(by first | assumption | omega | rfl | (intro _ hjj; omega) | (simp; done) | (simp; omega)),(by exact upto_succ hA (Decidable.not_not.1 n25))⟩),(show a.length - (i + 1) < a.length - i from (by first | omega | (simp_all; omega))),?_⟩
     exact Sub.of [] (@cast (((Sd (.ints a)) ∧ (Sd (.ints b)) ∧ (Si (((i + 1) : Nat) : Int)) ∧ True) ∧ True ∧ (true = true) ∧ (true = true)) _ (by kernel_rfl) ⟨⟨rfl,rfl,rfl,tt⟩,tt,rfl,rfl⟩)
   ·intro n14
    refine W.exit (thenQ_exit (thenQ_exit (blockQ_hit ?_)))
    refine thenQ_normal ?_
    refine Kk cok tab17 hnt [] [4] (⟨[(4,.b true)],[],[999]⟩)
     (True ∧ True)
     ⟨tt,tt⟩ ?_
    refine W.ret ?_
    exact endQ_ret (.b true) (by kernel_rfl) (@cast ((.bool true : Value) = .bool (decide (a = b))) _ (by kernel_rfl) (congrArg Value.bool (by symm; exact decide_eq_true (ints_ext (by omega) (fun j hj => hA j (by omega))))))
theorem ent17 : Entr prog 17 := ⟨_,func17,rfl,by decide⟩
end Go.Proofs.Try

set_option linter.unusedSimpArgs false
set_option linter.unusedVariables false
namespace Go.Proofs.Try
open Go.Ab Go.RowKit
def fs9 : FnS := fnS [.a [some .ints,some .ints,none,none,none,some .marks],.a [some .ints,some .ints,none,none,none,some .marks]] [.copy,.copy] (fun _ (a,b,_) => (.b (sameC a b),[],True))
abbrev T9 : Tab := lk [(17,fs17)]
theorem tab9 : TabOK prog T9 := (TabOK.cons ok17 ent17 TabOK.nil)
set_option maxRecDepth 100000 in
set_option maxHeartbeats 1000000 in
theorem ok9 : FnOK prog 9 fs9 := by
 refine FnOK.mk cok func9 rfl rfl rfl ?_
 rintro fl ⟨(a : CopyD),(b : CopyD),_⟩ hpre F hnt0 _
 have hnt : F.nt = 64 := hnt0.trans ntmps9
 clear hpre
 refine W.to (⟨[(0,.agg (cC a)),(1,.agg (cC b))],[],[999]⟩) rfl ?_
 refine W.lenA 0 0 (cC a) (.ints a.up) (by kernel_rfl) (by kernel_rfl) ?_
 intro hl_a_up; replace hl_a_up : List.length a.up ≤ 9223372036854775807 := hl_a_up
 refine W.lenA 0 1 (cC a) (.ints a.down) (by kernel_rfl) (by kernel_rfl) ?_
 intro hl_a_down; replace hl_a_down : List.length a.down ≤ 9223372036854775807 := hl_a_down
 refine W.lenA 0 5 (cC a) (.marks a.marks) (by kernel_rfl) (by kernel_rfl) ?_
 intro hl_a_marks; replace hl_a_marks : List.length a.marks ≤ 9223372036854775807 := hl_a_marks
 refine W.lenA 1 0 (cC b) (.ints b.up) (by kernel_rfl) (by kernel_rfl) ?_
 intro hl_b_up; replace hl_b_up : List.length b.up ≤ 9223372036854775807 := hl_b_up
 refine W.lenA 1 1 (cC b) (.ints b.down) (by kernel_rfl) (by kernel_rfl) ?_
 intro hl_b_down; replace hl_b_down : List.length b.down ≤ 9223372036854775807 := hl_b_down
 refine W.lenA 1 5 (cC b) (.marks b.marks) (by kernel_rfl) (by kernel_rfl) ?_
 intro hl_b_marks; replace hl_b_marks : List.length b.marks ≤ 9223372036854775807 := hl_b_marks
 refine Kk cok tab9 hnt [] [2,3] (⟨[(2,.ptr 2 0),(3,.ptr 3 0)],[(2,⟨26,.fix (cC a)⟩),(3,⟨26,.fix (cC b)⟩)],[3,2,999]⟩)
  (True ∧ True ∧ True ∧ True)
  ⟨tt,tt,tt,tt⟩ ?_
 refine W.seq ?_
 refine Kk cok tab9 hnt [] [2,3,12] (⟨[(2,.ptr 2 0),(3,.ptr 3 0),(12,.b (decide ((((List.length a.marks) : Nat) : Int) ≠ (((List.length b.marks) : Nat) : Int))))],[(2,⟨26,.fix (cC a)⟩),(3,⟨26,.fix (cC b)⟩)],[3,2,999]⟩)
  (True ∧ True ∧ True ∧ True ∧ True ∧ True ∧ (True ∧ True ∧ True) ∧ True)
  ⟨tt,tt,tt,tt,tt,tt,⟨tt,tt,tt⟩,tt⟩ ?_
 refine W.ifP ((((List.length a.marks) : Nat) : Int) ≠ (((List.length b.marks) : Nat) : Int)) (.b (decide ((((List.length a.marks) : Nat) : Int) ≠ (((List.length b.marks) : Nat) : Int)))) (by kernel_rfl) rfl trivial ?_ ?_
 ·intro h12
  refine Kk cok tab9 hnt [] [4] (⟨[(4,.b false)],[(2,⟨26,.fix (cC a)⟩),(3,⟨26,.fix (cC b)⟩)],[3,2,999]⟩)
   (True ∧ True)
   ⟨tt,tt⟩ ?_
  refine W.ret (thenQ_ret ?_)
  exact endQ_ret (.b false) (by kernel_rfl) (@cast ((.bool false : Value) = .bool (sameC a b)) _ (by kernel_rfl) (congrArg Value.bool (by symm; exact same_no (fun e => h12 (by rw [e])))))
 ·intro n12
  refine W.skip (thenQ_normal ?_)
  refine W.seq ?_
  refine Kk cok tab9 hnt [] [2,3,5] (⟨[(2,.ptr 2 0),(3,.ptr 3 0),(5,.i (0 : Int))],[(2,⟨26,.fix (cC a)⟩),(3,⟨26,.fix (cC b)⟩)],[3,2,999]⟩)
   (True ∧ True)
   ⟨tt,tt⟩ ?_
  refine W.block ?_
  refine W.loop (ι := Nat) (fun (i : Nat) => (⟨[(2,.ptr 2 0),(3,.ptr 3 0),(5,.i ((i : Nat) : Int))],[(2,⟨26,.fix (cC a)⟩),(3,⟨26,.fix (cC b)⟩)],[2,3,999]⟩ : St))
   (fun (i : Nat) => (i ≤ a.marks.length) ∧ (∀ j,j < i → a.marks.getD j default = b.marks.getD j default))
   (fun (i : Nat) => (a.marks.length - i : Nat)) (0) ?_ ?_ ?_
  ·exact (show (0 ≤ a.marks.length) ∧ (∀ j,j < 0 → a.marks.getD j default = b.marks.getD j default) from ⟨(by first | assumption | omega | rfl | (intro _ hjj; omega) | (simp; done) | (simp; omega)),(by exact upto_zero)⟩)
  ·exact Sub.of [] (@cast (((((2 : Nat) = 2) ∧ ((0 : Nat) = 0) ∧ ((2 : Nat) ∈ ([2,3,999] : List Nat))) ∧ (((3 : Nat) = 3) ∧ ((0 : Nat) = 0) ∧ ((3 : Nat) ∈ ([2,3,999] : List Nat))) ∧ ((.int .i64 (0 : Int) : Value) = .int .i64 ((0 : Nat) : Int)) ∧ True) ∧ ((((26 : Nat) = 26) ∧ (Sc a) ∧ ((2 : Nat) ∈ ([2,3,999] : List Nat))) ∧ (((26 : Nat) = 26) ∧ (Sc b) ∧ ((3 : Nat) ∈ ([2,3,999] : List Nat))) ∧ True) ∧ (true = true) ∧ (true = true)) _ (by kernel_rfl) ⟨⟨⟨rfl,rfl,(by decide)⟩,⟨rfl,rfl,(by decide)⟩,(congrArg (Value.int .i64) (by first | rfl | omega | assumption | simp | simp_all)),tt⟩,⟨⟨rfl,⟨rfl,rfl,rfl,rfl,rfl,rfl,tt⟩,(by decide)⟩,⟨rfl,⟨rfl,rfl,rfl,rfl,rfl,rfl,tt⟩,(by decide)⟩,tt⟩,rfl,rfl⟩)
  ·rintro i hC0
   have hC : (i ≤ a.marks.length) ∧ (∀ j,j < i → a.marks.getD j default = b.marks.getD j default) := hC0
   clear hC0
   obtain ⟨hi,hA⟩ := hC
   refine W.to (⟨[(2,.ptr 2 0),(3,.ptr 3 0),(5,.i ((i : Nat) : Int))],[(2,⟨26,.fix (cC a)⟩),(3,⟨26,.fix (cC b)⟩)],[2,3,999]⟩) rfl ?_
   refine W.seq ?_
   refine Kk cok tab9 hnt [] [2,3,5,17] (⟨[(2,.ptr 2 0),(3,.ptr 3 0),(5,.i ((i : Nat) : Int)),(17,.b (decide (((i : Nat) : Int) < (((List.length a.marks) : Nat) : Int))))],[(2,⟨26,.fix (cC a)⟩),(3,⟨26,.fix (cC b)⟩)],[2,3,999]⟩)
    (True ∧ True ∧ True ∧ True ∧ (True ∧ True ∧ True) ∧ True)
    ⟨tt,tt,tt,tt,⟨tt,tt,tt⟩,tt⟩ ?_
   refine W.ifP (((i : Nat) : Int) < (((List.length a.marks) : Nat) : Int)) (.b (decide (((i : Nat) : Int) < (((List.length a.marks) : Nat) : Int)))) (by kernel_rfl) rfl trivial ?_ ?_
   ·intro h17
    refine W.skip (thenQ_normal ?_)
    refine W.seq ?_
    refine W.block ?_
    refine W.KA cok tab9 hnt [] [2,3,5,30] (⟨[(2,.ptr 2 0),(3,.ptr 3 0),(5,.i ((i : Nat) : Int)),(30,.b (!((decide (((List.getD a.marks i default).value) = ((List.getD b.marks i default).value))) && ((decide (((List.getD a.marks i default).proc) = ((List.getD b.marks i default).proc))) && ((decide (((List.getD a.marks i default).number) = ((List.getD b.marks i default).number))) && ((((List.getD a.marks i default).gone) == ((List.getD b.marks i default).gone)) && true))))))],[(2,⟨26,.fix (cC a)⟩),(3,⟨26,.fix (cC b)⟩)],[2,3,999]⟩)
     (True ∧ True ∧ True ∧ (True ∧ True ∧ (0 ≤ ((i : Nat) : Int)) ∧ (((i : Nat) : Int) < (((List.length a.marks) : Nat) : Int))) ∧ True ∧ True ∧ True ∧ True ∧ (True ∧ True ∧ (0 ≤ ((i : Nat) : Int)) ∧ (((i : Nat) : Int) < (((List.length b.marks) : Nat) : Int))) ∧ True ∧ (True ∧ True) ∧ True) (by kernel_rfl) (by kernel_rfl)
     ⟨tt,tt,tt,⟨tt,tt,(by omega),(by omega)⟩,tt,tt,tt,tt,⟨tt,tt,(by omega),(by omega)⟩,tt,⟨tt,tt⟩,tt⟩ ?_
    refine W.if' (!((decide (((List.getD a.marks i default).value) = ((List.getD b.marks i default).value))) && ((decide (((List.getD a.marks i default).proc) = ((List.getD b.marks i default).proc))) && ((decide (((List.getD a.marks i default).number) = ((List.getD b.marks i default).number))) && ((((List.getD a.marks i default).gone) == ((List.getD b.marks i default).gone)) && true))))) (.b (!((decide (((List.getD a.marks i default).value) = ((List.getD b.marks i default).value))) && ((decide (((List.getD a.marks i default).proc) = ((List.getD b.marks i default).proc))) && ((decide (((List.getD a.marks i default).number) = ((List.getD b.marks i default).number))) && ((((List.getD a.marks i default).gone) == ((List.getD b.marks i default).gone)) && true)))))) (by kernel_rfl) rfl trivial ?_ ?_
    ·intro h30
     refine Kk cok tab9 hnt [] [4] (⟨[(4,.b false)],[(2,⟨26,.fix (cC a)⟩),(3,⟨26,.fix (cC b)⟩)],[2,3,999]⟩)
      (True ∧ True)
      ⟨tt,tt⟩ ?_
     refine W.ret (blockQ_ret (thenQ_ret (thenQ_ret (blockQ_ret (thenQ_ret ?_)))))
     exact endQ_ret (.b false) (by kernel_rfl) (@cast ((.bool false : Value) = .bool (sameC a b)) _ (by kernel_rfl) (congrArg Value.bool (by symm; exact same_no (fun e => by rw [e] at h30; exact mark_self h30))))
    ·intro n30
     have n30_0 : ((List.getD a.marks i default).value) = ((List.getD b.marks i default).value) := of_decide_eq_true (and_l (not_g n30))
     have n30_1 : ((List.getD a.marks i default).proc) = ((List.getD b.marks i default).proc) := of_decide_eq_true (and_l (and_r (not_g n30)))
     have n30_2 : ((List.getD a.marks i default).number) = ((List.getD b.marks i default).number) := of_decide_eq_true (and_l (and_r (and_r (not_g n30))))
     refine W.skip (blockQ_normal (thenQ_normal ?_))
     refine Lk cok tab9 hnt [] (⟨[(2,.ptr 2 0),(3,.ptr 3 0),(5,.i (((i + 1) : Nat) : Int)),(18,.i ((i : Nat) : Int)),(19,.i (((i + 1) : Nat) : Int)),(30,.b (!((decide (((List.getD a.marks i default).value) = ((List.getD b.marks i default).value))) && ((decide (((List.getD a.marks i default).proc) = ((List.getD b.marks i default).proc))) && ((decide (((List.getD a.marks i default).number) = ((List.getD b.marks i default).number))) && ((((List.getD a.marks i default).gone) == ((List.getD b.marks i default).gone)) && true))))))],[(2,⟨26,.fix (cC a)⟩),(3,⟨26,.fix (cC b)⟩)],[2,3,999]⟩)
      (True ∧ (True ∧ True ∧ (Fits .i64 (((i + 1) : Nat) : Int))) ∧ True ∧ True)
      ⟨tt,⟨tt,tt,(by exact fits_i64 (by omega) (by omega))⟩,tt,tt⟩ ?_
     refine thenQ_normal ?_
     refine ⟨((i + 1)),(show ((i + 1) ≤ a.marks.length) ∧ (∀ j,j < (i + 1) → a.marks.getD j default = b.marks.getD j default) from ⟨(by first | assumption | omega | rfl | (intro _ hjj; omega) | (simp; done) | (simp; omega)),(by exact upto_succ hA (mark_same n30))⟩),(show a.marks.length - (i + 1) < a.marks.length - i from (by first | omega | (simp_all; omega))),?_⟩
     exact Sub.of [] (@cast (((((2 : Nat) = 2) ∧ ((0 : Nat) = 0) ∧ ((2 : Nat) ∈ ([2,3,999] : List Nat))) ∧ (((3 : Nat) = 3) ∧ ((0 : Nat) = 0) ∧ ((3 : Nat) ∈ ([2,3,999] : List Nat))) ∧ (Si (((i + 1) : Nat) : Int)) ∧ True) ∧ ((((26 : Nat) = 26) ∧ (Sc a) ∧ ((2 : Nat) ∈ ([2,3,999] : List Nat))) ∧ (((26 : Nat) = 26) ∧ (Sc b) ∧ ((3 : Nat) ∈ ([2,3,999] : List Nat))) ∧ True) ∧ (true = true) ∧ (true = true)) _ (by kernel_rfl) ⟨⟨⟨rfl,rfl,(by decide)⟩,⟨rfl,rfl,(by decide)⟩,rfl,tt⟩,⟨⟨rfl,⟨rfl,rfl,rfl,rfl,rfl,rfl,tt⟩,(by decide)⟩,⟨rfl,⟨rfl,rfl,rfl,rfl,rfl,rfl,tt⟩,(by decide)⟩,tt⟩,rfl,rfl⟩)
   ·intro n17
    refine W.exit (thenQ_exit (thenQ_exit (blockQ_hit ?_)))
    refine thenQ_normal ?_
    refine Kk cok tab9 hnt [] [4] (⟨[(4,.b (((((decide (a.up = b.up)) && (decide (a.down = b.down))) && (decide (a.value = b.value))) && (decide (a.time = b.time))) && (decide (a.proc = b.proc))))],[(2,⟨26,.fix (cC a)⟩),(3,⟨26,.fix (cC b)⟩)],[2,3,999]⟩)
     ((fun (Z1:Bool)=>((fun (Z2:Bool)=>((fun (Z3:Bool)=>((fun (Z4:Bool)=>(True ∧ (True ∧ (True ∧ (True ∧ ((True ∧ ((True ∧ (True ∧ True)) ∧ True)) ∧ (True ∧ ((Z1 = true → True) ∧ ((Z1 = true → ((Z1 = true) ∧ True)) ∧ ((Z1 = true → True) ∧ ((Z1 = true → ((Z1 = true) ∧ True)) ∧ ((Z1 = true → (True ∧ ((((Z1 = true) ∧ True) ∧ (((Z1 = true) ∧ True) ∧ True)) ∧ True))) ∧ ((True ∧ ((Z1 = true → (Z1 = true) ∧ True) ∧ (Z1 = false → True))) ∧ (True ∧ ((Z2 = true → True) ∧ ((Z2 = true → ((Z2 = true) ∧ True)) ∧ ((Z2 = true → True) ∧ ((Z2 = true → ((Z2 = true) ∧ True)) ∧ ((Z2 = true → (((Z2 = true) ∧ True) ∧ (((Z2 = true) ∧ True) ∧ True))) ∧ ((True ∧ ((Z2 = true → (Z2 = true) ∧ True) ∧ (Z2 = false → True))) ∧ (True ∧ ((Z3 = true → True) ∧ ((Z3 = true → ((Z3 = true) ∧ True)) ∧ ((Z3 = true → True) ∧ ((Z3 = true → ((Z3 = true) ∧ True)) ∧ ((Z3 = true → (((Z3 = true) ∧ True) ∧ (((Z3 = true) ∧ True) ∧ True))) ∧ ((True ∧ ((Z3 = true → (Z3 = true) ∧ True) ∧ (Z3 = false → True))) ∧ (True ∧ ((Z4 = true → True) ∧ ((Z4 = true → ((Z4 = true) ∧ True)) ∧ ((Z4 = true → True) ∧ ((Z4 = true → ((Z4 = true) ∧ True)) ∧ ((Z4 = true → (((Z4 = true) ∧ True) ∧ (((Z4 = true) ∧ True) ∧ True))) ∧ ((True ∧ ((Z4 = true → (Z4 = true) ∧ True) ∧ (Z4 = false → True))) ∧ (True ∧ True))))))))))))))))))))))))))))))))))) (Z3 && (decide (a.time = b.time))))) (Z2 && (decide (a.value = b.value))))) (Z1 && (decide (a.down = b.down))))) (decide (a.up = b.up)))
     ⟨tt,tt,tt,tt,⟨tt,⟨tt,tt,tt⟩,tt⟩,tt,(fun _ => trivial),(fun hG => ⟨hG,tt⟩),(fun _ => trivial),(fun hG => ⟨hG,tt⟩),(fun hG => ⟨tt,⟨⟨hG,tt⟩,⟨hG,tt⟩,tt⟩,tt⟩),⟨tt,(fun hp => ⟨hp,tt⟩),(fun _ => trivial)⟩,tt,(fun _ => trivial),(fun hG => ⟨hG,tt⟩),(fun _ => trivial),(fun hG => ⟨hG,tt⟩),(fun hG => ⟨⟨hG,tt⟩,⟨hG,tt⟩,tt⟩),⟨tt,(fun hp => ⟨hp,tt⟩),(fun _ => trivial)⟩,tt,(fun _ => trivial),(fun hG => ⟨hG,tt⟩),(fun _ => trivial),(fun hG => ⟨hG,tt⟩),(fun hG => ⟨⟨hG,tt⟩,⟨hG,tt⟩,tt⟩),⟨tt,(fun hp => ⟨hp,tt⟩),(fun _ => trivial)⟩,tt,(fun _ => trivial),(fun hG => ⟨hG,tt⟩),(fun _ => trivial),(fun hG => ⟨hG,tt⟩),(fun hG => ⟨⟨hG,tt⟩,⟨hG,tt⟩,tt⟩),⟨tt,(fun hp => ⟨hp,tt⟩),(fun _ => trivial)⟩,tt,tt⟩ ?_
    refine W.ret ?_
    exact endQ_ret (.b (((((decide (a.up = b.up)) && (decide (a.down = b.down))) && (decide (a.value = b.value))) && (decide (a.time = b.time))) && (decide (a.proc = b.proc)))) (by kernel_rfl) (@cast ((.bool (((((decide (a.up = b.up)) && (decide (a.down = b.down))) && (decide (a.value = b.value))) && (decide (a.time = b.time))) && (decide (a.proc = b.proc))) : Value) = .bool (sameC a b)) _ (by kernel_rfl) (congrArg Value.bool (by exact same_yes (marks_ext (by omega) (fun j hj => hA j (by omega))))))
theorem ent9 : Entr prog 9 := ⟨_,func9,rfl,by decide⟩
end Go.Proofs.Try

set_option linter.unusedSimpArgs false
set_option linter.unusedVariables false
namespace Go.Proofs.Try
open Go.Ab Go.RowKit Go.Shelf Go.Proofs
def fs37 : FnS := fnS [.c .ints 3] [.ints] (fun _ (l,_) => (.own 0 (List.length (Lib.compact l)),[(3,.ints (Lib.compact l))],(l.length ≤ 1000)))
def renC : Go.Shelf.Ren := ⟨fun _ => 37,fun k => bif Nat.beq k 0 then 0 else bif Nat.beq k 3 then 3 else bif Nat.beq k 4 then 4 else bif Nat.beq k 22 then 23 else k,fun k => k⟩
set_option maxRecDepth 100000 in
theorem laysC : Go.Proofs.Lays2.n20 prog renC where
 mixed := by kernel_rfl
 f20 := by kernel_rfl
 t0 := underlying0
 a0 := isAgg0
 z0 := sizeOf0
 v0 := zeroValue0
 t3 := underlying3
 a3 := isAgg3
 z3 := sizeOf3
 v3 := zeroValue3
 t4 := underlying4
 a4 := isAgg4
 z4 := sizeOf4
 v4 := zeroValue4
 t22 := underlying23
 a22 := isAgg23
 z22 := sizeOf23
 v22 := zeroValue23
 i3 := by kernel_rfl
theorem ok37 : FnOK prog 37 fs37 := compact_ok laysC
theorem ent37 : Entr prog 37 := ⟨_,func37,rfl,by decide⟩
end Go.Proofs.Try

set_option linter.unusedSimpArgs false
set_option linter.unusedVariables false
namespace Go.Proofs.Try
open Go.Ab Go.RowKit Go.Shelf Go.Proofs Go.Lib
def renS : Go.Shelf.Ren := ⟨fun k => bif Nat.beq k 125 then 55 else bif Nat.beq k 128 then 73 else bif Nat.beq k 129 then 74 else bif Nat.beq k 189 then 36 else bif Nat.beq k 215 then 62 else bif Nat.beq k 216 then 70 else bif Nat.beq k 257 then 54 else bif Nat.beq k 294 then 64 else bif Nat.beq k 295 then 65 else bif Nat.beq k 296 then 66 else bif Nat.beq k 297 then 67 else bif Nat.beq k 298 then 68 else bif Nat.beq k 299 then 69 else bif Nat.beq k 300 then 71 else bif Nat.beq k 301 then 72 else bif Nat.beq k 328 then 77 else bif Nat.beq k 329 then 78 else bif Nat.beq k 330 then 79 else bif Nat.beq k 331 then 80 else bif Nat.beq k 332 then 81 else bif Nat.beq k 343 then 82 else k,fun k => bif Nat.beq k 0 then 0 else bif Nat.beq k 3 then 3 else bif Nat.beq k 4 then 4 else bif Nat.beq k 5 then 5 else bif Nat.beq k 9 then 9 else bif Nat.beq k 28 then 23 else bif Nat.beq k 46 then 76 else bif Nat.beq k 51 then 93 else bif Nat.beq k 53 then 95 else bif Nat.beq k 131 then 53 else bif Nat.beq k 182 then 85 else bif Nat.beq k 183 then 86 else bif Nat.beq k 218 then 98 else bif Nat.beq k 222 then 102 else bif Nat.beq k 228 then 104 else bif Nat.beq k 229 then 105 else k,fun k => k⟩
set_option maxRecDepth 100000 in
theorem laysS : Go.Proofs.Lays.n189 prog renS where
 mixed := by kernel_rfl
 f125 := by kernel_rfl
 f128 := by kernel_rfl
 f129 := by kernel_rfl
 f189 := by kernel_rfl
 f215 := by kernel_rfl
 f216 := by kernel_rfl
 f257 := by kernel_rfl
 f294 := by kernel_rfl
 f295 := by kernel_rfl
 f296 := by kernel_rfl
 f297 := by kernel_rfl
 f298 := by kernel_rfl
 f299 := by kernel_rfl
 f300 := by kernel_rfl
 f301 := by kernel_rfl
 f328 := by kernel_rfl
 f329 := by kernel_rfl
 f330 := by kernel_rfl
 f331 := by kernel_rfl
 f332 := by kernel_rfl
 f343 := by kernel_rfl
 t0 := underlying0
 a0 := isAgg0
 z0 := sizeOf0
 v0 := zeroValue0
 t3 := underlying3
 a3 := isAgg3
 z3 := sizeOf3
 v3 := zeroValue3
 t4 := underlying4
 a4 := isAgg4
 z4 := sizeOf4
 v4 := zeroValue4
 t5 := underlying5
 a5 := isAgg5
 z5 := sizeOf5
 v5 := zeroValue5
 t9 := underlying9
 a9 := isAgg9
 z9 := sizeOf9
 v9 := zeroValue9
 t28 := underlying23
 a28 := isAgg23
 z28 := sizeOf23
 v28 := zeroValue23
 t46 := underlying76
 a46 := isAgg76
 z46 := sizeOf76
 v46 := zeroValue76
 t51 := underlying93
 a51 := isAgg93
 z51 := sizeOf93
 v51 := zeroValue93
 t53 := underlying95
 a53 := isAgg95
 z53 := sizeOf95
 v53 := zeroValue95
 t131 := underlying53
 a131 := isAgg53
 z131 := sizeOf53
 v131 := zeroValue53
 t182 := underlying85
 a182 := isAgg85
 z182 := sizeOf85
 v182 := zeroValue85
 t183 := underlying86
 a183 := isAgg86
 z183 := sizeOf86
 v183 := zeroValue86
 t218 := underlying98
 a218 := isAgg98
 z218 := sizeOf98
 v218 := zeroValue98
 t222 := underlying102
 a222 := isAgg102
 z222 := sizeOf102
 v222 := zeroValue102
 t228 := underlying104
 a228 := isAgg104
 z228 := sizeOf104
 v228 := zeroValue104
 t229 := underlying105
 a229 := isAgg105
 z229 := sizeOf105
 v229 := zeroValue105
theorem hok36 : ∀ (l : List Int),(List.length l ≤ 1000) → HOK prog 36 [911] [.own 911 l.length] [(911,⟨3,.row (.ints l)⟩)] [911] (fun r s1 u1 => r = (.tup []) ∧ s1 = [(911,⟨3,.row (.ints (sortI l))⟩)] ∧ u1 = [911]) := fun l hl => sort_hok laysS l (by omega)
theorem ent36 : Entr prog 36 := ⟨_,func36,rfl,by decide⟩
end Go.Proofs.Try

set_option linter.unusedSimpArgs false
set_option linter.unusedVariables false
namespace Go.Proofs.Try
open Go.Ab Go.RowKit
def fs11 : FnS := fnS [.a [some .ints,some .ints,none,none,none,some .marks]] [.copy] (fun _ (c,_) => (.own 0 (List.length (valuesC c)),[(3,.ints (valuesC c))],True))
abbrev T11 : Tab := lk [(13,fs13),(37,fs37)]
theorem tab11 : TabOK prog T11 := (TabOK.cons ok13 ent13 (TabOK.cons ok37 ent37 TabOK.nil))
set_option maxRecDepth 100000 in
set_option maxHeartbeats 1000000 in
theorem ok11 : FnOK prog 11 fs11 := by
 refine FnOK.mk cok func11 rfl rfl rfl ?_
 rintro fl ⟨(c : CopyD),_⟩ hpre F hnt0 _
 have hnt : F.nt = 31 := hnt0.trans ntmps11
 clear hpre
 refine W.to (⟨[(0,.agg (cC c))],[],[999]⟩) rfl ?_
 refine W.lenA 0 0 (cC c) (.ints c.up) (by kernel_rfl) (by kernel_rfl) ?_
 intro hl_c_up; replace hl_c_up : List.length c.up ≤ 9223372036854775807 := hl_c_up
 refine W.lenA 0 1 (cC c) (.ints c.down) (by kernel_rfl) (by kernel_rfl) ?_
 intro hl_c_down; replace hl_c_down : List.length c.down ≤ 9223372036854775807 := hl_c_down
 refine W.lenA 0 5 (cC c) (.marks c.marks) (by kernel_rfl) (by kernel_rfl) ?_
 intro hl_c_marks; replace hl_c_marks : List.length c.marks ≤ 9223372036854775807 := hl_c_marks
 refine Kk cok tab11 hnt [] [1] (⟨[(1,.ptr 1 0)],[(1,⟨26,.fix (cC c)⟩)],[1,999]⟩)
  (True ∧ True ∧ True)
  ⟨tt,tt,tt⟩ ?_
 refine Kk cok tab11 hnt [6] [1,3] (⟨[(1,.ptr 1 0),(3,.own 6 (List.length ([] : List Int)))],[(1,⟨26,.fix (cC c)⟩),(6,⟨3,.row (.ints ([] : List Int))⟩)],[6,1,999]⟩)
  (True ∧ True ∧ True)
  ⟨tt,tt,tt⟩ ?_
 refine W.seq ?_
 refine Kk cok tab11 hnt [] [1,3,9] (⟨[(1,.ptr 1 0),(3,.own 6 (List.length ([] : List Int))),(9,.b (!(validCopy c)))],[(1,⟨26,.fix (cC c)⟩),(6,⟨3,.row (.ints ([] : List Int))⟩)],[6,1,999]⟩)
  (True ∧ (True ∧ ((True ∧ True ∧ True ∧ True ∧ True ∧ True ∧ True ∧ True) ∧ True) ∧ True) ∧ True ∧ True)
  ⟨tt,⟨tt,⟨⟨tt,tt,tt,tt,tt,tt,tt,tt⟩,tt⟩,tt⟩,tt,tt⟩ ?_
 refine W.if' (!(validCopy c)) (.b (!(validCopy c))) (by kernel_rfl) rfl trivial ?_ ?_
 ·intro h9
  refine Kk cok tab11 hnt [] [2] (⟨[(2,.own 6 (List.length ([] : List Int)))],[(1,⟨26,.fix (cC c)⟩),(6,⟨3,.row (.ints ([] : List Int))⟩)],[6,1,999]⟩)
   (True ∧ True ∧ True)
   ⟨tt,tt,tt⟩ ?_
  refine W.ret (thenQ_ret ?_)
  exact endQ_rows [(0,6)] (.own 6 (List.length ([] : List Int))) (by kernel_rfl) (@cast (((6 : Nat) = 6) ∧ ((List.length ([] : List Int)) = (List.length (valuesC c))) ∧ ((0 : Nat) ∈ ([0] : List Nat))) _ (by kernel_rfl) ⟨rfl,(by first | rfl | omega | assumption | (symm; assumption) | (exact congrArg List.length (by first | exact values_bad (not_f h9) | (rw [← values_bad (not_f h9)]; rfl))) | (first | exact values_bad (not_f h9) | (rw [← values_bad (not_f h9)]; rfl); done) | simp | simp_all),(by decide)⟩) (@cast ((((3 : Nat) = 3) ∧ ((.ints ([] : List Int) : Dat) = .ints (valuesC c)) ∧ ((0 : Nat) ∈ ([0] : List Nat))) ∧ True) _ (by kernel_rfl) ⟨⟨rfl,(congrArg Dat.ints (by first | exact values_bad (not_f h9) | (rw [← values_bad (not_f h9)]; rfl))),(by decide)⟩,tt⟩) (by kernel_rfl)
 ·intro n9
  have hf := up_len (not_g n9)
  refine W.skip (thenQ_normal ?_)
  refine W.seq ?_
  refine Kk cok tab11 hnt [] [3,12,13,14] (⟨[(3,.own 6 (List.length ([] : List Int))),(12,.sl (.marks c.marks)),(13,.i (((List.length c.marks) : Nat) : Int)),(14,.i (0 : Int))],[(1,⟨26,.fix (cC c)⟩),(6,⟨3,.row (.ints ([] : List Int))⟩)],[6,1,999]⟩)
   (True ∧ True ∧ True ∧ True ∧ True)
   ⟨tt,tt,tt,tt,tt⟩ ?_
  refine W.block ?_
  refine W.loop (ι := Nat × (List Int)) (fun (x : Nat × (List Int)) => match x with | (i,lo) => (⟨[(3,.own 6 lo.length),(12,.sl (.marks c.marks)),(13,.i (((List.length c.marks) : Nat) : Int)),(14,.i ((i : Nat) : Int))],[(6,⟨3,.row (.ints lo)⟩)],[6,999]⟩ : St))
   (fun (x : Nat × (List Int)) => match x with | (i,lo) => (i ≤ c.marks.length) ∧ (lo = listUp c.marks i))
   (fun (x : Nat × (List Int)) => match x with | (i,lo) => (c.marks.length - i : Nat)) (0,([] : List Int)) ?_ ?_ ?_
  ·exact (show (0 ≤ c.marks.length) ∧ (([] : List Int) = listUp c.marks 0) from ⟨(by first | assumption | omega | rfl | (intro _ hjj; omega) | (simp; done) | (simp; omega)),(by rfl)⟩)
  ·exact Sub.of [] (@cast (((((6 : Nat) = 6) ∧ ((List.length ([] : List Int)) = (List.length ([] : List Int))) ∧ ((6 : Nat) ∈ ([6,999] : List Nat))) ∧ (Sd (.marks c.marks)) ∧ (Si (((List.length c.marks) : Nat) : Int)) ∧ ((.int .i64 (0 : Int) : Value) = .int .i64 ((0 : Nat) : Int)) ∧ True) ∧ ((((3 : Nat) = 3) ∧ (Sd (.ints ([] : List Int))) ∧ ((6 : Nat) ∈ ([6,999] : List Nat))) ∧ True) ∧ (true = true) ∧ (true = true)) _ (by kernel_rfl) ⟨⟨⟨rfl,rfl,(by decide)⟩,rfl,rfl,(congrArg (Value.int .i64) (by first | rfl | omega | assumption | simp | simp_all)),tt⟩,⟨⟨rfl,rfl,(by decide)⟩,tt⟩,rfl,rfl⟩)
  ·rintro ⟨i,lo⟩ hC0
   have hC : (i ≤ c.marks.length) ∧ (lo = listUp c.marks i) := hC0
   clear hC0
   obtain ⟨hi,hl⟩ := hC
   refine W.to (⟨[(3,.own 6 lo.length),(12,.sl (.marks c.marks)),(13,.i (((List.length c.marks) : Nat) : Int)),(14,.i ((i : Nat) : Int))],[(6,⟨3,.row (.ints lo)⟩)],[6,999]⟩) rfl ?_
   have hll : lo.length ≤ i := by rw [hl]; exact listUp_len _ _
   refine Kk cok tab11 hnt [] [3,12,13,14,15] (⟨[(3,.own 6 lo.length),(12,.sl (.marks c.marks)),(13,.i (((List.length c.marks) : Nat) : Int)),(14,.i ((i : Nat) : Int)),(15,.b (decide (((i : Nat) : Int) < (((List.length c.marks) : Nat) : Int))))],[(6,⟨3,.row (.ints lo)⟩)],[6,999]⟩)
    ((True ∧ True ∧ True) ∧ True)
    ⟨⟨tt,tt,tt⟩,tt⟩ ?_
   refine W.seq ?_
   refine W.ifP (((i : Nat) : Int) < (((List.length c.marks) : Nat) : Int)) (.b (decide (((i : Nat) : Int) < (((List.length c.marks) : Nat) : Int)))) (by kernel_rfl) rfl trivial ?_ ?_
   ·intro h15
    refine W.skip (thenQ_normal ?_)
    refine W.seq ?_
    refine W.block ?_
    refine Kk cok tab11 hnt [] [3,5,12,13,14] (⟨[(3,.own 6 lo.length),(5,.ptr 5 0),(12,.sl (.marks c.marks)),(13,.i (((List.length c.marks) : Nat) : Int)),(14,.i ((i : Nat) : Int))],[(5,⟨33,.fix [.i ((List.getD c.marks i default).value),.i ((List.getD c.marks i default).proc),.i ((List.getD c.marks i default).number),.b ((List.getD c.marks i default).gone)]⟩),(6,⟨3,.row (.ints lo)⟩)],[5,6,999]⟩)
     ((True ∧ True ∧ (0 ≤ ((i : Nat) : Int)) ∧ (((i : Nat) : Int) < (((List.length c.marks) : Nat) : Int))) ∧ True ∧ True ∧ (True ∧ True) ∧ True)
     ⟨⟨tt,tt,(by omega),(by omega)⟩,tt,tt,⟨tt,tt⟩,tt⟩ ?_
    refine Kk cok tab11 hnt [] [3,5,12,13,14,20] ((fun (Z1:Bool)=>(⟨[(3,.own 6 lo.length),(5,.ptr 5 0),(12,.sl (.marks c.marks)),(13,.i (((List.length c.marks) : Nat) : Int)),(14,.i ((i : Nat) : Int)),(20,.b (!Z1))],[(5,⟨33,.fix [.i ((List.getD c.marks i default).value),.i ((List.getD c.marks i default).proc),.i ((List.getD c.marks i default).number),.b Z1]⟩),(6,⟨3,.row (.ints lo)⟩)],[5,6,999]⟩:St)) ((List.getD c.marks i default).gone))
     (True ∧ True ∧ True ∧ True)
     ⟨tt,tt,tt,tt⟩ ?_
    refine W.if' (!((List.getD c.marks i default).gone)) (.b (!((List.getD c.marks i default).gone))) (by kernel_rfl) rfl trivial ?_ ?_
    ·intro h20
     refine Lk cok tab11 hnt [25] ((fun (Z1:Bool)=>(⟨[(3,.own 25 (List.length (lo ++ ([((List.getD c.marks i default).value)])))),(5,.ptr 5 0),(12,.sl (.marks c.marks)),(13,.i (((List.length c.marks) : Nat) : Int)),(14,.i ((i : Nat) : Int)),(20,.b (!Z1)),(21,.own 6 lo.length),(22,.ptr 5 0),(23,.i ((List.getD c.marks i default).value)),(24,.sl (.ints ([((List.getD c.marks i default).value)]))),(25,.own 25 (List.length (lo ++ ([((List.getD c.marks i default).value)]))))],[(5,⟨33,.fix [.i ((List.getD c.marks i default).value),.i ((List.getD c.marks i default).proc),.i ((List.getD c.marks i default).number),.b Z1]⟩),(25,⟨3,.row (.ints (lo ++ ([((List.getD c.marks i default).value)])))⟩)],[25,24,5,6,999]⟩:St)) ((List.getD c.marks i default).gone))
      (True ∧ True ∧ True ∧ (True ∧ True) ∧ ((True ∧ (lo.length = lo.length)) ∧ True ∧ ((lo.length + (List.length ([((List.getD c.marks i default).value)]))) * 8 ≤ 140737488355328)) ∧ True ∧ True)
      ⟨tt,tt,tt,⟨tt,tt⟩,⟨⟨tt,rfl⟩,tt,(by (try simp only [List.length_append,List.length_cons,List.length_nil,List.length_set]); omega)⟩,tt,tt⟩ ?_
     refine blockQ_normal (thenQ_normal ?_)
     refine Lk cok tab11 hnt [] ((fun (Z1:Bool)=>(⟨[(3,.own 25 (List.length (lo ++ ([((List.getD c.marks i default).value)])))),(5,.ptr 5 0),(12,.sl (.marks c.marks)),(13,.i (((List.length c.marks) : Nat) : Int)),(14,.i (((i + 1) : Nat) : Int)),(20,.b (!Z1)),(21,.own 6 lo.length),(22,.ptr 5 0),(23,.i ((List.getD c.marks i default).value)),(24,.sl (.ints ([((List.getD c.marks i default).value)]))),(25,.own 25 (List.length (lo ++ ([((List.getD c.marks i default).value)])))),(26,.i (((i + 1) : Nat) : Int))],[(5,⟨33,.fix [.i ((List.getD c.marks i default).value),.i ((List.getD c.marks i default).proc),.i ((List.getD c.marks i default).number),.b Z1]⟩),(25,⟨3,.row (.ints (lo ++ ([((List.getD c.marks i default).value)])))⟩)],[25,24,5,6,999]⟩:St)) ((List.getD c.marks i default).gone))
      ((True ∧ True ∧ (Fits .i64 (((i + 1) : Nat) : Int))) ∧ True ∧ True)
      ⟨⟨tt,tt,(by exact fits_i64 (by omega) (by omega))⟩,tt,tt⟩ ?_
     refine thenQ_normal ?_
     refine ⟨((i + 1),(lo ++ ([((List.getD c.marks i default).value)]))),(show ((i + 1) ≤ c.marks.length) ∧ ((lo ++ ([((List.getD c.marks i default).value)])) = listUp c.marks (i + 1)) from ⟨(by first | assumption | omega | rfl | (intro _ hjj; omega) | (simp; done) | (simp; omega)),(by first | exact list_yes hl (not_f h20) | exact list_no hl (not_g n20))⟩),(show c.marks.length - (i + 1) < c.marks.length - i from (by first | omega | (simp_all; omega))),?_⟩
     exact Sub.of [(6,25)] (@cast (((((25 : Nat) = 25) ∧ ((List.length (lo ++ ([((List.getD c.marks i default).value)]))) = (List.length (lo ++ ([((List.getD c.marks i default).value)])))) ∧ ((6 : Nat) ∈ ([6,999] : List Nat))) ∧ (Sd (.marks c.marks)) ∧ (Si (((List.length c.marks) : Nat) : Int)) ∧ (Si (((i + 1) : Nat) : Int)) ∧ True) ∧ ((((3 : Nat) = 3) ∧ (Sd (.ints (lo ++ ([((List.getD c.marks i default).value)])))) ∧ ((6 : Nat) ∈ ([6,999] : List Nat))) ∧ True) ∧ (true = true) ∧ (true = true)) _ (by kernel_rfl) ⟨⟨⟨rfl,rfl,(by decide)⟩,rfl,rfl,rfl,tt⟩,⟨⟨rfl,rfl,(by decide)⟩,tt⟩,rfl,rfl⟩)
    ·intro n20
     refine W.skip (blockQ_normal (thenQ_normal ?_))
     refine Lk cok tab11 hnt [] ((fun (Z1:Bool)=>(⟨[(3,.own 6 lo.length),(5,.ptr 5 0),(12,.sl (.marks c.marks)),(13,.i (((List.length c.marks) : Nat) : Int)),(14,.i (((i + 1) : Nat) : Int)),(20,.b (!Z1)),(26,.i (((i + 1) : Nat) : Int))],[(5,⟨33,.fix [.i ((List.getD c.marks i default).value),.i ((List.getD c.marks i default).proc),.i ((List.getD c.marks i default).number),.b Z1]⟩),(6,⟨3,.row (.ints lo)⟩)],[5,6,999]⟩:St)) ((List.getD c.marks i default).gone))
      ((True ∧ True ∧ (Fits .i64 (((i + 1) : Nat) : Int))) ∧ True ∧ True)
      ⟨⟨tt,tt,(by exact fits_i64 (by omega) (by omega))⟩,tt,tt⟩ ?_
     refine thenQ_normal ?_
     refine ⟨((i + 1),lo),(show ((i + 1) ≤ c.marks.length) ∧ (lo = listUp c.marks (i + 1)) from ⟨(by first | assumption | omega | rfl | (intro _ hjj; omega) | (simp; done) | (simp; omega)),(by first | exact list_yes hl (not_f h20) | exact list_no hl (not_g n20))⟩),(show c.marks.length - (i + 1) < c.marks.length - i from (by first | omega | (simp_all; omega))),?_⟩
     exact Sub.of [] (@cast (((((6 : Nat) = 6) ∧ (lo.length = lo.length) ∧ ((6 : Nat) ∈ ([6,999] : List Nat))) ∧ (Sd (.marks c.marks)) ∧ (Si (((List.length c.marks) : Nat) : Int)) ∧ (Si (((i + 1) : Nat) : Int)) ∧ True) ∧ ((((3 : Nat) = 3) ∧ (Sd (.ints lo)) ∧ ((6 : Nat) ∈ ([6,999] : List Nat))) ∧ True) ∧ (true = true) ∧ (true = true)) _ (by kernel_rfl) ⟨⟨⟨rfl,rfl,(by decide)⟩,rfl,rfl,rfl,tt⟩,⟨⟨rfl,rfl,(by decide)⟩,tt⟩,rfl,rfl⟩)
   ·intro n15
    refine W.exit (thenQ_exit (thenQ_exit (blockQ_hit ?_)))
    refine thenQ_normal ?_
    refine W.seq (W.wi ?_)
    refine WI.runT cok tab11 hnt [] 1 1 (⟨[(3,.own 6 lo.length),(12,.sl (.marks c.marks)),(13,.i (((List.length c.marks) : Nat) : Int)),(14,.i ((i : Nat) : Int)),(15,.b (decide (((i : Nat) : Int) < (((List.length c.marks) : Nat) : Int)))),(27,.own 6 lo.length)],[(6,⟨3,.row (.ints lo)⟩)],[6,999]⟩)
     (True ∧ True) (by kernel_rfl) rfl
     ⟨tt,tt⟩ ?_
    refine WI.callH _ [.own 6 lo.length] [] (.fn 36 []) _ _ [(911,6)] (hok36 lo (by omega)) ent36 hnt rfl rfl (wanted_none rfl) (by kernel_rfl) (by kernel_rfl) trivial (by kernel_rfl) (by kernel_rfl) (by kernel_rfl) (@cast (((some ⟨3,.row (.ints lo)⟩ : Option LB) = some ⟨3,.row (.ints lo)⟩) ∧ (true = true) ∧ (True)) _ (by kernel_rfl) ⟨rfl,rfl,tt⟩) (by kernel_rfl) rfl ?_
    rintro r s1 u1 ⟨rfl,rfl,rfl⟩
    refine ⟨[(911,6)],by kernel_rfl,WI.to (⟨[(3,.own 6 lo.length),(12,.sl (.marks c.marks)),(13,.i (((List.length c.marks) : Nat) : Int)),(14,.i ((i : Nat) : Int)),(15,.b (decide (((i : Nat) : Int) < (((List.length c.marks) : Nat) : Int)))),(27,.own 6 lo.length),(28,.tup [])],[(6,⟨3,.row (.ints (sortI lo))⟩)],[6,999]⟩) 2 (by kernel_rfl) rfl ?_⟩
    refine WI.nil rfl (thenQ_normal ?_)
    refine W.keepE [3] [(3,.own 6 lo.length)] (by kernel_rfl) ?_
    refine W.to (⟨[(3,.own 6 lo.length)],[(6,⟨3,.row (.ints (sortI lo))⟩)],[6,999]⟩) rfl ?_
    refine Kk cok tab11 hnt [30] [2] (⟨[(2,.own 30 (List.length (Lib.compact (sortI lo))))],[(30,⟨3,.row (.ints (Lib.compact (sortI lo)))⟩)],[30,6,999]⟩)
     (True ∧ (True ∧ ((True ∧ (lo.length = (List.length (sortI lo)))) ∧ True) ∧ ((sortI lo).length ≤ 1000)) ∧ True ∧ True)
     ⟨tt,⟨tt,⟨⟨tt,(by have h8 : List.length (sortI lo) = lo.length := List.length_mergeSort _; omega)⟩,tt⟩,(by have h8 : List.length (sortI lo) = lo.length := List.length_mergeSort _; omega)⟩,tt,tt⟩ ?_
    refine W.ret ?_
    exact endQ_rows [(0,30)] (.own 30 (List.length (Lib.compact (sortI lo)))) (by kernel_rfl) (@cast (((30 : Nat) = 30) ∧ ((List.length (Lib.compact (sortI lo))) = (List.length (valuesC c))) ∧ ((0 : Nat) ∈ ([0] : List Nat))) _ (by kernel_rfl) ⟨rfl,(by first | rfl | omega | assumption | (symm; assumption) | (exact congrArg List.length (by exact values_ok (not_g n9) hl (by omega))) | (exact values_ok (not_g n9) hl (by omega); done) | simp | simp_all),(by decide)⟩) (@cast ((((3 : Nat) = 3) ∧ ((.ints (Lib.compact (sortI lo)) : Dat) = .ints (valuesC c)) ∧ ((0 : Nat) ∈ ([0] : List Nat))) ∧ True) _ (by kernel_rfl) ⟨⟨rfl,(congrArg Dat.ints (by exact values_ok (not_g n9) hl (by omega))),(by decide)⟩,tt⟩) (by kernel_rfl)
theorem ent11 : Entr prog 11 := ⟨_,func11,rfl,by decide⟩
end Go.Proofs.Try

set_option linter.unusedSimpArgs false
set_option linter.unusedVariables false
namespace Go.Proofs.Try
open Go.Ab Go.RowKit
def fs10 : FnS := fnS [.s .ints,.o] [.ints,.int] (fun _ (l,n,_) => (.b (hasInt l n),[],True))
abbrev T10 : Tab := lk []
theorem tab10 : TabOK prog T10 := TabOK.nil
set_option maxRecDepth 100000 in
set_option maxHeartbeats 1000000 in
theorem ok10 : FnOK prog 10 fs10 := by
 refine FnOK.mk cok func10 rfl rfl rfl ?_
 rintro fl ⟨(l : List Int),(n : Int),_⟩ hpre F hnt0 _
 have hnt : F.nt = 18 := hnt0.trans ntmps10
 clear hpre
 refine W.to (⟨[(0,.sl (.ints l)),(1,.i n)],[],[999]⟩) rfl ?_
 refine W.lenOf 0 (.ints l) (by kernel_rfl) ?_
 intro hl_l; replace hl_l : List.length l ≤ 9223372036854775807 := hl_l
 refine Kk cok tab10 hnt [] [0,1] (⟨[(0,.sl (.ints l)),(1,.i n)],[],[999]⟩)
  (True ∧ True)
  ⟨tt,tt⟩ ?_
 refine W.seq ?_
 refine Kk cok tab10 hnt [] [0,1,5] (⟨[(0,.sl (.ints l)),(1,.i n),(5,.i (0 : Int))],[],[999]⟩)
  (True ∧ True)
  ⟨tt,tt⟩ ?_
 refine W.block ?_
 refine W.loop (ι := Nat) (fun (i : Nat) => (⟨[(0,.sl (.ints l)),(1,.i n),(5,.i ((i : Nat) : Int))],[],[999]⟩ : St))
  (fun (i : Nat) => (i ≤ l.length) ∧ (∀ j,j < i → decide (l.getD j 0 = n) = false))
  (fun (i : Nat) => (l.length - i : Nat)) (0) ?_ ?_ ?_
 ·exact (show (0 ≤ l.length) ∧ (∀ j,j < 0 → decide (l.getD j 0 = n) = false) from ⟨(by first | assumption | omega | rfl | (intro _ hjj; omega) | (simp; done) | (simp; omega)),(by exact upto_zero)⟩)
 ·exact Sub.of [] (@cast (((Sd (.ints l)) ∧ (Si n) ∧ ((.int .i64 (0 : Int) : Value) = .int .i64 ((0 : Nat) : Int)) ∧ True) ∧ True ∧ (true = true) ∧ (true = true)) _ (by kernel_rfl) ⟨⟨rfl,rfl,(congrArg (Value.int .i64) (by first | rfl | omega | assumption | simp | simp_all)),tt⟩,tt,rfl,rfl⟩)
 ·rintro i hC0
  have hC : (i ≤ l.length) ∧ (∀ j,j < i → decide (l.getD j 0 = n) = false) := hC0
  clear hC0
  obtain ⟨hi,hA⟩ := hC
  refine W.to (⟨[(0,.sl (.ints l)),(1,.i n),(5,.i ((i : Nat) : Int))],[],[999]⟩) rfl ?_
  refine W.seq ?_
  refine Kk cok tab10 hnt [] [0,1,5,9] (⟨[(0,.sl (.ints l)),(1,.i n),(5,.i ((i : Nat) : Int)),(9,.b (decide (((i : Nat) : Int) < (l.length : Int))))],[],[999]⟩)
   (True ∧ True ∧ True ∧ (True ∧ True ∧ True) ∧ True)
   ⟨tt,tt,tt,⟨tt,tt,tt⟩,tt⟩ ?_
  refine W.ifP (((i : Nat) : Int) < (l.length : Int)) (.b (decide (((i : Nat) : Int) < (l.length : Int)))) (by kernel_rfl) rfl trivial ?_ ?_
  ·intro h9
   refine W.skip (thenQ_normal ?_)
   refine W.seq ?_
   refine W.block ?_
   refine Kk cok tab10 hnt [] [0,1,5,17] (⟨[(0,.sl (.ints l)),(1,.i n),(5,.i ((i : Nat) : Int)),(17,.b (decide ((l.getD i 0) = n)))],[],[999]⟩)
    (True ∧ True ∧ (True ∧ True ∧ (0 ≤ ((i : Nat) : Int)) ∧ (((i : Nat) : Int) < (l.length : Int))) ∧ True ∧ True ∧ (True ∧ True ∧ True) ∧ True)
    ⟨tt,tt,⟨tt,tt,(by omega),(by omega)⟩,tt,tt,⟨tt,tt,tt⟩,tt⟩ ?_
   refine W.ifP ((l.getD i 0) = n) (.b (decide ((l.getD i 0) = n))) (by kernel_rfl) rfl trivial ?_ ?_
   ·intro h17
    refine Kk cok tab10 hnt [] [4] (⟨[(4,.b true)],[],[999]⟩)
     (True ∧ True)
     ⟨tt,tt⟩ ?_
    refine W.ret (blockQ_ret (thenQ_ret (thenQ_ret (blockQ_ret (thenQ_ret ?_)))))
    exact endQ_ret (.b true) (by kernel_rfl) (@cast ((.bool true : Value) = .bool (hasInt l n)) _ (by kernel_rfl) (congrArg Value.bool (by exact (anyN_true (i := i) (by omega) (decide_eq_true h17)).symm)))
   ·intro n17
    refine W.skip (blockQ_normal (thenQ_normal ?_))
    refine Lk cok tab10 hnt [] (⟨[(0,.sl (.ints l)),(1,.i n),(5,.i (((i + 1) : Nat) : Int)),(10,.i ((i : Nat) : Int)),(11,.i (((i + 1) : Nat) : Int)),(17,.b (decide ((l.getD i 0) = n)))],[],[999]⟩)
     (True ∧ (True ∧ True ∧ (Fits .i64 (((i + 1) : Nat) : Int))) ∧ True ∧ True)
     ⟨tt,⟨tt,tt,(by exact fits_i64 (by omega) (by omega))⟩,tt,tt⟩ ?_
    refine thenQ_normal ?_
    refine ⟨((i + 1)),(show ((i + 1) ≤ l.length) ∧ (∀ j,j < (i + 1) → decide (l.getD j 0 = n) = false) from ⟨(by first | assumption | omega | rfl | (intro _ hjj; omega) | (simp; done) | (simp; omega)),(by exact upto_succ hA (decide_eq_false n17))⟩),(show l.length - (i + 1) < l.length - i from (by first | omega | (simp_all; omega))),?_⟩
    exact Sub.of [] (@cast (((Sd (.ints l)) ∧ (Si n) ∧ (Si (((i + 1) : Nat) : Int)) ∧ True) ∧ True ∧ (true = true) ∧ (true = true)) _ (by kernel_rfl) ⟨⟨rfl,rfl,rfl,tt⟩,tt,rfl,rfl⟩)
  ·intro n9
   refine W.exit (thenQ_exit (thenQ_exit (blockQ_hit ?_)))
   refine thenQ_normal ?_
   refine Kk cok tab10 hnt [] [4] (⟨[(4,.b false)],[],[999]⟩)
    (True ∧ True)
    ⟨tt,tt⟩ ?_
   refine W.ret ?_
   exact endQ_ret (.b false) (by kernel_rfl) (@cast ((.bool false : Value) = .bool (hasInt l n)) _ (by kernel_rfl) (congrArg Value.bool (by exact (anyN_false (fun j hj => hA j (by omega))).symm)))
theorem ent10 : Entr prog 10 := ⟨_,func10,rfl,by decide⟩
end Go.Proofs.Try
