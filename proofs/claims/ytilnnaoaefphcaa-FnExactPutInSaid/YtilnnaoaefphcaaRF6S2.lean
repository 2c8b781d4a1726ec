import Derived.Test.YtilnnaoaefphcaaRF6S0
import Derived.Test.YtilnnaoaefphcaaRF6S1
set_option linter.unusedSimpArgs false
set_option linter.unusedVariables false
namespace Go.Proofs.Try
open Go.Ab Go.RowKit
def fs21 : FnS := fnS [.a [some .ints,some .ints,none,none,none,some .marks],.o,.o] [.copy,.int,.int] (fun _ (c,value,p,_) => (.tup [.agg (cC ((putIn c value p).1)),.b ((putIn c value p).2)],[],True))
abbrev T21 : Tab := lk [(34,fs34),(35,fs35),(43,fs43),(49,fs49),(50,fs50)]
theorem tab21 : TabOK prog T21 := (TabOK.cons ok34 ent34 (TabOK.cons ok35 ent35 (TabOK.cons ok43 ent43 (TabOK.cons ok49 ent49 (TabOK.cons ok50 ent50 TabOK.nil)))))
set_option maxRecDepth 100000 in
set_option maxHeartbeats 1000000 in
theorem ok21 : FnOK prog 21 fs21 := by
 refine FnOK.mk cok func21 rfl rfl rfl ?_
 rintro fl ⟨(c : CopyD),(value : Int),(p : Int),_⟩ hpre F hnt0 _
 have hnt : F.nt = 79 := hnt0.trans ntmps21
 clear hpre
 refine W.to (⟨[(0,.agg (cC c)),(1,.i value),(2,.i p)],[],[999]⟩) rfl ?_
 refine W.lenA 0 0 (cC c) (.ints c.up) (by kernel_rfl) (by kernel_rfl) ?_
 intro hl_c_up; replace hl_c_up : List.length c.up ≤ 9223372036854775807 := hl_c_up
 refine W.lenA 0 1 (cC c) (.ints c.down) (by kernel_rfl) (by kernel_rfl) ?_
 intro hl_c_down; replace hl_c_down : List.length c.down ≤ 9223372036854775807 := hl_c_down
 refine W.lenA 0 5 (cC c) (.marks c.marks) (by kernel_rfl) (by kernel_rfl) ?_
 intro hl_c_marks; replace hl_c_marks : List.length c.marks ≤ 9223372036854775807 := hl_c_marks
 refine Kk cok tab21 hnt [] [1,2,3,6] (⟨[(1,.i value),(2,.i p),(3,.ptr 3 0),(6,.ptr 6 0)],[(3,⟨29,.fix (cC c)⟩),(6,⟨29,.fix [.v (.slice none 0 0),.v (.slice none 0 0),.i (0 : Int),.i (0 : Int),.i (0 : Int),.v (.slice none 0 0)]⟩)],[6,3,999]⟩)
  (True ∧ True ∧ True ∧ True)
  ⟨tt,tt,tt,tt⟩ ?_
 refine W.seq ?_
 refine Kk cok tab21 hnt [] [1,2,3,6,19] (⟨[(1,.i value),(2,.i p),(3,.ptr 3 0),(6,.ptr 6 0),(19,.b ((!(validCopy c)) || (!(within p (0 : Int) (2 : Int)))))],[(3,⟨29,.fix (cC c)⟩),(6,⟨29,.fix [.v (.slice none 0 0),.v (.slice none 0 0),.i (0 : Int),.i (0 : Int),.i (0 : Int),.v (.slice none 0 0)]⟩)],[6,3,999]⟩)
  ((fun (Z1:Bool)=>(True ∧ ((True ∧ (((True ∧ (True ∧ (True ∧ (True ∧ (True ∧ (True ∧ (True ∧ True))))))) ∧ True) ∧ True)) ∧ (True ∧ (True ∧ (((!Z1) = true → True) ∧ (((!Z1) = true → (True ∧ (((((!Z1) = true) ∧ True) ∧ (True ∧ (True ∧ True))) ∧ True))) ∧ (((!Z1) = true → (((!Z1) = true) ∧ True)) ∧ ((True ∧ ((Z1 = true → True) ∧ (Z1 = false → ((!Z1) = true) ∧ True))) ∧ True))))))))) (!(validCopy c)))
  ⟨tt,⟨tt,⟨⟨tt,tt,tt,tt,tt,tt,tt,tt⟩,tt⟩,tt⟩,tt,tt,(fun _ => trivial),(fun hG => ⟨tt,⟨⟨hG,tt⟩,tt,tt,tt⟩,tt⟩),(fun hG => ⟨hG,tt⟩),⟨tt,(fun _ => trivial),(fun hp => ⟨(not_t hp),tt⟩)⟩,tt⟩ ?_
 refine W.if' ((!(validCopy c)) || (!(within p (0 : Int) (2 : Int)))) (.b ((!(validCopy c)) || (!(within p (0 : Int) (2 : Int))))) (by kernel_rfl) rfl trivial ?_ ?_
 ·intro h19
  refine Kk cok tab21 hnt [] [6,7] (⟨[(6,.ptr 6 0),(7,.b false)],[(3,⟨29,.fix (cC c)⟩),(6,⟨29,.fix [.v (.slice none 0 0),.v (.slice none 0 0),.i (0 : Int),.i (0 : Int),.i (0 : Int),.v (.slice none 0 0)]⟩)],[6,3,999]⟩)
   (True ∧ (True ∧ True) ∧ True ∧ True)
   ⟨tt,⟨tt,tt⟩,tt,tt⟩ ?_
  refine W.ret (thenQ_ret ?_)
  exact endQ_ret (.tup [.agg [.v (.slice none 0 0),.v (.slice none 0 0),.i (0 : Int),.i (0 : Int),.i (0 : Int),.v (.slice none 0 0)],.b false]) (by kernel_rfl) (@cast (((((Value.slice none 0 0 : Value) = .slice none 0 0) ∧ ((Dat.ints ((putIn c value p).1.up)).len = 0)) ∧ (((Value.slice none 0 0 : Value) = .slice none 0 0) ∧ ((Dat.ints ((putIn c value p).1.down)).len = 0)) ∧ ((.int .i64 (0 : Int) : Value) = .int .i64 ((putIn c value p).1.value)) ∧ ((.int .i64 (0 : Int) : Value) = .int .i64 ((putIn c value p).1.time)) ∧ ((.int .i64 (0 : Int) : Value) = .int .i64 ((putIn c value p).1.proc)) ∧ (((Value.slice none 0 0 : Value) = .slice none 0 0) ∧ ((Dat.marks ((putIn c value p).1.marks)).len = 0)) ∧ True) ∧ ((.bool false : Value) = .bool ((putIn c value p).2)) ∧ True) _ (by kernel_rfl) ⟨⟨⟨rfl,(by show List.length ((putIn c value p).1.up) = 0; rw [putIn_no (gen_bad1 h19)]; try rfl)⟩,⟨rfl,(by show List.length ((putIn c value p).1.down) = 0; rw [putIn_no (gen_bad1 h19)]; try rfl)⟩,(congrArg (Value.int .i64) (by rw [putIn_no (gen_bad1 h19)]; try rfl)),(congrArg (Value.int .i64) (by rw [putIn_no (gen_bad1 h19)]; try rfl)),(congrArg (Value.int .i64) (by rw [putIn_no (gen_bad1 h19)]; try rfl)),⟨rfl,(by show List.length ((putIn c value p).1.marks) = 0; rw [putIn_no (gen_bad1 h19)]; try rfl)⟩,tt⟩,(congrArg Value.bool (by rw [putIn_no (gen_bad1 h19)]; try rfl)),tt⟩)
 ·intro n19
  have hg : putGood c p = true := gen_ok1 n19
  have hf := put_facts hg
  refine W.skip (thenQ_normal ?_)
  refine Kk cok tab21 hnt [] [1,2,3,6,8] (⟨[(1,.i value),(2,.i p),(3,.ptr 3 0),(6,.ptr 6 0),(8,.ptr 8 0)],[(3,⟨29,.fix (cC c)⟩),(6,⟨29,.fix [.v (.slice none 0 0),.v (.slice none 0 0),.i (0 : Int),.i (0 : Int),.i (0 : Int),.v (.slice none 0 0)]⟩),(8,⟨29,.fix [.own 22 (List.length c.up),.own 1022 (List.length c.down),.i c.value,.i c.time,.i c.proc,.own 2022 (List.length c.marks)]⟩),(22,⟨3,.row (.ints c.up)⟩),(1022,⟨3,.row (.ints c.down)⟩),(2022,⟨50,.row (.marks c.marks)⟩)],[8,2022,1022,22,6,3,999]⟩)
   (True ∧ (True ∧ ((True ∧ True ∧ True ∧ True ∧ True ∧ True ∧ True ∧ True) ∧ True) ∧ c.up.length ≤ 1000 ∧ c.down.length ≤ 1000 ∧ c.marks.length ≤ 1000) ∧ True ∧ (True ∧ True) ∧ True)
   ⟨tt,⟨tt,⟨⟨tt,tt,tt,tt,tt,tt,tt,tt⟩,tt⟩,(by omega)⟩,tt,⟨tt,tt⟩,tt⟩ ?_
  refine Kk cok tab21 hnt [] [3,6,8,9] (⟨[(3,.ptr 3 0),(6,.ptr 6 0),(8,.ptr 8 0),(9,.ptr 9 0)],[(3,⟨29,.fix (cC c)⟩),(6,⟨29,.fix [.v (.slice none 0 0),.v (.slice none 0 0),.i (0 : Int),.i (0 : Int),.i (0 : Int),.v (.slice none 0 0)]⟩),(8,⟨29,.fix [.own 22 (List.length c.up),.own 1022 (List.length c.down),.i c.value,.i c.time,.i c.proc,.own 2022 (List.length c.marks)]⟩),(9,⟨50,.fix [.i value,.i p,.i ((countC c p) + (1 : Int)),.b false]⟩),(22,⟨3,.row (.ints c.up)⟩),(1022,⟨3,.row (.ints c.down)⟩),(2022,⟨50,.row (.marks c.marks)⟩)],[9,8,2022,1022,22,6,3,999]⟩)
   (True ∧ True ∧ True ∧ True ∧ (True ∧ ((True ∧ True ∧ True ∧ True ∧ True ∧ True ∧ True ∧ True) ∧ True ∧ True) ∧ True) ∧ (True ∧ True ∧ (Fits .i64 ((countC c p) + (1 : Int)))) ∧ (True ∧ True ∧ True ∧ True) ∧ True ∧ (True ∧ True) ∧ True)
   ⟨tt,tt,tt,tt,⟨tt,⟨⟨tt,tt,tt,tt,tt,tt,tt,tt⟩,tt,tt⟩,tt⟩,⟨tt,tt,(by exact fits_i64 (by omega) (by omega))⟩,⟨tt,tt,tt,tt⟩,tt,⟨tt,tt⟩,tt⟩ ?_
  refine Kk cok tab21 hnt [30] [3,6,8,9] (⟨[(3,.ptr 3 0),(6,.ptr 6 0),(8,.ptr 8 0),(9,.ptr 9 0)],[(3,⟨29,.fix (cC c)⟩),(6,⟨29,.fix [.v (.slice none 0 0),.v (.slice none 0 0),.i (0 : Int),.i (0 : Int),.i (0 : Int),.v (.slice none 0 0)]⟩),(8,⟨29,.fix [.own 22 (List.length c.up),.own 1022 (List.length c.down),.i c.value,.i c.time,.i c.proc,.own 30 (List.length ([] : List MarkD))]⟩),(9,⟨50,.fix [.i value,.i p,.i ((countC c p) + (1 : Int)),.b false]⟩),(22,⟨3,.row (.ints c.up)⟩),(30,⟨50,.row (.marks ([] : List MarkD))⟩),(1022,⟨3,.row (.ints c.down)⟩),(2022,⟨50,.row (.marks c.marks)⟩)],[30,9,8,2022,1022,22,6,3,999]⟩)
   (True ∧ True ∧ (True ∧ True) ∧ True)
   ⟨tt,tt,⟨tt,tt⟩,tt⟩ ?_
  refine Kk cok tab21 hnt [] [3,6,8,9,10] (⟨[(3,.ptr 3 0),(6,.ptr 6 0),(8,.ptr 8 0),(9,.ptr 9 0),(10,.b false)],[(3,⟨29,.fix (cC c)⟩),(6,⟨29,.fix [.v (.slice none 0 0),.v (.slice none 0 0),.i (0 : Int),.i (0 : Int),.i (0 : Int),.v (.slice none 0 0)]⟩),(8,⟨29,.fix [.own 22 (List.length c.up),.own 1022 (List.length c.down),.i c.value,.i c.time,.i c.proc,.own 30 (List.length ([] : List MarkD))]⟩),(9,⟨50,.fix [.i value,.i p,.i ((countC c p) + (1 : Int)),.b false]⟩),(22,⟨3,.row (.ints c.up)⟩),(30,⟨50,.row (.marks ([] : List MarkD))⟩),(1022,⟨3,.row (.ints c.down)⟩),(2022,⟨50,.row (.marks c.marks)⟩)],[30,9,8,2022,1022,22,6,3,999]⟩)
   (True ∧ True)
   ⟨tt,tt⟩ ?_
  refine W.seq ?_
  refine Kk cok tab21 hnt [] [3,6,8,9,10,11] (⟨[(3,.ptr 3 0),(6,.ptr 6 0),(8,.ptr 8 0),(9,.ptr 9 0),(10,.b false),(11,.i (0 : Int))],[(3,⟨29,.fix (cC c)⟩),(6,⟨29,.fix [.v (.slice none 0 0),.v (.slice none 0 0),.i (0 : Int),.i (0 : Int),.i (0 : Int),.v (.slice none 0 0)]⟩),(8,⟨29,.fix [.own 22 (List.length c.up),.own 1022 (List.length c.down),.i c.value,.i c.time,.i c.proc,.own 30 (List.length ([] : List MarkD))]⟩),(9,⟨50,.fix [.i value,.i p,.i ((countC c p) + (1 : Int)),.b false]⟩),(22,⟨3,.row (.ints c.up)⟩),(30,⟨50,.row (.marks ([] : List MarkD))⟩),(1022,⟨3,.row (.ints c.down)⟩),(2022,⟨50,.row (.marks c.marks)⟩)],[30,9,8,2022,1022,22,6,3,999]⟩)
   (True ∧ True)
   ⟨tt,tt⟩ ?_
  refine W.block ?_
  refine W.loop (ι := Nat × Bool × (List MarkD)) (fun (x : Nat × Bool × (List MarkD)) => match x with | (i,put,ms) => (⟨[(3,.ptr 3 0),(6,.ptr 6 0),(8,.ptr 8 0),(9,.ptr 9 0),(10,.b put),(11,.i ((i : Nat) : Int))],[(3,⟨29,.fix (cC c)⟩),(6,⟨29,.fix [.v (.slice none 0 0),.v (.slice none 0 0),.i (0 : Int),.i (0 : Int),.i (0 : Int),.v (.slice none 0 0)]⟩),(8,⟨29,.fix [.own 22 (List.length c.up),.own 1022 (List.length c.down),.i c.value,.i c.time,.i c.proc,.own 30 ms.length]⟩),(9,⟨50,.fix [.i value,.i p,.i ((countC c p) + (1 : Int)),.b false]⟩),(22,⟨3,.row (.ints c.up)⟩),(30,⟨50,.row (.marks ms)⟩),(1022,⟨3,.row (.ints c.down)⟩)],[3,6,8,9,22,30,999,1022]⟩ : St))
   (fun (x : Nat × Bool × (List MarkD)) => match x with | (i,put,ms) => (i ≤ c.marks.length) ∧ (putUp (⟨value,p,countC c p + 1,false⟩ : MarkD) c.marks i put ms))
   (fun (x : Nat × Bool × (List MarkD)) => match x with | (i,put,ms) => (c.marks.length - i : Nat)) (0,false,([] : List MarkD)) ?_ ?_ ?_
  ·exact (show (0 ≤ c.marks.length) ∧ (putUp (⟨value,p,countC c p + 1,false⟩ : MarkD) c.marks 0 false ([] : List MarkD)) from ⟨(by first | assumption | omega | rfl | (intro _ hjj; omega) | (simp; done) | (simp; omega)),(by exact putUp_zero _ _)⟩)
  ·exact Sub.of [] (@cast (((((3 : Nat) = 3) ∧ ((0 : Nat) = 0) ∧ ((3 : Nat) ∈ ([3,6,8,9,22,30,999,1022] : List Nat))) ∧ (((6 : Nat) = 6) ∧ ((0 : Nat) = 0) ∧ ((6 : Nat) ∈ ([3,6,8,9,22,30,999,1022] : List Nat))) ∧ (((8 : Nat) = 8) ∧ ((0 : Nat) = 0) ∧ ((8 : Nat) ∈ ([3,6,8,9,22,30,999,1022] : List Nat))) ∧ (((9 : Nat) = 9) ∧ ((0 : Nat) = 0) ∧ ((9 : Nat) ∈ ([3,6,8,9,22,30,999,1022] : List Nat))) ∧ (Sv (.bool false)) ∧ ((.int .i64 (0 : Int) : Value) = .int .i64 ((0 : Nat) : Int)) ∧ True) ∧ ((((29 : Nat) = 29) ∧ (Sc c) ∧ ((3 : Nat) ∈ ([3,6,8,9,22,30,999,1022] : List Nat))) ∧ (((29 : Nat) = 29) ∧ ((((.slice none 0 0) : Value) = (.slice none 0 0)) ∧ (((.slice none 0 0) : Value) = (.slice none 0 0)) ∧ (Si (0 : Int)) ∧ (Si (0 : Int)) ∧ (Si (0 : Int)) ∧ (((.slice none 0 0) : Value) = (.slice none 0 0)) ∧ True) ∧ ((6 : Nat) ∈ ([3,6,8,9,22,30,999,1022] : List Nat))) ∧ (((29 : Nat) = 29) ∧ ((((22 : Nat) = 22) ∧ ((List.length c.up) = (List.length c.up)) ∧ ((22 : Nat) ∈ ([3,6,8,9,22,30,999,1022] : List Nat))) ∧ (((1022 : Nat) = 1022) ∧ ((List.length c.down) = (List.length c.down)) ∧ ((1022 : Nat) ∈ ([3,6,8,9,22,30,999,1022] : List Nat))) ∧ (Si c.value) ∧ (Si c.time) ∧ (Si c.proc) ∧ (((30 : Nat) = 30) ∧ ((List.length ([] : List MarkD)) = (List.length ([] : List MarkD))) ∧ ((30 : Nat) ∈ ([3,6,8,9,22,30,999,1022] : List Nat))) ∧ True) ∧ ((8 : Nat) ∈ ([3,6,8,9,22,30,999,1022] : List Nat))) ∧ (((50 : Nat) = 50) ∧ ((Si value) ∧ (Si p) ∧ (Si ((countC c p) + (1 : Int))) ∧ (Sv (.bool false)) ∧ True) ∧ ((9 : Nat) ∈ ([3,6,8,9,22,30,999,1022] : List Nat))) ∧ (((3 : Nat) = 3) ∧ (Sd (.ints c.up)) ∧ ((22 : Nat) ∈ ([3,6,8,9,22,30,999,1022] : List Nat))) ∧ (((50 : Nat) = 50) ∧ (Sd (.marks ([] : List MarkD))) ∧ ((30 : Nat) ∈ ([3,6,8,9,22,30,999,1022] : List Nat))) ∧ (((3 : Nat) = 3) ∧ (Sd (.ints c.down)) ∧ ((1022 : Nat) ∈ ([3,6,8,9,22,30,999,1022] : List Nat))) ∧ True) ∧ (true = true) ∧ (true = true)) _ (by kernel_rfl) ⟨⟨⟨rfl,rfl,(by decide)⟩,⟨rfl,rfl,(by decide)⟩,⟨rfl,rfl,(by decide)⟩,⟨rfl,rfl,(by decide)⟩,rfl,(congrArg (Value.int .i64) (by first | rfl | omega | assumption | simp | simp_all)),tt⟩,⟨⟨rfl,⟨rfl,rfl,rfl,rfl,rfl,rfl,tt⟩,(by decide)⟩,⟨rfl,⟨rfl,rfl,rfl,rfl,rfl,rfl,tt⟩,(by decide)⟩,⟨rfl,⟨⟨rfl,rfl,(by decide)⟩,⟨rfl,rfl,(by decide)⟩,rfl,rfl,rfl,⟨rfl,rfl,(by decide)⟩,tt⟩,(by decide)⟩,⟨rfl,⟨rfl,rfl,rfl,rfl,tt⟩,(by decide)⟩,⟨rfl,rfl,(by decide)⟩,⟨rfl,rfl,(by decide)⟩,⟨rfl,rfl,(by decide)⟩,tt⟩,rfl,rfl⟩)
  ·rintro ⟨i,put,ms⟩ hC0
   have hC : (i ≤ c.marks.length) ∧ (putUp (⟨value,p,countC c p + 1,false⟩ : MarkD) c.marks i put ms) := hC0
   clear hC0
   obtain ⟨hi,hm⟩ := hC
   refine W.to (⟨[(3,.ptr 3 0),(6,.ptr 6 0),(8,.ptr 8 0),(9,.ptr 9 0),(10,.b put),(11,.i ((i : Nat) : Int))],[(3,⟨29,.fix (cC c)⟩),(6,⟨29,.fix [.v (.slice none 0 0),.v (.slice none 0 0),.i (0 : Int),.i (0 : Int),.i (0 : Int),.v (.slice none 0 0)]⟩),(8,⟨29,.fix [.own 22 (List.length c.up),.own 1022 (List.length c.down),.i c.value,.i c.time,.i c.proc,.own 30 ms.length]⟩),(9,⟨50,.fix [.i value,.i p,.i ((countC c p) + (1 : Int)),.b false]⟩),(22,⟨3,.row (.ints c.up)⟩),(30,⟨50,.row (.marks ms)⟩),(1022,⟨3,.row (.ints c.down)⟩)],[3,6,8,9,22,30,999,1022]⟩) rfl ?_
   have hml := putUp_len hm
   refine W.seq ?_
   refine Kk cok tab21 hnt [] [3,6,8,9,10,11,36] (⟨[(3,.ptr 3 0),(6,.ptr 6 0),(8,.ptr 8 0),(9,.ptr 9 0),(10,.b put),(11,.i ((i : Nat) : Int)),(36,.b (decide (((i : Nat) : Int) < (((List.length c.marks) : Nat) : Int))))],[(3,⟨29,.fix (cC c)⟩),(6,⟨29,.fix [.v (.slice none 0 0),.v (.slice none 0 0),.i (0 : Int),.i (0 : Int),.i (0 : Int),.v (.slice none 0 0)]⟩),(8,⟨29,.fix [.own 22 (List.length c.up),.own 1022 (List.length c.down),.i c.value,.i c.time,.i c.proc,.own 30 ms.length]⟩),(9,⟨50,.fix [.i value,.i p,.i ((countC c p) + (1 : Int)),.b false]⟩),(22,⟨3,.row (.ints c.up)⟩),(30,⟨50,.row (.marks ms)⟩),(1022,⟨3,.row (.ints c.down)⟩)],[3,6,8,9,22,30,999,1022]⟩)
    (True ∧ True ∧ True ∧ True ∧ (True ∧ True ∧ True) ∧ True)
    ⟨tt,tt,tt,tt,⟨tt,tt,tt⟩,tt⟩ ?_
   refine W.ifP (((i : Nat) : Int) < (((List.length c.marks) : Nat) : Int)) (.b (decide (((i : Nat) : Int) < (((List.length c.marks) : Nat) : Int)))) (by kernel_rfl) rfl trivial ?_ ?_
   ·intro h36
    refine W.skip (thenQ_normal ?_)
    refine W.seq ?_
    refine W.block ?_
    refine W.seq ?_
    refine W.KA cok tab21 hnt [] [3,6,8,9,10,11,49] (⟨[(3,.ptr 3 0),(6,.ptr 6 0),(8,.ptr 8 0),(9,.ptr 9 0),(10,.b put),(11,.i ((i : Nat) : Int)),(49,.b ((!put) && (lessM (⟨value,p,((countC c p) + (1 : Int)),false⟩ : MarkD) (List.getD c.marks i default))))],[(3,⟨29,.fix (cC c)⟩),(6,⟨29,.fix [.v (.slice none 0 0),.v (.slice none 0 0),.i (0 : Int),.i (0 : Int),.i (0 : Int),.v (.slice none 0 0)]⟩),(8,⟨29,.fix [.own 22 (List.length c.up),.own 1022 (List.length c.down),.i c.value,.i c.time,.i c.proc,.own 30 ms.length]⟩),(9,⟨50,.fix [.i value,.i p,.i ((countC c p) + (1 : Int)),.b false]⟩),(22,⟨3,.row (.ints c.up)⟩),(30,⟨50,.row (.marks ms)⟩),(1022,⟨3,.row (.ints c.down)⟩)],[3,6,8,9,22,30,999,1022]⟩)
     ((fun (Z1:Bool)=>(True ∧ (True ∧ (True ∧ ((Z1 = true → True) ∧ ((Z1 = true → True) ∧ ((Z1 = true → ((Z1 = true) ∧ True)) ∧ ((Z1 = true → True) ∧ ((Z1 = true → (((Z1 = true) ∧ True) ∧ (((Z1 = true) ∧ True) ∧ ((0 ≤ ((i : Nat) : Int)) ∧ (((i : Nat) : Int) < (((List.length c.marks) : Nat) : Int)))))) ∧ ((Z1 = true → ((Z1 = true) ∧ True)) ∧ ((Z1 = true → (True ∧ ((((Z1 = true) ∧ True) ∧ (((Z1 = true) ∧ True) ∧ True)) ∧ True))) ∧ ((True ∧ ((Z1 = true → (Z1 = true) ∧ True) ∧ (Z1 = false → True))) ∧ True)))))))))))) (!put)) (by kernel_rfl) (by kernel_rfl)
     ⟨tt,tt,tt,(fun _ => trivial),(fun _ => trivial),(fun hG => ⟨hG,tt⟩),(fun _ => trivial),(fun hG => ⟨⟨hG,tt⟩,⟨hG,tt⟩,(by omega),(by omega)⟩),(fun hG => ⟨hG,tt⟩),(fun hG => ⟨tt,⟨⟨hG,tt⟩,⟨hG,tt⟩,tt⟩,tt⟩),⟨tt,(fun hp => ⟨hp,tt⟩),(fun _ => trivial)⟩,tt⟩ ?_
    refine W.if' ((!put) && (lessM (⟨value,p,((countC c p) + (1 : Int)),false⟩ : MarkD) (List.getD c.marks i default))) (.b ((!put) && (lessM (⟨value,p,((countC c p) + (1 : Int)),false⟩ : MarkD) (List.getD c.marks i default)))) (by kernel_rfl) rfl trivial ?_ ?_
    ·intro h49
     refine Kk cok tab21 hnt [54] [3,6,8,9,11] (⟨[(3,.ptr 3 0),(6,.ptr 6 0),(8,.ptr 8 0),(9,.ptr 9 0),(11,.i ((i : Nat) : Int))],[(3,⟨29,.fix (cC c)⟩),(6,⟨29,.fix [.v (.slice none 0 0),.v (.slice none 0 0),.i (0 : Int),.i (0 : Int),.i (0 : Int),.v (.slice none 0 0)]⟩),(8,⟨29,.fix [.own 22 (List.length c.up),.own 1022 (List.length c.down),.i c.value,.i c.time,.i c.proc,.own 54 (List.length (ms ++ ([(⟨value,p,((countC c p) + (1 : Int)),false⟩ : MarkD)])))]⟩),(9,⟨50,.fix [.i value,.i p,.i ((countC c p) + (1 : Int)),.b false]⟩),(22,⟨3,.row (.ints c.up)⟩),(54,⟨50,.row (.marks (ms ++ ([(⟨value,p,((countC c p) + (1 : Int)),false⟩ : MarkD)])))⟩),(1022,⟨3,.row (.ints c.down)⟩)],[54,53,3,6,8,9,22,30,999,1022]⟩)
      (True ∧ True ∧ True ∧ (True ∧ True) ∧ ((True ∧ (ms.length = ms.length)) ∧ True ∧ ((ms.length + (List.length ([(⟨value,p,((countC c p) + (1 : Int)),false⟩ : MarkD)]))) * 32 ≤ 140737488355328)) ∧ True ∧ (True ∧ True) ∧ True)
      ⟨tt,tt,tt,⟨tt,tt⟩,⟨⟨tt,rfl⟩,tt,(by (try simp only [List.length_append,List.length_cons,List.length_nil,List.length_set]); omega)⟩,tt,⟨tt,tt⟩,tt⟩ ?_
     refine Lk cok tab21 hnt [] (⟨[(3,.ptr 3 0),(6,.ptr 6 0),(8,.ptr 8 0),(9,.ptr 9 0),(10,.b true),(11,.i ((i : Nat) : Int))],[(3,⟨29,.fix (cC c)⟩),(6,⟨29,.fix [.v (.slice none 0 0),.v (.slice none 0 0),.i (0 : Int),.i (0 : Int),.i (0 : Int),.v (.slice none 0 0)]⟩),(8,⟨29,.fix [.own 22 (List.length c.up),.own 1022 (List.length c.down),.i c.value,.i c.time,.i c.proc,.own 54 (List.length (ms ++ ([(⟨value,p,((countC c p) + (1 : Int)),false⟩ : MarkD)])))]⟩),(9,⟨50,.fix [.i value,.i p,.i ((countC c p) + (1 : Int)),.b false]⟩),(22,⟨3,.row (.ints c.up)⟩),(54,⟨50,.row (.marks (ms ++ ([(⟨value,p,((countC c p) + (1 : Int)),false⟩ : MarkD)])))⟩),(1022,⟨3,.row (.ints c.down)⟩)],[54,53,3,6,8,9,22,30,999,1022]⟩)
      (True ∧ True)
      ⟨tt,tt⟩ ?_
     refine thenQ_normal ?_
     refine W.LA cok tab21 hnt [64] ((fun (Z1:Bool)=>(⟨[(3,.ptr 3 0),(6,.ptr 6 0),(8,.ptr 8 0),(9,.ptr 9 0),(10,.b true),(11,.i ((i : Nat) : Int)),(56,.ptr 8 5),(57,.own 54 (List.length (ms ++ ([(⟨value,p,((countC c p) + (1 : Int)),false⟩ : MarkD)])))),(58,.ptr 3 5),(59,.sl (.marks c.marks)),(60,.i ((i : Nat) : Int)),(61,.ep [.i ((List.getD c.marks i default).value),.i ((List.getD c.marks i default).proc),.i ((List.getD c.marks i default).number),.b Z1]),(62,.agg [.i ((List.getD c.marks i default).value),.i ((List.getD c.marks i default).proc),.i ((List.getD c.marks i default).number),.b Z1]),(63,.sl (.marks ([(List.getD c.marks i default)]))),(64,.own 64 (List.length ((ms ++ ([(⟨value,p,((countC c p) + (1 : Int)),false⟩ : MarkD)])) ++ ([(List.getD c.marks i default)])))),(65,.ptr 8 5)],[(3,⟨29,.fix (cC c)⟩),(6,⟨29,.fix [.v (.slice none 0 0),.v (.slice none 0 0),.i (0 : Int),.i (0 : Int),.i (0 : Int),.v (.slice none 0 0)]⟩),(8,⟨29,.fix [.own 22 (List.length c.up),.own 1022 (List.length c.down),.i c.value,.i c.time,.i c.proc,.own 64 (List.length ((ms ++ ([(⟨value,p,((countC c p) + (1 : Int)),false⟩ : MarkD)])) ++ ([(List.getD c.marks i default)])))]⟩),(9,⟨50,.fix [.i value,.i p,.i ((countC c p) + (1 : Int)),.b false]⟩),(22,⟨3,.row (.ints c.up)⟩),(64,⟨50,.row (.marks ((ms ++ ([(⟨value,p,((countC c p) + (1 : Int)),false⟩ : MarkD)])) ++ ([(List.getD c.marks i default)])))⟩),(1022,⟨3,.row (.ints c.down)⟩)],[64,63,54,53,3,6,8,9,22,30,999,1022]⟩:St)) ((List.getD c.marks i default).gone))
      (True ∧ True ∧ True ∧ True ∧ True ∧ (True ∧ True ∧ (0 ≤ ((i : Nat) : Int)) ∧ (((i : Nat) : Int) < (((List.length c.marks) : Nat) : Int))) ∧ True ∧ (True ∧ True) ∧ ((True ∧ ((List.length (ms ++ ([(⟨value,p,((countC c p) + (1 : Int)),false⟩ : MarkD)]))) = (List.length (ms ++ ([(⟨value,p,((countC c p) + (1 : Int)),false⟩ : MarkD)]))))) ∧ True ∧ (((List.length (ms ++ ([(⟨value,p,((countC c p) + (1 : Int)),false⟩ : MarkD)]))) + (List.length ([(List.getD c.marks i default)]))) * 32 ≤ 140737488355328)) ∧ True ∧ (True ∧ True) ∧ True) (by kernel_rfl) (by kernel_rfl)
      ⟨tt,tt,tt,tt,tt,⟨tt,tt,(by omega),(by omega)⟩,tt,⟨tt,tt⟩,⟨⟨tt,rfl⟩,tt,(by (try simp only [List.length_append,List.length_cons,List.length_nil,List.length_set]); omega)⟩,tt,⟨tt,tt⟩,tt⟩ ?_
     refine blockQ_normal (thenQ_normal ?_)
     refine Lk cok tab21 hnt [] ((fun (Z1:Bool)=>(⟨[(3,.ptr 3 0),(6,.ptr 6 0),(8,.ptr 8 0),(9,.ptr 9 0),(10,.b true),(11,.i (((i + 1) : Nat) : Int)),(37,.i ((i : Nat) : Int)),(38,.i (((i + 1) : Nat) : Int)),(56,.ptr 8 5),(57,.own 54 (List.length (ms ++ ([(⟨value,p,((countC c p) + (1 : Int)),false⟩ : MarkD)])))),(58,.ptr 3 5),(59,.sl (.marks c.marks)),(60,.i ((i : Nat) : Int)),(61,.ep [.i ((List.getD c.marks i default).value),.i ((List.getD c.marks i default).proc),.i ((List.getD c.marks i default).number),.b Z1]),(62,.agg [.i ((List.getD c.marks i default).value),.i ((List.getD c.marks i default).proc),.i ((List.getD c.marks i default).number),.b Z1]),(63,.sl (.marks ([(List.getD c.marks i default)]))),(64,.own 64 (List.length ((ms ++ ([(⟨value,p,((countC c p) + (1 : Int)),false⟩ : MarkD)])) ++ ([(List.getD c.marks i default)])))),(65,.ptr 8 5)],[(3,⟨29,.fix (cC c)⟩),(6,⟨29,.fix [.v (.slice none 0 0),.v (.slice none 0 0),.i (0 : Int),.i (0 : Int),.i (0 : Int),.v (.slice none 0 0)]⟩),(8,⟨29,.fix [.own 22 (List.length c.up),.own 1022 (List.length c.down),.i c.value,.i c.time,.i c.proc,.own 64 (List.length ((ms ++ ([(⟨value,p,((countC c p) + (1 : Int)),false⟩ : MarkD)])) ++ ([(List.getD c.marks i default)])))]⟩),(9,⟨50,.fix [.i value,.i p,.i ((countC c p) + (1 : Int)),.b false]⟩),(22,⟨3,.row (.ints c.up)⟩),(64,⟨50,.row (.marks ((ms ++ ([(⟨value,p,((countC c p) + (1 : Int)),false⟩ : MarkD)])) ++ ([(List.getD c.marks i default)])))⟩),(1022,⟨3,.row (.ints c.down)⟩)],[64,63,54,53,3,6,8,9,22,30,999,1022]⟩:St)) ((List.getD c.marks i default).gone))
      (True ∧ (True ∧ True ∧ (Fits .i64 (((i + 1) : Nat) : Int))) ∧ True ∧ True)
      ⟨tt,⟨tt,tt,(by exact fits_i64 (by omega) (by omega))⟩,tt,tt⟩ ?_
     refine thenQ_normal ?_
     refine ⟨((i + 1),true,((ms ++ ([(⟨value,p,((countC c p) + (1 : Int)),false⟩ : MarkD)])) ++ ([(List.getD c.marks i default)]))),(show ((i + 1) ≤ c.marks.length) ∧ (putUp (⟨value,p,countC c p + 1,false⟩ : MarkD) c.marks (i + 1) true ((ms ++ ([(⟨value,p,((countC c p) + (1 : Int)),false⟩ : MarkD)])) ++ ([(List.getD c.marks i default)]))) from ⟨(by first | assumption | omega | rfl | (intro _ hjj; omega) | (simp; done) | (simp; omega)),(by first | exact putUp_in hm (by omega) h49 | exact putUp_by hm (by omega) n49)⟩),(show c.marks.length - (i + 1) < c.marks.length - i from (by first | omega | (simp_all; omega))),?_⟩
     exact Sub.of [(30,64)] (@cast (((((3 : Nat) = 3) ∧ ((0 : Nat) = 0) ∧ ((3 : Nat) ∈ ([3,6,8,9,22,30,999,1022] : List Nat))) ∧ (((6 : Nat) = 6) ∧ ((0 : Nat) = 0) ∧ ((6 : Nat) ∈ ([3,6,8,9,22,30,999,1022] : List Nat))) ∧ (((8 : Nat) = 8) ∧ ((0 : Nat) = 0) ∧ ((8 : Nat) ∈ ([3,6,8,9,22,30,999,1022] : List Nat))) ∧ (((9 : Nat) = 9) ∧ ((0 : Nat) = 0) ∧ ((9 : Nat) ∈ ([3,6,8,9,22,30,999,1022] : List Nat))) ∧ (Sv (.bool true)) ∧ (Si (((i + 1) : Nat) : Int)) ∧ True) ∧ ((((29 : Nat) = 29) ∧ (Sc c) ∧ ((3 : Nat) ∈ ([3,6,8,9,22,30,999,1022] : List Nat))) ∧ (((29 : Nat) = 29) ∧ ((((.slice none 0 0) : Value) = (.slice none 0 0)) ∧ (((.slice none 0 0) : Value) = (.slice none 0 0)) ∧ (Si (0 : Int)) ∧ (Si (0 : Int)) ∧ (Si (0 : Int)) ∧ (((.slice none 0 0) : Value) = (.slice none 0 0)) ∧ True) ∧ ((6 : Nat) ∈ ([3,6,8,9,22,30,999,1022] : List Nat))) ∧ (((29 : Nat) = 29) ∧ ((((22 : Nat) = 22) ∧ ((List.length c.up) = (List.length c.up)) ∧ ((22 : Nat) ∈ ([3,6,8,9,22,30,999,1022] : List Nat))) ∧ (((1022 : Nat) = 1022) ∧ ((List.length c.down) = (List.length c.down)) ∧ ((1022 : Nat) ∈ ([3,6,8,9,22,30,999,1022] : List Nat))) ∧ (Si c.value) ∧ (Si c.time) ∧ (Si c.proc) ∧ (((64 : Nat) = 64) ∧ ((List.length ((ms ++ ([(⟨value,p,((countC c p) + (1 : Int)),false⟩ : MarkD)])) ++ ([(List.getD c.marks i default)]))) = (List.length ((ms ++ ([(⟨value,p,((countC c p) + (1 : Int)),false⟩ : MarkD)])) ++ ([(List.getD c.marks i default)])))) ∧ ((30 : Nat) ∈ ([3,6,8,9,22,30,999,1022] : List Nat))) ∧ True) ∧ ((8 : Nat) ∈ ([3,6,8,9,22,30,999,1022] : List Nat))) ∧ (((50 : Nat) = 50) ∧ ((Si value) ∧ (Si p) ∧ (Si ((countC c p) + (1 : Int))) ∧ (Sv (.bool false)) ∧ True) ∧ ((9 : Nat) ∈ ([3,6,8,9,22,30,999,1022] : List Nat))) ∧ (((3 : Nat) = 3) ∧ (Sd (.ints c.up)) ∧ ((22 : Nat) ∈ ([3,6,8,9,22,30,999,1022] : List Nat))) ∧ (((50 : Nat) = 50) ∧ (Sd (.marks ((ms ++ ([(⟨value,p,((countC c p) + (1 : Int)),false⟩ : MarkD)])) ++ ([(List.getD c.marks i default)])))) ∧ ((30 : Nat) ∈ ([3,6,8,9,22,30,999,1022] : List Nat))) ∧ (((3 : Nat) = 3) ∧ (Sd (.ints c.down)) ∧ ((1022 : Nat) ∈ ([3,6,8,9,22,30,999,1022] : List Nat))) ∧ True) ∧ (true = true) ∧ (true = true)) _ (by kernel_rfl) ⟨⟨⟨rfl,rfl,(by decide)⟩,⟨rfl,rfl,(by decide)⟩,⟨rfl,rfl,(by decide)⟩,⟨rfl,rfl,(by decide)⟩,rfl,rfl,tt⟩,⟨⟨rfl,⟨rfl,rfl,rfl,rfl,rfl,rfl,tt⟩,(by decide)⟩,⟨rfl,⟨rfl,rfl,rfl,rfl,rfl,rfl,tt⟩,(by decide)⟩,⟨rfl,⟨⟨rfl,rfl,(by decide)⟩,⟨rfl,rfl,(by decide)⟩,rfl,rfl,rfl,⟨rfl,rfl,(by decide)⟩,tt⟩,(by decide)⟩,⟨rfl,⟨rfl,rfl,rfl,rfl,tt⟩,(by decide)⟩,⟨rfl,rfl,(by decide)⟩,⟨rfl,rfl,(by decide)⟩,⟨rfl,rfl,(by decide)⟩,tt⟩,rfl,rfl⟩)
    ·intro n49
     refine W.skip (thenQ_normal ?_)
     refine W.LA cok tab21 hnt [64] ((fun (Z1:Bool)=>(⟨[(3,.ptr 3 0),(6,.ptr 6 0),(8,.ptr 8 0),(9,.ptr 9 0),(10,.b put),(11,.i ((i : Nat) : Int)),(49,.b ((!put) && (lessM (⟨value,p,((countC c p) + (1 : Int)),false⟩ : MarkD) (List.getD c.marks i default)))),(56,.ptr 8 5),(57,.own 30 ms.length),(58,.ptr 3 5),(59,.sl (.marks c.marks)),(60,.i ((i : Nat) : Int)),(61,.ep [.i ((List.getD c.marks i default).value),.i ((List.getD c.marks i default).proc),.i ((List.getD c.marks i default).number),.b Z1]),(62,.agg [.i ((List.getD c.marks i default).value),.i ((List.getD c.marks i default).proc),.i ((List.getD c.marks i default).number),.b Z1]),(63,.sl (.marks ([(List.getD c.marks i default)]))),(64,.own 64 (List.length (ms ++ ([(List.getD c.marks i default)])))),(65,.ptr 8 5)],[(3,⟨29,.fix (cC c)⟩),(6,⟨29,.fix [.v (.slice none 0 0),.v (.slice none 0 0),.i (0 : Int),.i (0 : Int),.i (0 : Int),.v (.slice none 0 0)]⟩),(8,⟨29,.fix [.own 22 (List.length c.up),.own 1022 (List.length c.down),.i c.value,.i c.time,.i c.proc,.own 64 (List.length (ms ++ ([(List.getD c.marks i default)])))]⟩),(9,⟨50,.fix [.i value,.i p,.i ((countC c p) + (1 : Int)),.b false]⟩),(22,⟨3,.row (.ints c.up)⟩),(64,⟨50,.row (.marks (ms ++ ([(List.getD c.marks i default)])))⟩),(1022,⟨3,.row (.ints c.down)⟩)],[64,63,3,6,8,9,22,30,999,1022]⟩:St)) ((List.getD c.marks i default).gone))
      (True ∧ True ∧ True ∧ True ∧ True ∧ (True ∧ True ∧ (0 ≤ ((i : Nat) : Int)) ∧ (((i : Nat) : Int) < (((List.length c.marks) : Nat) : Int))) ∧ True ∧ (True ∧ True) ∧ ((True ∧ (ms.length = ms.length)) ∧ True ∧ ((ms.length + (List.length ([(List.getD c.marks i default)]))) * 32 ≤ 140737488355328)) ∧ True ∧ (True ∧ True) ∧ True) (by kernel_rfl) (by kernel_rfl)
      ⟨tt,tt,tt,tt,tt,⟨tt,tt,(by omega),(by omega)⟩,tt,⟨tt,tt⟩,⟨⟨tt,rfl⟩,tt,(by (try simp only [List.length_append,List.length_cons,List.length_nil,List.length_set]); omega)⟩,tt,⟨tt,tt⟩,tt⟩ ?_
     refine blockQ_normal (thenQ_normal ?_)
     refine Lk cok tab21 hnt [] ((fun (Z1:Bool)=>(⟨[(3,.ptr 3 0),(6,.ptr 6 0),(8,.ptr 8 0),(9,.ptr 9 0),(10,.b put),(11,.i (((i + 1) : Nat) : Int)),(37,.i ((i : Nat) : Int)),(38,.i (((i + 1) : Nat) : Int)),(49,.b ((!put) && (lessM (⟨value,p,((countC c p) + (1 : Int)),false⟩ : MarkD) (List.getD c.marks i default)))),(56,.ptr 8 5),(57,.own 30 ms.length),(58,.ptr 3 5),(59,.sl (.marks c.marks)),(60,.i ((i : Nat) : Int)),(61,.ep [.i ((List.getD c.marks i default).value),.i ((List.getD c.marks i default).proc),.i ((List.getD c.marks i default).number),.b Z1]),(62,.agg [.i ((List.getD c.marks i default).value),.i ((List.getD c.marks i default).proc),.i ((List.getD c.marks i default).number),.b Z1]),(63,.sl (.marks ([(List.getD c.marks i default)]))),(64,.own 64 (List.length (ms ++ ([(List.getD c.marks i default)])))),(65,.ptr 8 5)],[(3,⟨29,.fix (cC c)⟩),(6,⟨29,.fix [.v (.slice none 0 0),.v (.slice none 0 0),.i (0 : Int),.i (0 : Int),.i (0 : Int),.v (.slice none 0 0)]⟩),(8,⟨29,.fix [.own 22 (List.length c.up),.own 1022 (List.length c.down),.i c.value,.i c.time,.i c.proc,.own 64 (List.length (ms ++ ([(List.getD c.marks i default)])))]⟩),(9,⟨50,.fix [.i value,.i p,.i ((countC c p) + (1 : Int)),.b false]⟩),(22,⟨3,.row (.ints c.up)⟩),(64,⟨50,.row (.marks (ms ++ ([(List.getD c.marks i default)])))⟩),(1022,⟨3,.row (.ints c.down)⟩)],[64,63,3,6,8,9,22,30,999,1022]⟩:St)) ((List.getD c.marks i default).gone))
      (True ∧ (True ∧ True ∧ (Fits .i64 (((i + 1) : Nat) : Int))) ∧ True ∧ True)
      ⟨tt,⟨tt,tt,(by exact fits_i64 (by omega) (by omega))⟩,tt,tt⟩ ?_
     refine thenQ_normal ?_
     refine ⟨((i + 1),put,(ms ++ ([(List.getD c.marks i default)]))),(show ((i + 1) ≤ c.marks.length) ∧ (putUp (⟨value,p,countC c p + 1,false⟩ : MarkD) c.marks (i + 1) put (ms ++ ([(List.getD c.marks i default)]))) from ⟨(by first | assumption | omega | rfl | (intro _ hjj; omega) | (simp; done) | (simp; omega)),(by first | exact putUp_in hm (by omega) h49 | exact putUp_by hm (by omega) n49)⟩),(show c.marks.length - (i + 1) < c.marks.length - i from (by first | omega | (simp_all; omega))),?_⟩
     exact Sub.of [(30,64)] (@cast (((((3 : Nat) = 3) ∧ ((0 : Nat) = 0) ∧ ((3 : Nat) ∈ ([3,6,8,9,22,30,999,1022] : List Nat))) ∧ (((6 : Nat) = 6) ∧ ((0 : Nat) = 0) ∧ ((6 : Nat) ∈ ([3,6,8,9,22,30,999,1022] : List Nat))) ∧ (((8 : Nat) = 8) ∧ ((0 : Nat) = 0) ∧ ((8 : Nat) ∈ ([3,6,8,9,22,30,999,1022] : List Nat))) ∧ (((9 : Nat) = 9) ∧ ((0 : Nat) = 0) ∧ ((9 : Nat) ∈ ([3,6,8,9,22,30,999,1022] : List Nat))) ∧ (Sv (.bool put)) ∧ (Si (((i + 1) : Nat) : Int)) ∧ True) ∧ ((((29 : Nat) = 29) ∧ (Sc c) ∧ ((3 : Nat) ∈ ([3,6,8,9,22,30,999,1022] : List Nat))) ∧ (((29 : Nat) = 29) ∧ ((((.slice none 0 0) : Value) = (.slice none 0 0)) ∧ (((.slice none 0 0) : Value) = (.slice none 0 0)) ∧ (Si (0 : Int)) ∧ (Si (0 : Int)) ∧ (Si (0 : Int)) ∧ (((.slice none 0 0) : Value) = (.slice none 0 0)) ∧ True) ∧ ((6 : Nat) ∈ ([3,6,8,9,22,30,999,1022] : List Nat))) ∧ (((29 : Nat) = 29) ∧ ((((22 : Nat) = 22) ∧ ((List.length c.up) = (List.length c.up)) ∧ ((22 : Nat) ∈ ([3,6,8,9,22,30,999,1022] : List Nat))) ∧ (((1022 : Nat) = 1022) ∧ ((List.length c.down) = (List.length c.down)) ∧ ((1022 : Nat) ∈ ([3,6,8,9,22,30,999,1022] : List Nat))) ∧ (Si c.value) ∧ (Si c.time) ∧ (Si c.proc) ∧ (((64 : Nat) = 64) ∧ ((List.length (ms ++ ([(List.getD c.marks i default)]))) = (List.length (ms ++ ([(List.getD c.marks i default)])))) ∧ ((30 : Nat) ∈ ([3,6,8,9,22,30,999,1022] : List Nat))) ∧ True) ∧ ((8 : Nat) ∈ ([3,6,8,9,22,30,999,1022] : List Nat))) ∧ (((50 : Nat) = 50) ∧ ((Si value) ∧ (Si p) ∧ (Si ((countC c p) + (1 : Int))) ∧ (Sv (.bool false)) ∧ True) ∧ ((9 : Nat) ∈ ([3,6,8,9,22,30,999,1022] : List Nat))) ∧ (((3 : Nat) = 3) ∧ (Sd (.ints c.up)) ∧ ((22 : Nat) ∈ ([3,6,8,9,22,30,999,1022] : List Nat))) ∧ (((50 : Nat) = 50) ∧ (Sd (.marks (ms ++ ([(List.getD c.marks i default)])))) ∧ ((30 : Nat) ∈ ([3,6,8,9,22,30,999,1022] : List Nat))) ∧ (((3 : Nat) = 3) ∧ (Sd (.ints c.down)) ∧ ((1022 : Nat) ∈ ([3,6,8,9,22,30,999,1022] : List Nat))) ∧ True) ∧ (true = true) ∧ (true = true)) _ (by kernel_rfl) ⟨⟨⟨rfl,rfl,(by decide)⟩,⟨rfl,rfl,(by decide)⟩,⟨rfl,rfl,(by decide)⟩,⟨rfl,rfl,(by decide)⟩,rfl,rfl,tt⟩,⟨⟨rfl,⟨rfl,rfl,rfl,rfl,rfl,rfl,tt⟩,(by decide)⟩,⟨rfl,⟨rfl,rfl,rfl,rfl,rfl,rfl,tt⟩,(by decide)⟩,⟨rfl,⟨⟨rfl,rfl,(by decide)⟩,⟨rfl,rfl,(by decide)⟩,rfl,rfl,rfl,⟨rfl,rfl,(by decide)⟩,tt⟩,(by decide)⟩,⟨rfl,⟨rfl,rfl,rfl,rfl,tt⟩,(by decide)⟩,⟨rfl,rfl,(by decide)⟩,⟨rfl,rfl,(by decide)⟩,⟨rfl,rfl,(by decide)⟩,tt⟩,rfl,rfl⟩)
   ·intro n36
    refine W.exit (thenQ_exit (thenQ_exit (blockQ_hit ?_)))
    refine thenQ_normal ?_
    refine W.seq ?_
    refine Kk cok tab21 hnt [] [6,8,9,67] (⟨[(6,.ptr 6 0),(8,.ptr 8 0),(9,.ptr 9 0),(67,.b (!put))],[(3,⟨29,.fix (cC c)⟩),(6,⟨29,.fix [.v (.slice none 0 0),.v (.slice none 0 0),.i (0 : Int),.i (0 : Int),.i (0 : Int),.v (.slice none 0 0)]⟩),(8,⟨29,.fix [.own 22 (List.length c.up),.own 1022 (List.length c.down),.i c.value,.i c.time,.i c.proc,.own 30 ms.length]⟩),(9,⟨50,.fix [.i value,.i p,.i ((countC c p) + (1 : Int)),.b false]⟩),(22,⟨3,.row (.ints c.up)⟩),(30,⟨50,.row (.marks ms)⟩),(1022,⟨3,.row (.ints c.down)⟩)],[3,6,8,9,22,30,999,1022]⟩)
     (True ∧ True ∧ True)
     ⟨tt,tt,tt⟩ ?_
    refine W.if' (!put) (.b (!put)) (by kernel_rfl) rfl trivial ?_ ?_
    ·intro h67
     have hms : ms ++ [(⟨value,p,countC c p + 1,false⟩ : MarkD)] = putM (⟨value,p,countC c p + 1,false⟩ : MarkD) c.marks := (putUp_end hm (by omega)).2 (not_g2 h67)
     refine Lk cok tab21 hnt [72] (⟨[(6,.ptr 6 0),(8,.ptr 8 0),(9,.ptr 9 0),(67,.b (!put)),(68,.ptr 8 5),(69,.own 30 ms.length),(70,.agg [.i value,.i p,.i ((countC c p) + (1 : Int)),.b false]),(71,.sl (.marks ([(⟨value,p,((countC c p) + (1 : Int)),false⟩ : MarkD)]))),(72,.own 72 (List.length (ms ++ ([(⟨value,p,((countC c p) + (1 : Int)),false⟩ : MarkD)])))),(73,.ptr 8 5)],[(3,⟨29,.fix (cC c)⟩),(6,⟨29,.fix [.v (.slice none 0 0),.v (.slice none 0 0),.i (0 : Int),.i (0 : Int),.i (0 : Int),.v (.slice none 0 0)]⟩),(8,⟨29,.fix [.own 22 (List.length c.up),.own 1022 (List.length c.down),.i c.value,.i c.time,.i c.proc,.own 72 (List.length (ms ++ ([(⟨value,p,((countC c p) + (1 : Int)),false⟩ : MarkD)])))]⟩),(9,⟨50,.fix [.i value,.i p,.i ((countC c p) + (1 : Int)),.b false]⟩),(22,⟨3,.row (.ints c.up)⟩),(72,⟨50,.row (.marks (ms ++ ([(⟨value,p,((countC c p) + (1 : Int)),false⟩ : MarkD)])))⟩),(1022,⟨3,.row (.ints c.down)⟩)],[72,71,3,6,8,9,22,30,999,1022]⟩)
      (True ∧ True ∧ True ∧ (True ∧ True) ∧ ((True ∧ (ms.length = ms.length)) ∧ True ∧ ((ms.length + (List.length ([(⟨value,p,((countC c p) + (1 : Int)),false⟩ : MarkD)]))) * 32 ≤ 140737488355328)) ∧ True ∧ (True ∧ True) ∧ True)
      ⟨tt,tt,tt,⟨tt,tt⟩,⟨⟨tt,rfl⟩,tt,(by (try simp only [List.length_append,List.length_cons,List.length_nil,List.length_set]); omega)⟩,tt,⟨tt,tt⟩,tt⟩ ?_
     refine thenQ_normal ?_
     refine W.seq ?_
     refine Kk cok tab21 hnt [] [6,8,76] (⟨[(6,.ptr 6 0),(8,.ptr 8 0),(76,.b (!(validCopy ⟨c.up,c.down,c.value,c.time,c.proc,ms ++ ([(⟨value,p,((countC c p) + (1 : Int)),false⟩ : MarkD)])⟩)))],[(3,⟨29,.fix (cC c)⟩),(6,⟨29,.fix [.v (.slice none 0 0),.v (.slice none 0 0),.i (0 : Int),.i (0 : Int),.i (0 : Int),.v (.slice none 0 0)]⟩),(8,⟨29,.fix [.own 22 (List.length c.up),.own 1022 (List.length c.down),.i c.value,.i c.time,.i c.proc,.own 72 (List.length (ms ++ ([(⟨value,p,((countC c p) + (1 : Int)),false⟩ : MarkD)])))]⟩),(9,⟨50,.fix [.i value,.i p,.i ((countC c p) + (1 : Int)),.b false]⟩),(22,⟨3,.row (.ints c.up)⟩),(72,⟨50,.row (.marks (ms ++ ([(⟨value,p,((countC c p) + (1 : Int)),false⟩ : MarkD)])))⟩),(1022,⟨3,.row (.ints c.down)⟩)],[72,71,3,6,8,9,22,30,999,1022]⟩)
      (True ∧ (True ∧ ((True ∧ (True ∧ ((List.length c.up) = (List.length c.up))) ∧ (True ∧ ((List.length c.down) = (List.length c.down))) ∧ True ∧ True ∧ True ∧ (True ∧ ((List.length (ms ++ ([(⟨value,p,((countC c p) + (1 : Int)),false⟩ : MarkD)]))) = (List.length (ms ++ ([(⟨value,p,((countC c p) + (1 : Int)),false⟩ : MarkD)]))))) ∧ True) ∧ True) ∧ True) ∧ True ∧ True)
      ⟨tt,⟨tt,⟨⟨tt,⟨tt,rfl⟩,⟨tt,rfl⟩,tt,tt,tt,⟨tt,rfl⟩,tt⟩,tt⟩,tt⟩,tt,tt⟩ ?_
     refine W.if' (!(validCopy ⟨c.up,c.down,c.value,c.time,c.proc,ms ++ ([(⟨value,p,((countC c p) + (1 : Int)),false⟩ : MarkD)])⟩)) (.b (!(validCopy ⟨c.up,c.down,c.value,c.time,c.proc,ms ++ ([(⟨value,p,((countC c p) + (1 : Int)),false⟩ : MarkD)])⟩))) (by kernel_rfl) rfl trivial ?_ ?_
     ·intro h76
      refine Kk cok tab21 hnt [] [6,7] (⟨[(6,.ptr 6 0),(7,.b false)],[(3,⟨29,.fix (cC c)⟩),(6,⟨29,.fix [.v (.slice none 0 0),.v (.slice none 0 0),.i (0 : Int),.i (0 : Int),.i (0 : Int),.v (.slice none 0 0)]⟩),(8,⟨29,.fix [.own 22 (List.length c.up),.own 1022 (List.length c.down),.i c.value,.i c.time,.i c.proc,.own 72 (List.length (ms ++ ([(⟨value,p,((countC c p) + (1 : Int)),false⟩ : MarkD)])))]⟩),(9,⟨50,.fix [.i value,.i p,.i ((countC c p) + (1 : Int)),.b false]⟩),(22,⟨3,.row (.ints c.up)⟩),(72,⟨50,.row (.marks (ms ++ ([(⟨value,p,((countC c p) + (1 : Int)),false⟩ : MarkD)])))⟩),(1022,⟨3,.row (.ints c.down)⟩)],[72,71,3,6,8,9,22,30,999,1022]⟩)
       (True ∧ (True ∧ True) ∧ True ∧ True)
       ⟨tt,⟨tt,tt⟩,tt,tt⟩ ?_
      refine W.ret (thenQ_ret ?_)
      exact endQ_ret (.tup [.agg [.v (.slice none 0 0),.v (.slice none 0 0),.i (0 : Int),.i (0 : Int),.i (0 : Int),.v (.slice none 0 0)],.b false]) (by kernel_rfl) (@cast (((((Value.slice none 0 0 : Value) = .slice none 0 0) ∧ ((Dat.ints ((putIn c value p).1.up)).len = 0)) ∧ (((Value.slice none 0 0 : Value) = .slice none 0 0) ∧ ((Dat.ints ((putIn c value p).1.down)).len = 0)) ∧ ((.int .i64 (0 : Int) : Value) = .int .i64 ((putIn c value p).1.value)) ∧ ((.int .i64 (0 : Int) : Value) = .int .i64 ((putIn c value p).1.time)) ∧ ((.int .i64 (0 : Int) : Value) = .int .i64 ((putIn c value p).1.proc)) ∧ (((Value.slice none 0 0 : Value) = .slice none 0 0) ∧ ((Dat.marks ((putIn c value p).1.marks)).len = 0)) ∧ True) ∧ ((.bool false : Value) = .bool ((putIn c value p).2)) ∧ True) _ (by kernel_rfl) ⟨⟨⟨rfl,(by show List.length ((putIn c value p).1.up) = 0; first | (rw [putIn_bad hg (by show validCopy ⟨c.up,c.down,c.value,c.time,c.proc,putM _ c.marks⟩ = false; rw [← hms]; exact not_f h76)] <;> rfl))⟩,⟨rfl,(by show List.length ((putIn c value p).1.down) = 0; first | (rw [putIn_bad hg (by show validCopy ⟨c.up,c.down,c.value,c.time,c.proc,putM _ c.marks⟩ = false; rw [← hms]; exact not_f h76)] <;> rfl))⟩,(congrArg (Value.int .i64) (by first | (rw [putIn_bad hg (by show validCopy ⟨c.up,c.down,c.value,c.time,c.proc,putM _ c.marks⟩ = false; rw [← hms]; exact not_f h76)] <;> rfl))),(congrArg (Value.int .i64) (by first | (rw [putIn_bad hg (by show validCopy ⟨c.up,c.down,c.value,c.time,c.proc,putM _ c.marks⟩ = false; rw [← hms]; exact not_f h76)] <;> rfl))),(congrArg (Value.int .i64) (by first | (rw [putIn_bad hg (by show validCopy ⟨c.up,c.down,c.value,c.time,c.proc,putM _ c.marks⟩ = false; rw [← hms]; exact not_f h76)] <;> rfl))),⟨rfl,(by show List.length ((putIn c value p).1.marks) = 0; first | (rw [putIn_bad hg (by show validCopy ⟨c.up,c.down,c.value,c.time,c.proc,putM _ c.marks⟩ = false; rw [← hms]; exact not_f h76)] <;> rfl))⟩,tt⟩,(congrArg Value.bool (by first | (rw [putIn_bad hg (by show validCopy ⟨c.up,c.down,c.value,c.time,c.proc,putM _ c.marks⟩ = false; rw [← hms]; exact not_f h76)] <;> rfl))),tt⟩)
     ·intro n76
      refine W.skip (thenQ_normal ?_)
      refine Kk cok tab21 hnt [] [6,7] (⟨[(6,.ptr 6 0),(7,.b true)],[(3,⟨29,.fix (cC c)⟩),(6,⟨29,.fix [.own 22 (List.length c.up),.own 1022 (List.length c.down),.i c.value,.i c.time,.i c.proc,.own 72 (List.length (ms ++ ([(⟨value,p,((countC c p) + (1 : Int)),false⟩ : MarkD)])))]⟩),(8,⟨29,.fix [.own 22 (List.length c.up),.own 1022 (List.length c.down),.i c.value,.i c.time,.i c.proc,.own 72 (List.length (ms ++ ([(⟨value,p,((countC c p) + (1 : Int)),false⟩ : MarkD)])))]⟩),(9,⟨50,.fix [.i value,.i p,.i ((countC c p) + (1 : Int)),.b false]⟩),(22,⟨3,.row (.ints c.up)⟩),(72,⟨50,.row (.marks (ms ++ ([(⟨value,p,((countC c p) + (1 : Int)),false⟩ : MarkD)])))⟩),(1022,⟨3,.row (.ints c.down)⟩)],[72,71,3,6,8,9,22,30,999,1022]⟩)
       (True ∧ (True ∧ True) ∧ True ∧ True)
       ⟨tt,⟨tt,tt⟩,tt,tt⟩ ?_
      refine W.ret ?_
      exact endQ_ret (.tup [.agg [.own 22 (List.length c.up),.own 1022 (List.length c.down),.i c.value,.i c.time,.i c.proc,.own 72 (List.length (ms ++ ([(⟨value,p,((countC c p) + (1 : Int)),false⟩ : MarkD)])))],.b true]) (by kernel_rfl) (@cast (((((List.length c.up) = (List.length c.up)) ∧ ((.ints c.up : Dat) = .ints ((putIn c value p).1.up)) ∧ ((22 : Nat) ∉ ([] : List Nat))) ∧ (((List.length c.down) = (List.length c.down)) ∧ ((.ints c.down : Dat) = .ints ((putIn c value p).1.down)) ∧ ((1022 : Nat) ∉ ([] : List Nat))) ∧ ((.int .i64 c.value : Value) = .int .i64 ((putIn c value p).1.value)) ∧ ((.int .i64 c.time : Value) = .int .i64 ((putIn c value p).1.time)) ∧ ((.int .i64 c.proc : Value) = .int .i64 ((putIn c value p).1.proc)) ∧ (((List.length (ms ++ ([(⟨value,p,((countC c p) + (1 : Int)),false⟩ : MarkD)]))) = (List.length (ms ++ ([(⟨value,p,((countC c p) + (1 : Int)),false⟩ : MarkD)])))) ∧ ((.marks (ms ++ ([(⟨value,p,((countC c p) + (1 : Int)),false⟩ : MarkD)])) : Dat) = .marks ((putIn c value p).1.marks)) ∧ ((72 : Nat) ∉ ([] : List Nat))) ∧ True) ∧ ((.bool true : Value) = .bool ((putIn c value p).2)) ∧ True) _ (by kernel_rfl) ⟨⟨⟨rfl,(congrArg Dat.ints (by rw [putIn_ok hg (by show validCopy ⟨c.up,c.down,c.value,c.time,c.proc,putM _ c.marks⟩ = true; rw [← hms]; exact not_g n76)] <;> first | rfl | exact hms)),(by decide)⟩,⟨rfl,(congrArg Dat.ints (by rw [putIn_ok hg (by show validCopy ⟨c.up,c.down,c.value,c.time,c.proc,putM _ c.marks⟩ = true; rw [← hms]; exact not_g n76)] <;> first | rfl | exact hms)),(by decide)⟩,(congrArg (Value.int .i64) (by rw [putIn_ok hg (by show validCopy ⟨c.up,c.down,c.value,c.time,c.proc,putM _ c.marks⟩ = true; rw [← hms]; exact not_g n76)] <;> first | rfl | exact hms)),(congrArg (Value.int .i64) (by rw [putIn_ok hg (by show validCopy ⟨c.up,c.down,c.value,c.time,c.proc,putM _ c.marks⟩ = true; rw [← hms]; exact not_g n76)] <;> first | rfl | exact hms)),(congrArg (Value.int .i64) (by rw [putIn_ok hg (by show validCopy ⟨c.up,c.down,c.value,c.time,c.proc,putM _ c.marks⟩ = true; rw [← hms]; exact not_g n76)] <;> first | rfl | exact hms)),⟨rfl,(congrArg Dat.marks (by rw [putIn_ok hg (by show validCopy ⟨c.up,c.down,c.value,c.time,c.proc,putM _ c.marks⟩ = true; rw [← hms]; exact not_g n76)] <;> first | rfl | exact hms)),(by decide)⟩,tt⟩,(congrArg Value.bool (by rw [putIn_ok hg (by show validCopy ⟨c.up,c.down,c.value,c.time,c.proc,putM _ c.marks⟩ = true; rw [← hms]; exact not_g n76)] <;> first | rfl | exact hms)),tt⟩)
    ·intro n67
     have hms : ms = putM (⟨value,p,countC c p + 1,false⟩ : MarkD) c.marks := (putUp_end hm (by omega)).1 (not_g n67)
     refine W.skip (thenQ_normal ?_)
     refine W.seq ?_
     refine Kk cok tab21 hnt [] [6,8,76] (⟨[(6,.ptr 6 0),(8,.ptr 8 0),(76,.b (!(validCopy ⟨c.up,c.down,c.value,c.time,c.proc,ms⟩)))],[(3,⟨29,.fix (cC c)⟩),(6,⟨29,.fix [.v (.slice none 0 0),.v (.slice none 0 0),.i (0 : Int),.i (0 : Int),.i (0 : Int),.v (.slice none 0 0)]⟩),(8,⟨29,.fix [.own 22 (List.length c.up),.own 1022 (List.length c.down),.i c.value,.i c.time,.i c.proc,.own 30 ms.length]⟩),(9,⟨50,.fix [.i value,.i p,.i ((countC c p) + (1 : Int)),.b false]⟩),(22,⟨3,.row (.ints c.up)⟩),(30,⟨50,.row (.marks ms)⟩),(1022,⟨3,.row (.ints c.down)⟩)],[3,6,8,9,22,30,999,1022]⟩)
      (True ∧ (True ∧ ((True ∧ (True ∧ ((List.length c.up) = (List.length c.up))) ∧ (True ∧ ((List.length c.down) = (List.length c.down))) ∧ True ∧ True ∧ True ∧ (True ∧ (ms.length = ms.length)) ∧ True) ∧ True) ∧ True) ∧ True ∧ True)
      ⟨tt,⟨tt,⟨⟨tt,⟨tt,rfl⟩,⟨tt,rfl⟩,tt,tt,tt,⟨tt,rfl⟩,tt⟩,tt⟩,tt⟩,tt,tt⟩ ?_
     refine W.if' (!(validCopy ⟨c.up,c.down,c.value,c.time,c.proc,ms⟩)) (.b (!(validCopy ⟨c.up,c.down,c.value,c.time,c.proc,ms⟩))) (by kernel_rfl) rfl trivial ?_ ?_
     ·intro h76
      refine Kk cok tab21 hnt [] [6,7] (⟨[(6,.ptr 6 0),(7,.b false)],[(3,⟨29,.fix (cC c)⟩),(6,⟨29,.fix [.v (.slice none 0 0),.v (.slice none 0 0),.i (0 : Int),.i (0 : Int),.i (0 : Int),.v (.slice none 0 0)]⟩),(8,⟨29,.fix [.own 22 (List.length c.up),.own 1022 (List.length c.down),.i c.value,.i c.time,.i c.proc,.own 30 ms.length]⟩),(9,⟨50,.fix [.i value,.i p,.i ((countC c p) + (1 : Int)),.b false]⟩),(22,⟨3,.row (.ints c.up)⟩),(30,⟨50,.row (.marks ms)⟩),(1022,⟨3,.row (.ints c.down)⟩)],[3,6,8,9,22,30,999,1022]⟩)
       (True ∧ (True ∧ True) ∧ True ∧ True)
       ⟨tt,⟨tt,tt⟩,tt,tt⟩ ?_
      refine W.ret (thenQ_ret ?_)
      exact endQ_ret (.tup [.agg [.v (.slice none 0 0),.v (.slice none 0 0),.i (0 : Int),.i (0 : Int),.i (0 : Int),.v (.slice none 0 0)],.b false]) (by kernel_rfl) (@cast (((((Value.slice none 0 0 : Value) = .slice none 0 0) ∧ ((Dat.ints ((putIn c value p).1.up)).len = 0)) ∧ (((Value.slice none 0 0 : Value) = .slice none 0 0) ∧ ((Dat.ints ((putIn c value p).1.down)).len = 0)) ∧ ((.int .i64 (0 : Int) : Value) = .int .i64 ((putIn c value p).1.value)) ∧ ((.int .i64 (0 : Int) : Value) = .int .i64 ((putIn c value p).1.time)) ∧ ((.int .i64 (0 : Int) : Value) = .int .i64 ((putIn c value p).1.proc)) ∧ (((Value.slice none 0 0 : Value) = .slice none 0 0) ∧ ((Dat.marks ((putIn c value p).1.marks)).len = 0)) ∧ True) ∧ ((.bool false : Value) = .bool ((putIn c value p).2)) ∧ True) _ (by kernel_rfl) ⟨⟨⟨rfl,(by show List.length ((putIn c value p).1.up) = 0; first | (rw [putIn_bad hg (by show validCopy ⟨c.up,c.down,c.value,c.time,c.proc,putM _ c.marks⟩ = false; rw [← hms]; exact not_f h76)] <;> rfl))⟩,⟨rfl,(by show List.length ((putIn c value p).1.down) = 0; first | (rw [putIn_bad hg (by show validCopy ⟨c.up,c.down,c.value,c.time,c.proc,putM _ c.marks⟩ = false; rw [← hms]; exact not_f h76)] <;> rfl))⟩,(congrArg (Value.int .i64) (by first | (rw [putIn_bad hg (by show validCopy ⟨c.up,c.down,c.value,c.time,c.proc,putM _ c.marks⟩ = false; rw [← hms]; exact not_f h76)] <;> rfl))),(congrArg (Value.int .i64) (by first | (rw [putIn_bad hg (by show validCopy ⟨c.up,c.down,c.value,c.time,c.proc,putM _ c.marks⟩ = false; rw [← hms]; exact not_f h76)] <;> rfl))),(congrArg (Value.int .i64) (by first | (rw [putIn_bad hg (by show validCopy ⟨c.up,c.down,c.value,c.time,c.proc,putM _ c.marks⟩ = false; rw [← hms]; exact not_f h76)] <;> rfl))),⟨rfl,(by show List.length ((putIn c value p).1.marks) = 0; first | (rw [putIn_bad hg (by show validCopy ⟨c.up,c.down,c.value,c.time,c.proc,putM _ c.marks⟩ = false; rw [← hms]; exact not_f h76)] <;> rfl))⟩,tt⟩,(congrArg Value.bool (by first | (rw [putIn_bad hg (by show validCopy ⟨c.up,c.down,c.value,c.time,c.proc,putM _ c.marks⟩ = false; rw [← hms]; exact not_f h76)] <;> rfl))),tt⟩)
     ·intro n76
      refine W.skip (thenQ_normal ?_)
      refine Kk cok tab21 hnt [] [6,7] (⟨[(6,.ptr 6 0),(7,.b true)],[(3,⟨29,.fix (cC c)⟩),(6,⟨29,.fix [.own 22 (List.length c.up),.own 1022 (List.length c.down),.i c.value,.i c.time,.i c.proc,.own 30 ms.length]⟩),(8,⟨29,.fix [.own 22 (List.length c.up),.own 1022 (List.length c.down),.i c.value,.i c.time,.i c.proc,.own 30 ms.length]⟩),(9,⟨50,.fix [.i value,.i p,.i ((countC c p) + (1 : Int)),.b false]⟩),(22,⟨3,.row (.ints c.up)⟩),(30,⟨50,.row (.marks ms)⟩),(1022,⟨3,.row (.ints c.down)⟩)],[3,6,8,9,22,30,999,1022]⟩)
       (True ∧ (True ∧ True) ∧ True ∧ True)
       ⟨tt,⟨tt,tt⟩,tt,tt⟩ ?_
      refine W.ret ?_
      exact endQ_ret (.tup [.agg [.own 22 (List.length c.up),.own 1022 (List.length c.down),.i c.value,.i c.time,.i c.proc,.own 30 ms.length],.b true]) (by kernel_rfl) (@cast (((((List.length c.up) = (List.length c.up)) ∧ ((.ints c.up : Dat) = .ints ((putIn c value p).1.up)) ∧ ((22 : Nat) ∉ ([] : List Nat))) ∧ (((List.length c.down) = (List.length c.down)) ∧ ((.ints c.down : Dat) = .ints ((putIn c value p).1.down)) ∧ ((1022 : Nat) ∉ ([] : List Nat))) ∧ ((.int .i64 c.value : Value) = .int .i64 ((putIn c value p).1.value)) ∧ ((.int .i64 c.time : Value) = .int .i64 ((putIn c value p).1.time)) ∧ ((.int .i64 c.proc : Value) = .int .i64 ((putIn c value p).1.proc)) ∧ ((ms.length = ms.length) ∧ ((.marks ms : Dat) = .marks ((putIn c value p).1.marks)) ∧ ((30 : Nat) ∉ ([] : List Nat))) ∧ True) ∧ ((.bool true : Value) = .bool ((putIn c value p).2)) ∧ True) _ (by kernel_rfl) ⟨⟨⟨rfl,(congrArg Dat.ints (by rw [putIn_ok hg (by show validCopy ⟨c.up,c.down,c.value,c.time,c.proc,putM _ c.marks⟩ = true; rw [← hms]; exact not_g n76)] <;> first | rfl | exact hms)),(by decide)⟩,⟨rfl,(congrArg Dat.ints (by rw [putIn_ok hg (by show validCopy ⟨c.up,c.down,c.value,c.time,c.proc,putM _ c.marks⟩ = true; rw [← hms]; exact not_g n76)] <;> first | rfl | exact hms)),(by decide)⟩,(congrArg (Value.int .i64) (by rw [putIn_ok hg (by show validCopy ⟨c.up,c.down,c.value,c.time,c.proc,putM _ c.marks⟩ = true; rw [← hms]; exact not_g n76)] <;> first | rfl | exact hms)),(congrArg (Value.int .i64) (by rw [putIn_ok hg (by show validCopy ⟨c.up,c.down,c.value,c.time,c.proc,putM _ c.marks⟩ = true; rw [← hms]; exact not_g n76)] <;> first | rfl | exact hms)),(congrArg (Value.int .i64) (by rw [putIn_ok hg (by show validCopy ⟨c.up,c.down,c.value,c.time,c.proc,putM _ c.marks⟩ = true; rw [← hms]; exact not_g n76)] <;> first | rfl | exact hms)),⟨rfl,(congrArg Dat.marks (by rw [putIn_ok hg (by show validCopy ⟨c.up,c.down,c.value,c.time,c.proc,putM _ c.marks⟩ = true; rw [← hms]; exact not_g n76)] <;> first | rfl | exact hms)),(by decide)⟩,tt⟩,(congrArg Value.bool (by rw [putIn_ok hg (by show validCopy ⟨c.up,c.down,c.value,c.time,c.proc,putM _ c.marks⟩ = true; rw [← hms]; exact not_g n76)] <;> first | rfl | exact hms)),tt⟩)
theorem ent21 : Entr prog 21 := ⟨_,func21,rfl,by decide⟩
end Go.Proofs.Try

set_option linter.unusedSimpArgs false
set_option linter.unusedVariables false
namespace Go.Proofs.Try
open Go.Ab Go.RowKit
def fs44 : FnS := fnS [.o,.o,.o] [.int,.int,.int] (fun _ (n,low,high,_) => (.b (within n low high),[],True))
abbrev T44 : Tab := lk []
theorem tab44 : TabOK prog T44 := TabOK.nil
set_option maxRecDepth 100000 in
set_option maxHeartbeats 1000000 in
theorem ok44 : FnOK prog 44 fs44 := by
 refine FnOK.mk cok func44 rfl rfl rfl ?_
 rintro fl ⟨(n : Int),(low : Int),(high : Int),_⟩ hpre F hnt0 _
 have hnt : F.nt = 15 := hnt0.trans ntmps44
 clear hpre
 refine W.to (⟨[(0,.i n),(1,.i low),(2,.i high)],[],[999]⟩) rfl ?_
 refine Kk cok tab44 hnt [] [0,1,2] (⟨[(0,.i n),(1,.i low),(2,.i high)],[],[999]⟩)
  (True ∧ True)
  ⟨tt,tt⟩ ?_
 refine Kk cok tab44 hnt [] [6] (⟨[(6,.b ((decide (low ≤ n)) && (decide (n ≤ high))))],[],[999]⟩)
  ((fun (Z1:Bool)=>(True ∧ (True ∧ ((True ∧ (True ∧ True)) ∧ (True ∧ ((Z1 = true → True) ∧ ((Z1 = true → True) ∧ ((Z1 = true → (((Z1 = true) ∧ True) ∧ (((Z1 = true) ∧ True) ∧ True))) ∧ ((True ∧ ((Z1 = true → (Z1 = true) ∧ True) ∧ (Z1 = false → True))) ∧ (True ∧ True)))))))))) (decide (low ≤ n)))
  ⟨tt,tt,⟨tt,tt,tt⟩,tt,(fun _ => trivial),(fun _ => trivial),(fun hG => ⟨⟨hG,tt⟩,⟨hG,tt⟩,tt⟩),⟨tt,(fun hp => ⟨hp,tt⟩),(fun _ => trivial)⟩,tt,tt⟩ ?_
 refine W.ret ?_
 exact endQ_ret (.b ((decide (low ≤ n)) && (decide (n ≤ high)))) (by kernel_rfl) (@cast ((.bool ((decide (low ≤ n)) && (decide (n ≤ high))) : Value) = .bool (within n low high)) _ (by kernel_rfl) (congrArg Value.bool (by first | rfl | simp_all)))
theorem ent44 : Entr prog 44 := ⟨_,func44,rfl,by decide⟩
end Go.Proofs.Try

set_option linter.unusedSimpArgs false
set_option linter.unusedVariables false
namespace Go.Proofs.Try
open Go.Ab Go.RowKit
def fs61 : FnS := fnS [.o] [.mark] (fun _ (mm,_) => (.b (isMark mm),[],True))
abbrev T61 : Tab := lk [(44,fs44)]
theorem tab61 : TabOK prog T61 := (TabOK.cons ok44 ent44 TabOK.nil)
set_option maxRecDepth 100000 in
set_option maxHeartbeats 1000000 in
theorem ok61 : FnOK prog 61 fs61 := by
 refine FnOK.mk cok func61 rfl rfl rfl ?_
 rintro fl ⟨(mm : MarkD),_⟩ hpre F hnt0 _
 have hnt : F.nt = 16 := hnt0.trans ntmps61
 clear hpre
 refine W.to (⟨[(0,.agg [.i mm.value,.i mm.proc,.i mm.number,.b mm.gone])],[],[999]⟩) rfl ?_
 refine Kk cok tab61 hnt [] [1] (⟨[(1,.ptr 1 0)],[(1,⟨50,.fix [.i mm.value,.i mm.proc,.i mm.number,.b mm.gone]⟩)],[1,999]⟩)
  (True ∧ True ∧ True)
  ⟨tt,tt,tt⟩ ?_
 refine Kk cok tab61 hnt [] [2] (⟨[(2,.b (((within mm.value (0 : Int) (3 : Int)) && (within mm.proc (0 : Int) (2 : Int))) && (within mm.number (1 : Int) (20 : Int))))],[(1,⟨50,.fix [.i mm.value,.i mm.proc,.i mm.number,.b mm.gone]⟩)],[1,999]⟩)
  ((fun (Z1:Bool)=>((fun (Z2:Bool)=>(True ∧ (True ∧ ((True ∧ ((True ∧ (True ∧ (True ∧ True))) ∧ True)) ∧ (True ∧ ((Z1 = true → True) ∧ ((Z1 = true → ((Z1 = true) ∧ True)) ∧ ((Z1 = true → (True ∧ ((((Z1 = true) ∧ True) ∧ (True ∧ (True ∧ True))) ∧ True))) ∧ ((True ∧ ((Z1 = true → (Z1 = true) ∧ True) ∧ (Z1 = false → True))) ∧ (True ∧ ((Z2 = true → True) ∧ ((Z2 = true → ((Z2 = true) ∧ True)) ∧ ((Z2 = true → (True ∧ ((((Z2 = true) ∧ True) ∧ (True ∧ (True ∧ True))) ∧ True))) ∧ ((True ∧ ((Z2 = true → (Z2 = true) ∧ True) ∧ (Z2 = false → True))) ∧ (True ∧ True))))))))))))))) (Z1 && (within mm.proc (0 : Int) (2 : Int))))) (within mm.value (0 : Int) (3 : Int)))
  ⟨tt,tt,⟨tt,⟨tt,tt,tt,tt⟩,tt⟩,tt,(fun _ => trivial),(fun hG => ⟨hG,tt⟩),(fun hG => ⟨tt,⟨⟨hG,tt⟩,tt,tt,tt⟩,tt⟩),⟨tt,(fun hp => ⟨hp,tt⟩),(fun _ => trivial)⟩,tt,(fun _ => trivial),(fun hG => ⟨hG,tt⟩),(fun hG => ⟨tt,⟨⟨hG,tt⟩,tt,tt,tt⟩,tt⟩),⟨tt,(fun hp => ⟨hp,tt⟩),(fun _ => trivial)⟩,tt,tt⟩ ?_
 refine W.ret ?_
 exact endQ_ret (.b (((within mm.value (0 : Int) (3 : Int)) && (within mm.proc (0 : Int) (2 : Int))) && (within mm.number (1 : Int) (20 : Int)))) (by kernel_rfl) (@cast ((.bool (((within mm.value (0 : Int) (3 : Int)) && (within mm.proc (0 : Int) (2 : Int))) && (within mm.number (1 : Int) (20 : Int))) : Value) = .bool (isMark mm)) _ (by kernel_rfl) (congrArg Value.bool (by first | rfl | simp_all)))
theorem ent61 : Entr prog 61 := ⟨_,func61,rfl,by decide⟩
end Go.Proofs.Try

set_option linter.unusedSimpArgs false
set_option linter.unusedVariables false
namespace Go.Proofs.Try
open Go.Ab Go.RowKit
def fs76 : FnS := fnS [.o] [.int] (fun _ (x,_) => (.b false,[],True))
abbrev T76 : Tab := lk []
theorem tab76 : TabOK prog T76 := TabOK.nil
set_option maxRecDepth 100000 in
set_option maxHeartbeats 1000000 in
theorem ok76 : FnOK prog 76 fs76 := by
 refine FnOK.mk cok func76 rfl rfl rfl ?_
 rintro fl ⟨(x : Int),_⟩ hpre F hnt0 _
 have hnt : F.nt = 6 := hnt0.trans ntmps76
 clear hpre
 refine W.to (⟨[(0,.i x)],[],[999]⟩) rfl ?_
 refine Kk cok tab76 hnt [] [0] (⟨[(0,.i x)],[],[999]⟩)
  (True ∧ True)
  ⟨tt,tt⟩ ?_
 refine Kk cok tab76 hnt [] [2] (⟨[(2,.b (decide (x ≠ x)))],[],[999]⟩)
  (True ∧ True ∧ (True ∧ True ∧ True) ∧ True ∧ True)
  ⟨tt,tt,⟨tt,tt,tt⟩,tt,tt⟩ ?_
 refine W.ret ?_
 exact endQ_ret (.b (decide (x ≠ x))) (by kernel_rfl) (@cast ((.bool (decide (x ≠ x)) : Value) = .bool false) _ (by kernel_rfl) (congrArg Value.bool (by simp)))
theorem ent76 : Entr prog 76 := ⟨_,func76,rfl,by decide⟩
end Go.Proofs.Try

set_option linter.unusedSimpArgs false
set_option linter.unusedVariables false
namespace Go.Proofs.Try
open Go.Ab Go.RowKit
def fs67 : FnS := fnS [.o,.o] [.int,.int] (fun _ (a,b,_) => (.i (cmpI a b),[],True))
abbrev T67 : Tab := lk [(76,fs76)]
theorem tab67 : TabOK prog T67 := (TabOK.cons ok76 ent76 TabOK.nil)
set_option maxRecDepth 100000 in
set_option maxHeartbeats 1000000 in
theorem ok67 : FnOK prog 67 fs67 := by
 refine FnOK.mk cok func67 rfl rfl rfl ?_
 rintro fl ⟨(a : Int),(b : Int),_⟩ hpre F hnt0 _
 have hnt : F.nt = 20 := hnt0.trans ntmps67
 clear hpre
 refine W.to (⟨[(0,.i a),(1,.i b)],[],[999]⟩) rfl ?_
 refine Kk cok tab67 hnt [] [0,1] (⟨[(0,.i a),(1,.i b)],[],[999]⟩)
  (True ∧ True)
  ⟨tt,tt⟩ ?_
 refine Kk cok tab67 hnt [] [0,1,5] (⟨[(0,.i a),(1,.i b),(5,.b false)],[],[999]⟩)
  (True ∧ (True ∧ (True ∧ True) ∧ True) ∧ True ∧ True)
  ⟨tt,⟨tt,⟨tt,tt⟩,tt⟩,tt,tt⟩ ?_
 refine Kk cok tab67 hnt [] [0,1,5,6] (⟨[(0,.i a),(1,.i b),(5,.b false),(6,.b false)],[],[999]⟩)
  (True ∧ (True ∧ (True ∧ True) ∧ True) ∧ True ∧ True)
  ⟨tt,⟨tt,⟨tt,tt⟩,tt⟩,tt,tt⟩ ?_
 refine W.seq ?_
 refine Kk cok tab67 hnt [] [0,1,6,11] (⟨[(0,.i a),(1,.i b),(6,.b false),(11,.b false)],[],[999]⟩)
  (True ∧ True)
  ⟨tt,tt⟩ ?_
 refine W.if' false (.b false) (by kernel_rfl) rfl trivial ?_ ?_
 ·intro h11
  refine W.seq ?_
  refine Kk cok tab67 hnt [] [12] (⟨[(12,.b false)],[],[999]⟩)
   (True ∧ True)
   ⟨tt,tt⟩ ?_
  refine W.if' false (.b false) (by kernel_rfl) rfl trivial ?_ ?_
  ·intro h12
   refine Kk cok tab67 hnt [] [4] (⟨[(4,.i (0 : Int))],[],[999]⟩)
    (True ∧ True)
    ⟨tt,tt⟩ ?_
   refine W.ret (thenQ_ret (thenQ_ret ?_))
   exact endQ_ret (.i (0 : Int)) (by kernel_rfl) (@cast ((.int .i64 (0 : Int) : Value) = .int .i64 (cmpI a b)) _ (by kernel_rfl) (congrArg (Value.int .i64) (by cases h11)))
  ·intro n12
   refine W.skip (thenQ_normal ?_)
   refine Kk cok tab67 hnt [] [4] (⟨[(4,.i (-1 : Int))],[],[999]⟩)
    (True ∧ True)
    ⟨tt,tt⟩ ?_
   refine W.ret (thenQ_ret ?_)
   exact endQ_ret (.i (-1 : Int)) (by kernel_rfl) (@cast ((.int .i64 (-1 : Int) : Value) = .int .i64 (cmpI a b)) _ (by kernel_rfl) (congrArg (Value.int .i64) (by cases h11)))
 ·intro n11
  refine W.skip (thenQ_normal ?_)
  refine W.seq ?_
  refine Kk cok tab67 hnt [] [0,1,13] (⟨[(0,.i a),(1,.i b),(13,.b false)],[],[999]⟩)
   (True ∧ True)
   ⟨tt,tt⟩ ?_
  refine W.if' false (.b false) (by kernel_rfl) rfl trivial ?_ ?_
  ·intro h13
   refine Kk cok tab67 hnt [] [4] (⟨[(4,.i (1 : Int))],[],[999]⟩)
    (True ∧ True)
    ⟨tt,tt⟩ ?_
   refine W.ret (thenQ_ret ?_)
   exact endQ_ret (.i (1 : Int)) (by kernel_rfl) (@cast ((.int .i64 (1 : Int) : Value) = .int .i64 (cmpI a b)) _ (by kernel_rfl) (congrArg (Value.int .i64) (by cases h13)))
  ·intro n13
   refine W.skip (thenQ_normal ?_)
   refine W.seq ?_
   refine Kk cok tab67 hnt [] [0,1,16] (⟨[(0,.i a),(1,.i b),(16,.b (decide (a < b)))],[],[999]⟩)
    (True ∧ True ∧ (True ∧ True ∧ True) ∧ True)
    ⟨tt,tt,⟨tt,tt,tt⟩,tt⟩ ?_
   refine W.ifP (a < b) (.b (decide (a < b))) (by kernel_rfl) rfl trivial ?_ ?_
   ·intro h16
    refine Kk cok tab67 hnt [] [4] (⟨[(4,.i (-1 : Int))],[],[999]⟩)
     (True ∧ True)
     ⟨tt,tt⟩ ?_
    refine W.ret (thenQ_ret ?_)
    exact endQ_ret (.i (-1 : Int)) (by kernel_rfl) (@cast ((.int .i64 (-1 : Int) : Value) = .int .i64 (cmpI a b)) _ (by kernel_rfl) (congrArg (Value.int .i64) (by unfold cmpI; rw [decide_eq_true h16]; rfl)))
   ·intro n16
    refine W.skip (thenQ_normal ?_)
    refine W.seq ?_
    refine Kk cok tab67 hnt [] [19] (⟨[(19,.b (decide (b < a)))],[],[999]⟩)
     (True ∧ True ∧ (True ∧ True ∧ True) ∧ True)
     ⟨tt,tt,⟨tt,tt,tt⟩,tt⟩ ?_
    refine W.ifP (b < a) (.b (decide (b < a))) (by kernel_rfl) rfl trivial ?_ ?_
    ·intro h19
     refine Kk cok tab67 hnt [] [4] (⟨[(4,.i (1 : Int))],[],[999]⟩)
      (True ∧ True)
      ⟨tt,tt⟩ ?_
     refine W.ret (thenQ_ret ?_)
     exact endQ_ret (.i (1 : Int)) (by kernel_rfl) (@cast ((.int .i64 (1 : Int) : Value) = .int .i64 (cmpI a b)) _ (by kernel_rfl) (congrArg (Value.int .i64) (by unfold cmpI; rw [decide_eq_false n16,decide_eq_true h19]; rfl)))
    ·intro n19
     refine W.skip (thenQ_normal ?_)
     refine Kk cok tab67 hnt [] [4] (⟨[(4,.i (0 : Int))],[],[999]⟩)
      (True ∧ True)
      ⟨tt,tt⟩ ?_
     refine W.ret ?_
     exact endQ_ret (.i (0 : Int)) (by kernel_rfl) (@cast ((.int .i64 (0 : Int) : Value) = .int .i64 (cmpI a b)) _ (by kernel_rfl) (congrArg (Value.int .i64) (by unfold cmpI; rw [decide_eq_false n16,decide_eq_false n19]; rfl)))
theorem ent67 : Entr prog 67 := ⟨_,func67,rfl,by decide⟩
end Go.Proofs.Try

set_option linter.unusedSimpArgs false
set_option linter.unusedVariables false
namespace Go.Proofs.Try
open Go.Ab Go.RowKit
def fs66 : FnS := fnS [.s .ints] [.ints] (fun _ (l,_) => (.i (orI l),[],True))
abbrev T66 : Tab := lk []
theorem tab66 : TabOK prog T66 := TabOK.nil
set_option maxRecDepth 100000 in
set_option maxHeartbeats 1000000 in
theorem ok66 : FnOK prog 66 fs66 := by
 refine FnOK.mk cok func66 rfl rfl rfl ?_
 rintro fl ⟨(l : List Int),_⟩ hpre F hnt0 _
 have hnt : F.nt = 18 := hnt0.trans ntmps66
 clear hpre
 refine W.to (⟨[(0,.sl (.ints l))],[],[999]⟩) rfl ?_
 refine W.lenOf 0 (.ints l) (by kernel_rfl) ?_
 intro hl_l; replace hl_l : List.length l ≤ 9223372036854775807 := hl_l
 refine Kk cok tab66 hnt [] [0] (⟨[(0,.sl (.ints l))],[],[999]⟩)
  (True ∧ True)
  ⟨tt,tt⟩ ?_
 refine Kk cok tab66 hnt [] [0,3] (⟨[(0,.sl (.ints l)),(3,.i (0 : Int))],[],[999]⟩)
  (True ∧ True)
  ⟨tt,tt⟩ ?_
 refine W.seq ?_
 refine Kk cok tab66 hnt [] [3,6,7,8] (⟨[(3,.i (0 : Int)),(6,.sl (.ints l)),(7,.i (l.length : Int)),(8,.i (0 : Int))],[],[999]⟩)
  (True ∧ True ∧ True ∧ True)
  ⟨tt,tt,tt,tt⟩ ?_
 refine W.block ?_
 refine W.loop (ι := Nat) (fun (i : Nat) => (⟨[(3,.i (0 : Int)),(6,.sl (.ints l)),(7,.i (l.length : Int)),(8,.i ((i : Nat) : Int))],[],[999]⟩ : St))
  (fun (i : Nat) => (i ≤ l.length) ∧ (orI l = orFrom l i))
  (fun (i : Nat) => (l.length - i : Nat)) (0) ?_ ?_ ?_
 ·exact (show (0 ≤ l.length) ∧ (orI l = orFrom l 0) from ⟨(by first | assumption | omega | rfl | (intro _ hjj; omega) | (simp; done) | (simp; omega)),(by rfl)⟩)
 ·exact Sub.of [] (@cast (((Si (0 : Int)) ∧ (Sd (.ints l)) ∧ (Si (l.length : Int)) ∧ ((.int .i64 (0 : Int) : Value) = .int .i64 ((0 : Nat) : Int)) ∧ True) ∧ True ∧ (true = true) ∧ (true = true)) _ (by kernel_rfl) ⟨⟨rfl,rfl,rfl,(congrArg (Value.int .i64) (by first | rfl | omega | assumption | simp | simp_all)),tt⟩,tt,rfl,rfl⟩)
 ·rintro i hC0
  have hC : (i ≤ l.length) ∧ (orI l = orFrom l i) := hC0
  clear hC0
  obtain ⟨hi,hA⟩ := hC
  refine W.to (⟨[(3,.i (0 : Int)),(6,.sl (.ints l)),(7,.i (l.length : Int)),(8,.i ((i : Nat) : Int))],[],[999]⟩) rfl ?_
  refine Kk cok tab66 hnt [] [3,6,7,8,9] (⟨[(3,.i (0 : Int)),(6,.sl (.ints l)),(7,.i (l.length : Int)),(8,.i ((i : Nat) : Int)),(9,.b (decide (((i : Nat) : Int) < (l.length : Int))))],[],[999]⟩)
   ((True ∧ True ∧ True) ∧ True)
   ⟨⟨tt,tt,tt⟩,tt⟩ ?_
  refine W.seq ?_
  refine W.ifP (((i : Nat) : Int) < (l.length : Int)) (.b (decide (((i : Nat) : Int) < (l.length : Int)))) (by kernel_rfl) rfl trivial ?_ ?_
  ·intro h9
   refine W.skip (thenQ_normal ?_)
   refine W.seq ?_
   refine W.block ?_
   refine Kk cok tab66 hnt [] [3,5,6,7,8] (⟨[(3,.i (0 : Int)),(5,.i (l.getD i 0)),(6,.sl (.ints l)),(7,.i (l.length : Int)),(8,.i ((i : Nat) : Int))],[],[999]⟩)
    ((True ∧ True ∧ (0 ≤ ((i : Nat) : Int)) ∧ (((i : Nat) : Int) < (l.length : Int))) ∧ True ∧ True ∧ True)
    ⟨⟨tt,tt,(by omega),(by omega)⟩,tt,tt,tt⟩ ?_
   refine Kk cok tab66 hnt [] [3,5,6,7,8,14] (⟨[(3,.i (0 : Int)),(5,.i (l.getD i 0)),(6,.sl (.ints l)),(7,.i (l.length : Int)),(8,.i ((i : Nat) : Int)),(14,.b (decide ((l.getD i 0) ≠ (0 : Int))))],[],[999]⟩)
    (True ∧ True ∧ (True ∧ True ∧ True) ∧ True)
    ⟨tt,tt,⟨tt,tt,tt⟩,tt⟩ ?_
   refine W.ifP ((l.getD i 0) ≠ (0 : Int)) (.b (decide ((l.getD i 0) ≠ (0 : Int)))) (by kernel_rfl) rfl trivial ?_ ?_
   ·intro h14
    refine Kk cok tab66 hnt [] [2] (⟨[(2,.i (l.getD i 0))],[],[999]⟩)
     (True ∧ True ∧ True)
     ⟨tt,tt,tt⟩ ?_
    refine W.ret (blockQ_ret (thenQ_ret (thenQ_ret (blockQ_ret (thenQ_ret ?_)))))
    exact endQ_ret (.i (l.getD i 0)) (by kernel_rfl) (@cast ((.int .i64 (l.getD i 0) : Value) = .int .i64 (orI l)) _ (by kernel_rfl) (congrArg (Value.int .i64) (by rw [hA,orFrom_yes (by omega) h14])))
   ·intro n14
    refine W.skip (blockQ_normal (thenQ_normal ?_))
    refine Lk cok tab66 hnt [] (⟨[(3,.i (0 : Int)),(5,.i (l.getD i 0)),(6,.sl (.ints l)),(7,.i (l.length : Int)),(8,.i (((i + 1) : Nat) : Int)),(14,.b (decide ((l.getD i 0) ≠ (0 : Int)))),(16,.i (((i + 1) : Nat) : Int))],[],[999]⟩)
     ((True ∧ True ∧ (Fits .i64 (((i + 1) : Nat) : Int))) ∧ True ∧ True)
     ⟨⟨tt,tt,(by exact fits_i64 (by omega) (by omega))⟩,tt,tt⟩ ?_
    refine thenQ_normal ?_
    refine ⟨((i + 1)),(show ((i + 1) ≤ l.length) ∧ (orI l = orFrom l (i + 1)) from ⟨(by first | assumption | omega | rfl | (intro _ hjj; omega) | (simp; done) | (simp; omega)),(by rw [hA]; exact orFrom_no (by omega) n14)⟩),(show l.length - (i + 1) < l.length - i from (by first | omega | (simp_all; omega))),?_⟩
    exact Sub.of [] (@cast (((Si (0 : Int)) ∧ (Sd (.ints l)) ∧ (Si (l.length : Int)) ∧ (Si (((i + 1) : Nat) : Int)) ∧ True) ∧ True ∧ (true = true) ∧ (true = true)) _ (by kernel_rfl) ⟨⟨rfl,rfl,rfl,rfl,tt⟩,tt,rfl,rfl⟩)
  ·intro n9
   refine W.exit (thenQ_exit (thenQ_exit (blockQ_hit ?_)))
   refine thenQ_normal ?_
   refine Kk cok tab66 hnt [] [2] (⟨[(2,.i (0 : Int))],[],[999]⟩)
    (True ∧ True ∧ True)
    ⟨tt,tt,tt⟩ ?_
   refine W.ret ?_
   exact endQ_ret (.i (0 : Int)) (by kernel_rfl) (@cast ((.int .i64 (0 : Int) : Value) = .int .i64 (orI l)) _ (by kernel_rfl) (congrArg (Value.int .i64) (by rw [hA,orFrom_end (by omega)])))
theorem ent66 : Entr prog 66 := ⟨_,func66,rfl,by decide⟩
end Go.Proofs.Try

set_option linter.unusedSimpArgs false
set_option linter.unusedVariables false
namespace Go.Proofs.Try
open Go.Ab Go.RowKit
def fs56 : FnS := fnS [.o,.o] [.mark,.mark] (fun _ (a,b,_) => (.i (cmpM a b),[],True))
abbrev T56 : Tab := lk [(66,fs66),(67,fs67)]
theorem tab56 : TabOK prog T56 := (TabOK.cons ok66 ent66 (TabOK.cons ok67 ent67 TabOK.nil))
set_option maxRecDepth 100000 in
set_option maxHeartbeats 1000000 in
theorem ok56 : FnOK prog 56 fs56 := by
 refine FnOK.mk cok func56 rfl rfl rfl ?_
 rintro fl ⟨(a : MarkD),(b : MarkD),_⟩ hpre F hnt0 _
 have hnt : F.nt = 17 := hnt0.trans ntmps56
 clear hpre
 refine W.to (⟨[(0,.agg [.i a.value,.i a.proc,.i a.number,.b a.gone]),(1,.agg [.i b.value,.i b.proc,.i b.number,.b b.gone])],[],[999]⟩) rfl ?_
 refine Kk cok tab56 hnt [] [2,3] (⟨[(2,.ptr 2 0),(3,.ptr 3 0)],[(2,⟨50,.fix [.i a.value,.i a.proc,.i a.number,.b a.gone]⟩),(3,⟨50,.fix [.i b.value,.i b.proc,.i b.number,.b b.gone]⟩)],[3,2,999]⟩)
  (True ∧ True ∧ True ∧ True)
  ⟨tt,tt,tt,tt⟩ ?_
 refine W.KA cok tab56 hnt [] [4] (⟨[(4,.i (orI ([(cmpI a.proc b.proc),(cmpI a.number b.number)])))],[(2,⟨50,.fix [.i a.value,.i a.proc,.i a.number,.b a.gone]⟩),(3,⟨50,.fix [.i b.value,.i b.proc,.i b.number,.b b.gone]⟩)],[15,3,2,999]⟩)
  (True ∧ True ∧ True ∧ True ∧ (True ∧ (True ∧ True ∧ True) ∧ True) ∧ True ∧ True ∧ True ∧ True ∧ (True ∧ (True ∧ True ∧ True) ∧ True) ∧ (True ∧ True ∧ True) ∧ (True ∧ (True ∧ True) ∧ True) ∧ True ∧ True) (by kernel_rfl) (by kernel_rfl)
  ⟨tt,tt,tt,tt,⟨tt,⟨tt,tt,tt⟩,tt⟩,tt,tt,tt,tt,⟨tt,⟨tt,tt,tt⟩,tt⟩,⟨tt,tt,tt⟩,⟨tt,⟨tt,tt⟩,tt⟩,tt,tt⟩ ?_
 refine W.ret ?_
 exact endQ_ret (.i (orI ([(cmpI a.proc b.proc),(cmpI a.number b.number)]))) (by kernel_rfl) (@cast ((.int .i64 (orI ([(cmpI a.proc b.proc),(cmpI a.number b.number)])) : Value) = .int .i64 (cmpM a b)) _ (by kernel_rfl) (congrArg (Value.int .i64) (by first | rfl | simp_all)))
theorem ent56 : Entr prog 56 := ⟨_,func56,rfl,by decide⟩
end Go.Proofs.Try

set_option linter.unusedSimpArgs false
set_option linter.unusedVariables false
namespace Go.Proofs.Try
open Go.Ab Go.RowKit
def fs75 : FnS := fnS [.o] [.int] (fun _ (n,_) => (.b (!within n 0 20),[],True))
abbrev T75 : Tab := lk [(44,fs44)]
theorem tab75 : TabOK prog T75 := (TabOK.cons ok44 ent44 TabOK.nil)
set_option maxRecDepth 100000 in
set_option maxHeartbeats 1000000 in
theorem ok75 : FnOK prog 75 fs75 := by
 refine FnOK.mk cok func75 rfl rfl rfl ?_
 rintro fl ⟨(n : Int),_⟩ hpre F hnt0 _
 have hnt : F.nt = 6 := hnt0.trans ntmps75
 clear hpre
 refine W.to (⟨[(0,.i n)],[],[999]⟩) rfl ?_
 refine Kk cok tab75 hnt [] [0] (⟨[(0,.i n)],[],[999]⟩)
  (True ∧ True)
  ⟨tt,tt⟩ ?_
 refine Kk cok tab75 hnt [] [2] (⟨[(2,.b (!(within n (0 : Int) (20 : Int))))],[],[999]⟩)
  (True ∧ (True ∧ (True ∧ True ∧ True ∧ True) ∧ True) ∧ True ∧ True ∧ True)
  ⟨tt,⟨tt,⟨tt,tt,tt,tt⟩,tt⟩,tt,tt,tt⟩ ?_
 refine W.ret ?_
 exact endQ_ret (.b (!(within n (0 : Int) (20 : Int)))) (by kernel_rfl) (@cast ((.bool (!(within n (0 : Int) (20 : Int))) : Value) = .bool (!within n 0 20)) _ (by kernel_rfl) (congrArg Value.bool (by first | rfl | simp_all)))
theorem ent75 : Entr prog 75 := ⟨_,func75,rfl,by decide⟩
end Go.Proofs.Try

set_option linter.unusedSimpArgs false
set_option linter.unusedVariables false
namespace Go.Proofs.Try
open Go.Ab Go.RowKit
def fs89counts : FnS := fnS [.s .ints,.o] [.ints,(.fn0 75)] (fun _ (l,(),_) => (.i (firstI l.length (fun jj => !within (l.getD jj 0) 0 20)),[],True))
abbrev T89counts : Tab := lk [(75,fs75)]
theorem tab89counts : TabOK prog T89counts := (TabOK.cons ok75 ent75 TabOK.nil)
set_option maxRecDepth 100000 in
set_option maxHeartbeats 1000000 in
theorem ok89counts : FnOK prog 89 fs89counts := by
 refine FnOK.mk cok func89 rfl rfl rfl ?_
 rintro fl ⟨(l : List Int),⟨⟩,_⟩ hpre F hnt0 _
 have hnt : F.nt = 19 := hnt0.trans ntmps89
 clear hpre
 refine W.to (⟨[(0,.sl (.ints l)),(1,.fn 75 [])],[],[999]⟩) rfl ?_
 refine W.lenOf 0 (.ints l) (by kernel_rfl) ?_
 intro hl_l; replace hl_l : List.length l ≤ 9223372036854775807 := hl_l
 refine Kk cok tab89counts hnt [] [0,1] (⟨[(0,.sl (.ints l)),(1,.fn 75 [])],[],[999]⟩)
  (True ∧ True)
  ⟨tt,tt⟩ ?_
 refine W.seq ?_
 refine Kk cok tab89counts hnt [] [0,1,7,8] (⟨[(0,.sl (.ints l)),(1,.fn 75 []),(7,.i (l.length : Int)),(8,.i (0 : Int))],[],[999]⟩)
  (True ∧ True ∧ True ∧ True)
  ⟨tt,tt,tt,tt⟩ ?_
 refine W.block ?_
 refine W.loop (ι := Nat) (fun (i : Nat) => (⟨[(0,.sl (.ints l)),(1,.fn 75 []),(7,.i (l.length : Int)),(8,.i ((i : Nat) : Int))],[],[999]⟩ : St))
  (fun (i : Nat) => (i ≤ l.length) ∧ (∀ jj,jj < i → (!within (l.getD jj 0) 0 20) = false))
  (fun (i : Nat) => (l.length - i : Nat)) (0) ?_ ?_ ?_
 ·exact (show (0 ≤ l.length) ∧ (∀ jj,jj < 0 → (!within (l.getD jj 0) 0 20) = false) from ⟨(by first | assumption | omega | rfl | (intro _ hjj; omega) | (simp; done) | (simp; omega)),(by exact upto_zero)⟩)
 ·exact Sub.of [] (@cast (((Sd (.ints l)) ∧ (((75 : Nat) = 75) ∧ True) ∧ (Si (l.length : Int)) ∧ ((.int .i64 (0 : Int) : Value) = .int .i64 ((0 : Nat) : Int)) ∧ True) ∧ True ∧ (true = true) ∧ (true = true)) _ (by kernel_rfl) ⟨⟨rfl,⟨rfl,tt⟩,rfl,(congrArg (Value.int .i64) (by first | rfl | omega | assumption | simp | simp_all)),tt⟩,tt,rfl,rfl⟩)
 ·rintro i hC0
  have hC : (i ≤ l.length) ∧ (∀ jj,jj < i → (!within (l.getD jj 0) 0 20) = false) := hC0
  clear hC0
  obtain ⟨hi,hA⟩ := hC
  refine W.to (⟨[(0,.sl (.ints l)),(1,.fn 75 []),(7,.i (l.length : Int)),(8,.i ((i : Nat) : Int))],[],[999]⟩) rfl ?_
  refine Kk cok tab89counts hnt [] [0,1,7,8,9] (⟨[(0,.sl (.ints l)),(1,.fn 75 []),(7,.i (l.length : Int)),(8,.i ((i : Nat) : Int)),(9,.b (decide (((i : Nat) : Int) < (l.length : Int))))],[],[999]⟩)
   ((True ∧ True ∧ True) ∧ True)
   ⟨⟨tt,tt,tt⟩,tt⟩ ?_
  refine W.seq ?_
  refine W.ifP (((i : Nat) : Int) < (l.length : Int)) (.b (decide (((i : Nat) : Int) < (l.length : Int)))) (by kernel_rfl) rfl trivial ?_ ?_
  ·intro h9
   refine W.skip (thenQ_normal ?_)
   refine W.seq ?_
   refine W.block ?_
   refine Kk cok tab89counts hnt [] [0,1,5,7,8] (⟨[(0,.sl (.ints l)),(1,.fn 75 []),(5,.i ((i : Nat) : Int)),(7,.i (l.length : Int)),(8,.i ((i : Nat) : Int))],[],[999]⟩)
    (True ∧ True ∧ True)
    ⟨tt,tt,tt⟩ ?_
   refine Kk cok tab89counts hnt [] [0,1,5,7,8,16] (⟨[(0,.sl (.ints l)),(1,.fn 75 []),(5,.i ((i : Nat) : Int)),(7,.i (l.length : Int)),(8,.i ((i : Nat) : Int)),(16,.b (!within (l.getD i 0) 0 20))],[],[999]⟩)
    (True ∧ True ∧ True ∧ (True ∧ True ∧ (0 ≤ ((i : Nat) : Int)) ∧ (((i : Nat) : Int) < (l.length : Int))) ∧ True ∧ (True ∧ (True ∧ True) ∧ True) ∧ True)
    ⟨tt,tt,tt,⟨tt,tt,(by omega),(by omega)⟩,tt,⟨tt,⟨tt,tt⟩,tt⟩,tt⟩ ?_
   refine W.if' (!within (l.getD i 0) 0 20) (.b (!within (l.getD i 0) 0 20)) (by kernel_rfl) rfl trivial ?_ ?_
   ·intro h16
    refine Kk cok tab89counts hnt [] [4] (⟨[(4,.i ((i : Nat) : Int))],[],[999]⟩)
     (True ∧ True ∧ True)
     ⟨tt,tt,tt⟩ ?_
    refine W.ret (blockQ_ret (thenQ_ret (thenQ_ret (blockQ_ret (thenQ_ret ?_)))))
    exact endQ_ret (.i ((i : Nat) : Int)) (by kernel_rfl) (@cast ((.int .i64 ((i : Nat) : Int) : Value) = .int .i64 (firstI l.length (fun jj => !within (l.getD jj 0) 0 20))) _ (by kernel_rfl) (congrArg (Value.int .i64) (by exact (firstI_yes (by omega) h16 hA).symm)))
   ·intro n16
    refine W.skip (blockQ_normal (thenQ_normal ?_))
    refine Lk cok tab89counts hnt [] (⟨[(0,.sl (.ints l)),(1,.fn 75 []),(5,.i ((i : Nat) : Int)),(7,.i (l.length : Int)),(8,.i (((i + 1) : Nat) : Int)),(16,.b (!within (l.getD i 0) 0 20)),(18,.i (((i + 1) : Nat) : Int))],[],[999]⟩)
     ((True ∧ True ∧ (Fits .i64 (((i + 1) : Nat) : Int))) ∧ True ∧ True)
     ⟨⟨tt,tt,(by exact fits_i64 (by omega) (by omega))⟩,tt,tt⟩ ?_
    refine thenQ_normal ?_
    refine ⟨((i + 1)),(show ((i + 1) ≤ l.length) ∧ (∀ jj,jj < (i + 1) → (!within (l.getD jj 0) 0 20) = false) from ⟨(by first | assumption | omega | rfl | (intro _ hjj; omega) | (simp; done) | (simp; omega)),(by exact upto_succ hA n16)⟩),(show l.length - (i + 1) < l.length - i from (by first | omega | (simp_all; omega))),?_⟩
    exact Sub.of [] (@cast (((Sd (.ints l)) ∧ (((75 : Nat) = 75) ∧ True) ∧ (Si (l.length : Int)) ∧ (Si (((i + 1) : Nat) : Int)) ∧ True) ∧ True ∧ (true = true) ∧ (true = true)) _ (by kernel_rfl) ⟨⟨rfl,⟨rfl,tt⟩,rfl,rfl,tt⟩,tt,rfl,rfl⟩)
  ·intro n9
   refine W.exit (thenQ_exit (thenQ_exit (blockQ_hit ?_)))
   refine thenQ_normal ?_
   refine Kk cok tab89counts hnt [] [4] (⟨[(4,.i (-1 : Int))],[],[999]⟩)
    (True ∧ True)
    ⟨tt,tt⟩ ?_
   refine W.ret ?_
   exact endQ_ret (.i (-1 : Int)) (by kernel_rfl) (@cast ((.int .i64 (-1 : Int) : Value) = .int .i64 (firstI l.length (fun jj => !within (l.getD jj 0) 0 20))) _ (by kernel_rfl) (congrArg (Value.int .i64) (by exact (firstI_no (fun j hj => hA j (by omega))).symm)))
theorem ent89counts : Entr prog 89 := ⟨_,func89,rfl,by decide⟩
end Go.Proofs.Try

set_option linter.unusedSimpArgs false
set_option linter.unusedVariables false
namespace Go.Proofs.Try
open Go.Ab Go.RowKit
def fs74counts : FnS := fnS [.s .ints,.o] [.ints,(.fn0 75)] (fun _ (l,(),_) => (.b (anyN l.length (fun jj => !within (l.getD jj 0) 0 20)),[],True))
abbrev T74counts : Tab := lk [(89,fs89counts)]
theorem tab74counts : TabOK prog T74counts := (TabOK.cons ok89counts ent89counts TabOK.nil)
set_option maxRecDepth 100000 in
set_option maxHeartbeats 1000000 in
theorem ok74counts : FnOK prog 74 fs74counts := by
 refine FnOK.mk cok func74 rfl rfl rfl ?_
 rintro fl ⟨(l : List Int),⟨⟩,_⟩ hpre F hnt0 _
 have hnt : F.nt = 9 := hnt0.trans ntmps74
 clear hpre
 refine W.to (⟨[(0,.sl (.ints l)),(1,.fn 75 [])],[],[999]⟩) rfl ?_
 refine W.lenOf 0 (.ints l) (by kernel_rfl) ?_
 intro hl_l; replace hl_l : List.length l ≤ 9223372036854775807 := hl_l
 refine Kk cok tab74counts hnt [] [0,1] (⟨[(0,.sl (.ints l)),(1,.fn 75 [])],[],[999]⟩)
  (True ∧ True)
  ⟨tt,tt⟩ ?_
 refine Kk cok tab74counts hnt [] [4] (⟨[(4,.b (decide ((0 : Int) ≤ (firstI l.length (fun jj => !within (l.getD jj 0) 0 20)))))],[],[999]⟩)
  (True ∧ True ∧ (True ∧ (True ∧ True ∧ True) ∧ True) ∧ (True ∧ True ∧ True) ∧ True ∧ True)
  ⟨tt,tt,⟨tt,⟨tt,tt,tt⟩,tt⟩,⟨tt,tt,tt⟩,tt,tt⟩ ?_
 refine W.ret ?_
 exact endQ_ret (.b (decide ((0 : Int) ≤ (firstI l.length (fun jj => !within (l.getD jj 0) 0 20))))) (by kernel_rfl) (@cast ((.bool (decide ((0 : Int) ≤ (firstI l.length (fun jj => !within (l.getD jj 0) 0 20)))) : Value) = .bool (anyN l.length (fun jj => !within (l.getD jj 0) 0 20))) _ (by kernel_rfl) (congrArg Value.bool (by exact firstI_has _ _)))
theorem ent74counts : Entr prog 74 := ⟨_,func74,rfl,by decide⟩
end Go.Proofs.Try

set_option linter.unusedSimpArgs false
set_option linter.unusedVariables false
namespace Go.Proofs.Try
open Go.Ab Go.RowKit
def fs62 : FnS := fnS [.s .ints] [.ints] (fun _ (l,_) => (.b (countsOK l),[],True))
abbrev T62 : Tab := lk [(74,fs74counts)]
theorem tab62 : TabOK prog T62 := (TabOK.cons ok74counts ent74counts TabOK.nil)
set_option maxRecDepth 100000 in
set_option maxHeartbeats 1000000 in
theorem ok62 : FnOK prog 62 fs62 := by
 refine FnOK.mk cok func62 rfl rfl rfl ?_
 rintro fl ⟨(l : List Int),_⟩ hpre F hnt0 _
 have hnt : F.nt = 11 := hnt0.trans ntmps62
 clear hpre
 refine W.to (⟨[(0,.sl (.ints l))],[],[999]⟩) rfl ?_
 refine W.lenOf 0 (.ints l) (by kernel_rfl) ?_
 intro hl_l; replace hl_l : List.length l ≤ 9223372036854775807 := hl_l
 refine Kk cok tab62 hnt [] [0] (⟨[(0,.sl (.ints l))],[],[999]⟩)
  (True ∧ True)
  ⟨tt,tt⟩ ?_
 refine Kk cok tab62 hnt [] [2] (⟨[(2,.b ((decide ((l.length : Int) = (3 : Int))) && (!(anyN l.length (fun jj => !within (l.getD jj 0) 0 20)))))],[],[999]⟩)
  ((fun (Z1:Bool)=>(True ∧ (True ∧ ((True ∧ (True ∧ True)) ∧ (True ∧ ((Z1 = true → True) ∧ ((Z1 = true → (True ∧ ((((Z1 = true) ∧ True) ∧ (True ∧ True)) ∧ True))) ∧ ((Z1 = true → ((Z1 = true) ∧ True)) ∧ ((True ∧ ((Z1 = true → (Z1 = true) ∧ True) ∧ (Z1 = false → True))) ∧ (True ∧ True)))))))))) (decide ((l.length : Int) = (3 : Int))))
  ⟨tt,tt,⟨tt,tt,tt⟩,tt,(fun _ => trivial),(fun hG => ⟨tt,⟨⟨hG,tt⟩,tt,tt⟩,tt⟩),(fun hG => ⟨hG,tt⟩),⟨tt,(fun hp => ⟨hp,tt⟩),(fun _ => trivial)⟩,tt,tt⟩ ?_
 refine W.ret ?_
 exact endQ_ret (.b ((decide ((l.length : Int) = (3 : Int))) && (!(anyN l.length (fun jj => !within (l.getD jj 0) 0 20))))) (by kernel_rfl) (@cast ((.bool ((decide ((l.length : Int) = (3 : Int))) && (!(anyN l.length (fun jj => !within (l.getD jj 0) 0 20)))) : Value) = .bool (countsOK l)) _ (by kernel_rfl) (congrArg Value.bool (by exact counts_impl l)))
theorem ent62 : Entr prog 62 := ⟨_,func62,rfl,by decide⟩
end Go.Proofs.Try
