import Derived.Test.YtilnnaoaefphcaaRF6S0
import Derived.Test.YtilnnaoaefphcaaRF6S3
import Derived.Test.YtilnnaoaefphcaaRF6S2
set_option linter.unusedSimpArgs false
set_option linter.unusedVariables false
namespace Go.Proofs.Try
open Go.Ab Go.RowKit
def fs22 : FnS := fnS [.a [some .ints,some .ints,none,none,none,some .marks],.o,.o] [.copy,.int,.int] (fun _ (c,value,p,_) => (.tup [.agg [.own 0 (List.length ((putIn c value p).1.up)),.own 1 (List.length ((putIn c value p).1.down)),.i ((putIn c value p).1.value),.i ((putIn c value p).1.time),.i ((putIn c value p).1.proc),.own 2 (List.length ((putIn c value p).1.marks))],.b ((putIn c value p).2)],[(3,.ints ((putIn c value p).1.up)),(3,.ints ((putIn c value p).1.down)),(50,.marks ((putIn c value p).1.marks))],True))
abbrev T22 : Tab := lk [(38,fs38),(39,fs39),(44,fs44)]
theorem tab22 : TabOK prog T22 := (TabOK.cons ok38 ent38 (TabOK.cons ok39 ent39 (TabOK.cons ok44 ent44 TabOK.nil)))
set_option maxRecDepth 100000 in
set_option maxHeartbeats 1000000 in
theorem ok22 : FnOK prog 22 fs22 := by
 refine FnOK.mk cok func22 rfl rfl rfl ?_
 rintro fl ⟨(c : CopyD),(value : Int),(p : Int),_⟩ hpre F hnt0 _
 have hnt : F.nt = 65 := hnt0.trans ntmps22
 clear hpre
 refine W.to (⟨[(0,.agg (cC c)),(1,.i value),(2,.i p)],[],[999]⟩) rfl ?_
 refine W.lenA 0 0 (cC c) (.ints c.up) (by kernel_rfl) (by kernel_rfl) ?_
 intro hl_c_up; replace hl_c_up : List.length c.up ≤ 9223372036854775807 := hl_c_up
 refine W.lenA 0 1 (cC c) (.ints c.down) (by kernel_rfl) (by kernel_rfl) ?_
 intro hl_c_down; replace hl_c_down : List.length c.down ≤ 9223372036854775807 := hl_c_down
 refine W.lenA 0 5 (cC c) (.marks c.marks) (by kernel_rfl) (by kernel_rfl) ?_
 intro hl_c_marks; replace hl_c_marks : List.length c.marks ≤ 9223372036854775807 := hl_c_marks
 refine Kk cok tab22 hnt [] [1,2,3,6] (⟨[(1,.i value),(2,.i p),(3,.ptr 3 0),(6,.ptr 6 0)],[(3,⟨29,.fix (cC c)⟩),(6,⟨29,.fix [.v (.slice none 0 0),.v (.slice none 0 0),.i (0 : Int),.i (0 : Int),.i (0 : Int),.v (.slice none 0 0)]⟩)],[6,3,999]⟩)
  (True ∧ True ∧ True ∧ True)
  ⟨tt,tt,tt,tt⟩ ?_
 refine W.seq ?_
 refine Kk cok tab22 hnt [] [1,2,3,6,25] (⟨[(1,.i value),(2,.i p),(3,.ptr 3 0),(6,.ptr 6 0),(25,.b (((!(validCopy c)) || (!(within value (0 : Int) (3 : Int)))) || (!(within p (0 : Int) (2 : Int)))))],[(3,⟨29,.fix (cC c)⟩),(6,⟨29,.fix [.v (.slice none 0 0),.v (.slice none 0 0),.i (0 : Int),.i (0 : Int),.i (0 : Int),.v (.slice none 0 0)]⟩)],[6,3,999]⟩)
  ((fun (Z1:Bool)=>((fun (Z2:Bool)=>(True ∧ ((True ∧ (((True ∧ (True ∧ (True ∧ (True ∧ (True ∧ (True ∧ (True ∧ True))))))) ∧ True) ∧ True)) ∧ (True ∧ (True ∧ (((!Z1) = true → True) ∧ (((!Z1) = true → (True ∧ (((((!Z1) = true) ∧ True) ∧ (True ∧ (True ∧ True))) ∧ True))) ∧ (((!Z1) = true → (((!Z1) = true) ∧ True)) ∧ ((True ∧ ((Z1 = true → True) ∧ (Z1 = false → ((!Z1) = true) ∧ True))) ∧ (True ∧ (((!Z2) = true → True) ∧ (((!Z2) = true → (True ∧ (((((!Z2) = true) ∧ True) ∧ (True ∧ (True ∧ True))) ∧ True))) ∧ (((!Z2) = true → (((!Z2) = true) ∧ True)) ∧ ((True ∧ ((Z2 = true → True) ∧ (Z2 = false → ((!Z2) = true) ∧ True))) ∧ True)))))))))))))) (Z1 || (!(within value (0 : Int) (3 : Int)))))) (!(validCopy c)))
  ⟨tt,⟨tt,⟨⟨tt,tt,tt,tt,tt,tt,tt,tt⟩,tt⟩,tt⟩,tt,tt,(fun _ => trivial),(fun hG => ⟨tt,⟨⟨hG,tt⟩,tt,tt,tt⟩,tt⟩),(fun hG => ⟨hG,tt⟩),⟨tt,(fun _ => trivial),(fun hp => ⟨(not_t hp),tt⟩)⟩,tt,(fun _ => trivial),(fun hG => ⟨tt,⟨⟨hG,tt⟩,tt,tt,tt⟩,tt⟩),(fun hG => ⟨hG,tt⟩),⟨tt,(fun _ => trivial),(fun hp => ⟨(not_t hp),tt⟩)⟩,tt⟩ ?_
 refine W.if' (((!(validCopy c)) || (!(within value (0 : Int) (3 : Int)))) || (!(within p (0 : Int) (2 : Int)))) (.b (((!(validCopy c)) || (!(within value (0 : Int) (3 : Int)))) || (!(within p (0 : Int) (2 : Int))))) (by kernel_rfl) rfl trivial ?_ ?_
 ·intro h25
  refine Kk cok tab22 hnt [] [6,7] (⟨[(6,.ptr 6 0),(7,.b false)],[(3,⟨29,.fix (cC c)⟩),(6,⟨29,.fix [.v (.slice none 0 0),.v (.slice none 0 0),.i (0 : Int),.i (0 : Int),.i (0 : Int),.v (.slice none 0 0)]⟩)],[6,3,999]⟩)
   (True ∧ (True ∧ True) ∧ True ∧ True)
   ⟨tt,⟨tt,tt⟩,tt,tt⟩ ?_
  refine W.nilCell 6 821 0 29 3 (.ints ([] : List Int)) [.v (.slice none 0 0),.v (.slice none 0 0),.i (0 : Int),.i (0 : Int),.i (0 : Int),.v (.slice none 0 0)] (⟨[(6,.ptr 6 0),(7,.b false)],[(3,⟨29,.fix (cC c)⟩),(6,⟨29,.fix [.own 821 0,.v (.slice none 0 0),.i (0 : Int),.i (0 : Int),.i (0 : Int),.v (.slice none 0 0)]⟩),(821,⟨3,.row (.ints ([] : List Int))⟩)],[821,6,3,999]⟩) (by kernel_rfl) rfl rfl (by kernel_rfl) (by kernel_rfl) ?_
  refine W.nilCell 6 822 1 29 3 (.ints ([] : List Int)) [.own 821 0,.v (.slice none 0 0),.i (0 : Int),.i (0 : Int),.i (0 : Int),.v (.slice none 0 0)] (⟨[(6,.ptr 6 0),(7,.b false)],[(3,⟨29,.fix (cC c)⟩),(6,⟨29,.fix [.own 821 0,.own 822 0,.i (0 : Int),.i (0 : Int),.i (0 : Int),.v (.slice none 0 0)]⟩),(821,⟨3,.row (.ints ([] : List Int))⟩),(822,⟨3,.row (.ints ([] : List Int))⟩)],[822,821,6,3,999]⟩) (by kernel_rfl) rfl rfl (by kernel_rfl) (by kernel_rfl) ?_
  refine W.nilCell 6 826 5 29 50 (.marks ([] : List MarkD)) [.own 821 0,.own 822 0,.i (0 : Int),.i (0 : Int),.i (0 : Int),.v (.slice none 0 0)] (⟨[(6,.ptr 6 0),(7,.b false)],[(3,⟨29,.fix (cC c)⟩),(6,⟨29,.fix [.own 821 0,.own 822 0,.i (0 : Int),.i (0 : Int),.i (0 : Int),.own 826 0]⟩),(821,⟨3,.row (.ints ([] : List Int))⟩),(822,⟨3,.row (.ints ([] : List Int))⟩),(826,⟨50,.row (.marks ([] : List MarkD))⟩)],[826,822,821,6,3,999]⟩) (by kernel_rfl) rfl rfl (by kernel_rfl) (by kernel_rfl) ?_
  refine W.ret (thenQ_ret ?_)
  exact endQ_rows [(0,821),(1,822),(2,826)] (.tup [.agg [.own 821 0,.own 822 0,.i (0 : Int),.i (0 : Int),.i (0 : Int),.own 826 0],.b false]) (by kernel_rfl) (@cast (((((821 : Nat) = 821) ∧ (0 = (List.length ((putIn c value p).1.up))) ∧ ((0 : Nat) ∈ ([0,1,2] : List Nat))) ∧ (((822 : Nat) = 822) ∧ (0 = (List.length ((putIn c value p).1.down))) ∧ ((1 : Nat) ∈ ([0,1,2] : List Nat))) ∧ ((.int .i64 (0 : Int) : Value) = .int .i64 ((putIn c value p).1.value)) ∧ ((.int .i64 (0 : Int) : Value) = .int .i64 ((putIn c value p).1.time)) ∧ ((.int .i64 (0 : Int) : Value) = .int .i64 ((putIn c value p).1.proc)) ∧ (((826 : Nat) = 826) ∧ (0 = (List.length ((putIn c value p).1.marks))) ∧ ((2 : Nat) ∈ ([0,1,2] : List Nat))) ∧ True) ∧ ((.bool false : Value) = .bool ((putIn c value p).2)) ∧ True) _ (by kernel_rfl) ⟨⟨⟨rfl,(by first | rfl | omega | assumption | (symm; assumption) | (exact congrArg List.length (by rw [pi_no (gen_bad2 h25)] <;> rfl)) | (rw [pi_no (gen_bad2 h25)] <;> rfl; done) | simp | simp_all),(by decide)⟩,⟨rfl,(by first | rfl | omega | assumption | (symm; assumption) | (exact congrArg List.length (by rw [pi_no (gen_bad2 h25)] <;> rfl)) | (rw [pi_no (gen_bad2 h25)] <;> rfl; done) | simp | simp_all),(by decide)⟩,(congrArg (Value.int .i64) (by first | rfl | omega | assumption | (rw [pi_no (gen_bad2 h25)] <;> rfl; done) | simp | simp_all)),(congrArg (Value.int .i64) (by first | rfl | omega | assumption | (rw [pi_no (gen_bad2 h25)] <;> rfl; done) | simp | simp_all)),(congrArg (Value.int .i64) (by first | rfl | omega | assumption | (rw [pi_no (gen_bad2 h25)] <;> rfl; done) | simp | simp_all)),⟨rfl,(by first | rfl | omega | assumption | (symm; assumption) | (exact congrArg List.length (by rw [pi_no (gen_bad2 h25)] <;> rfl)) | (rw [pi_no (gen_bad2 h25)] <;> rfl; done) | simp | simp_all),(by decide)⟩,tt⟩,(congrArg Value.bool (by first | rfl | omega | assumption | (rw [pi_no (gen_bad2 h25)] <;> rfl; done) | simp | simp_all)),tt⟩) (@cast ((((3 : Nat) = 3) ∧ ((.ints ([] : List Int) : Dat) = .ints ((putIn c value p).1.up)) ∧ ((0 : Nat) ∈ ([0,1,2] : List Nat))) ∧ (((3 : Nat) = 3) ∧ ((.ints ([] : List Int) : Dat) = .ints ((putIn c value p).1.down)) ∧ ((1 : Nat) ∈ ([0,1,2] : List Nat))) ∧ (((50 : Nat) = 50) ∧ ((.marks ([] : List MarkD) : Dat) = .marks ((putIn c value p).1.marks)) ∧ ((2 : Nat) ∈ ([0,1,2] : List Nat))) ∧ True) _ (by kernel_rfl) ⟨⟨rfl,(congrArg Dat.ints (by rw [pi_no (gen_bad2 h25)] <;> rfl)),(by decide)⟩,⟨rfl,(congrArg Dat.ints (by rw [pi_no (gen_bad2 h25)] <;> rfl)),(by decide)⟩,⟨rfl,(congrArg Dat.marks (by rw [pi_no (gen_bad2 h25)] <;> rfl)),(by decide)⟩,tt⟩) (by kernel_rfl)
 ·intro n25
  have hb := gen_ok2 n25
  have hg : putGood c p = true := pi_good hb
  have hmm := (copy_iff.1 (and_l (and_l hb))).2.2.2.1
  have hf := put_facts hg
  have hvl := inRange_iff.1 (and_r (and_l hb))
  refine W.skip (thenQ_normal ?_)
  refine Kk cok tab22 hnt [] [1,2,3,6,8,9,10] (⟨[(1,.i value),(2,.i p),(3,.ptr 3 0),(6,.ptr 6 0),(8,.ptr 8 0),(9,.i (0 : Int)),(10,.i (1 : Int))],[(3,⟨29,.fix (cC c)⟩),(6,⟨29,.fix [.v (.slice none 0 0),.v (.slice none 0 0),.i (0 : Int),.i (0 : Int),.i (0 : Int),.v (.slice none 0 0)]⟩),(8,⟨29,.fix [.own 28 (List.length c.up),.own 1028 (List.length c.down),.i c.value,.i c.time,.i c.proc,.own 2028 (List.length c.marks)]⟩),(28,⟨3,.row (.ints c.up)⟩),(1028,⟨3,.row (.ints c.down)⟩),(2028,⟨50,.row (.marks c.marks)⟩)],[8,2028,1028,28,6,3,999]⟩)
   (True ∧ (True ∧ ((True ∧ True ∧ True ∧ True ∧ True ∧ True ∧ True ∧ True) ∧ True) ∧ c.up.length ≤ 1000 ∧ c.down.length ≤ 1000 ∧ c.marks.length ≤ 1000) ∧ True ∧ (True ∧ True) ∧ True ∧ True ∧ True)
   ⟨tt,⟨tt,⟨⟨tt,tt,tt,tt,tt,tt,tt,tt⟩,tt⟩,(by omega)⟩,tt,⟨tt,tt⟩,tt,tt,tt⟩ ?_
  refine W.seq ?_
  refine Kk cok tab22 hnt [] [1,2,6,8,9,10,30,31,32] (⟨[(1,.i value),(2,.i p),(6,.ptr 6 0),(8,.ptr 8 0),(9,.i (0 : Int)),(10,.i (1 : Int)),(30,.sl (.marks c.marks)),(31,.i (((List.length c.marks) : Nat) : Int)),(32,.i (0 : Int))],[(3,⟨29,.fix (cC c)⟩),(6,⟨29,.fix [.v (.slice none 0 0),.v (.slice none 0 0),.i (0 : Int),.i (0 : Int),.i (0 : Int),.v (.slice none 0 0)]⟩),(8,⟨29,.fix [.own 28 (List.length c.up),.own 1028 (List.length c.down),.i c.value,.i c.time,.i c.proc,.own 2028 (List.length c.marks)]⟩),(28,⟨3,.row (.ints c.up)⟩),(1028,⟨3,.row (.ints c.down)⟩),(2028,⟨50,.row (.marks c.marks)⟩)],[8,2028,1028,28,6,3,999]⟩)
   (True ∧ True ∧ True ∧ True ∧ True)
   ⟨tt,tt,tt,tt,tt⟩ ?_
  refine W.block ?_
  refine W.loop (ι := Nat × Int × Int) (fun (x : Nat × Int × Int) => match x with | (k,aat,num) => (⟨[(1,.i value),(2,.i p),(6,.ptr 6 0),(8,.ptr 8 0),(9,.i aat),(10,.i num),(30,.sl (.marks c.marks)),(31,.i (((List.length c.marks) : Nat) : Int)),(32,.i ((k : Nat) : Int))],[(6,⟨29,.fix [.v (.slice none 0 0),.v (.slice none 0 0),.i (0 : Int),.i (0 : Int),.i (0 : Int),.v (.slice none 0 0)]⟩),(8,⟨29,.fix [.own 28 (List.length c.up),.own 1028 (List.length c.down),.i c.value,.i c.time,.i c.proc,.own 2028 (List.length c.marks)]⟩),(28,⟨3,.row (.ints c.up)⟩),(1028,⟨3,.row (.ints c.down)⟩),(2028,⟨50,.row (.marks c.marks)⟩)],[6,8,28,999,1028,2028]⟩ : St))
   (fun (x : Nat × Int × Int) => match x with | (k,aat,num) => (k ≤ c.marks.length) ∧ (aat = atN c.marks p k) ∧ (num = numN c.marks p k))
   (fun (x : Nat × Int × Int) => match x with | (k,aat,num) => (c.marks.length - k : Nat)) (0,(0 : Int),(1 : Int)) ?_ ?_ ?_
  ·exact (show (0 ≤ c.marks.length) ∧ ((0 : Int) = atN c.marks p 0) ∧ ((1 : Int) = numN c.marks p 0) from ⟨(by first | assumption | omega | rfl | (intro _ hjj; omega) | (simp; done) | (simp; omega)),(by rfl),(by rfl)⟩)
  ·exact Sub.of [] (@cast (((Si value) ∧ (Si p) ∧ (((6 : Nat) = 6) ∧ ((0 : Nat) = 0) ∧ ((6 : Nat) ∈ ([6,8,28,999,1028,2028] : List Nat))) ∧ (((8 : Nat) = 8) ∧ ((0 : Nat) = 0) ∧ ((8 : Nat) ∈ ([6,8,28,999,1028,2028] : List Nat))) ∧ (Si (0 : Int)) ∧ (Si (1 : Int)) ∧ (Sd (.marks c.marks)) ∧ (Si (((List.length c.marks) : Nat) : Int)) ∧ ((.int .i64 (0 : Int) : Value) = .int .i64 ((0 : Nat) : Int)) ∧ True) ∧ ((((29 : Nat) = 29) ∧ ((((.slice none 0 0) : Value) = (.slice none 0 0)) ∧ (((.slice none 0 0) : Value) = (.slice none 0 0)) ∧ (Si (0 : Int)) ∧ (Si (0 : Int)) ∧ (Si (0 : Int)) ∧ (((.slice none 0 0) : Value) = (.slice none 0 0)) ∧ True) ∧ ((6 : Nat) ∈ ([6,8,28,999,1028,2028] : List Nat))) ∧ (((29 : Nat) = 29) ∧ ((((28 : Nat) = 28) ∧ ((List.length c.up) = (List.length c.up)) ∧ ((28 : Nat) ∈ ([6,8,28,999,1028,2028] : List Nat))) ∧ (((1028 : Nat) = 1028) ∧ ((List.length c.down) = (List.length c.down)) ∧ ((1028 : Nat) ∈ ([6,8,28,999,1028,2028] : List Nat))) ∧ (Si c.value) ∧ (Si c.time) ∧ (Si c.proc) ∧ (((2028 : Nat) = 2028) ∧ ((List.length c.marks) = (List.length c.marks)) ∧ ((2028 : Nat) ∈ ([6,8,28,999,1028,2028] : List Nat))) ∧ True) ∧ ((8 : Nat) ∈ ([6,8,28,999,1028,2028] : List Nat))) ∧ (((3 : Nat) = 3) ∧ (Sd (.ints c.up)) ∧ ((28 : Nat) ∈ ([6,8,28,999,1028,2028] : List Nat))) ∧ (((3 : Nat) = 3) ∧ (Sd (.ints c.down)) ∧ ((1028 : Nat) ∈ ([6,8,28,999,1028,2028] : List Nat))) ∧ (((50 : Nat) = 50) ∧ (Sd (.marks c.marks)) ∧ ((2028 : Nat) ∈ ([6,8,28,999,1028,2028] : List Nat))) ∧ True) ∧ (true = true) ∧ (true = true)) _ (by kernel_rfl) ⟨⟨rfl,rfl,⟨rfl,rfl,(by decide)⟩,⟨rfl,rfl,(by decide)⟩,rfl,rfl,rfl,rfl,(congrArg (Value.int .i64) (by first | rfl | omega | assumption | simp | simp_all)),tt⟩,⟨⟨rfl,⟨rfl,rfl,rfl,rfl,rfl,rfl,tt⟩,(by decide)⟩,⟨rfl,⟨⟨rfl,rfl,(by decide)⟩,⟨rfl,rfl,(by decide)⟩,rfl,rfl,rfl,⟨rfl,rfl,(by decide)⟩,tt⟩,(by decide)⟩,⟨rfl,rfl,(by decide)⟩,⟨rfl,rfl,(by decide)⟩,⟨rfl,rfl,(by decide)⟩,tt⟩,rfl,rfl⟩)
  ·rintro ⟨k,aat,num⟩ hC0
   have hC : (k ≤ c.marks.length) ∧ (aat = atN c.marks p k) ∧ (num = numN c.marks p k) := hC0
   clear hC0
   obtain ⟨hk,hat,hnum⟩ := hC
   refine W.to (⟨[(1,.i value),(2,.i p),(6,.ptr 6 0),(8,.ptr 8 0),(9,.i aat),(10,.i num),(30,.sl (.marks c.marks)),(31,.i (((List.length c.marks) : Nat) : Int)),(32,.i ((k : Nat) : Int))],[(6,⟨29,.fix [.v (.slice none 0 0),.v (.slice none 0 0),.i (0 : Int),.i (0 : Int),.i (0 : Int),.v (.slice none 0 0)]⟩),(8,⟨29,.fix [.own 28 (List.length c.up),.own 1028 (List.length c.down),.i c.value,.i c.time,.i c.proc,.own 2028 (List.length c.marks)]⟩),(28,⟨3,.row (.ints c.up)⟩),(1028,⟨3,.row (.ints c.down)⟩),(2028,⟨50,.row (.marks c.marks)⟩)],[6,8,28,999,1028,2028]⟩) rfl ?_
   have hab := atN_bnd c.marks p k
   rw [← hat] at hab
   have hmk := fun (hk : k < c.marks.length) => isMark_iff.1 (mark_at hmm hk).1
   refine Kk cok tab22 hnt [] [1,2,6,8,9,10,30,31,32,33] (⟨[(1,.i value),(2,.i p),(6,.ptr 6 0),(8,.ptr 8 0),(9,.i aat),(10,.i num),(30,.sl (.marks c.marks)),(31,.i (((List.length c.marks) : Nat) : Int)),(32,.i ((k : Nat) : Int)),(33,.b (decide (((k : Nat) : Int) < (((List.length c.marks) : Nat) : Int))))],[(6,⟨29,.fix [.v (.slice none 0 0),.v (.slice none 0 0),.i (0 : Int),.i (0 : Int),.i (0 : Int),.v (.slice none 0 0)]⟩),(8,⟨29,.fix [.own 28 (List.length c.up),.own 1028 (List.length c.down),.i c.value,.i c.time,.i c.proc,.own 2028 (List.length c.marks)]⟩),(28,⟨3,.row (.ints c.up)⟩),(1028,⟨3,.row (.ints c.down)⟩),(2028,⟨50,.row (.marks c.marks)⟩)],[6,8,28,999,1028,2028]⟩)
    ((True ∧ True ∧ True) ∧ True)
    ⟨⟨tt,tt,tt⟩,tt⟩ ?_
   refine W.seq ?_
   refine W.ifP (((k : Nat) : Int) < (((List.length c.marks) : Nat) : Int)) (.b (decide (((k : Nat) : Int) < (((List.length c.marks) : Nat) : Int)))) (by kernel_rfl) rfl trivial ?_ ?_
   ·intro h33
    refine W.skip (thenQ_normal ?_)
    refine W.seq ?_
    refine W.block ?_
    refine Kk cok tab22 hnt [] [1,2,6,8,9,10,11,12,30,31,32] (⟨[(1,.i value),(2,.i p),(6,.ptr 6 0),(8,.ptr 8 0),(9,.i aat),(10,.i num),(11,.i ((k : Nat) : Int)),(12,.ptr 12 0),(30,.sl (.marks c.marks)),(31,.i (((List.length c.marks) : Nat) : Int)),(32,.i ((k : Nat) : Int))],[(6,⟨29,.fix [.v (.slice none 0 0),.v (.slice none 0 0),.i (0 : Int),.i (0 : Int),.i (0 : Int),.v (.slice none 0 0)]⟩),(8,⟨29,.fix [.own 28 (List.length c.up),.own 1028 (List.length c.down),.i c.value,.i c.time,.i c.proc,.own 2028 (List.length c.marks)]⟩),(12,⟨50,.fix [.i ((List.getD c.marks k default).value),.i ((List.getD c.marks k default).proc),.i ((List.getD c.marks k default).number),.b ((List.getD c.marks k default).gone)]⟩),(28,⟨3,.row (.ints c.up)⟩),(1028,⟨3,.row (.ints c.down)⟩),(2028,⟨50,.row (.marks c.marks)⟩)],[12,6,8,28,999,1028,2028]⟩)
     (True ∧ (True ∧ True ∧ (0 ≤ ((k : Nat) : Int)) ∧ (((k : Nat) : Int) < (((List.length c.marks) : Nat) : Int))) ∧ True ∧ True ∧ True ∧ (True ∧ True) ∧ True)
     ⟨tt,⟨tt,tt,(by omega),(by omega)⟩,tt,tt,tt,⟨tt,tt⟩,tt⟩ ?_
    refine W.seq ?_
    refine Kk cok tab22 hnt [] [1,2,6,8,9,10,11,12,30,31,32,40] (⟨[(1,.i value),(2,.i p),(6,.ptr 6 0),(8,.ptr 8 0),(9,.i aat),(10,.i num),(11,.i ((k : Nat) : Int)),(12,.ptr 12 0),(30,.sl (.marks c.marks)),(31,.i (((List.length c.marks) : Nat) : Int)),(32,.i ((k : Nat) : Int)),(40,.b (decide (((List.getD c.marks k default).proc) ≤ p)))],[(6,⟨29,.fix [.v (.slice none 0 0),.v (.slice none 0 0),.i (0 : Int),.i (0 : Int),.i (0 : Int),.v (.slice none 0 0)]⟩),(8,⟨29,.fix [.own 28 (List.length c.up),.own 1028 (List.length c.down),.i c.value,.i c.time,.i c.proc,.own 2028 (List.length c.marks)]⟩),(12,⟨50,.fix [.i ((List.getD c.marks k default).value),.i ((List.getD c.marks k default).proc),.i ((List.getD c.marks k default).number),.b ((List.getD c.marks k default).gone)]⟩),(28,⟨3,.row (.ints c.up)⟩),(1028,⟨3,.row (.ints c.down)⟩),(2028,⟨50,.row (.marks c.marks)⟩)],[12,6,8,28,999,1028,2028]⟩)
     (True ∧ True ∧ True ∧ (True ∧ True ∧ True) ∧ True)
     ⟨tt,tt,tt,⟨tt,tt,tt⟩,tt⟩ ?_
    refine W.ifP (((List.getD c.marks k default).proc) ≤ p) (.b (decide (((List.getD c.marks k default).proc) ≤ p))) (by kernel_rfl) rfl trivial ?_ ?_
    ·intro h40
     refine Lk cok tab22 hnt [] (⟨[(1,.i value),(2,.i p),(6,.ptr 6 0),(8,.ptr 8 0),(9,.i (((k + 1) : Nat) : Int)),(10,.i num),(11,.i ((k : Nat) : Int)),(12,.ptr 12 0),(30,.sl (.marks c.marks)),(31,.i (((List.length c.marks) : Nat) : Int)),(32,.i ((k : Nat) : Int)),(40,.b (decide (((List.getD c.marks k default).proc) ≤ p))),(41,.i ((k : Nat) : Int)),(42,.i (((k + 1) : Nat) : Int))],[(6,⟨29,.fix [.v (.slice none 0 0),.v (.slice none 0 0),.i (0 : Int),.i (0 : Int),.i (0 : Int),.v (.slice none 0 0)]⟩),(8,⟨29,.fix [.own 28 (List.length c.up),.own 1028 (List.length c.down),.i c.value,.i c.time,.i c.proc,.own 2028 (List.length c.marks)]⟩),(12,⟨50,.fix [.i ((List.getD c.marks k default).value),.i ((List.getD c.marks k default).proc),.i ((List.getD c.marks k default).number),.b ((List.getD c.marks k default).gone)]⟩),(28,⟨3,.row (.ints c.up)⟩),(1028,⟨3,.row (.ints c.down)⟩),(2028,⟨50,.row (.marks c.marks)⟩)],[12,6,8,28,999,1028,2028]⟩)
      (True ∧ (True ∧ True ∧ (Fits .i64 (((k + 1) : Nat) : Int))) ∧ True ∧ True)
      ⟨tt,⟨tt,tt,(by exact fits_i64 (by omega) (by omega))⟩,tt,tt⟩ ?_
     refine thenQ_normal ?_
     refine Kk cok tab22 hnt [] [1,2,6,8,9,10,12,30,31,32,46] (⟨[(1,.i value),(2,.i p),(6,.ptr 6 0),(8,.ptr 8 0),(9,.i (((k + 1) : Nat) : Int)),(10,.i num),(12,.ptr 12 0),(30,.sl (.marks c.marks)),(31,.i (((List.length c.marks) : Nat) : Int)),(32,.i ((k : Nat) : Int)),(46,.b (decide (((List.getD c.marks k default).proc) = p)))],[(6,⟨29,.fix [.v (.slice none 0 0),.v (.slice none 0 0),.i (0 : Int),.i (0 : Int),.i (0 : Int),.v (.slice none 0 0)]⟩),(8,⟨29,.fix [.own 28 (List.length c.up),.own 1028 (List.length c.down),.i c.value,.i c.time,.i c.proc,.own 2028 (List.length c.marks)]⟩),(12,⟨50,.fix [.i ((List.getD c.marks k default).value),.i ((List.getD c.marks k default).proc),.i ((List.getD c.marks k default).number),.b ((List.getD c.marks k default).gone)]⟩),(28,⟨3,.row (.ints c.up)⟩),(1028,⟨3,.row (.ints c.down)⟩),(2028,⟨50,.row (.marks c.marks)⟩)],[12,6,8,28,999,1028,2028]⟩)
      (True ∧ True ∧ True ∧ (True ∧ True ∧ True) ∧ True)
      ⟨tt,tt,tt,⟨tt,tt,tt⟩,tt⟩ ?_
     refine W.ifP (((List.getD c.marks k default).proc) = p) (.b (decide (((List.getD c.marks k default).proc) = p))) (by kernel_rfl) rfl trivial ?_ ?_
     ·intro h46
      refine Lk cok tab22 hnt [] (⟨[(1,.i value),(2,.i p),(6,.ptr 6 0),(8,.ptr 8 0),(9,.i (((k + 1) : Nat) : Int)),(10,.i (((List.getD c.marks k default).number) + (1 : Int))),(12,.ptr 12 0),(30,.sl (.marks c.marks)),(31,.i (((List.length c.marks) : Nat) : Int)),(32,.i ((k : Nat) : Int)),(46,.b (decide (((List.getD c.marks k default).proc) = p))),(47,.ptr 12 2),(48,.i ((List.getD c.marks k default).number)),(49,.i (((List.getD c.marks k default).number) + (1 : Int)))],[(6,⟨29,.fix [.v (.slice none 0 0),.v (.slice none 0 0),.i (0 : Int),.i (0 : Int),.i (0 : Int),.v (.slice none 0 0)]⟩),(8,⟨29,.fix [.own 28 (List.length c.up),.own 1028 (List.length c.down),.i c.value,.i c.time,.i c.proc,.own 2028 (List.length c.marks)]⟩),(12,⟨50,.fix [.i ((List.getD c.marks k default).value),.i ((List.getD c.marks k default).proc),.i ((List.getD c.marks k default).number),.b ((List.getD c.marks k default).gone)]⟩),(28,⟨3,.row (.ints c.up)⟩),(1028,⟨3,.row (.ints c.down)⟩),(2028,⟨50,.row (.marks c.marks)⟩)],[12,6,8,28,999,1028,2028]⟩)
       (True ∧ True ∧ (True ∧ True ∧ (Fits .i64 (((List.getD c.marks k default).number) + (1 : Int)))) ∧ True ∧ True)
       ⟨tt,tt,⟨tt,tt,(by exact fits_i64 (by (first | omega | (simp only [List.length_set]; done) | (simp only [List.length_append,List.length_cons,List.length_nil,List.length_take,List.length_drop,List.length_set,List.length_replicate,List.length_map] at *; omega) | assumption)) (by (first | omega | (simp only [List.length_set]; done) | (simp only [List.length_append,List.length_cons,List.length_nil,List.length_take,List.length_drop,List.length_set,List.length_replicate,List.length_map] at *; omega) | assumption)))⟩,tt,tt⟩ ?_
      refine blockQ_normal (thenQ_normal ?_)
      refine Lk cok tab22 hnt [] (⟨[(1,.i value),(2,.i p),(6,.ptr 6 0),(8,.ptr 8 0),(9,.i (((k + 1) : Nat) : Int)),(10,.i (((List.getD c.marks k default).number) + (1 : Int))),(12,.ptr 12 0),(30,.sl (.marks c.marks)),(31,.i (((List.length c.marks) : Nat) : Int)),(32,.i (((k + 1) : Nat) : Int)),(46,.b (decide (((List.getD c.marks k default).proc) = p))),(47,.ptr 12 2),(48,.i ((List.getD c.marks k default).number)),(49,.i (((List.getD c.marks k default).number) + (1 : Int))),(50,.i (((k + 1) : Nat) : Int))],[(6,⟨29,.fix [.v (.slice none 0 0),.v (.slice none 0 0),.i (0 : Int),.i (0 : Int),.i (0 : Int),.v (.slice none 0 0)]⟩),(8,⟨29,.fix [.own 28 (List.length c.up),.own 1028 (List.length c.down),.i c.value,.i c.time,.i c.proc,.own 2028 (List.length c.marks)]⟩),(12,⟨50,.fix [.i ((List.getD c.marks k default).value),.i ((List.getD c.marks k default).proc),.i ((List.getD c.marks k default).number),.b ((List.getD c.marks k default).gone)]⟩),(28,⟨3,.row (.ints c.up)⟩),(1028,⟨3,.row (.ints c.down)⟩),(2028,⟨50,.row (.marks c.marks)⟩)],[12,6,8,28,999,1028,2028]⟩)
       ((True ∧ True ∧ (Fits .i64 (((k + 1) : Nat) : Int))) ∧ True ∧ True)
       ⟨⟨tt,tt,(by exact fits_i64 (by omega) (by omega))⟩,tt,tt⟩ ?_
      refine thenQ_normal ?_
      refine ⟨((k + 1),(((k + 1) : Nat) : Int),(((List.getD c.marks k default).number) + (1 : Int))),(show ((k + 1) ≤ c.marks.length) ∧ ((((k + 1) : Nat) : Int) = atN c.marks p (k + 1)) ∧ ((((List.getD c.marks k default).number) + (1 : Int)) = numN c.marks p (k + 1)) from ⟨(by first | assumption | omega | rfl | (intro _ hjj; omega) | (simp; done) | (simp; omega)),(by first | exact at_yes hat h40 | exact at_no hat n40),(by first | exact num_yes h46 | exact num_no hnum n46)⟩),(show c.marks.length - (k + 1) < c.marks.length - k from (by first | omega | (simp_all; omega))),?_⟩
      exact Sub.of [] (@cast (((Si value) ∧ (Si p) ∧ (((6 : Nat) = 6) ∧ ((0 : Nat) = 0) ∧ ((6 : Nat) ∈ ([6,8,28,999,1028,2028] : List Nat))) ∧ (((8 : Nat) = 8) ∧ ((0 : Nat) = 0) ∧ ((8 : Nat) ∈ ([6,8,28,999,1028,2028] : List Nat))) ∧ (Si (((k + 1) : Nat) : Int)) ∧ (Si (((List.getD c.marks k default).number) + (1 : Int))) ∧ (Sd (.marks c.marks)) ∧ (Si (((List.length c.marks) : Nat) : Int)) ∧ (Si (((k + 1) : Nat) : Int)) ∧ True) ∧ ((((29 : Nat) = 29) ∧ ((((.slice none 0 0) : Value) = (.slice none 0 0)) ∧ (((.slice none 0 0) : Value) = (.slice none 0 0)) ∧ (Si (0 : Int)) ∧ (Si (0 : Int)) ∧ (Si (0 : Int)) ∧ (((.slice none 0 0) : Value) = (.slice none 0 0)) ∧ True) ∧ ((6 : Nat) ∈ ([6,8,28,999,1028,2028] : List Nat))) ∧ (((29 : Nat) = 29) ∧ ((((28 : Nat) = 28) ∧ ((List.length c.up) = (List.length c.up)) ∧ ((28 : Nat) ∈ ([6,8,28,999,1028,2028] : List Nat))) ∧ (((1028 : Nat) = 1028) ∧ ((List.length c.down) = (List.length c.down)) ∧ ((1028 : Nat) ∈ ([6,8,28,999,1028,2028] : List Nat))) ∧ (Si c.value) ∧ (Si c.time) ∧ (Si c.proc) ∧ (((2028 : Nat) = 2028) ∧ ((List.length c.marks) = (List.length c.marks)) ∧ ((2028 : Nat) ∈ ([6,8,28,999,1028,2028] : List Nat))) ∧ True) ∧ ((8 : Nat) ∈ ([6,8,28,999,1028,2028] : List Nat))) ∧ (((3 : Nat) = 3) ∧ (Sd (.ints c.up)) ∧ ((28 : Nat) ∈ ([6,8,28,999,1028,2028] : List Nat))) ∧ (((3 : Nat) = 3) ∧ (Sd (.ints c.down)) ∧ ((1028 : Nat) ∈ ([6,8,28,999,1028,2028] : List Nat))) ∧ (((50 : Nat) = 50) ∧ (Sd (.marks c.marks)) ∧ ((2028 : Nat) ∈ ([6,8,28,999,1028,2028] : List Nat))) ∧ True) ∧ (true = true) ∧ (true = true)) _ (by kernel_rfl) ⟨⟨rfl,rfl,⟨rfl,rfl,(by decide)⟩,⟨rfl,rfl,(by decide)⟩,rfl,rfl,rfl,rfl,rfl,tt⟩,⟨⟨rfl,⟨rfl,rfl,rfl,rfl,rfl,rfl,tt⟩,(by decide)⟩,⟨rfl,⟨⟨rfl,rfl,(by decide)⟩,⟨rfl,rfl,(by decide)⟩,rfl,rfl,rfl,⟨rfl,rfl,(by decide)⟩,tt⟩,(by decide)⟩,⟨rfl,rfl,(by decide)⟩,⟨rfl,rfl,(by decide)⟩,⟨rfl,rfl,(by decide)⟩,tt⟩,rfl,rfl⟩)
     ·intro n46
      refine W.skip (blockQ_normal (thenQ_normal ?_))
      refine Lk cok tab22 hnt [] (⟨[(1,.i value),(2,.i p),(6,.ptr 6 0),(8,.ptr 8 0),(9,.i (((k + 1) : Nat) : Int)),(10,.i num),(12,.ptr 12 0),(30,.sl (.marks c.marks)),(31,.i (((List.length c.marks) : Nat) : Int)),(32,.i (((k + 1) : Nat) : Int)),(46,.b (decide (((List.getD c.marks k default).proc) = p))),(50,.i (((k + 1) : Nat) : Int))],[(6,⟨29,.fix [.v (.slice none 0 0),.v (.slice none 0 0),.i (0 : Int),.i (0 : Int),.i (0 : Int),.v (.slice none 0 0)]⟩),(8,⟨29,.fix [.own 28 (List.length c.up),.own 1028 (List.length c.down),.i c.value,.i c.time,.i c.proc,.own 2028 (List.length c.marks)]⟩),(12,⟨50,.fix [.i ((List.getD c.marks k default).value),.i ((List.getD c.marks k default).proc),.i ((List.getD c.marks k default).number),.b ((List.getD c.marks k default).gone)]⟩),(28,⟨3,.row (.ints c.up)⟩),(1028,⟨3,.row (.ints c.down)⟩),(2028,⟨50,.row (.marks c.marks)⟩)],[12,6,8,28,999,1028,2028]⟩)
       ((True ∧ True ∧ (Fits .i64 (((k + 1) : Nat) : Int))) ∧ True ∧ True)
       ⟨⟨tt,tt,(by exact fits_i64 (by omega) (by omega))⟩,tt,tt⟩ ?_
      refine thenQ_normal ?_
      refine ⟨((k + 1),(((k + 1) : Nat) : Int),num),(show ((k + 1) ≤ c.marks.length) ∧ ((((k + 1) : Nat) : Int) = atN c.marks p (k + 1)) ∧ (num = numN c.marks p (k + 1)) from ⟨(by first | assumption | omega | rfl | (intro _ hjj; omega) | (simp; done) | (simp; omega)),(by first | exact at_yes hat h40 | exact at_no hat n40),(by first | exact num_yes h46 | exact num_no hnum n46)⟩),(show c.marks.length - (k + 1) < c.marks.length - k from (by first | omega | (simp_all; omega))),?_⟩
      exact Sub.of [] (@cast (((Si value) ∧ (Si p) ∧ (((6 : Nat) = 6) ∧ ((0 : Nat) = 0) ∧ ((6 : Nat) ∈ ([6,8,28,999,1028,2028] : List Nat))) ∧ (((8 : Nat) = 8) ∧ ((0 : Nat) = 0) ∧ ((8 : Nat) ∈ ([6,8,28,999,1028,2028] : List Nat))) ∧ (Si (((k + 1) : Nat) : Int)) ∧ (Si num) ∧ (Sd (.marks c.marks)) ∧ (Si (((List.length c.marks) : Nat) : Int)) ∧ (Si (((k + 1) : Nat) : Int)) ∧ True) ∧ ((((29 : Nat) = 29) ∧ ((((.slice none 0 0) : Value) = (.slice none 0 0)) ∧ (((.slice none 0 0) : Value) = (.slice none 0 0)) ∧ (Si (0 : Int)) ∧ (Si (0 : Int)) ∧ (Si (0 : Int)) ∧ (((.slice none 0 0) : Value) = (.slice none 0 0)) ∧ True) ∧ ((6 : Nat) ∈ ([6,8,28,999,1028,2028] : List Nat))) ∧ (((29 : Nat) = 29) ∧ ((((28 : Nat) = 28) ∧ ((List.length c.up) = (List.length c.up)) ∧ ((28 : Nat) ∈ ([6,8,28,999,1028,2028] : List Nat))) ∧ (((1028 : Nat) = 1028) ∧ ((List.length c.down) = (List.length c.down)) ∧ ((1028 : Nat) ∈ ([6,8,28,999,1028,2028] : List Nat))) ∧ (Si c.value) ∧ (Si c.time) ∧ (Si c.proc) ∧ (((2028 : Nat) = 2028) ∧ ((List.length c.marks) = (List.length c.marks)) ∧ ((2028 : Nat) ∈ ([6,8,28,999,1028,2028] : List Nat))) ∧ True) ∧ ((8 : Nat) ∈ ([6,8,28,999,1028,2028] : List Nat))) ∧ (((3 : Nat) = 3) ∧ (Sd (.ints c.up)) ∧ ((28 : Nat) ∈ ([6,8,28,999,1028,2028] : List Nat))) ∧ (((3 : Nat) = 3) ∧ (Sd (.ints c.down)) ∧ ((1028 : Nat) ∈ ([6,8,28,999,1028,2028] : List Nat))) ∧ (((50 : Nat) = 50) ∧ (Sd (.marks c.marks)) ∧ ((2028 : Nat) ∈ ([6,8,28,999,1028,2028] : List Nat))) ∧ True) ∧ (true = true) ∧ (true = true)) _ (by kernel_rfl) ⟨⟨rfl,rfl,⟨rfl,rfl,(by decide)⟩,⟨rfl,rfl,(by decide)⟩,rfl,rfl,rfl,rfl,rfl,tt⟩,⟨⟨rfl,⟨rfl,rfl,rfl,rfl,rfl,rfl,tt⟩,(by decide)⟩,⟨rfl,⟨⟨rfl,rfl,(by decide)⟩,⟨rfl,rfl,(by decide)⟩,rfl,rfl,rfl,⟨rfl,rfl,(by decide)⟩,tt⟩,(by decide)⟩,⟨rfl,rfl,(by decide)⟩,⟨rfl,rfl,(by decide)⟩,⟨rfl,rfl,(by decide)⟩,tt⟩,rfl,rfl⟩)
    ·intro n40
     refine W.skip (thenQ_normal ?_)
     refine Kk cok tab22 hnt [] [1,2,6,8,9,10,12,30,31,32,46] (⟨[(1,.i value),(2,.i p),(6,.ptr 6 0),(8,.ptr 8 0),(9,.i aat),(10,.i num),(12,.ptr 12 0),(30,.sl (.marks c.marks)),(31,.i (((List.length c.marks) : Nat) : Int)),(32,.i ((k : Nat) : Int)),(46,.b (decide (((List.getD c.marks k default).proc) = p)))],[(6,⟨29,.fix [.v (.slice none 0 0),.v (.slice none 0 0),.i (0 : Int),.i (0 : Int),.i (0 : Int),.v (.slice none 0 0)]⟩),(8,⟨29,.fix [.own 28 (List.length c.up),.own 1028 (List.length c.down),.i c.value,.i c.time,.i c.proc,.own 2028 (List.length c.marks)]⟩),(12,⟨50,.fix [.i ((List.getD c.marks k default).value),.i ((List.getD c.marks k default).proc),.i ((List.getD c.marks k default).number),.b ((List.getD c.marks k default).gone)]⟩),(28,⟨3,.row (.ints c.up)⟩),(1028,⟨3,.row (.ints c.down)⟩),(2028,⟨50,.row (.marks c.marks)⟩)],[12,6,8,28,999,1028,2028]⟩)
      (True ∧ True ∧ True ∧ (True ∧ True ∧ True) ∧ True)
      ⟨tt,tt,tt,⟨tt,tt,tt⟩,tt⟩ ?_
     refine W.ifP (((List.getD c.marks k default).proc) = p) (.b (decide (((List.getD c.marks k default).proc) = p))) (by kernel_rfl) rfl trivial ?_ ?_
     ·intro h46
      refine Lk cok tab22 hnt [] (⟨[(1,.i value),(2,.i p),(6,.ptr 6 0),(8,.ptr 8 0),(9,.i aat),(10,.i (((List.getD c.marks k default).number) + (1 : Int))),(12,.ptr 12 0),(30,.sl (.marks c.marks)),(31,.i (((List.length c.marks) : Nat) : Int)),(32,.i ((k : Nat) : Int)),(46,.b (decide (((List.getD c.marks k default).proc) = p))),(47,.ptr 12 2),(48,.i ((List.getD c.marks k default).number)),(49,.i (((List.getD c.marks k default).number) + (1 : Int)))],[(6,⟨29,.fix [.v (.slice none 0 0),.v (.slice none 0 0),.i (0 : Int),.i (0 : Int),.i (0 : Int),.v (.slice none 0 0)]⟩),(8,⟨29,.fix [.own 28 (List.length c.up),.own 1028 (List.length c.down),.i c.value,.i c.time,.i c.proc,.own 2028 (List.length c.marks)]⟩),(12,⟨50,.fix [.i ((List.getD c.marks k default).value),.i ((List.getD c.marks k default).proc),.i ((List.getD c.marks k default).number),.b ((List.getD c.marks k default).gone)]⟩),(28,⟨3,.row (.ints c.up)⟩),(1028,⟨3,.row (.ints c.down)⟩),(2028,⟨50,.row (.marks c.marks)⟩)],[12,6,8,28,999,1028,2028]⟩)
       (True ∧ True ∧ (True ∧ True ∧ (Fits .i64 (((List.getD c.marks k default).number) + (1 : Int)))) ∧ True ∧ True)
       ⟨tt,tt,⟨tt,tt,(by exact fits_i64 (by (first | omega | (simp only [List.length_set]; done) | (simp only [List.length_append,List.length_cons,List.length_nil,List.length_take,List.length_drop,List.length_set,List.length_replicate,List.length_map] at *; omega) | assumption)) (by (first | omega | (simp only [List.length_set]; done) | (simp only [List.length_append,List.length_cons,List.length_nil,List.length_take,List.length_drop,List.length_set,List.length_replicate,List.length_map] at *; omega) | assumption)))⟩,tt,tt⟩ ?_
      refine blockQ_normal (thenQ_normal ?_)
      refine Lk cok tab22 hnt [] (⟨[(1,.i value),(2,.i p),(6,.ptr 6 0),(8,.ptr 8 0),(9,.i aat),(10,.i (((List.getD c.marks k default).number) + (1 : Int))),(12,.ptr 12 0),(30,.sl (.marks c.marks)),(31,.i (((List.length c.marks) : Nat) : Int)),(32,.i (((k + 1) : Nat) : Int)),(46,.b (decide (((List.getD c.marks k default).proc) = p))),(47,.ptr 12 2),(48,.i ((List.getD c.marks k default).number)),(49,.i (((List.getD c.marks k default).number) + (1 : Int))),(50,.i (((k + 1) : Nat) : Int))],[(6,⟨29,.fix [.v (.slice none 0 0),.v (.slice none 0 0),.i (0 : Int),.i (0 : Int),.i (0 : Int),.v (.slice none 0 0)]⟩),(8,⟨29,.fix [.own 28 (List.length c.up),.own 1028 (List.length c.down),.i c.value,.i c.time,.i c.proc,.own 2028 (List.length c.marks)]⟩),(12,⟨50,.fix [.i ((List.getD c.marks k default).value),.i ((List.getD c.marks k default).proc),.i ((List.getD c.marks k default).number),.b ((List.getD c.marks k default).gone)]⟩),(28,⟨3,.row (.ints c.up)⟩),(1028,⟨3,.row (.ints c.down)⟩),(2028,⟨50,.row (.marks c.marks)⟩)],[12,6,8,28,999,1028,2028]⟩)
       ((True ∧ True ∧ (Fits .i64 (((k + 1) : Nat) : Int))) ∧ True ∧ True)
       ⟨⟨tt,tt,(by exact fits_i64 (by omega) (by omega))⟩,tt,tt⟩ ?_
      refine thenQ_normal ?_
      refine ⟨((k + 1),aat,(((List.getD c.marks k default).number) + (1 : Int))),(show ((k + 1) ≤ c.marks.length) ∧ (aat = atN c.marks p (k + 1)) ∧ ((((List.getD c.marks k default).number) + (1 : Int)) = numN c.marks p (k + 1)) from ⟨(by first | assumption | omega | rfl | (intro _ hjj; omega) | (simp; done) | (simp; omega)),(by first | exact at_yes hat h40 | exact at_no hat n40),(by first | exact num_yes h46 | exact num_no hnum n46)⟩),(show c.marks.length - (k + 1) < c.marks.length - k from (by first | omega | (simp_all; omega))),?_⟩
      exact Sub.of [] (@cast (((Si value) ∧ (Si p) ∧ (((6 : Nat) = 6) ∧ ((0 : Nat) = 0) ∧ ((6 : Nat) ∈ ([6,8,28,999,1028,2028] : List Nat))) ∧ (((8 : Nat) = 8) ∧ ((0 : Nat) = 0) ∧ ((8 : Nat) ∈ ([6,8,28,999,1028,2028] : List Nat))) ∧ (Si aat) ∧ (Si (((List.getD c.marks k default).number) + (1 : Int))) ∧ (Sd (.marks c.marks)) ∧ (Si (((List.length c.marks) : Nat) : Int)) ∧ (Si (((k + 1) : Nat) : Int)) ∧ True) ∧ ((((29 : Nat) = 29) ∧ ((((.slice none 0 0) : Value) = (.slice none 0 0)) ∧ (((.slice none 0 0) : Value) = (.slice none 0 0)) ∧ (Si (0 : Int)) ∧ (Si (0 : Int)) ∧ (Si (0 : Int)) ∧ (((.slice none 0 0) : Value) = (.slice none 0 0)) ∧ True) ∧ ((6 : Nat) ∈ ([6,8,28,999,1028,2028] : List Nat))) ∧ (((29 : Nat) = 29) ∧ ((((28 : Nat) = 28) ∧ ((List.length c.up) = (List.length c.up)) ∧ ((28 : Nat) ∈ ([6,8,28,999,1028,2028] : List Nat))) ∧ (((1028 : Nat) = 1028) ∧ ((List.length c.down) = (List.length c.down)) ∧ ((1028 : Nat) ∈ ([6,8,28,999,1028,2028] : List Nat))) ∧ (Si c.value) ∧ (Si c.time) ∧ (Si c.proc) ∧ (((2028 : Nat) = 2028) ∧ ((List.length c.marks) = (List.length c.marks)) ∧ ((2028 : Nat) ∈ ([6,8,28,999,1028,2028] : List Nat))) ∧ True) ∧ ((8 : Nat) ∈ ([6,8,28,999,1028,2028] : List Nat))) ∧ (((3 : Nat) = 3) ∧ (Sd (.ints c.up)) ∧ ((28 : Nat) ∈ ([6,8,28,999,1028,2028] : List Nat))) ∧ (((3 : Nat) = 3) ∧ (Sd (.ints c.down)) ∧ ((1028 : Nat) ∈ ([6,8,28,999,1028,2028] : List Nat))) ∧ (((50 : Nat) = 50) ∧ (Sd (.marks c.marks)) ∧ ((2028 : Nat) ∈ ([6,8,28,999,1028,2028] : List Nat))) ∧ True) ∧ (true = true) ∧ (true = true)) _ (by kernel_rfl) ⟨⟨rfl,rfl,⟨rfl,rfl,(by decide)⟩,⟨rfl,rfl,(by decide)⟩,rfl,rfl,rfl,rfl,rfl,tt⟩,⟨⟨rfl,⟨rfl,rfl,rfl,rfl,rfl,rfl,tt⟩,(by decide)⟩,⟨rfl,⟨⟨rfl,rfl,(by decide)⟩,⟨rfl,rfl,(by decide)⟩,rfl,rfl,rfl,⟨rfl,rfl,(by decide)⟩,tt⟩,(by decide)⟩,⟨rfl,rfl,(by decide)⟩,⟨rfl,rfl,(by decide)⟩,⟨rfl,rfl,(by decide)⟩,tt⟩,rfl,rfl⟩)
     ·intro n46
      refine W.skip (blockQ_normal (thenQ_normal ?_))
      refine Lk cok tab22 hnt [] (⟨[(1,.i value),(2,.i p),(6,.ptr 6 0),(8,.ptr 8 0),(9,.i aat),(10,.i num),(12,.ptr 12 0),(30,.sl (.marks c.marks)),(31,.i (((List.length c.marks) : Nat) : Int)),(32,.i (((k + 1) : Nat) : Int)),(46,.b (decide (((List.getD c.marks k default).proc) = p))),(50,.i (((k + 1) : Nat) : Int))],[(6,⟨29,.fix [.v (.slice none 0 0),.v (.slice none 0 0),.i (0 : Int),.i (0 : Int),.i (0 : Int),.v (.slice none 0 0)]⟩),(8,⟨29,.fix [.own 28 (List.length c.up),.own 1028 (List.length c.down),.i c.value,.i c.time,.i c.proc,.own 2028 (List.length c.marks)]⟩),(12,⟨50,.fix [.i ((List.getD c.marks k default).value),.i ((List.getD c.marks k default).proc),.i ((List.getD c.marks k default).number),.b ((List.getD c.marks k default).gone)]⟩),(28,⟨3,.row (.ints c.up)⟩),(1028,⟨3,.row (.ints c.down)⟩),(2028,⟨50,.row (.marks c.marks)⟩)],[12,6,8,28,999,1028,2028]⟩)
       ((True ∧ True ∧ (Fits .i64 (((k + 1) : Nat) : Int))) ∧ True ∧ True)
       ⟨⟨tt,tt,(by exact fits_i64 (by omega) (by omega))⟩,tt,tt⟩ ?_
      refine thenQ_normal ?_
      refine ⟨((k + 1),aat,num),(show ((k + 1) ≤ c.marks.length) ∧ (aat = atN c.marks p (k + 1)) ∧ (num = numN c.marks p (k + 1)) from ⟨(by first | assumption | omega | rfl | (intro _ hjj; omega) | (simp; done) | (simp; omega)),(by first | exact at_yes hat h40 | exact at_no hat n40),(by first | exact num_yes h46 | exact num_no hnum n46)⟩),(show c.marks.length - (k + 1) < c.marks.length - k from (by first | omega | (simp_all; omega))),?_⟩
      exact Sub.of [] (@cast (((Si value) ∧ (Si p) ∧ (((6 : Nat) = 6) ∧ ((0 : Nat) = 0) ∧ ((6 : Nat) ∈ ([6,8,28,999,1028,2028] : List Nat))) ∧ (((8 : Nat) = 8) ∧ ((0 : Nat) = 0) ∧ ((8 : Nat) ∈ ([6,8,28,999,1028,2028] : List Nat))) ∧ (Si aat) ∧ (Si num) ∧ (Sd (.marks c.marks)) ∧ (Si (((List.length c.marks) : Nat) : Int)) ∧ (Si (((k + 1) : Nat) : Int)) ∧ True) ∧ ((((29 : Nat) = 29) ∧ ((((.slice none 0 0) : Value) = (.slice none 0 0)) ∧ (((.slice none 0 0) : Value) = (.slice none 0 0)) ∧ (Si (0 : Int)) ∧ (Si (0 : Int)) ∧ (Si (0 : Int)) ∧ (((.slice none 0 0) : Value) = (.slice none 0 0)) ∧ True) ∧ ((6 : Nat) ∈ ([6,8,28,999,1028,2028] : List Nat))) ∧ (((29 : Nat) = 29) ∧ ((((28 : Nat) = 28) ∧ ((List.length c.up) = (List.length c.up)) ∧ ((28 : Nat) ∈ ([6,8,28,999,1028,2028] : List Nat))) ∧ (((1028 : Nat) = 1028) ∧ ((List.length c.down) = (List.length c.down)) ∧ ((1028 : Nat) ∈ ([6,8,28,999,1028,2028] : List Nat))) ∧ (Si c.value) ∧ (Si c.time) ∧ (Si c.proc) ∧ (((2028 : Nat) = 2028) ∧ ((List.length c.marks) = (List.length c.marks)) ∧ ((2028 : Nat) ∈ ([6,8,28,999,1028,2028] : List Nat))) ∧ True) ∧ ((8 : Nat) ∈ ([6,8,28,999,1028,2028] : List Nat))) ∧ (((3 : Nat) = 3) ∧ (Sd (.ints c.up)) ∧ ((28 : Nat) ∈ ([6,8,28,999,1028,2028] : List Nat))) ∧ (((3 : Nat) = 3) ∧ (Sd (.ints c.down)) ∧ ((1028 : Nat) ∈ ([6,8,28,999,1028,2028] : List Nat))) ∧ (((50 : Nat) = 50) ∧ (Sd (.marks c.marks)) ∧ ((2028 : Nat) ∈ ([6,8,28,999,1028,2028] : List Nat))) ∧ True) ∧ (true = true) ∧ (true = true)) _ (by kernel_rfl) ⟨⟨rfl,rfl,⟨rfl,rfl,(by decide)⟩,⟨rfl,rfl,(by decide)⟩,rfl,rfl,rfl,rfl,rfl,tt⟩,⟨⟨rfl,⟨rfl,rfl,rfl,rfl,rfl,rfl,tt⟩,(by decide)⟩,⟨rfl,⟨⟨rfl,rfl,(by decide)⟩,⟨rfl,rfl,(by decide)⟩,rfl,rfl,rfl,⟨rfl,rfl,(by decide)⟩,tt⟩,(by decide)⟩,⟨rfl,rfl,(by decide)⟩,⟨rfl,rfl,(by decide)⟩,⟨rfl,rfl,(by decide)⟩,tt⟩,rfl,rfl⟩)
   ·intro n33
    have hpc := put_fin (c := c) (v := value) hmm hat hnum (show k = c.marks.length by omega)
    refine W.exit (thenQ_exit (thenQ_exit (blockQ_hit ?_)))
    refine thenQ_normal ?_
    refine W.seq (W.wi ?_)
    refine WI.runT cok tab22 hnt [58] 8 8 (⟨[(1,.i value),(2,.i p),(6,.ptr 6 0),(8,.ptr 8 0),(9,.i aat),(10,.i num),(30,.sl (.marks c.marks)),(31,.i (((List.length c.marks) : Nat) : Int)),(32,.i ((k : Nat) : Int)),(33,.b (decide (((k : Nat) : Int) < (((List.length c.marks) : Nat) : Int)))),(51,.ptr 8 5),(52,.own 2028 (List.length c.marks)),(53,.i aat),(54,.i value),(55,.i p),(56,.i num),(57,.agg [.i value,.i p,.i num,.b false]),(58,.own 58 (List.length ([(⟨value,p,num,false⟩ : MarkD)])))],[(6,⟨29,.fix [.v (.slice none 0 0),.v (.slice none 0 0),.i (0 : Int),.i (0 : Int),.i (0 : Int),.v (.slice none 0 0)]⟩),(8,⟨29,.fix [.own 28 (List.length c.up),.own 1028 (List.length c.down),.i c.value,.i c.time,.i c.proc,.own 2028 (List.length c.marks)]⟩),(28,⟨3,.row (.ints c.up)⟩),(58,⟨50,.row (.marks ([(⟨value,p,num,false⟩ : MarkD)]))⟩),(1028,⟨3,.row (.ints c.down)⟩),(2028,⟨50,.row (.marks c.marks)⟩)],[58,6,8,28,999,1028,2028]⟩)
     (True ∧ True ∧ True ∧ True ∧ True ∧ True ∧ (True ∧ True ∧ True ∧ True) ∧ (True ∧ True) ∧ True) (by kernel_rfl) rfl
     ⟨tt,tt,tt,tt,tt,tt,⟨tt,tt,tt,tt⟩,⟨tt,tt⟩,tt⟩ ?_
    refine WI.callH _ [.own 2028 (List.length c.marks),.i aat,.own 58 (List.length ([(⟨value,p,num,false⟩ : MarkD)]))] [] (.fn 51 []) _ _ [(911,2028),(912,58)] (hok51 c.marks aat (⟨value,p,num,false⟩ : MarkD) ⟨(by omega),(by omega)⟩) ent51 hnt rfl rfl (wanted_none rfl) (by kernel_rfl) (by kernel_rfl) trivial (by kernel_rfl) (by kernel_rfl) (by kernel_rfl) (@cast (((some ⟨50,.row (.marks c.marks)⟩ : Option LB) = some ⟨50,.row (.marks c.marks)⟩) ∧ (true = true) ∧ ((some ⟨50,.row (.marks ([(⟨value,p,num,false⟩ : MarkD)]))⟩ : Option LB) = some ⟨50,.row (.marks ([(⟨value,p,num,false⟩ : MarkD)]))⟩) ∧ (true = true) ∧ (True)) _ (by kernel_rfl) ⟨rfl,rfl,rfl,rfl,tt⟩) (by kernel_rfl) rfl ?_
    rintro r s1 u1 ⟨rfl,rfl,rfl⟩
    refine ⟨[(914,59)],by kernel_rfl,WI.to (⟨[(1,.i value),(2,.i p),(6,.ptr 6 0),(8,.ptr 8 0),(9,.i aat),(10,.i num),(30,.sl (.marks c.marks)),(31,.i (((List.length c.marks) : Nat) : Int)),(32,.i ((k : Nat) : Int)),(33,.b (decide (((k : Nat) : Int) < (((List.length c.marks) : Nat) : Int)))),(51,.ptr 8 5),(52,.own 2028 (List.length c.marks)),(53,.i aat),(54,.i value),(55,.i p),(56,.i num),(57,.agg [.i value,.i p,.i num,.b false]),(58,.own 58 (List.length ([(⟨value,p,num,false⟩ : MarkD)]))),(59,.own 59 (List.length (insM c.marks (Int.toNat aat) (⟨value,p,num,false⟩ : MarkD))))],[(6,⟨29,.fix [.v (.slice none 0 0),.v (.slice none 0 0),.i (0 : Int),.i (0 : Int),.i (0 : Int),.v (.slice none 0 0)]⟩),(8,⟨29,.fix [.own 28 (List.length c.up),.own 1028 (List.length c.down),.i c.value,.i c.time,.i c.proc,.own 2028 (List.length c.marks)]⟩),(28,⟨3,.row (.ints c.up)⟩),(59,⟨50,.row (.marks (insM c.marks (Int.toNat aat) (⟨value,p,num,false⟩ : MarkD)))⟩),(1028,⟨3,.row (.ints c.down)⟩)],[59,58,6,8,28,999,1028,2028]⟩) 9 (by kernel_rfl) rfl ?_⟩
    refine WI.runT cok tab22 hnt [] 2 11 (⟨[(1,.i value),(2,.i p),(6,.ptr 6 0),(8,.ptr 8 0),(9,.i aat),(10,.i num),(30,.sl (.marks c.marks)),(31,.i (((List.length c.marks) : Nat) : Int)),(32,.i ((k : Nat) : Int)),(33,.b (decide (((k : Nat) : Int) < (((List.length c.marks) : Nat) : Int)))),(51,.ptr 8 5),(52,.own 2028 (List.length c.marks)),(53,.i aat),(54,.i value),(55,.i p),(56,.i num),(57,.agg [.i value,.i p,.i num,.b false]),(58,.own 58 (List.length ([(⟨value,p,num,false⟩ : MarkD)]))),(59,.own 59 (List.length (insM c.marks (Int.toNat aat) (⟨value,p,num,false⟩ : MarkD)))),(60,.ptr 8 5)],[(6,⟨29,.fix [.v (.slice none 0 0),.v (.slice none 0 0),.i (0 : Int),.i (0 : Int),.i (0 : Int),.v (.slice none 0 0)]⟩),(8,⟨29,.fix [.own 28 (List.length c.up),.own 1028 (List.length c.down),.i c.value,.i c.time,.i c.proc,.own 59 (List.length (insM c.marks (Int.toNat aat) (⟨value,p,num,false⟩ : MarkD)))]⟩),(28,⟨3,.row (.ints c.up)⟩),(59,⟨50,.row (.marks (insM c.marks (Int.toNat aat) (⟨value,p,num,false⟩ : MarkD)))⟩),(1028,⟨3,.row (.ints c.down)⟩)],[59,58,6,8,28,999,1028,2028]⟩)
     (True ∧ (True ∧ True) ∧ True) (by kernel_rfl) rfl
     ⟨tt,⟨tt,tt⟩,tt⟩ ?_
    refine WI.nil rfl (thenQ_normal ?_)
    refine W.keepE [6,8] [(6,.ptr 6 0),(8,.ptr 8 0)] (by kernel_rfl) ?_
    refine W.to (⟨[(6,.ptr 6 0),(8,.ptr 8 0)],[(6,⟨29,.fix [.v (.slice none 0 0),.v (.slice none 0 0),.i (0 : Int),.i (0 : Int),.i (0 : Int),.v (.slice none 0 0)]⟩),(8,⟨29,.fix [.own 28 (List.length c.up),.own 1028 (List.length c.down),.i c.value,.i c.time,.i c.proc,.own 59 (List.length (insM c.marks (Int.toNat aat) (⟨value,p,num,false⟩ : MarkD)))]⟩),(28,⟨3,.row (.ints c.up)⟩),(59,⟨50,.row (.marks (insM c.marks (Int.toNat aat) (⟨value,p,num,false⟩ : MarkD)))⟩),(1028,⟨3,.row (.ints c.down)⟩)],[59,58,6,8,28,999,1028,2028]⟩) rfl ?_
    refine W.seq (W.wi ?_)
    refine WI.runT cok tab22 hnt [] 1 1 (⟨[(6,.ptr 6 0),(8,.ptr 8 0),(61,.agg [.own 28 (List.length c.up),.own 1028 (List.length c.down),.i c.value,.i c.time,.i c.proc,.own 59 (List.length (insM c.marks (Int.toNat aat) (⟨value,p,num,false⟩ : MarkD)))])],[(6,⟨29,.fix [.v (.slice none 0 0),.v (.slice none 0 0),.i (0 : Int),.i (0 : Int),.i (0 : Int),.v (.slice none 0 0)]⟩),(8,⟨29,.fix [.own 28 (List.length c.up),.own 1028 (List.length c.down),.i c.value,.i c.time,.i c.proc,.own 59 (List.length (insM c.marks (Int.toNat aat) (⟨value,p,num,false⟩ : MarkD)))]⟩),(28,⟨3,.row (.ints c.up)⟩),(59,⟨50,.row (.marks (insM c.marks (Int.toNat aat) (⟨value,p,num,false⟩ : MarkD)))⟩),(1028,⟨3,.row (.ints c.down)⟩)],[59,58,6,8,28,999,1028,2028]⟩)
     (True ∧ True) (by kernel_rfl) rfl
     ⟨tt,tt⟩ ?_
    rcases Bool.eq_false_or_eq_true (validCopy (⟨c.up,c.down,c.value,c.time,c.proc,(insM c.marks (Int.toNat aat) (⟨value,p,num,false⟩ : MarkD))⟩ : CopyD)) with hV62 | nV62
    ·skip
     refine WI.callH _ [.agg [.own 28 (List.length c.up),.own 1028 (List.length c.down),.i c.value,.i c.time,.i c.proc,.own 59 (List.length (insM c.marks (Int.toNat aat) (⟨value,p,num,false⟩ : MarkD)))]] [] (.fn 45 []) _ _ [(911,28),(912,1028),(913,59)] (hok45y c.up c.down c.value c.time c.proc (insM c.marks (Int.toNat aat) (⟨value,p,num,false⟩ : MarkD)) (by first | exact hV62 | exact nV62)) ent45y hnt rfl rfl (wanted_none rfl) (by kernel_rfl) (by kernel_rfl) trivial (by kernel_rfl) (by kernel_rfl) (by kernel_rfl) (@cast (((some ⟨3,.row (.ints c.up)⟩ : Option LB) = some ⟨3,.row (.ints c.up)⟩) ∧ (true = true) ∧ ((some ⟨3,.row (.ints c.down)⟩ : Option LB) = some ⟨3,.row (.ints c.down)⟩) ∧ (true = true) ∧ ((some ⟨50,.row (.marks (insM c.marks (Int.toNat aat) (⟨value,p,num,false⟩ : MarkD)))⟩ : Option LB) = some ⟨50,.row (.marks (insM c.marks (Int.toNat aat) (⟨value,p,num,false⟩ : MarkD)))⟩) ∧ (true = true) ∧ (True)) _ (by kernel_rfl) ⟨rfl,rfl,rfl,rfl,rfl,rfl,tt⟩) (by kernel_rfl) rfl ?_
     rintro r s1 u1 ⟨rfl,rfl,rfl⟩
     refine ⟨[(911,28),(912,1028),(913,59)],by kernel_rfl,WI.to (⟨[(6,.ptr 6 0),(8,.ptr 8 0),(61,.agg [.own 28 (List.length c.up),.own 1028 (List.length c.down),.i c.value,.i c.time,.i c.proc,.own 59 (List.length (insM c.marks (Int.toNat aat) (⟨value,p,num,false⟩ : MarkD)))]),(62,.tup [.agg [.own 28 (List.length c.up),.own 1028 (List.length c.down),.i c.value,.i c.time,.i c.proc,.own 59 (List.length (insM c.marks (Int.toNat aat) (⟨value,p,num,false⟩ : MarkD)))],.b true])],[(6,⟨29,.fix [.v (.slice none 0 0),.v (.slice none 0 0),.i (0 : Int),.i (0 : Int),.i (0 : Int),.v (.slice none 0 0)]⟩),(8,⟨29,.fix [.own 28 (List.length c.up),.own 1028 (List.length c.down),.i c.value,.i c.time,.i c.proc,.own 59 (List.length (insM c.marks (Int.toNat aat) (⟨value,p,num,false⟩ : MarkD)))]⟩),(28,⟨3,.row (.ints c.up)⟩),(59,⟨50,.row (.marks (insM c.marks (Int.toNat aat) (⟨value,p,num,false⟩ : MarkD)))⟩),(1028,⟨3,.row (.ints c.down)⟩)],[59,58,6,8,28,999,1028,2028]⟩) 2 (by kernel_rfl) rfl ?_⟩
     refine WI.runT cok tab22 hnt [] 4 6 (⟨[(6,.ptr 6 0),(7,.b true),(8,.ptr 8 0),(61,.agg [.own 28 (List.length c.up),.own 1028 (List.length c.down),.i c.value,.i c.time,.i c.proc,.own 59 (List.length (insM c.marks (Int.toNat aat) (⟨value,p,num,false⟩ : MarkD)))]),(62,.tup [.agg [.own 28 (List.length c.up),.own 1028 (List.length c.down),.i c.value,.i c.time,.i c.proc,.own 59 (List.length (insM c.marks (Int.toNat aat) (⟨value,p,num,false⟩ : MarkD)))],.b true]),(63,.agg [.own 28 (List.length c.up),.own 1028 (List.length c.down),.i c.value,.i c.time,.i c.proc,.own 59 (List.length (insM c.marks (Int.toNat aat) (⟨value,p,num,false⟩ : MarkD)))]),(64,.b true)],[(6,⟨29,.fix [.own 28 (List.length c.up),.own 1028 (List.length c.down),.i c.value,.i c.time,.i c.proc,.own 59 (List.length (insM c.marks (Int.toNat aat) (⟨value,p,num,false⟩ : MarkD)))]⟩),(8,⟨29,.fix [.own 28 (List.length c.up),.own 1028 (List.length c.down),.i c.value,.i c.time,.i c.proc,.own 59 (List.length (insM c.marks (Int.toNat aat) (⟨value,p,num,false⟩ : MarkD)))]⟩),(28,⟨3,.row (.ints c.up)⟩),(59,⟨50,.row (.marks (insM c.marks (Int.toNat aat) (⟨value,p,num,false⟩ : MarkD)))⟩),(1028,⟨3,.row (.ints c.down)⟩)],[59,58,6,8,28,999,1028,2028]⟩)
      (True ∧ True ∧ (True ∧ True) ∧ True ∧ True) (by kernel_rfl) rfl
      ⟨tt,tt,⟨tt,tt⟩,tt,tt⟩ ?_
     refine WI.nil rfl (thenQ_normal ?_)
     refine W.keepE [6,7] [(6,.ptr 6 0),(7,.b true)] (by kernel_rfl) ?_
     refine W.to (⟨[(6,.ptr 6 0),(7,.b true)],[(6,⟨29,.fix [.own 28 (List.length c.up),.own 1028 (List.length c.down),.i c.value,.i c.time,.i c.proc,.own 59 (List.length (insM c.marks (Int.toNat aat) (⟨value,p,num,false⟩ : MarkD)))]⟩),(8,⟨29,.fix [.own 28 (List.length c.up),.own 1028 (List.length c.down),.i c.value,.i c.time,.i c.proc,.own 59 (List.length (insM c.marks (Int.toNat aat) (⟨value,p,num,false⟩ : MarkD)))]⟩),(28,⟨3,.row (.ints c.up)⟩),(59,⟨50,.row (.marks (insM c.marks (Int.toNat aat) (⟨value,p,num,false⟩ : MarkD)))⟩),(1028,⟨3,.row (.ints c.down)⟩)],[59,58,6,8,28,999,1028,2028]⟩) rfl ?_
     refine W.ret ?_
     exact endQ_rows [(0,28),(1,1028),(2,59)] (.tup [.agg [.own 28 (List.length c.up),.own 1028 (List.length c.down),.i c.value,.i c.time,.i c.proc,.own 59 (List.length (insM c.marks (Int.toNat aat) (⟨value,p,num,false⟩ : MarkD)))],.b true]) (by kernel_rfl) (@cast (((((28 : Nat) = 28) ∧ ((List.length c.up) = (List.length ((putIn c value p).1.up))) ∧ ((0 : Nat) ∈ ([0,1,2] : List Nat))) ∧ (((1028 : Nat) = 1028) ∧ ((List.length c.down) = (List.length ((putIn c value p).1.down))) ∧ ((1 : Nat) ∈ ([0,1,2] : List Nat))) ∧ ((.int .i64 c.value : Value) = .int .i64 ((putIn c value p).1.value)) ∧ ((.int .i64 c.time : Value) = .int .i64 ((putIn c value p).1.time)) ∧ ((.int .i64 c.proc : Value) = .int .i64 ((putIn c value p).1.proc)) ∧ (((59 : Nat) = 59) ∧ ((List.length (insM c.marks (Int.toNat aat) (⟨value,p,num,false⟩ : MarkD))) = (List.length ((putIn c value p).1.marks))) ∧ ((2 : Nat) ∈ ([0,1,2] : List Nat))) ∧ True) ∧ ((.bool true : Value) = .bool ((putIn c value p).2)) ∧ True) _ (by kernel_rfl) ⟨⟨⟨rfl,(by first | rfl | omega | assumption | (symm; assumption) | (exact congrArg List.length (by rw [putIn_ok hg (by rw [hpc]; exact hV62),hpc])) | (rw [putIn_ok hg (by rw [hpc]; exact hV62),hpc]; done) | simp | simp_all),(by decide)⟩,⟨rfl,(by first | rfl | omega | assumption | (symm; assumption) | (exact congrArg List.length (by rw [putIn_ok hg (by rw [hpc]; exact hV62),hpc])) | (rw [putIn_ok hg (by rw [hpc]; exact hV62),hpc]; done) | simp | simp_all),(by decide)⟩,(congrArg (Value.int .i64) (by first | rfl | omega | assumption | (rw [putIn_ok hg (by rw [hpc]; exact hV62),hpc]; done) | simp | simp_all)),(congrArg (Value.int .i64) (by first | rfl | omega | assumption | (rw [putIn_ok hg (by rw [hpc]; exact hV62),hpc]; done) | simp | simp_all)),(congrArg (Value.int .i64) (by first | rfl | omega | assumption | (rw [putIn_ok hg (by rw [hpc]; exact hV62),hpc]; done) | simp | simp_all)),⟨rfl,(by first | rfl | omega | assumption | (symm; assumption) | (exact congrArg List.length (by rw [putIn_ok hg (by rw [hpc]; exact hV62),hpc])) | (rw [putIn_ok hg (by rw [hpc]; exact hV62),hpc]; done) | simp | simp_all),(by decide)⟩,tt⟩,(congrArg Value.bool (by first | rfl | omega | assumption | (rw [putIn_ok hg (by rw [hpc]; exact hV62),hpc]; done) | simp | simp_all)),tt⟩) (@cast ((((3 : Nat) = 3) ∧ ((.ints c.up : Dat) = .ints ((putIn c value p).1.up)) ∧ ((0 : Nat) ∈ ([0,1,2] : List Nat))) ∧ (((3 : Nat) = 3) ∧ ((.ints c.down : Dat) = .ints ((putIn c value p).1.down)) ∧ ((1 : Nat) ∈ ([0,1,2] : List Nat))) ∧ (((50 : Nat) = 50) ∧ ((.marks (insM c.marks (Int.toNat aat) (⟨value,p,num,false⟩ : MarkD)) : Dat) = .marks ((putIn c value p).1.marks)) ∧ ((2 : Nat) ∈ ([0,1,2] : List Nat))) ∧ True) _ (by kernel_rfl) ⟨⟨rfl,(congrArg Dat.ints (by rw [putIn_ok hg (by rw [hpc]; exact hV62),hpc])),(by decide)⟩,⟨rfl,(congrArg Dat.ints (by rw [putIn_ok hg (by rw [hpc]; exact hV62),hpc])),(by decide)⟩,⟨rfl,(congrArg Dat.marks (by rw [putIn_ok hg (by rw [hpc]; exact hV62),hpc])),(by decide)⟩,tt⟩) (by kernel_rfl)
    ·skip
     refine WI.callH _ [.agg [.own 28 (List.length c.up),.own 1028 (List.length c.down),.i c.value,.i c.time,.i c.proc,.own 59 (List.length (insM c.marks (Int.toNat aat) (⟨value,p,num,false⟩ : MarkD)))]] [] (.fn 45 []) _ _ [(911,28),(912,1028),(913,59)] (hok45n c.up c.down c.value c.time c.proc (insM c.marks (Int.toNat aat) (⟨value,p,num,false⟩ : MarkD)) (by first | exact hV62 | exact nV62)) ent45n hnt rfl rfl (wanted_none rfl) (by kernel_rfl) (by kernel_rfl) trivial (by kernel_rfl) (by kernel_rfl) (by kernel_rfl) (@cast (((some ⟨3,.row (.ints c.up)⟩ : Option LB) = some ⟨3,.row (.ints c.up)⟩) ∧ (true = true) ∧ ((some ⟨3,.row (.ints c.down)⟩ : Option LB) = some ⟨3,.row (.ints c.down)⟩) ∧ (true = true) ∧ ((some ⟨50,.row (.marks (insM c.marks (Int.toNat aat) (⟨value,p,num,false⟩ : MarkD)))⟩ : Option LB) = some ⟨50,.row (.marks (insM c.marks (Int.toNat aat) (⟨value,p,num,false⟩ : MarkD)))⟩) ∧ (true = true) ∧ (True)) _ (by kernel_rfl) ⟨rfl,rfl,rfl,rfl,rfl,rfl,tt⟩) (by kernel_rfl) rfl ?_
     rintro r s1 u1 ⟨rfl,rfl,rfl⟩
     refine ⟨[(911,28),(912,1028),(913,59)],by kernel_rfl,WI.to (⟨[(6,.ptr 6 0),(8,.ptr 8 0),(61,.agg [.own 28 (List.length c.up),.own 1028 (List.length c.down),.i c.value,.i c.time,.i c.proc,.own 59 (List.length (insM c.marks (Int.toNat aat) (⟨value,p,num,false⟩ : MarkD)))]),(62,.tup [.agg [.v (.slice none 0 0),.v (.slice none 0 0),.i (0 : Int),.i (0 : Int),.i (0 : Int),.v (.slice none 0 0)],.b false])],[(6,⟨29,.fix [.v (.slice none 0 0),.v (.slice none 0 0),.i (0 : Int),.i (0 : Int),.i (0 : Int),.v (.slice none 0 0)]⟩),(8,⟨29,.fix [.own 28 (List.length c.up),.own 1028 (List.length c.down),.i c.value,.i c.time,.i c.proc,.own 59 (List.length (insM c.marks (Int.toNat aat) (⟨value,p,num,false⟩ : MarkD)))]⟩),(28,⟨3,.row (.ints c.up)⟩),(59,⟨50,.row (.marks (insM c.marks (Int.toNat aat) (⟨value,p,num,false⟩ : MarkD)))⟩),(1028,⟨3,.row (.ints c.down)⟩)],[59,58,6,8,28,999,1028,2028]⟩) 2 (by kernel_rfl) rfl ?_⟩
     refine WI.runT cok tab22 hnt [] 4 6 (⟨[(6,.ptr 6 0),(7,.b false),(8,.ptr 8 0),(61,.agg [.own 28 (List.length c.up),.own 1028 (List.length c.down),.i c.value,.i c.time,.i c.proc,.own 59 (List.length (insM c.marks (Int.toNat aat) (⟨value,p,num,false⟩ : MarkD)))]),(62,.tup [.agg [.v (.slice none 0 0),.v (.slice none 0 0),.i (0 : Int),.i (0 : Int),.i (0 : Int),.v (.slice none 0 0)],.b false]),(63,.agg [.v (.slice none 0 0),.v (.slice none 0 0),.i (0 : Int),.i (0 : Int),.i (0 : Int),.v (.slice none 0 0)]),(64,.b false)],[(6,⟨29,.fix [.v (.slice none 0 0),.v (.slice none 0 0),.i (0 : Int),.i (0 : Int),.i (0 : Int),.v (.slice none 0 0)]⟩),(8,⟨29,.fix [.own 28 (List.length c.up),.own 1028 (List.length c.down),.i c.value,.i c.time,.i c.proc,.own 59 (List.length (insM c.marks (Int.toNat aat) (⟨value,p,num,false⟩ : MarkD)))]⟩),(28,⟨3,.row (.ints c.up)⟩),(59,⟨50,.row (.marks (insM c.marks (Int.toNat aat) (⟨value,p,num,false⟩ : MarkD)))⟩),(1028,⟨3,.row (.ints c.down)⟩)],[59,58,6,8,28,999,1028,2028]⟩)
      (True ∧ True ∧ (True ∧ True) ∧ True ∧ True) (by kernel_rfl) rfl
      ⟨tt,tt,⟨tt,tt⟩,tt,tt⟩ ?_
     refine WI.nil rfl (thenQ_normal ?_)
     refine W.keepE [6,7] [(6,.ptr 6 0),(7,.b false)] (by kernel_rfl) ?_
     refine W.to (⟨[(6,.ptr 6 0),(7,.b false)],[(6,⟨29,.fix [.v (.slice none 0 0),.v (.slice none 0 0),.i (0 : Int),.i (0 : Int),.i (0 : Int),.v (.slice none 0 0)]⟩),(8,⟨29,.fix [.own 28 (List.length c.up),.own 1028 (List.length c.down),.i c.value,.i c.time,.i c.proc,.own 59 (List.length (insM c.marks (Int.toNat aat) (⟨value,p,num,false⟩ : MarkD)))]⟩),(28,⟨3,.row (.ints c.up)⟩),(59,⟨50,.row (.marks (insM c.marks (Int.toNat aat) (⟨value,p,num,false⟩ : MarkD)))⟩),(1028,⟨3,.row (.ints c.down)⟩)],[59,58,6,8,28,999,1028,2028]⟩) rfl ?_
     refine W.nilCell 6 821 0 29 3 (.ints ([] : List Int)) [.v (.slice none 0 0),.v (.slice none 0 0),.i (0 : Int),.i (0 : Int),.i (0 : Int),.v (.slice none 0 0)] (⟨[(6,.ptr 6 0),(7,.b false)],[(6,⟨29,.fix [.own 821 0,.v (.slice none 0 0),.i (0 : Int),.i (0 : Int),.i (0 : Int),.v (.slice none 0 0)]⟩),(8,⟨29,.fix [.own 28 (List.length c.up),.own 1028 (List.length c.down),.i c.value,.i c.time,.i c.proc,.own 59 (List.length (insM c.marks (Int.toNat aat) (⟨value,p,num,false⟩ : MarkD)))]⟩),(28,⟨3,.row (.ints c.up)⟩),(59,⟨50,.row (.marks (insM c.marks (Int.toNat aat) (⟨value,p,num,false⟩ : MarkD)))⟩),(821,⟨3,.row (.ints ([] : List Int))⟩),(1028,⟨3,.row (.ints c.down)⟩)],[821,59,58,6,8,28,999,1028,2028]⟩) (by kernel_rfl) rfl rfl (by kernel_rfl) (by kernel_rfl) ?_
     refine W.nilCell 6 822 1 29 3 (.ints ([] : List Int)) [.own 821 0,.v (.slice none 0 0),.i (0 : Int),.i (0 : Int),.i (0 : Int),.v (.slice none 0 0)] (⟨[(6,.ptr 6 0),(7,.b false)],[(6,⟨29,.fix [.own 821 0,.own 822 0,.i (0 : Int),.i (0 : Int),.i (0 : Int),.v (.slice none 0 0)]⟩),(8,⟨29,.fix [.own 28 (List.length c.up),.own 1028 (List.length c.down),.i c.value,.i c.time,.i c.proc,.own 59 (List.length (insM c.marks (Int.toNat aat) (⟨value,p,num,false⟩ : MarkD)))]⟩),(28,⟨3,.row (.ints c.up)⟩),(59,⟨50,.row (.marks (insM c.marks (Int.toNat aat) (⟨value,p,num,false⟩ : MarkD)))⟩),(821,⟨3,.row (.ints ([] : List Int))⟩),(822,⟨3,.row (.ints ([] : List Int))⟩),(1028,⟨3,.row (.ints c.down)⟩)],[822,821,59,58,6,8,28,999,1028,2028]⟩) (by kernel_rfl) rfl rfl (by kernel_rfl) (by kernel_rfl) ?_
     refine W.nilCell 6 826 5 29 50 (.marks ([] : List MarkD)) [.own 821 0,.own 822 0,.i (0 : Int),.i (0 : Int),.i (0 : Int),.v (.slice none 0 0)] (⟨[(6,.ptr 6 0),(7,.b false)],[(6,⟨29,.fix [.own 821 0,.own 822 0,.i (0 : Int),.i (0 : Int),.i (0 : Int),.own 826 0]⟩),(8,⟨29,.fix [.own 28 (List.length c.up),.own 1028 (List.length c.down),.i c.value,.i c.time,.i c.proc,.own 59 (List.length (insM c.marks (Int.toNat aat) (⟨value,p,num,false⟩ : MarkD)))]⟩),(28,⟨3,.row (.ints c.up)⟩),(59,⟨50,.row (.marks (insM c.marks (Int.toNat aat) (⟨value,p,num,false⟩ : MarkD)))⟩),(821,⟨3,.row (.ints ([] : List Int))⟩),(822,⟨3,.row (.ints ([] : List Int))⟩),(826,⟨50,.row (.marks ([] : List MarkD))⟩),(1028,⟨3,.row (.ints c.down)⟩)],[826,822,821,59,58,6,8,28,999,1028,2028]⟩) (by kernel_rfl) rfl rfl (by kernel_rfl) (by kernel_rfl) ?_
     refine W.ret ?_
     exact endQ_rows [(0,821),(1,822),(2,826)] (.tup [.agg [.own 821 0,.own 822 0,.i (0 : Int),.i (0 : Int),.i (0 : Int),.own 826 0],.b false]) (by kernel_rfl) (@cast (((((821 : Nat) = 821) ∧ (0 = (List.length ((putIn c value p).1.up))) ∧ ((0 : Nat) ∈ ([0,1,2] : List Nat))) ∧ (((822 : Nat) = 822) ∧ (0 = (List.length ((putIn c value p).1.down))) ∧ ((1 : Nat) ∈ ([0,1,2] : List Nat))) ∧ ((.int .i64 (0 : Int) : Value) = .int .i64 ((putIn c value p).1.value)) ∧ ((.int .i64 (0 : Int) : Value) = .int .i64 ((putIn c value p).1.time)) ∧ ((.int .i64 (0 : Int) : Value) = .int .i64 ((putIn c value p).1.proc)) ∧ (((826 : Nat) = 826) ∧ (0 = (List.length ((putIn c value p).1.marks))) ∧ ((2 : Nat) ∈ ([0,1,2] : List Nat))) ∧ True) ∧ ((.bool false : Value) = .bool ((putIn c value p).2)) ∧ True) _ (by kernel_rfl) ⟨⟨⟨rfl,(by first | rfl | omega | assumption | (symm; assumption) | (exact congrArg List.length (by rw [putIn_bad hg (by rw [hpc]; exact nV62)] <;> rfl)) | (rw [putIn_bad hg (by rw [hpc]; exact nV62)] <;> rfl; done) | simp | simp_all),(by decide)⟩,⟨rfl,(by first | rfl | omega | assumption | (symm; assumption) | (exact congrArg List.length (by rw [putIn_bad hg (by rw [hpc]; exact nV62)] <;> rfl)) | (rw [putIn_bad hg (by rw [hpc]; exact nV62)] <;> rfl; done) | simp | simp_all),(by decide)⟩,(congrArg (Value.int .i64) (by first | rfl | omega | assumption | (rw [putIn_bad hg (by rw [hpc]; exact nV62)] <;> rfl; done) | simp | simp_all)),(congrArg (Value.int .i64) (by first | rfl | omega | assumption | (rw [putIn_bad hg (by rw [hpc]; exact nV62)] <;> rfl; done) | simp | simp_all)),(congrArg (Value.int .i64) (by first | rfl | omega | assumption | (rw [putIn_bad hg (by rw [hpc]; exact nV62)] <;> rfl; done) | simp | simp_all)),⟨rfl,(by first | rfl | omega | assumption | (symm; assumption) | (exact congrArg List.length (by rw [putIn_bad hg (by rw [hpc]; exact nV62)] <;> rfl)) | (rw [putIn_bad hg (by rw [hpc]; exact nV62)] <;> rfl; done) | simp | simp_all),(by decide)⟩,tt⟩,(congrArg Value.bool (by first | rfl | omega | assumption | (rw [putIn_bad hg (by rw [hpc]; exact nV62)] <;> rfl; done) | simp | simp_all)),tt⟩) (@cast ((((3 : Nat) = 3) ∧ ((.ints ([] : List Int) : Dat) = .ints ((putIn c value p).1.up)) ∧ ((0 : Nat) ∈ ([0,1,2] : List Nat))) ∧ (((3 : Nat) = 3) ∧ ((.ints ([] : List Int) : Dat) = .ints ((putIn c value p).1.down)) ∧ ((1 : Nat) ∈ ([0,1,2] : List Nat))) ∧ (((50 : Nat) = 50) ∧ ((.marks ([] : List MarkD) : Dat) = .marks ((putIn c value p).1.marks)) ∧ ((2 : Nat) ∈ ([0,1,2] : List Nat))) ∧ True) _ (by kernel_rfl) ⟨⟨rfl,(congrArg Dat.ints (by rw [putIn_bad hg (by rw [hpc]; exact nV62)] <;> rfl)),(by decide)⟩,⟨rfl,(congrArg Dat.ints (by rw [putIn_bad hg (by rw [hpc]; exact nV62)] <;> rfl)),(by decide)⟩,⟨rfl,(congrArg Dat.marks (by rw [putIn_bad hg (by rw [hpc]; exact nV62)] <;> rfl)),(by decide)⟩,tt⟩) (by kernel_rfl)
theorem ent22 : Entr prog 22 := ⟨_,func22,rfl,by decide⟩
end Go.Proofs.Try

set_option linter.unusedSimpArgs false
set_option linter.unusedVariables false
namespace Go.Proofs.Try
open Go.Ab Go.RowKit
def fs29 : FnS := fnS [.s .ints,.s .ints] [.ints,.ints] (fun _ (a,b,_) => (.b (decide (a = b)),[],True))
abbrev T29 : Tab := lk []
theorem tab29 : TabOK prog T29 := TabOK.nil
set_option maxRecDepth 100000 in
set_option maxHeartbeats 1000000 in
theorem ok29 : FnOK prog 29 fs29 := by
 refine FnOK.mk cok func29 rfl rfl rfl ?_
 rintro fl ⟨(a : List Int),(b : List Int),_⟩ hpre F hnt0 _
 have hnt : F.nt = 26 := hnt0.trans ntmps29
 clear hpre
 refine W.to (⟨[(0,.sl (.ints a)),(1,.sl (.ints b))],[],[999]⟩) rfl ?_
 refine W.lenOf 0 (.ints a) (by kernel_rfl) ?_
 intro hl_a; replace hl_a : List.length a ≤ 9223372036854775807 := hl_a
 refine W.lenOf 1 (.ints b) (by kernel_rfl) ?_
 intro hl_b; replace hl_b : List.length b ≤ 9223372036854775807 := hl_b
 refine Kk cok tab29 hnt [] [0,1] (⟨[(0,.sl (.ints a)),(1,.sl (.ints b))],[],[999]⟩)
  (True ∧ True)
  ⟨tt,tt⟩ ?_
 refine W.seq ?_
 refine Kk cok tab29 hnt [] [0,1,10] (⟨[(0,.sl (.ints a)),(1,.sl (.ints b)),(10,.b (decide ((a.length : Int) ≠ (b.length : Int))))],[],[999]⟩)
  (True ∧ True ∧ True ∧ True ∧ (True ∧ True ∧ True) ∧ True)
  ⟨tt,tt,tt,tt,⟨tt,tt,tt⟩,tt⟩ ?_
 refine W.ifP ((a.length : Int) ≠ (b.length : Int)) (.b (decide ((a.length : Int) ≠ (b.length : Int)))) (by kernel_rfl) rfl trivial ?_ ?_
 ·intro h10
  refine Kk cok tab29 hnt [] [4] (⟨[(4,.b false)],[],[999]⟩)
   (True ∧ True)
   ⟨tt,tt⟩ ?_
  refine W.ret (thenQ_ret ?_)
  exact endQ_ret (.b false) (by kernel_rfl) (@cast ((.bool false : Value) = .bool (decide (a = b))) _ (by kernel_rfl) (congrArg Value.bool (by symm; exact decide_eq_false (fun e => h10 (by rw [e])))))
 ·intro n10
  refine W.skip (thenQ_normal ?_)
  refine W.seq ?_
  refine Kk cok tab29 hnt [] [0,1,5] (⟨[(0,.sl (.ints a)),(1,.sl (.ints b)),(5,.i (0 : Int))],[],[999]⟩)
   (True ∧ True)
   ⟨tt,tt⟩ ?_
  refine W.block ?_
  refine W.loop (ι := Nat) (fun (i : Nat) => (⟨[(0,.sl (.ints a)),(1,.sl (.ints b)),(5,.i ((i : Nat) : Int))],[],[999]⟩ : St))
   (fun (i : Nat) => (i ≤ a.length) ∧ (∀ j,j < i → a.getD j 0 = b.getD j 0))
   (fun (i : Nat) => (a.length - i : Nat)) (0) ?_ ?_ ?_
  ·exact (show (0 ≤ a.length) ∧ (∀ j,j < 0 → a.getD j 0 = b.getD j 0) from ⟨(by first | assumption | omega | rfl | (intro _ hjj; omega) | (simp; done) | (simp; omega)),(by exact upto_zero)⟩)
  ·exact Sub.of [] (@cast (((Sd (.ints a)) ∧ (Sd (.ints b)) ∧ ((.int .i64 (0 : Int) : Value) = .int .i64 ((0 : Nat) : Int)) ∧ True) ∧ True ∧ (true = true) ∧ (true = true)) _ (by kernel_rfl) ⟨⟨rfl,rfl,(congrArg (Value.int .i64) (by first | rfl | omega | assumption | simp | simp_all)),tt⟩,tt,rfl,rfl⟩)
  ·rintro i hC0
   have hC : (i ≤ a.length) ∧ (∀ j,j < i → a.getD j 0 = b.getD j 0) := hC0
   clear hC0
   obtain ⟨hi,hA⟩ := hC
   refine W.to (⟨[(0,.sl (.ints a)),(1,.sl (.ints b)),(5,.i ((i : Nat) : Int))],[],[999]⟩) rfl ?_
   refine W.seq ?_
   refine Kk cok tab29 hnt [] [0,1,5,14] (⟨[(0,.sl (.ints a)),(1,.sl (.ints b)),(5,.i ((i : Nat) : Int)),(14,.b (decide (((i : Nat) : Int) < (a.length : Int))))],[],[999]⟩)
    (True ∧ True ∧ True ∧ (True ∧ True ∧ True) ∧ True)
    ⟨tt,tt,tt,⟨tt,tt,tt⟩,tt⟩ ?_
   refine W.ifP (((i : Nat) : Int) < (a.length : Int)) (.b (decide (((i : Nat) : Int) < (a.length : Int)))) (by kernel_rfl) rfl trivial ?_ ?_
   ·intro h14
    refine W.skip (thenQ_normal ?_)
    refine W.seq ?_
    refine W.block ?_
    refine W.KA cok tab29 hnt [] [0,1,5,25] (⟨[(0,.sl (.ints a)),(1,.sl (.ints b)),(5,.i ((i : Nat) : Int)),(25,.b (decide ((a.getD i 0) ≠ (b.getD i 0))))],[],[999]⟩)
     (True ∧ True ∧ (True ∧ True ∧ (0 ≤ ((i : Nat) : Int)) ∧ (((i : Nat) : Int) < (a.length : Int))) ∧ True ∧ True ∧ True ∧ (True ∧ True ∧ (0 ≤ ((i : Nat) : Int)) ∧ (((i : Nat) : Int) < (b.length : Int))) ∧ True ∧ (True ∧ True ∧ True) ∧ True) (by kernel_rfl) (by kernel_rfl)
     ⟨tt,tt,⟨tt,tt,(by omega),(by omega)⟩,tt,tt,tt,⟨tt,tt,(by omega),(by omega)⟩,tt,⟨tt,tt,tt⟩,tt⟩ ?_
    refine W.ifP ((a.getD i 0) ≠ (b.getD i 0)) (.b (decide ((a.getD i 0) ≠ (b.getD i 0)))) (by kernel_rfl) rfl trivial ?_ ?_
    ·intro h25
     refine Kk cok tab29 hnt [] [4] (⟨[(4,.b false)],[],[999]⟩)
      (True ∧ True)
      ⟨tt,tt⟩ ?_
     refine W.ret (blockQ_ret (thenQ_ret (thenQ_ret (blockQ_ret (thenQ_ret ?_)))))
     exact endQ_ret (.b false) (by kernel_rfl) (@cast ((.bool false : Value) = .bool (decide (a = b))) _ (by kernel_rfl) (congrArg Value.bool (by symm; exact decide_eq_false (fun e => h25 (by rw [e])))))
    ·intro n25
     refine W.skip (blockQ_normal (thenQ_normal ?_))
     refine Lk cok tab29 hnt [] (⟨[(0,.sl (.ints a)),(1,.sl (.ints b)),(5,.i (((i + 1) : Nat) : Int)),(15,.i ((i : Nat) : Int)),(16,.i (((i + 1) : Nat) : Int)),(25,.b (decide ((a.getD i 0) ≠ (b.getD i 0))))],[],[999]⟩)
      (True ∧ (True ∧ True ∧ (Fits .i64 (((i + 1) : Nat) : Int))) ∧ True ∧ True)
      ⟨tt,⟨tt,tt,(by exact fits_i64 (by omega) (by omega))⟩,tt,tt⟩ ?_
     refine thenQ_normal ?_
     refine ⟨((i + 1)),(show ((i + 1) ≤ a.length) ∧ (∀ j,j < (i + 1) → a.getD j 0 = b.getD j 0) from ⟨(by first | assumption | omega | rfl | (intro _ hjj; omega) | (simp; done) | (simp; omega)),(by exact upto_succ hA (Decidable.not_not.1 n25))⟩),(show a.length - (i + 1) < a.length - i from (by first | omega | (simp_all; omega))),?_⟩
     exact Sub.of [] (@cast (((Sd (.ints a)) ∧ (Sd (.ints b)) ∧ (Si (((i + 1) : Nat) : Int)) ∧ True) ∧ True ∧ (true = true) ∧ (true = true)) _ (by kernel_rfl) ⟨⟨rfl,rfl,rfl,tt⟩,tt,rfl,rfl⟩)
   ·intro n14
    refine W.exit (thenQ_exit (thenQ_exit (blockQ_hit ?_)))
    refine thenQ_normal ?_
    refine Kk cok tab29 hnt [] [4] (⟨[(4,.b true)],[],[999]⟩)
     (True ∧ True)
     ⟨tt,tt⟩ ?_
    refine W.ret ?_
    exact endQ_ret (.b true) (by kernel_rfl) (@cast ((.bool true : Value) = .bool (decide (a = b))) _ (by kernel_rfl) (congrArg Value.bool (by symm; exact decide_eq_true (ints_ext (by omega) (fun j hj => hA j (by omega))))))
theorem ent29 : Entr prog 29 := ⟨_,func29,rfl,by decide⟩
end Go.Proofs.Try

set_option linter.unusedSimpArgs false
set_option linter.unusedVariables false
namespace Go.Proofs.Try
open Go.Ab Go.RowKit
def fs65 : FnS := fnS [.o,.o] [.mark,.mark] (fun _ (a,b,_) => (.b (decide (a = b)),[],True))
abbrev T65 : Tab := lk []
theorem tab65 : TabOK prog T65 := TabOK.nil
set_option maxRecDepth 100000 in
set_option maxHeartbeats 1000000 in
theorem ok65 : FnOK prog 65 fs65 := by
 refine FnOK.mk cok func65 rfl rfl rfl ?_
 rintro fl ⟨(a : MarkD),(b : MarkD),_⟩ hpre F hnt0 _
 have hnt : F.nt = 25 := hnt0.trans ntmps65
 clear hpre
 refine W.to (⟨[(0,.agg [.i a.value,.i a.proc,.i a.number,.b a.gone]),(1,.agg [.i b.value,.i b.proc,.i b.number,.b b.gone])],[],[999]⟩) rfl ?_
 refine Kk cok tab65 hnt [] [2,3] (⟨[(2,.ptr 2 0),(3,.ptr 3 0)],[(2,⟨50,.fix [.i a.value,.i a.proc,.i a.number,.b a.gone]⟩),(3,⟨50,.fix [.i b.value,.i b.proc,.i b.number,.b b.gone]⟩)],[3,2,999]⟩)
  (True ∧ True ∧ True ∧ True)
  ⟨tt,tt,tt,tt⟩ ?_
 refine W.seq ?_
 refine Kk cok tab65 hnt [] [2,3,9] (⟨[(2,.ptr 2 0),(3,.ptr 3 0),(9,.b (decide (a.value ≠ b.value)))],[(2,⟨50,.fix [.i a.value,.i a.proc,.i a.number,.b a.gone]⟩),(3,⟨50,.fix [.i b.value,.i b.proc,.i b.number,.b b.gone]⟩)],[3,2,999]⟩)
  (True ∧ True ∧ True ∧ True ∧ (True ∧ True ∧ True) ∧ True)
  ⟨tt,tt,tt,tt,⟨tt,tt,tt⟩,tt⟩ ?_
 refine W.ifP (a.value ≠ b.value) (.b (decide (a.value ≠ b.value))) (by kernel_rfl) rfl trivial ?_ ?_
 ·intro h9
  refine Kk cok tab65 hnt [] [4] (⟨[(4,.b false)],[(2,⟨50,.fix [.i a.value,.i a.proc,.i a.number,.b a.gone]⟩),(3,⟨50,.fix [.i b.value,.i b.proc,.i b.number,.b b.gone]⟩)],[3,2,999]⟩)
   (True ∧ True)
   ⟨tt,tt⟩ ?_
  refine W.ret (thenQ_ret ?_)
  exact endQ_ret (.b false) (by kernel_rfl) (@cast ((.bool false : Value) = .bool (decide (a = b))) _ (by kernel_rfl) (congrArg Value.bool (by first | (symm; exact decide_eq_true (mark_ext (by omega) (by omega) (by omega) (by simp_all))) | (symm; exact decide_eq_false (fun e => by subst e; simp_all)))))
 ·intro n9
  refine W.skip (thenQ_normal ?_)
  refine W.seq ?_
  refine Kk cok tab65 hnt [] [2,3,14] (⟨[(2,.ptr 2 0),(3,.ptr 3 0),(14,.b (decide (a.proc ≠ b.proc)))],[(2,⟨50,.fix [.i a.value,.i a.proc,.i a.number,.b a.gone]⟩),(3,⟨50,.fix [.i b.value,.i b.proc,.i b.number,.b b.gone]⟩)],[3,2,999]⟩)
   (True ∧ True ∧ True ∧ True ∧ (True ∧ True ∧ True) ∧ True)
   ⟨tt,tt,tt,tt,⟨tt,tt,tt⟩,tt⟩ ?_
  refine W.ifP (a.proc ≠ b.proc) (.b (decide (a.proc ≠ b.proc))) (by kernel_rfl) rfl trivial ?_ ?_
  ·intro h14
   refine Kk cok tab65 hnt [] [4] (⟨[(4,.b false)],[(2,⟨50,.fix [.i a.value,.i a.proc,.i a.number,.b a.gone]⟩),(3,⟨50,.fix [.i b.value,.i b.proc,.i b.number,.b b.gone]⟩)],[3,2,999]⟩)
    (True ∧ True)
    ⟨tt,tt⟩ ?_
   refine W.ret (thenQ_ret ?_)
   exact endQ_ret (.b false) (by kernel_rfl) (@cast ((.bool false : Value) = .bool (decide (a = b))) _ (by kernel_rfl) (congrArg Value.bool (by first | (symm; exact decide_eq_true (mark_ext (by omega) (by omega) (by omega) (by simp_all))) | (symm; exact decide_eq_false (fun e => by subst e; simp_all)))))
  ·intro n14
   refine W.skip (thenQ_normal ?_)
   refine W.seq ?_
   refine Kk cok tab65 hnt [] [2,3,19] (⟨[(2,.ptr 2 0),(3,.ptr 3 0),(19,.b (decide (a.number ≠ b.number)))],[(2,⟨50,.fix [.i a.value,.i a.proc,.i a.number,.b a.gone]⟩),(3,⟨50,.fix [.i b.value,.i b.proc,.i b.number,.b b.gone]⟩)],[3,2,999]⟩)
    (True ∧ True ∧ True ∧ True ∧ (True ∧ True ∧ True) ∧ True)
    ⟨tt,tt,tt,tt,⟨tt,tt,tt⟩,tt⟩ ?_
   refine W.ifP (a.number ≠ b.number) (.b (decide (a.number ≠ b.number))) (by kernel_rfl) rfl trivial ?_ ?_
   ·intro h19
    refine Kk cok tab65 hnt [] [4] (⟨[(4,.b false)],[(2,⟨50,.fix [.i a.value,.i a.proc,.i a.number,.b a.gone]⟩),(3,⟨50,.fix [.i b.value,.i b.proc,.i b.number,.b b.gone]⟩)],[3,2,999]⟩)
     (True ∧ True)
     ⟨tt,tt⟩ ?_
    refine W.ret (thenQ_ret ?_)
    exact endQ_ret (.b false) (by kernel_rfl) (@cast ((.bool false : Value) = .bool (decide (a = b))) _ (by kernel_rfl) (congrArg Value.bool (by first | (symm; exact decide_eq_true (mark_ext (by omega) (by omega) (by omega) (by simp_all))) | (symm; exact decide_eq_false (fun e => by subst e; simp_all)))))
   ·intro n19
    refine W.skip (thenQ_normal ?_)
    refine W.seq ?_
    refine Kk cok tab65 hnt [] [24] (⟨[(24,.b (a.gone != b.gone))],[(2,⟨50,.fix [.i a.value,.i a.proc,.i a.number,.b a.gone]⟩),(3,⟨50,.fix [.i b.value,.i b.proc,.i b.number,.b b.gone]⟩)],[3,2,999]⟩)
     (True ∧ True ∧ True ∧ True ∧ (True ∧ True) ∧ True)
     ⟨tt,tt,tt,tt,⟨tt,tt⟩,tt⟩ ?_
    refine W.if' (a.gone != b.gone) (.b (a.gone != b.gone)) (by kernel_rfl) rfl trivial ?_ ?_
    ·intro h24
     refine Kk cok tab65 hnt [] [4] (⟨[(4,.b false)],[(2,⟨50,.fix [.i a.value,.i a.proc,.i a.number,.b a.gone]⟩),(3,⟨50,.fix [.i b.value,.i b.proc,.i b.number,.b b.gone]⟩)],[3,2,999]⟩)
      (True ∧ True)
      ⟨tt,tt⟩ ?_
     refine W.ret (thenQ_ret ?_)
     exact endQ_ret (.b false) (by kernel_rfl) (@cast ((.bool false : Value) = .bool (decide (a = b))) _ (by kernel_rfl) (congrArg Value.bool (by first | (symm; exact decide_eq_true (mark_ext (by omega) (by omega) (by omega) (by simp_all))) | (symm; exact decide_eq_false (fun e => by subst e; simp_all)))))
    ·intro n24
     refine W.skip (thenQ_normal ?_)
     refine Kk cok tab65 hnt [] [4] (⟨[(4,.b true)],[(2,⟨50,.fix [.i a.value,.i a.proc,.i a.number,.b a.gone]⟩),(3,⟨50,.fix [.i b.value,.i b.proc,.i b.number,.b b.gone]⟩)],[3,2,999]⟩)
      (True ∧ True)
      ⟨tt,tt⟩ ?_
     refine W.ret ?_
     exact endQ_ret (.b true) (by kernel_rfl) (@cast ((.bool true : Value) = .bool (decide (a = b))) _ (by kernel_rfl) (congrArg Value.bool (by first | (symm; exact decide_eq_true (mark_ext (by omega) (by omega) (by omega) (by simp_all))) | (symm; exact decide_eq_false (fun e => by subst e; simp_all)))))
theorem ent65 : Entr prog 65 := ⟨_,func65,rfl,by decide⟩
end Go.Proofs.Try

set_option linter.unusedSimpArgs false
set_option linter.unusedVariables false
namespace Go.Proofs.Try
open Go.Ab Go.RowKit
def fs40 : FnS := fnS [.s .marks,.s .marks] [.marks,.marks] (fun _ (a,b,_) => (.b (decide (a = b)),[],True))
abbrev T40 : Tab := lk [(65,fs65)]
theorem tab40 : TabOK prog T40 := (TabOK.cons ok65 ent65 TabOK.nil)
set_option maxRecDepth 100000 in
set_option maxHeartbeats 1000000 in
theorem ok40 : FnOK prog 40 fs40 := by
 refine FnOK.mk cok func40 rfl rfl rfl ?_
 rintro fl ⟨(a : List MarkD),(b : List MarkD),_⟩ hpre F hnt0 _
 have hnt : F.nt = 27 := hnt0.trans ntmps40
 clear hpre
 refine W.to (⟨[(0,.sl (.marks a)),(1,.sl (.marks b))],[],[999]⟩) rfl ?_
 refine W.lenOf 0 (.marks a) (by kernel_rfl) ?_
 intro hl_a; replace hl_a : List.length a ≤ 9223372036854775807 := hl_a
 refine W.lenOf 1 (.marks b) (by kernel_rfl) ?_
 intro hl_b; replace hl_b : List.length b ≤ 9223372036854775807 := hl_b
 refine Kk cok tab40 hnt [] [0,1] (⟨[(0,.sl (.marks a)),(1,.sl (.marks b))],[],[999]⟩)
  (True ∧ True)
  ⟨tt,tt⟩ ?_
 refine W.seq ?_
 refine Kk cok tab40 hnt [] [0,1,10] (⟨[(0,.sl (.marks a)),(1,.sl (.marks b)),(10,.b (decide ((a.length : Int) ≠ (b.length : Int))))],[],[999]⟩)
  (True ∧ True ∧ True ∧ True ∧ (True ∧ True ∧ True) ∧ True)
  ⟨tt,tt,tt,tt,⟨tt,tt,tt⟩,tt⟩ ?_
 refine W.ifP ((a.length : Int) ≠ (b.length : Int)) (.b (decide ((a.length : Int) ≠ (b.length : Int)))) (by kernel_rfl) rfl trivial ?_ ?_
 ·intro h10
  refine Kk cok tab40 hnt [] [4] (⟨[(4,.b false)],[],[999]⟩)
   (True ∧ True)
   ⟨tt,tt⟩ ?_
  refine W.ret (thenQ_ret ?_)
  exact endQ_ret (.b false) (by kernel_rfl) (@cast ((.bool false : Value) = .bool (decide (a = b))) _ (by kernel_rfl) (congrArg Value.bool (by symm; exact decide_eq_false (fun e => h10 (by rw [e])))))
 ·intro n10
  refine W.skip (thenQ_normal ?_)
  refine W.seq ?_
  refine Kk cok tab40 hnt [] [0,1,5] (⟨[(0,.sl (.marks a)),(1,.sl (.marks b)),(5,.i (0 : Int))],[],[999]⟩)
   (True ∧ True)
   ⟨tt,tt⟩ ?_
  refine W.block ?_
  refine W.loop (ι := Nat) (fun (i : Nat) => (⟨[(0,.sl (.marks a)),(1,.sl (.marks b)),(5,.i ((i : Nat) : Int))],[],[999]⟩ : St))
   (fun (i : Nat) => (i ≤ a.length) ∧ (∀ j,j < i → a.getD j default = b.getD j default))
   (fun (i : Nat) => (a.length - i : Nat)) (0) ?_ ?_ ?_
  ·exact (show (0 ≤ a.length) ∧ (∀ j,j < 0 → a.getD j default = b.getD j default) from ⟨(by first | assumption | omega | rfl | (intro _ hjj; omega) | (simp; done) | (simp; omega)),(by exact upto_zero)⟩)
  ·exact Sub.of [] (@cast (((Sd (.marks a)) ∧ (Sd (.marks b)) ∧ ((.int .i64 (0 : Int) : Value) = .int .i64 ((0 : Nat) : Int)) ∧ True) ∧ True ∧ (true = true) ∧ (true = true)) _ (by kernel_rfl) ⟨⟨rfl,rfl,(congrArg (Value.int .i64) (by first | rfl | omega | assumption | simp | simp_all)),tt⟩,tt,rfl,rfl⟩)
  ·rintro i hC0
   have hC : (i ≤ a.length) ∧ (∀ j,j < i → a.getD j default = b.getD j default) := hC0
   clear hC0
   obtain ⟨hi,hA⟩ := hC
   refine W.to (⟨[(0,.sl (.marks a)),(1,.sl (.marks b)),(5,.i ((i : Nat) : Int))],[],[999]⟩) rfl ?_
   refine W.seq ?_
   refine Kk cok tab40 hnt [] [0,1,5,14] (⟨[(0,.sl (.marks a)),(1,.sl (.marks b)),(5,.i ((i : Nat) : Int)),(14,.b (decide (((i : Nat) : Int) < (a.length : Int))))],[],[999]⟩)
    (True ∧ True ∧ True ∧ (True ∧ True ∧ True) ∧ True)
    ⟨tt,tt,tt,⟨tt,tt,tt⟩,tt⟩ ?_
   refine W.ifP (((i : Nat) : Int) < (a.length : Int)) (.b (decide (((i : Nat) : Int) < (a.length : Int)))) (by kernel_rfl) rfl trivial ?_ ?_
   ·intro h14
    refine W.skip (thenQ_normal ?_)
    refine W.seq ?_
    refine W.block ?_
    refine W.KA cok tab40 hnt [] [0,1,5,26] (⟨[(0,.sl (.marks a)),(1,.sl (.marks b)),(5,.i ((i : Nat) : Int)),(26,.b (!(decide ((a.getD i default) = (b.getD i default)))))],[],[999]⟩)
     (True ∧ True ∧ (True ∧ True ∧ (0 ≤ ((i : Nat) : Int)) ∧ (((i : Nat) : Int) < (a.length : Int))) ∧ True ∧ True ∧ True ∧ (True ∧ True ∧ (0 ≤ ((i : Nat) : Int)) ∧ (((i : Nat) : Int) < (b.length : Int))) ∧ True ∧ (True ∧ (True ∧ True ∧ True) ∧ True) ∧ True ∧ True) (by kernel_rfl) (by kernel_rfl)
     ⟨tt,tt,⟨tt,tt,(by omega),(by omega)⟩,tt,tt,tt,⟨tt,tt,(by omega),(by omega)⟩,tt,⟨tt,⟨tt,tt,tt⟩,tt⟩,tt,tt⟩ ?_
    refine W.if' (!(decide ((a.getD i default) = (b.getD i default)))) (.b (!(decide ((a.getD i default) = (b.getD i default))))) (by kernel_rfl) rfl trivial ?_ ?_
    ·intro h26
     refine Kk cok tab40 hnt [] [4] (⟨[(4,.b false)],[],[999]⟩)
      (True ∧ True)
      ⟨tt,tt⟩ ?_
     refine W.ret (blockQ_ret (thenQ_ret (thenQ_ret (blockQ_ret (thenQ_ret ?_)))))
     exact endQ_ret (.b false) (by kernel_rfl) (@cast ((.bool false : Value) = .bool (decide (a = b))) _ (by kernel_rfl) (congrArg Value.bool (by symm; exact decide_eq_false (fun e => by rw [e] at h26; simp at h26))))
    ·intro n26
     refine W.skip (blockQ_normal (thenQ_normal ?_))
     refine Lk cok tab40 hnt [] (⟨[(0,.sl (.marks a)),(1,.sl (.marks b)),(5,.i (((i + 1) : Nat) : Int)),(15,.i ((i : Nat) : Int)),(16,.i (((i + 1) : Nat) : Int)),(26,.b (!(decide ((a.getD i default) = (b.getD i default)))))],[],[999]⟩)
      (True ∧ (True ∧ True ∧ (Fits .i64 (((i + 1) : Nat) : Int))) ∧ True ∧ True)
      ⟨tt,⟨tt,tt,(by exact fits_i64 (by omega) (by omega))⟩,tt,tt⟩ ?_
     refine thenQ_normal ?_
     refine ⟨((i + 1)),(show ((i + 1) ≤ a.length) ∧ (∀ j,j < (i + 1) → a.getD j default = b.getD j default) from ⟨(by first | assumption | omega | rfl | (intro _ hjj; omega) | (simp; done) | (simp; omega)),(by exact upto_succ hA (by simpa using n26))⟩),(show a.length - (i + 1) < a.length - i from (by first | omega | (simp_all; omega))),?_⟩
     exact Sub.of [] (@cast (((Sd (.marks a)) ∧ (Sd (.marks b)) ∧ (Si (((i + 1) : Nat) : Int)) ∧ True) ∧ True ∧ (true = true) ∧ (true = true)) _ (by kernel_rfl) ⟨⟨rfl,rfl,rfl,tt⟩,tt,rfl,rfl⟩)
   ·intro n14
    refine W.exit (thenQ_exit (thenQ_exit (blockQ_hit ?_)))
    refine thenQ_normal ?_
    refine Kk cok tab40 hnt [] [4] (⟨[(4,.b true)],[],[999]⟩)
     (True ∧ True)
     ⟨tt,tt⟩ ?_
    refine W.ret ?_
    exact endQ_ret (.b true) (by kernel_rfl) (@cast ((.bool true : Value) = .bool (decide (a = b))) _ (by kernel_rfl) (congrArg Value.bool (by symm; exact decide_eq_true (marks_ext (by omega) (fun j hj => hA j (by omega))))))
theorem ent40 : Entr prog 40 := ⟨_,func40,rfl,by decide⟩
end Go.Proofs.Try
