import Derived.Test.YtpgppbgbmhlacaaOF5S0
import Derived.Test.YtpgppbgbmhlacaaOF5S1
set_option linter.unusedSimpArgs false
set_option linter.unusedVariables false
namespace Go.Proofs.Try
open Go.Ab Go.RowKit
def fs19 : FnS := fnS [.a [some .ints,some .ints,none,none,none,some .marks],.o,.o,.o] [.copy,.int,.int,.int] (fun _ (c,value,time,p,_) => (.tup [.agg [.own 0 (List.length ((writeTo c value time p).1.up)),.own 1 (List.length ((writeTo c value time p).1.down)),.i ((writeTo c value time p).1.value),.i ((writeTo c value time p).1.time),.i ((writeTo c value time p).1.proc),.own 2 (List.length ((writeTo c value time p).1.marks))],.b ((writeTo c value time p).2)],[(3,.ints ((writeTo c value time p).1.up)),(3,.ints ((writeTo c value time p).1.down)),(52,.marks ((writeTo c value time p).1.marks))],True))
abbrev T19 : Tab := lk [(12,fs12),(39,fs39),(43,fs43)]
theorem tab19 : TabOK prog T19 := (TabOK.cons ok12 ent12 (TabOK.cons ok39 ent39 (TabOK.cons ok43 ent43 TabOK.nil)))
set_option maxRecDepth 100000 in
set_option maxHeartbeats 1000000 in
theorem ok19 : FnOK prog 19 fs19 := by
 refine FnOK.mk cok func19 rfl rfl rfl ?_
 rintro fl ⟨(c : CopyD),(value : Int),(time : Int),(p : Int),_⟩ hpre F hnt0 _
 have hnt : F.nt = 37 := hnt0.trans ntmps19
 clear hpre
 refine W.to (⟨[(0,.agg (cC c)),(1,.i value),(2,.i time),(3,.i p)],[],[999]⟩) rfl ?_
 refine W.lenA 0 0 (cC c) (.ints c.up) (by kernel_rfl) (by kernel_rfl) ?_
 intro hl_c_up; replace hl_c_up : List.length c.up ≤ 9223372036854775807 := hl_c_up
 refine W.lenA 0 1 (cC c) (.ints c.down) (by kernel_rfl) (by kernel_rfl) ?_
 intro hl_c_down; replace hl_c_down : List.length c.down ≤ 9223372036854775807 := hl_c_down
 refine W.lenA 0 5 (cC c) (.marks c.marks) (by kernel_rfl) (by kernel_rfl) ?_
 intro hl_c_marks; replace hl_c_marks : List.length c.marks ≤ 9223372036854775807 := hl_c_marks
 refine Kk cok tab19 hnt [] [1,2,3,4,8] (⟨[(1,.i value),(2,.i time),(3,.i p),(4,.ptr 4 0),(8,.ptr 8 0)],[(4,⟨26,.fix (cC c)⟩),(8,⟨26,.fix [.v (.slice none 0 0),.v (.slice none 0 0),.i (0 : Int),.i (0 : Int),.i (0 : Int),.v (.slice none 0 0)]⟩)],[8,4,999]⟩)
  (True ∧ True ∧ True ∧ True)
  ⟨tt,tt,tt,tt⟩ ?_
 refine W.seq ?_
 refine Kk cok tab19 hnt [] [1,2,3,4,8,28] (⟨[(1,.i value),(2,.i time),(3,.i p),(4,.ptr 4 0),(8,.ptr 8 0),(28,.b ((((!(validCopy c)) || (!(within value (0 : Int) (3 : Int)))) || (!(within time (1 : Int) (30 : Int)))) || (!(within p (0 : Int) (2 : Int)))))],[(4,⟨26,.fix (cC c)⟩),(8,⟨26,.fix [.v (.slice none 0 0),.v (.slice none 0 0),.i (0 : Int),.i (0 : Int),.i (0 : Int),.v (.slice none 0 0)]⟩)],[8,4,999]⟩)
  ((fun (Z1:Bool)=>((fun (Z2:Bool)=>((fun (Z3:Bool)=>(True ∧ ((True ∧ (((True ∧ (True ∧ (True ∧ (True ∧ (True ∧ (True ∧ (True ∧ True))))))) ∧ True) ∧ True)) ∧ (True ∧ (True ∧ (((!Z1) = true → True) ∧ (((!Z1) = true → (True ∧ (((((!Z1) = true) ∧ True) ∧ (True ∧ (True ∧ True))) ∧ True))) ∧ (((!Z1) = true → (((!Z1) = true) ∧ True)) ∧ ((True ∧ ((Z1 = true → True) ∧ (Z1 = false → ((!Z1) = true) ∧ True))) ∧ (True ∧ (((!Z2) = true → True) ∧ (((!Z2) = true → (True ∧ (((((!Z2) = true) ∧ True) ∧ (True ∧ (True ∧ True))) ∧ True))) ∧ (((!Z2) = true → (((!Z2) = true) ∧ True)) ∧ ((True ∧ ((Z2 = true → True) ∧ (Z2 = false → ((!Z2) = true) ∧ True))) ∧ (True ∧ (((!Z3) = true → True) ∧ (((!Z3) = true → (True ∧ (((((!Z3) = true) ∧ True) ∧ (True ∧ (True ∧ True))) ∧ True))) ∧ (((!Z3) = true → (((!Z3) = true) ∧ True)) ∧ ((True ∧ ((Z3 = true → True) ∧ (Z3 = false → ((!Z3) = true) ∧ True))) ∧ True))))))))))))))))))) (Z2 || (!(within time (1 : Int) (30 : Int)))))) (Z1 || (!(within value (0 : Int) (3 : Int)))))) (!(validCopy c)))
  ⟨tt,⟨tt,⟨⟨tt,tt,tt,tt,tt,tt,tt,tt⟩,tt⟩,tt⟩,tt,tt,(fun _ => trivial),(fun hG => ⟨tt,⟨⟨hG,tt⟩,tt,tt,tt⟩,tt⟩),(fun hG => ⟨hG,tt⟩),⟨tt,(fun _ => trivial),(fun hp => ⟨(not_t hp),tt⟩)⟩,tt,(fun _ => trivial),(fun hG => ⟨tt,⟨⟨hG,tt⟩,tt,tt,tt⟩,tt⟩),(fun hG => ⟨hG,tt⟩),⟨tt,(fun _ => trivial),(fun hp => ⟨(not_t hp),tt⟩)⟩,tt,(fun _ => trivial),(fun hG => ⟨tt,⟨⟨hG,tt⟩,tt,tt,tt⟩,tt⟩),(fun hG => ⟨hG,tt⟩),⟨tt,(fun _ => trivial),(fun hp => ⟨(not_t hp),tt⟩)⟩,tt⟩ ?_
 refine W.if' ((((!(validCopy c)) || (!(within value (0 : Int) (3 : Int)))) || (!(within time (1 : Int) (30 : Int)))) || (!(within p (0 : Int) (2 : Int)))) (.b ((((!(validCopy c)) || (!(within value (0 : Int) (3 : Int)))) || (!(within time (1 : Int) (30 : Int)))) || (!(within p (0 : Int) (2 : Int))))) (by kernel_rfl) rfl trivial ?_ ?_
 ·intro h28
  refine Kk cok tab19 hnt [] [8,9] (⟨[(8,.ptr 8 0),(9,.b false)],[(4,⟨26,.fix (cC c)⟩),(8,⟨26,.fix [.v (.slice none 0 0),.v (.slice none 0 0),.i (0 : Int),.i (0 : Int),.i (0 : Int),.v (.slice none 0 0)]⟩)],[8,4,999]⟩)
   (True ∧ (True ∧ True) ∧ True ∧ True)
   ⟨tt,⟨tt,tt⟩,tt,tt⟩ ?_
  refine W.nilCell 8 821 0 26 3 (.ints ([] : List Int)) [.v (.slice none 0 0),.v (.slice none 0 0),.i (0 : Int),.i (0 : Int),.i (0 : Int),.v (.slice none 0 0)] (⟨[(8,.ptr 8 0),(9,.b false)],[(4,⟨26,.fix (cC c)⟩),(8,⟨26,.fix [.own 821 0,.v (.slice none 0 0),.i (0 : Int),.i (0 : Int),.i (0 : Int),.v (.slice none 0 0)]⟩),(821,⟨3,.row (.ints ([] : List Int))⟩)],[821,8,4,999]⟩) (by kernel_rfl) rfl rfl (by kernel_rfl) (by kernel_rfl) ?_
  refine W.nilCell 8 822 1 26 3 (.ints ([] : List Int)) [.own 821 0,.v (.slice none 0 0),.i (0 : Int),.i (0 : Int),.i (0 : Int),.v (.slice none 0 0)] (⟨[(8,.ptr 8 0),(9,.b false)],[(4,⟨26,.fix (cC c)⟩),(8,⟨26,.fix [.own 821 0,.own 822 0,.i (0 : Int),.i (0 : Int),.i (0 : Int),.v (.slice none 0 0)]⟩),(821,⟨3,.row (.ints ([] : List Int))⟩),(822,⟨3,.row (.ints ([] : List Int))⟩)],[822,821,8,4,999]⟩) (by kernel_rfl) rfl rfl (by kernel_rfl) (by kernel_rfl) ?_
  refine W.nilCell 8 826 5 26 52 (.marks ([] : List MarkD)) [.own 821 0,.own 822 0,.i (0 : Int),.i (0 : Int),.i (0 : Int),.v (.slice none 0 0)] (⟨[(8,.ptr 8 0),(9,.b false)],[(4,⟨26,.fix (cC c)⟩),(8,⟨26,.fix [.own 821 0,.own 822 0,.i (0 : Int),.i (0 : Int),.i (0 : Int),.own 826 0]⟩),(821,⟨3,.row (.ints ([] : List Int))⟩),(822,⟨3,.row (.ints ([] : List Int))⟩),(826,⟨52,.row (.marks ([] : List MarkD))⟩)],[826,822,821,8,4,999]⟩) (by kernel_rfl) rfl rfl (by kernel_rfl) (by kernel_rfl) ?_
  refine W.ret (thenQ_ret ?_)
  exact endQ_rows [(0,821),(1,822),(2,826)] (.tup [.agg [.own 821 0,.own 822 0,.i (0 : Int),.i (0 : Int),.i (0 : Int),.own 826 0],.b false]) (by kernel_rfl) (@cast (((((821 : Nat) = 821) ∧ (0 = (List.length ((writeTo c value time p).1.up))) ∧ ((0 : Nat) ∈ ([0,1,2] : List Nat))) ∧ (((822 : Nat) = 822) ∧ (0 = (List.length ((writeTo c value time p).1.down))) ∧ ((1 : Nat) ∈ ([0,1,2] : List Nat))) ∧ ((.int .i64 (0 : Int) : Value) = .int .i64 ((writeTo c value time p).1.value)) ∧ ((.int .i64 (0 : Int) : Value) = .int .i64 ((writeTo c value time p).1.time)) ∧ ((.int .i64 (0 : Int) : Value) = .int .i64 ((writeTo c value time p).1.proc)) ∧ (((826 : Nat) = 826) ∧ (0 = (List.length ((writeTo c value time p).1.marks))) ∧ ((2 : Nat) ∈ ([0,1,2] : List Nat))) ∧ True) ∧ ((.bool false : Value) = .bool ((writeTo c value time p).2)) ∧ True) _ (by kernel_rfl) ⟨⟨⟨rfl,(by first | rfl | omega | assumption | (symm; assumption) | (exact congrArg List.length (by rw [writeTo_no (wi_bad h28)] <;> rfl)) | (rw [writeTo_no (wi_bad h28)] <;> rfl; done) | simp | simp_all),(by decide)⟩,⟨rfl,(by first | rfl | omega | assumption | (symm; assumption) | (exact congrArg List.length (by rw [writeTo_no (wi_bad h28)] <;> rfl)) | (rw [writeTo_no (wi_bad h28)] <;> rfl; done) | simp | simp_all),(by decide)⟩,(congrArg (Value.int .i64) (by first | rfl | omega | assumption | (rw [writeTo_no (wi_bad h28)] <;> rfl; done) | simp | simp_all)),(congrArg (Value.int .i64) (by first | rfl | omega | assumption | (rw [writeTo_no (wi_bad h28)] <;> rfl; done) | simp | simp_all)),(congrArg (Value.int .i64) (by first | rfl | omega | assumption | (rw [writeTo_no (wi_bad h28)] <;> rfl; done) | simp | simp_all)),⟨rfl,(by first | rfl | omega | assumption | (symm; assumption) | (exact congrArg List.length (by rw [writeTo_no (wi_bad h28)] <;> rfl)) | (rw [writeTo_no (wi_bad h28)] <;> rfl; done) | simp | simp_all),(by decide)⟩,tt⟩,(congrArg Value.bool (by first | rfl | omega | assumption | (rw [writeTo_no (wi_bad h28)] <;> rfl; done) | simp | simp_all)),tt⟩) (@cast ((((3 : Nat) = 3) ∧ ((.ints ([] : List Int) : Dat) = .ints ((writeTo c value time p).1.up)) ∧ ((0 : Nat) ∈ ([0,1,2] : List Nat))) ∧ (((3 : Nat) = 3) ∧ ((.ints ([] : List Int) : Dat) = .ints ((writeTo c value time p).1.down)) ∧ ((1 : Nat) ∈ ([0,1,2] : List Nat))) ∧ (((52 : Nat) = 52) ∧ ((.marks ([] : List MarkD) : Dat) = .marks ((writeTo c value time p).1.marks)) ∧ ((2 : Nat) ∈ ([0,1,2] : List Nat))) ∧ True) _ (by kernel_rfl) ⟨⟨rfl,(congrArg Dat.ints (by rw [writeTo_no (wi_bad h28)] <;> rfl)),(by decide)⟩,⟨rfl,(congrArg Dat.ints (by rw [writeTo_no (wi_bad h28)] <;> rfl)),(by decide)⟩,⟨rfl,(congrArg Dat.marks (by rw [writeTo_no (wi_bad h28)] <;> rfl)),(by decide)⟩,tt⟩) (by kernel_rfl)
 ·intro n28
  have hg := wi_good n28
  have hf := up_len (and_l (and_l (and_l (gen_ok3 n28))))
  refine W.skip (thenQ_normal ?_)
  refine Kk cok tab19 hnt [] [1,2,3,8,10] (⟨[(1,.i value),(2,.i time),(3,.i p),(8,.ptr 8 0),(10,.ptr 10 0)],[(4,⟨26,.fix (cC c)⟩),(8,⟨26,.fix [.v (.slice none 0 0),.v (.slice none 0 0),.i (0 : Int),.i (0 : Int),.i (0 : Int),.v (.slice none 0 0)]⟩),(10,⟨26,.fix [.own 31 (List.length c.up),.own 1031 (List.length c.down),.i c.value,.i c.time,.i c.proc,.own 2031 (List.length c.marks)]⟩),(31,⟨3,.row (.ints c.up)⟩),(1031,⟨3,.row (.ints c.down)⟩),(2031,⟨52,.row (.marks c.marks)⟩)],[10,2031,1031,31,8,4,999]⟩)
   (True ∧ (True ∧ ((True ∧ True ∧ True ∧ True ∧ True ∧ True ∧ True ∧ True) ∧ True) ∧ c.up.length ≤ 1000 ∧ c.down.length ≤ 1000 ∧ c.marks.length ≤ 1000) ∧ True ∧ (True ∧ True) ∧ True)
   ⟨tt,⟨tt,⟨⟨tt,tt,tt,tt,tt,tt,tt,tt⟩,tt⟩,(by omega)⟩,tt,⟨tt,tt⟩,tt⟩ ?_
  refine W.seq (W.wi ?_)
  refine WI.runT cok tab19 hnt [] 3 3 (⟨[(1,.i value),(2,.i time),(3,.i p),(8,.ptr 8 0),(10,.ptr 10 0),(32,.i value),(33,.i time),(34,.i p)],[(4,⟨26,.fix (cC c)⟩),(8,⟨26,.fix [.v (.slice none 0 0),.v (.slice none 0 0),.i (0 : Int),.i (0 : Int),.i (0 : Int),.v (.slice none 0 0)]⟩),(10,⟨26,.fix [.own 31 (List.length c.up),.own 1031 (List.length c.down),.i c.value,.i c.time,.i c.proc,.own 2031 (List.length c.marks)]⟩),(31,⟨3,.row (.ints c.up)⟩),(1031,⟨3,.row (.ints c.down)⟩),(2031,⟨52,.row (.marks c.marks)⟩)],[10,2031,1031,31,8,4,999]⟩)
   (True ∧ True ∧ True ∧ True) (by kernel_rfl) rfl
   ⟨tt,tt,tt,tt⟩ ?_
  refine WI.callH _ [.ptr 10 0,.i value,.i time,.i p] [] (.fn 44 []) _ _ [(910,10),(911,31),(912,1031),(913,2031)] (hok44 c.up c.down c.value c.time c.proc c.marks value time p trivial) ent44 hnt rfl rfl (wanted_none rfl) (by kernel_rfl) (by kernel_rfl) trivial (by kernel_rfl) (by kernel_rfl) (by kernel_rfl) (@cast (((some ⟨26,.fix [.own 31 (List.length c.up),.own 1031 (List.length c.down),.i c.value,.i c.time,.i c.proc,.own 2031 (List.length c.marks)]⟩ : Option LB) = some ⟨26,.fix [.own 31 (List.length c.up),.own 1031 (List.length c.down),.i c.value,.i c.time,.i c.proc,.own 2031 (List.length c.marks)]⟩) ∧ (true = true) ∧ ((some ⟨3,.row (.ints c.up)⟩ : Option LB) = some ⟨3,.row (.ints c.up)⟩) ∧ (true = true) ∧ ((some ⟨3,.row (.ints c.down)⟩ : Option LB) = some ⟨3,.row (.ints c.down)⟩) ∧ (true = true) ∧ ((some ⟨52,.row (.marks c.marks)⟩ : Option LB) = some ⟨52,.row (.marks c.marks)⟩) ∧ (true = true) ∧ (True)) _ (by kernel_rfl) ⟨rfl,rfl,rfl,rfl,rfl,rfl,rfl,rfl,tt⟩) (by kernel_rfl) rfl ?_
  rintro r s1 u1 ⟨rfl,rfl,rfl⟩
  refine ⟨[(910,10),(911,31),(912,1031),(913,2031)],by kernel_rfl,WI.to (⟨[(1,.i value),(2,.i time),(3,.i p),(8,.ptr 8 0),(10,.ptr 10 0),(32,.i value),(33,.i time),(34,.i p),(35,.tup [])],[(4,⟨26,.fix (cC c)⟩),(8,⟨26,.fix [.v (.slice none 0 0),.v (.slice none 0 0),.i (0 : Int),.i (0 : Int),.i (0 : Int),.v (.slice none 0 0)]⟩),(10,⟨26,.fix [.own 31 (List.length c.up),.own 1031 (List.length c.down),.i (bif newerC (⟨c.up,c.down,value,time,p,c.marks⟩ : CopyD) (⟨c.up,c.down,c.value,c.time,c.proc,c.marks⟩ : CopyD) then value else c.value),.i (bif newerC (⟨c.up,c.down,value,time,p,c.marks⟩ : CopyD) (⟨c.up,c.down,c.value,c.time,c.proc,c.marks⟩ : CopyD) then time else c.time),.i (bif newerC (⟨c.up,c.down,value,time,p,c.marks⟩ : CopyD) (⟨c.up,c.down,c.value,c.time,c.proc,c.marks⟩ : CopyD) then p else c.proc),.own 2031 (List.length c.marks)]⟩),(31,⟨3,.row (.ints c.up)⟩),(1031,⟨3,.row (.ints c.down)⟩),(2031,⟨52,.row (.marks c.marks)⟩)],[10,2031,1031,31,8,4,999]⟩) 4 (by kernel_rfl) rfl ?_⟩
  refine WI.nil rfl (thenQ_normal ?_)
  refine W.keepE [8,10] [(8,.ptr 8 0),(10,.ptr 10 0)] (by kernel_rfl) ?_
  refine W.to (⟨[(8,.ptr 8 0),(10,.ptr 10 0)],[(4,⟨26,.fix (cC c)⟩),(8,⟨26,.fix [.v (.slice none 0 0),.v (.slice none 0 0),.i (0 : Int),.i (0 : Int),.i (0 : Int),.v (.slice none 0 0)]⟩),(10,⟨26,.fix [.own 31 (List.length c.up),.own 1031 (List.length c.down),.i (bif newerC (⟨c.up,c.down,value,time,p,c.marks⟩ : CopyD) (⟨c.up,c.down,c.value,c.time,c.proc,c.marks⟩ : CopyD) then value else c.value),.i (bif newerC (⟨c.up,c.down,value,time,p,c.marks⟩ : CopyD) (⟨c.up,c.down,c.value,c.time,c.proc,c.marks⟩ : CopyD) then time else c.time),.i (bif newerC (⟨c.up,c.down,value,time,p,c.marks⟩ : CopyD) (⟨c.up,c.down,c.value,c.time,c.proc,c.marks⟩ : CopyD) then p else c.proc),.own 2031 (List.length c.marks)]⟩),(31,⟨3,.row (.ints c.up)⟩),(1031,⟨3,.row (.ints c.down)⟩),(2031,⟨52,.row (.marks c.marks)⟩)],[10,2031,1031,31,8,4,999]⟩) rfl ?_
  refine Kk cok tab19 hnt [] [8,9] (⟨[(8,.ptr 8 0),(9,.b true)],[(4,⟨26,.fix (cC c)⟩),(8,⟨26,.fix [.own 31 (List.length c.up),.own 1031 (List.length c.down),.i (bif newerC (⟨c.up,c.down,value,time,p,c.marks⟩ : CopyD) (⟨c.up,c.down,c.value,c.time,c.proc,c.marks⟩ : CopyD) then value else c.value),.i (bif newerC (⟨c.up,c.down,value,time,p,c.marks⟩ : CopyD) (⟨c.up,c.down,c.value,c.time,c.proc,c.marks⟩ : CopyD) then time else c.time),.i (bif newerC (⟨c.up,c.down,value,time,p,c.marks⟩ : CopyD) (⟨c.up,c.down,c.value,c.time,c.proc,c.marks⟩ : CopyD) then p else c.proc),.own 2031 (List.length c.marks)]⟩),(10,⟨26,.fix [.own 31 (List.length c.up),.own 1031 (List.length c.down),.i (bif newerC (⟨c.up,c.down,value,time,p,c.marks⟩ : CopyD) (⟨c.up,c.down,c.value,c.time,c.proc,c.marks⟩ : CopyD) then value else c.value),.i (bif newerC (⟨c.up,c.down,value,time,p,c.marks⟩ : CopyD) (⟨c.up,c.down,c.value,c.time,c.proc,c.marks⟩ : CopyD) then time else c.time),.i (bif newerC (⟨c.up,c.down,value,time,p,c.marks⟩ : CopyD) (⟨c.up,c.down,c.value,c.time,c.proc,c.marks⟩ : CopyD) then p else c.proc),.own 2031 (List.length c.marks)]⟩),(31,⟨3,.row (.ints c.up)⟩),(1031,⟨3,.row (.ints c.down)⟩),(2031,⟨52,.row (.marks c.marks)⟩)],[10,2031,1031,31,8,4,999]⟩)
   (True ∧ (True ∧ True) ∧ True ∧ True)
   ⟨tt,⟨tt,tt⟩,tt,tt⟩ ?_
  refine W.ret ?_
  exact endQ_rows [(0,31),(1,1031),(2,2031)] (.tup [.agg [.own 31 (List.length c.up),.own 1031 (List.length c.down),.i (bif newerC (⟨c.up,c.down,value,time,p,c.marks⟩ : CopyD) (⟨c.up,c.down,c.value,c.time,c.proc,c.marks⟩ : CopyD) then value else c.value),.i (bif newerC (⟨c.up,c.down,value,time,p,c.marks⟩ : CopyD) (⟨c.up,c.down,c.value,c.time,c.proc,c.marks⟩ : CopyD) then time else c.time),.i (bif newerC (⟨c.up,c.down,value,time,p,c.marks⟩ : CopyD) (⟨c.up,c.down,c.value,c.time,c.proc,c.marks⟩ : CopyD) then p else c.proc),.own 2031 (List.length c.marks)],.b true]) (by kernel_rfl) (@cast (((((31 : Nat) = 31) ∧ ((List.length c.up) = (List.length ((writeTo c value time p).1.up))) ∧ ((0 : Nat) ∈ ([0,1,2] : List Nat))) ∧ (((1031 : Nat) = 1031) ∧ ((List.length c.down) = (List.length ((writeTo c value time p).1.down))) ∧ ((1 : Nat) ∈ ([0,1,2] : List Nat))) ∧ ((.int .i64 (bif newerC (⟨c.up,c.down,value,time,p,c.marks⟩ : CopyD) (⟨c.up,c.down,c.value,c.time,c.proc,c.marks⟩ : CopyD) then value else c.value) : Value) = .int .i64 ((writeTo c value time p).1.value)) ∧ ((.int .i64 (bif newerC (⟨c.up,c.down,value,time,p,c.marks⟩ : CopyD) (⟨c.up,c.down,c.value,c.time,c.proc,c.marks⟩ : CopyD) then time else c.time) : Value) = .int .i64 ((writeTo c value time p).1.time)) ∧ ((.int .i64 (bif newerC (⟨c.up,c.down,value,time,p,c.marks⟩ : CopyD) (⟨c.up,c.down,c.value,c.time,c.proc,c.marks⟩ : CopyD) then p else c.proc) : Value) = .int .i64 ((writeTo c value time p).1.proc)) ∧ (((2031 : Nat) = 2031) ∧ ((List.length c.marks) = (List.length ((writeTo c value time p).1.marks))) ∧ ((2 : Nat) ∈ ([0,1,2] : List Nat))) ∧ True) ∧ ((.bool true : Value) = .bool ((writeTo c value time p).2)) ∧ True) _ (by kernel_rfl) ⟨⟨⟨rfl,(by first | rfl | omega | assumption | (symm; assumption) | (exact congrArg List.length (by rw [write_impl hg] <;> rfl)) | (rw [write_impl hg] <;> rfl; done) | simp | simp_all),(by decide)⟩,⟨rfl,(by first | rfl | omega | assumption | (symm; assumption) | (exact congrArg List.length (by rw [write_impl hg] <;> rfl)) | (rw [write_impl hg] <;> rfl; done) | simp | simp_all),(by decide)⟩,(congrArg (Value.int .i64) (by first | rfl | omega | assumption | (rw [write_impl hg] <;> rfl; done) | simp | simp_all)),(congrArg (Value.int .i64) (by first | rfl | omega | assumption | (rw [write_impl hg] <;> rfl; done) | simp | simp_all)),(congrArg (Value.int .i64) (by first | rfl | omega | assumption | (rw [write_impl hg] <;> rfl; done) | simp | simp_all)),⟨rfl,(by first | rfl | omega | assumption | (symm; assumption) | (exact congrArg List.length (by rw [write_impl hg] <;> rfl)) | (rw [write_impl hg] <;> rfl; done) | simp | simp_all),(by decide)⟩,tt⟩,(congrArg Value.bool (by first | rfl | omega | assumption | (rw [write_impl hg] <;> rfl; done) | simp | simp_all)),tt⟩) (@cast ((((3 : Nat) = 3) ∧ ((.ints c.up : Dat) = .ints ((writeTo c value time p).1.up)) ∧ ((0 : Nat) ∈ ([0,1,2] : List Nat))) ∧ (((3 : Nat) = 3) ∧ ((.ints c.down : Dat) = .ints ((writeTo c value time p).1.down)) ∧ ((1 : Nat) ∈ ([0,1,2] : List Nat))) ∧ (((52 : Nat) = 52) ∧ ((.marks c.marks : Dat) = .marks ((writeTo c value time p).1.marks)) ∧ ((2 : Nat) ∈ ([0,1,2] : List Nat))) ∧ True) _ (by kernel_rfl) ⟨⟨rfl,(congrArg Dat.ints (by rw [write_impl hg] <;> rfl)),(by decide)⟩,⟨rfl,(congrArg Dat.ints (by rw [write_impl hg] <;> rfl)),(by decide)⟩,⟨rfl,(congrArg Dat.marks (by rw [write_impl hg] <;> rfl)),(by decide)⟩,tt⟩) (by kernel_rfl)
theorem ent19 : Entr prog 19 := ⟨_,func19,rfl,by decide⟩
end Go.Proofs.Try

set_option linter.unusedSimpArgs false
set_option linter.unusedVariables false
namespace Go.Proofs.Try
open Go.Ab Go.RowKit
def fs45 : FnS := fnS [] [] (fun _ _ => (.agg (cC newC),[],True))
abbrev T45 : Tab := lk []
theorem tab45 : TabOK prog T45 := TabOK.nil
set_option maxRecDepth 100000 in
set_option maxHeartbeats 1000000 in
theorem ok45 : FnOK prog 45 fs45 := by
 refine FnOK.mk cok func45 rfl rfl rfl ?_
 rintro fl _ hpre F hnt0 _
 have hnt : F.nt = 5 := hnt0.trans ntmps45
 clear hpre
 refine W.to (⟨[],[],[999]⟩) rfl ?_
 refine Kk cok tab45 hnt [] [0] (⟨[(0,.ptr 0 0)],[(0,⟨26,.fix [.v (.slice none 0 0),.v (.slice none 0 0),.i (0 : Int),.i (0 : Int),.i (0 : Int),.v (.slice none 0 0)]⟩)],[0,999]⟩)
  (True ∧ True)
  ⟨tt,tt⟩ ?_
 refine W.subS [(997,0)] (⟨[(0,.ptr 997 0)],[(997,⟨26,.fix [.v (.slice none 0 0),.v (.slice none 0 0),.i (0 : Int),.i (0 : Int),.i (0 : Int),.v (.slice none 0 0)]⟩)],[997,999]⟩) (@cast (((((0 : Nat) = 0) ∧ ((0 : Nat) = 0) ∧ ((997 : Nat) ∈ ([997,999] : List Nat))) ∧ True) ∧ ((((26 : Nat) = 26) ∧ ((((.slice none 0 0) : Value) = (.slice none 0 0)) ∧ (((.slice none 0 0) : Value) = (.slice none 0 0)) ∧ (Si (0 : Int)) ∧ (Si (0 : Int)) ∧ (Si (0 : Int)) ∧ (((.slice none 0 0) : Value) = (.slice none 0 0)) ∧ True) ∧ ((997 : Nat) ∈ ([997,999] : List Nat))) ∧ True) ∧ (true = true) ∧ (true = true)) _ (by kernel_rfl) ⟨⟨⟨rfl,rfl,(by decide)⟩,tt⟩,⟨⟨rfl,⟨rfl,rfl,rfl,rfl,rfl,rfl,tt⟩,(by decide)⟩,tt⟩,rfl,rfl⟩) ?_
 refine W.KA cok tab45 hnt [] [0] (⟨[(0,.ptr 997 0)],[(997,⟨26,.fix [.sl (.ints (List.replicate 3 (0 : Int))),.sl (.ints (List.replicate 3 (0 : Int))),.i (0 : Int),.i (0 : Int),.i (0 : Int),.sl (.marks ([] : List MarkD))]⟩)],[3,2,1,997,999]⟩)
  ((True ∧ True ∧ ((3 : Int) = (3 : Int)) ∧ (0 ≤ (3 : Int)) ∧ ((3 : Int) * 8 ≤ 281474976710656)) ∧ (True ∧ True ∧ ((3 : Int) = (3 : Int)) ∧ (0 ≤ (3 : Int)) ∧ ((3 : Int) * 8 ≤ 281474976710656)) ∧ True ∧ (True ∧ True ∧ True ∧ True) ∧ (True ∧ True) ∧ True) (by kernel_rfl) (by kernel_rfl)
  ⟨⟨tt,tt,rfl,(by omega),(by omega)⟩,⟨tt,tt,rfl,(by omega),(by omega)⟩,tt,⟨tt,tt,tt,tt⟩,⟨tt,tt⟩,tt⟩ ?_
 refine W.ret ?_
 exact endQ_ret (.agg [.sl (.ints (List.replicate 3 (0 : Int))),.sl (.ints (List.replicate 3 (0 : Int))),.i (0 : Int),.i (0 : Int),.i (0 : Int),.sl (.marks ([] : List MarkD))]) (by kernel_rfl) (@cast (((.ints (List.replicate 3 (0 : Int)) : Dat) = .ints newC.up) ∧ ((.ints (List.replicate 3 (0 : Int)) : Dat) = .ints newC.down) ∧ ((.int .i64 (0 : Int) : Value) = .int .i64 newC.value) ∧ ((.int .i64 (0 : Int) : Value) = .int .i64 newC.time) ∧ ((.int .i64 (0 : Int) : Value) = .int .i64 newC.proc) ∧ ((.marks ([] : List MarkD) : Dat) = .marks newC.marks) ∧ True) _ (by kernel_rfl) ⟨(congrArg Dat.ints (by rfl)),(congrArg Dat.ints (by rfl)),(congrArg (Value.int .i64) (by rfl)),(congrArg (Value.int .i64) (by rfl)),(congrArg (Value.int .i64) (by rfl)),(congrArg Dat.marks (by rfl)),tt⟩)
theorem ent45 : Entr prog 45 := ⟨_,func45,rfl,by decide⟩
end Go.Proofs.Try

set_option linter.unusedSimpArgs false
set_option linter.unusedVariables false
namespace Go.Proofs.Try
open Go.Ab Go.RowKit
def fs49 : FnS := fnS [.o,.o,.o] [.int,.int,.int] (fun _ (n,low,high,_) => (.b (within n low high),[],True))
abbrev T49 : Tab := lk []
theorem tab49 : TabOK prog T49 := TabOK.nil
set_option maxRecDepth 100000 in
set_option maxHeartbeats 1000000 in
theorem ok49 : FnOK prog 49 fs49 := by
 refine FnOK.mk cok func49 rfl rfl rfl ?_
 rintro fl ⟨(n : Int),(low : Int),(high : Int),_⟩ hpre F hnt0 _
 have hnt : F.nt = 15 := hnt0.trans ntmps49
 clear hpre
 refine W.to (⟨[(0,.i n),(1,.i low),(2,.i high)],[],[999]⟩) rfl ?_
 refine Kk cok tab49 hnt [] [0,1,2] (⟨[(0,.i n),(1,.i low),(2,.i high)],[],[999]⟩)
  (True ∧ True)
  ⟨tt,tt⟩ ?_
 refine Kk cok tab49 hnt [] [6] (⟨[(6,.b ((decide (low ≤ n)) && (decide (n ≤ high))))],[],[999]⟩)
  ((fun (Z1:Bool)=>(True ∧ (True ∧ ((True ∧ (True ∧ True)) ∧ (True ∧ ((Z1 = true → True) ∧ ((Z1 = true → True) ∧ ((Z1 = true → (((Z1 = true) ∧ True) ∧ (((Z1 = true) ∧ True) ∧ True))) ∧ ((True ∧ ((Z1 = true → (Z1 = true) ∧ True) ∧ (Z1 = false → True))) ∧ (True ∧ True)))))))))) (decide (low ≤ n)))
  ⟨tt,tt,⟨tt,tt,tt⟩,tt,(fun _ => trivial),(fun _ => trivial),(fun hG => ⟨⟨hG,tt⟩,⟨hG,tt⟩,tt⟩),⟨tt,(fun hp => ⟨hp,tt⟩),(fun _ => trivial)⟩,tt,tt⟩ ?_
 refine W.ret ?_
 exact endQ_ret (.b ((decide (low ≤ n)) && (decide (n ≤ high)))) (by kernel_rfl) (@cast ((.bool ((decide (low ≤ n)) && (decide (n ≤ high))) : Value) = .bool (within n low high)) _ (by kernel_rfl) (congrArg Value.bool (by first | rfl | simp_all)))
theorem ent49 : Entr prog 49 := ⟨_,func49,rfl,by decide⟩
end Go.Proofs.Try

set_option linter.unusedSimpArgs false
set_option linter.unusedVariables false
namespace Go.Proofs.Try
open Go.Ab Go.RowKit
def fs61 : FnS := fnS [.o,.o] [.mark,.mark] (fun _ (a,b,_) => (.b (lessM a b),[],True))
abbrev T61 : Tab := lk []
theorem tab61 : TabOK prog T61 := TabOK.nil
set_option maxRecDepth 100000 in
set_option maxHeartbeats 1000000 in
theorem ok61 : FnOK prog 61 fs61 := by
 refine FnOK.mk cok func61 rfl rfl rfl ?_
 rintro fl ⟨(a : MarkD),(b : MarkD),_⟩ hpre F hnt0 _
 have hnt : F.nt = 20 := hnt0.trans ntmps61
 clear hpre
 refine W.to (⟨[(0,.agg [.i a.value,.i a.proc,.i a.number,.b a.gone]),(1,.agg [.i b.value,.i b.proc,.i b.number,.b b.gone])],[],[999]⟩) rfl ?_
 refine Kk cok tab61 hnt [] [2,3] (⟨[(2,.ptr 2 0),(3,.ptr 3 0)],[(2,⟨52,.fix [.i a.value,.i a.proc,.i a.number,.b a.gone]⟩),(3,⟨52,.fix [.i b.value,.i b.proc,.i b.number,.b b.gone]⟩)],[3,2,999]⟩)
  (True ∧ True ∧ True ∧ True)
  ⟨tt,tt,tt,tt⟩ ?_
 refine W.seq ?_
 refine Kk cok tab61 hnt [] [2,3,9] (⟨[(2,.ptr 2 0),(3,.ptr 3 0),(9,.b (decide (a.proc ≠ b.proc)))],[(2,⟨52,.fix [.i a.value,.i a.proc,.i a.number,.b a.gone]⟩),(3,⟨52,.fix [.i b.value,.i b.proc,.i b.number,.b b.gone]⟩)],[3,2,999]⟩)
  (True ∧ True ∧ True ∧ True ∧ (True ∧ True ∧ True) ∧ True)
  ⟨tt,tt,tt,tt,⟨tt,tt,tt⟩,tt⟩ ?_
 refine W.ifP (a.proc ≠ b.proc) (.b (decide (a.proc ≠ b.proc))) (by kernel_rfl) rfl trivial ?_ ?_
 ·intro h9
  refine Kk cok tab61 hnt [] [4] (⟨[(4,.b (decide (a.proc < b.proc)))],[(2,⟨52,.fix [.i a.value,.i a.proc,.i a.number,.b a.gone]⟩),(3,⟨52,.fix [.i b.value,.i b.proc,.i b.number,.b b.gone]⟩)],[3,2,999]⟩)
   (True ∧ True ∧ True ∧ True ∧ (True ∧ True ∧ True) ∧ True ∧ True)
   ⟨tt,tt,tt,tt,⟨tt,tt,tt⟩,tt,tt⟩ ?_
  refine W.ret (thenQ_ret ?_)
  exact endQ_ret (.b (decide (a.proc < b.proc))) (by kernel_rfl) (@cast ((.bool (decide (a.proc < b.proc)) : Value) = .bool (lessM a b)) _ (by kernel_rfl) (congrArg Value.bool (by unfold lessM; rw [decide_eq_true h9]; rfl)))
 ·intro n9
  refine W.skip (thenQ_normal ?_)
  refine Kk cok tab61 hnt [] [4] (⟨[(4,.b (decide (a.number < b.number)))],[(2,⟨52,.fix [.i a.value,.i a.proc,.i a.number,.b a.gone]⟩),(3,⟨52,.fix [.i b.value,.i b.proc,.i b.number,.b b.gone]⟩)],[3,2,999]⟩)
   (True ∧ True ∧ True ∧ True ∧ (True ∧ True ∧ True) ∧ True ∧ True)
   ⟨tt,tt,tt,tt,⟨tt,tt,tt⟩,tt,tt⟩ ?_
  refine W.ret ?_
  exact endQ_ret (.b (decide (a.number < b.number))) (by kernel_rfl) (@cast ((.bool (decide (a.number < b.number)) : Value) = .bool (lessM a b)) _ (by kernel_rfl) (congrArg Value.bool (by unfold lessM; rw [decide_eq_false n9]; rfl)))
theorem ent61 : Entr prog 61 := ⟨_,func61,rfl,by decide⟩
end Go.Proofs.Try

set_option linter.unusedSimpArgs false
set_option linter.unusedVariables false
namespace Go.Proofs.Try
open Go.Ab Go.RowKit
def fs36 : FnS := fnS [.a [some .ints,some .ints,none,none,none,some .marks]] [.copy] (fun _ (c,_) => (.b (validCopy c),[],True))
abbrev T36 : Tab := lk [(49,fs49),(61,fs61)]
theorem tab36 : TabOK prog T36 := (TabOK.cons ok49 ent49 (TabOK.cons ok61 ent61 TabOK.nil))
set_option maxRecDepth 100000 in
set_option maxHeartbeats 1000000 in
theorem ok36 : FnOK prog 36 fs36 := by
 refine FnOK.mk cok func36 rfl rfl rfl ?_
 rintro fl ⟨(c : CopyD),_⟩ hpre F hnt0 _
 have hnt : F.nt = 116 := hnt0.trans ntmps36
 clear hpre
 refine W.to (⟨[(0,.agg (cC c))],[],[999]⟩) rfl ?_
 refine W.lenA 0 0 (cC c) (.ints c.up) (by kernel_rfl) (by kernel_rfl) ?_
 intro hl_c_up; replace hl_c_up : List.length c.up ≤ 9223372036854775807 := hl_c_up
 refine W.lenA 0 1 (cC c) (.ints c.down) (by kernel_rfl) (by kernel_rfl) ?_
 intro hl_c_down; replace hl_c_down : List.length c.down ≤ 9223372036854775807 := hl_c_down
 refine W.lenA 0 5 (cC c) (.marks c.marks) (by kernel_rfl) (by kernel_rfl) ?_
 intro hl_c_marks; replace hl_c_marks : List.length c.marks ≤ 9223372036854775807 := hl_c_marks
 refine Kk cok tab36 hnt [] [1] (⟨[(1,.ptr 1 0)],[(1,⟨26,.fix (cC c)⟩)],[1,999]⟩)
  (True ∧ True ∧ True)
  ⟨tt,tt,tt⟩ ?_
 refine W.seq ?_
 refine Kk cok tab36 hnt [] [1,48] (⟨[(1,.ptr 1 0),(48,.b ((((((decide ((((List.length c.up) : Nat) : Int) ≠ (3 : Int))) || (decide ((((List.length c.down) : Nat) : Int) ≠ (3 : Int)))) || (!(within c.value (0 : Int) (3 : Int)))) || (!(within c.time (0 : Int) (30 : Int)))) || (!(within c.proc (0 : Int) (2 : Int)))) || ((decide (c.time = (0 : Int))) && ((decide (c.value ≠ (0 : Int))) || (decide (c.proc ≠ (0 : Int)))))))],[(1,⟨26,.fix (cC c)⟩)],[1,999]⟩)
  ((fun (Z1:Bool)=>((fun (Z2:Bool)=>((fun (Z3:Bool)=>((fun (Z4:Bool)=>((fun (Z5:Bool)=>((fun (Z6:Bool)=>((fun (Z7:Bool)=>((fun (Z8:Bool)=>((fun (Z9:Bool)=>((fun (Z10:Bool)=>(True ∧ (True ∧ (True ∧ ((True ∧ (True ∧ True)) ∧ (True ∧ (((!Z3) = true → True) ∧ (((!Z3) = true → (((!Z3) = true) ∧ True)) ∧ (((!Z3) = true → (((!Z3) = true) ∧ True)) ∧ (((!Z3) = true → ((((!Z3) = true) ∧ True) ∧ (True ∧ True))) ∧ ((True ∧ ((Z3 = true → True) ∧ (Z3 = false → ((!Z3) = true) ∧ True))) ∧ (True ∧ (((!Z4) = true → True) ∧ (((!Z4) = true → (((!Z4) = true) ∧ True)) ∧ (((!Z4) = true → (True ∧ (((((!Z4) = true) ∧ True) ∧ (True ∧ (True ∧ True))) ∧ True))) ∧ (((!Z4) = true → (((!Z4) = true) ∧ True)) ∧ ((True ∧ ((Z4 = true → True) ∧ (Z4 = false → ((!Z4) = true) ∧ True))) ∧ (True ∧ (((!Z5) = true → True) ∧ (((!Z5) = true → (((!Z5) = true) ∧ True)) ∧ (((!Z5) = true → (True ∧ (((((!Z5) = true) ∧ True) ∧ (True ∧ (True ∧ True))) ∧ True))) ∧ (((!Z5) = true → (((!Z5) = true) ∧ True)) ∧ ((True ∧ ((Z5 = true → True) ∧ (Z5 = false → ((!Z5) = true) ∧ True))) ∧ (True ∧ (((!Z6) = true → True) ∧ (((!Z6) = true → (((!Z6) = true) ∧ True)) ∧ (((!Z6) = true → (True ∧ (((((!Z6) = true) ∧ True) ∧ (True ∧ (True ∧ True))) ∧ True))) ∧ (((!Z6) = true → (((!Z6) = true) ∧ True)) ∧ ((True ∧ ((Z6 = true → True) ∧ (Z6 = false → ((!Z6) = true) ∧ True))) ∧ (True ∧ ((Z8 = true → True) ∧ ((Z8 = true → ((Z8 = true) ∧ True)) ∧ ((Z8 = true → (((Z8 = true) ∧ True) ∧ (True ∧ True))) ∧ ((Z8 = true → True) ∧ ((Z9 = true → True) ∧ ((Z9 = true → ((Z9 = true) ∧ True)) ∧ ((Z9 = true → (((Z9 = true) ∧ True) ∧ (True ∧ True))) ∧ ((Z9 = true → True) ∧ ((Z10 = true → True) ∧ ((Z10 = true → ((Z10 = true) ∧ True)) ∧ ((Z10 = true → (((Z10 = true) ∧ True) ∧ (True ∧ True))) ∧ ((Z9 = true → (((Z9 = true) ∧ ((Z9 = true) ∧ True)) ∧ ((Z2 = true → True) ∧ (Z2 = false → (Z10 = true) ∧ True)))) ∧ ((Z8 = true → (((Z8 = true) ∧ ((Z8 = true) ∧ True)) ∧ ((Z1 = true → (Z9 = true) ∧ True) ∧ (Z1 = false → True)))) ∧ ((True ∧ ((Z7 = true → True) ∧ (Z7 = false → (Z8 = true) ∧ True))) ∧ True)))))))))))))))))))))))))))))))))))))))))))) (Z9 && (Z9 && (!Z2))))) (Z8 && (Z8 && Z1)))) (!Z7))) (Z6 || (!(within c.proc (0 : Int) (2 : Int)))))) (Z5 || (!(within c.time (0 : Int) (30 : Int)))))) (Z4 || (!(within c.value (0 : Int) (3 : Int)))))) (Z3 || (decide ((((List.length c.down) : Nat) : Int) ≠ (3 : Int)))))) (decide ((((List.length c.up) : Nat) : Int) ≠ (3 : Int))))) (decide (c.value ≠ (0 : Int))))) (decide (c.time = (0 : Int))))
  ⟨tt,tt,tt,⟨tt,tt,tt⟩,tt,(fun _ => trivial),(fun hG => ⟨hG,tt⟩),(fun hG => ⟨hG,tt⟩),(fun hG => ⟨⟨hG,tt⟩,tt,tt⟩),⟨tt,(fun _ => trivial),(fun hp => ⟨(not_t hp),tt⟩)⟩,tt,(fun _ => trivial),(fun hG => ⟨hG,tt⟩),(fun hG => ⟨tt,⟨⟨hG,tt⟩,tt,tt,tt⟩,tt⟩),(fun hG => ⟨hG,tt⟩),⟨tt,(fun _ => trivial),(fun hp => ⟨(not_t hp),tt⟩)⟩,tt,(fun _ => trivial),(fun hG => ⟨hG,tt⟩),(fun hG => ⟨tt,⟨⟨hG,tt⟩,tt,tt,tt⟩,tt⟩),(fun hG => ⟨hG,tt⟩),⟨tt,(fun _ => trivial),(fun hp => ⟨(not_t hp),tt⟩)⟩,tt,(fun _ => trivial),(fun hG => ⟨hG,tt⟩),(fun hG => ⟨tt,⟨⟨hG,tt⟩,tt,tt,tt⟩,tt⟩),(fun hG => ⟨hG,tt⟩),⟨tt,(fun _ => trivial),(fun hp => ⟨(not_t hp),tt⟩)⟩,tt,(fun _ => trivial),(fun hG => ⟨hG,tt⟩),(fun hG => ⟨⟨hG,tt⟩,tt,tt⟩),(fun _ => trivial),(fun _ => trivial),(fun hG => ⟨hG,tt⟩),(fun hG => ⟨⟨hG,tt⟩,tt,tt⟩),(fun _ => trivial),(fun _ => trivial),(fun hG => ⟨hG,tt⟩),(fun hG => ⟨⟨hG,tt⟩,tt,tt⟩),(fun hG => ⟨⟨hG,hG,tt⟩,(fun _ => trivial),(fun hp => ⟨(and_t hG (and_t hG (not_t hp))),tt⟩)⟩),(fun hG => ⟨⟨hG,hG,tt⟩,(fun hp => ⟨(and_t hG (and_t hG hp)),tt⟩),(fun _ => trivial)⟩),⟨tt,(fun _ => trivial),(fun hp => ⟨(not_t hp),tt⟩)⟩,tt⟩ ?_
 refine W.if' ((((((decide ((((List.length c.up) : Nat) : Int) ≠ (3 : Int))) || (decide ((((List.length c.down) : Nat) : Int) ≠ (3 : Int)))) || (!(within c.value (0 : Int) (3 : Int)))) || (!(within c.time (0 : Int) (30 : Int)))) || (!(within c.proc (0 : Int) (2 : Int)))) || ((decide (c.time = (0 : Int))) && ((decide (c.value ≠ (0 : Int))) || (decide (c.proc ≠ (0 : Int)))))) (.b ((((((decide ((((List.length c.up) : Nat) : Int) ≠ (3 : Int))) || (decide ((((List.length c.down) : Nat) : Int) ≠ (3 : Int)))) || (!(within c.value (0 : Int) (3 : Int)))) || (!(within c.time (0 : Int) (30 : Int)))) || (!(within c.proc (0 : Int) (2 : Int)))) || ((decide (c.time = (0 : Int))) && ((decide (c.value ≠ (0 : Int))) || (decide (c.proc ≠ (0 : Int))))))) (by kernel_rfl) rfl trivial ?_ ?_
 ·intro h48
  refine Kk cok tab36 hnt [] [2] (⟨[(2,.b false)],[(1,⟨26,.fix (cC c)⟩)],[1,999]⟩)
   (True ∧ True)
   ⟨tt,tt⟩ ?_
  refine W.ret (thenQ_ret ?_)
  exact endQ_ret (.b false) (by kernel_rfl) (@cast ((.bool false : Value) = .bool (validCopy c)) _ (by kernel_rfl) (congrArg Value.bool (by exact (valid_spec1 h48).symm)))
 ·intro n48
  have n48_0 : ¬ ((((List.length c.up) : Nat) : Int) ≠ (3 : Int)) := of_decide_eq_false (or_l (or_l (or_l (or_l (or_l n48)))))
  have n48_1 : ¬ ((((List.length c.down) : Nat) : Int) ≠ (3 : Int)) := of_decide_eq_false (or_r (or_l (or_l (or_l (or_l n48)))))
  refine W.skip (thenQ_normal ?_)
  refine W.seq ?_
  refine Kk cok tab36 hnt [] [1,3] (⟨[(1,.ptr 1 0),(3,.i (0 : Int))],[(1,⟨26,.fix (cC c)⟩)],[1,999]⟩)
   (True ∧ True)
   ⟨tt,tt⟩ ?_
  refine W.block ?_
  refine W.loop (ι := Nat) (fun (k : Nat) => (⟨[(1,.ptr 1 0),(3,.i ((k : Nat) : Int))],[(1,⟨26,.fix (cC c)⟩)],[1,999]⟩ : St))
   (fun (k : Nat) => (k ≤ 3) ∧ (∀ j,j < k → within (c.up.getD j 0) 0 20 = true) ∧ (∀ j,j < k → within (c.down.getD j 0) 0 20 = true))
   (fun (k : Nat) => (3 - k : Nat)) (0) ?_ ?_ ?_
  ·exact (show (0 ≤ 3) ∧ (∀ j,j < 0 → within (c.up.getD j 0) 0 20 = true) ∧ (∀ j,j < 0 → within (c.down.getD j 0) 0 20 = true) from ⟨(by first | assumption | omega | rfl | (intro _ hjj; omega) | (simp; done) | (simp; omega)),(by exact upto_zero),(by exact upto_zero)⟩)
  ·exact Sub.of [] (@cast (((((1 : Nat) = 1) ∧ ((0 : Nat) = 0) ∧ ((1 : Nat) ∈ ([1,999] : List Nat))) ∧ ((.int .i64 (0 : Int) : Value) = .int .i64 ((0 : Nat) : Int)) ∧ True) ∧ ((((26 : Nat) = 26) ∧ (Sc c) ∧ ((1 : Nat) ∈ ([1,999] : List Nat))) ∧ True) ∧ (true = true) ∧ (true = true)) _ (by kernel_rfl) ⟨⟨⟨rfl,rfl,(by decide)⟩,(congrArg (Value.int .i64) (by first | rfl | omega | assumption | simp | simp_all)),tt⟩,⟨⟨rfl,⟨rfl,rfl,rfl,rfl,rfl,rfl,tt⟩,(by decide)⟩,tt⟩,rfl,rfl⟩)
  ·rintro k hC0
   have hC : (k ≤ 3) ∧ (∀ j,j < k → within (c.up.getD j 0) 0 20 = true) ∧ (∀ j,j < k → within (c.down.getD j 0) 0 20 = true) := hC0
   clear hC0
   obtain ⟨hk,hU,hD⟩ := hC
   refine W.to (⟨[(1,.ptr 1 0),(3,.i ((k : Nat) : Int))],[(1,⟨26,.fix (cC c)⟩)],[1,999]⟩) rfl ?_
   have hs := valid_spec2 n48
   refine W.seq ?_
   refine Kk cok tab36 hnt [] [1,3,50] (⟨[(1,.ptr 1 0),(3,.i ((k : Nat) : Int)),(50,.b (decide (((k : Nat) : Int) < (3 : Int))))],[(1,⟨26,.fix (cC c)⟩)],[1,999]⟩)
    (True ∧ (True ∧ True ∧ True) ∧ True)
    ⟨tt,⟨tt,tt,tt⟩,tt⟩ ?_
   refine W.ifP (((k : Nat) : Int) < (3 : Int)) (.b (decide (((k : Nat) : Int) < (3 : Int)))) (by kernel_rfl) rfl trivial ?_ ?_
   ·intro h50
    refine W.skip (thenQ_normal ?_)
    refine W.seq ?_
    refine W.block ?_
    refine Kk cok tab36 hnt [] [1,3,68] (⟨[(1,.ptr 1 0),(3,.i ((k : Nat) : Int)),(68,.b ((!(within (List.getD c.up k 0) (0 : Int) (20 : Int))) || (!(within (List.getD c.down k 0) (0 : Int) (20 : Int)))))],[(1,⟨26,.fix (cC c)⟩)],[1,999]⟩)
     ((fun (Z1:Bool)=>(True ∧ (True ∧ (True ∧ ((True ∧ (True ∧ ((0 ≤ ((k : Nat) : Int)) ∧ (((k : Nat) : Int) < (((List.length c.up) : Nat) : Int))))) ∧ (True ∧ ((True ∧ ((True ∧ (True ∧ (True ∧ True))) ∧ True)) ∧ (True ∧ (True ∧ (((!Z1) = true → True) ∧ (((!Z1) = true → (((!Z1) = true) ∧ True)) ∧ (((!Z1) = true → True) ∧ (((!Z1) = true → ((((!Z1) = true) ∧ True) ∧ ((((!Z1) = true) ∧ True) ∧ ((0 ≤ ((k : Nat) : Int)) ∧ (((k : Nat) : Int) < (((List.length c.down) : Nat) : Int)))))) ∧ (((!Z1) = true → (((!Z1) = true) ∧ True)) ∧ (((!Z1) = true → (True ∧ (((((!Z1) = true) ∧ True) ∧ (True ∧ (True ∧ True))) ∧ True))) ∧ (((!Z1) = true → (((!Z1) = true) ∧ True)) ∧ ((True ∧ ((Z1 = true → True) ∧ (Z1 = false → ((!Z1) = true) ∧ True))) ∧ True))))))))))))))))) (!(within (List.getD c.up k 0) (0 : Int) (20 : Int))))
     ⟨tt,tt,tt,⟨tt,tt,(by omega),(by omega)⟩,tt,⟨tt,⟨tt,tt,tt,tt⟩,tt⟩,tt,tt,(fun _ => trivial),(fun hG => ⟨hG,tt⟩),(fun _ => trivial),(fun hG => ⟨⟨hG,tt⟩,⟨hG,tt⟩,(by omega),(by omega)⟩),(fun hG => ⟨hG,tt⟩),(fun hG => ⟨tt,⟨⟨hG,tt⟩,tt,tt,tt⟩,tt⟩),(fun hG => ⟨hG,tt⟩),⟨tt,(fun _ => trivial),(fun hp => ⟨(not_t hp),tt⟩)⟩,tt⟩ ?_
    refine W.if' ((!(within (List.getD c.up k 0) (0 : Int) (20 : Int))) || (!(within (List.getD c.down k 0) (0 : Int) (20 : Int)))) (.b ((!(within (List.getD c.up k 0) (0 : Int) (20 : Int))) || (!(within (List.getD c.down k 0) (0 : Int) (20 : Int))))) (by kernel_rfl) rfl trivial ?_ ?_
    ·intro h68
     refine Kk cok tab36 hnt [] [2] (⟨[(2,.b false)],[(1,⟨26,.fix (cC c)⟩)],[1,999]⟩)
      (True ∧ True)
      ⟨tt,tt⟩ ?_
     refine W.ret (blockQ_ret (thenQ_ret (thenQ_ret (blockQ_ret (thenQ_ret ?_)))))
     exact endQ_ret (.b false) (by kernel_rfl) (@cast ((.bool false : Value) = .bool (validCopy c)) _ (by kernel_rfl) (congrArg Value.bool (by exact (counts_bad hs.1 hs.2.1 (by omega) h68).symm)))
    ·intro n68
     refine W.skip (blockQ_normal (thenQ_normal ?_))
     refine Lk cok tab36 hnt [] (⟨[(1,.ptr 1 0),(3,.i (((k + 1) : Nat) : Int)),(51,.i ((k : Nat) : Int)),(52,.i (((k + 1) : Nat) : Int)),(68,.b ((!(within (List.getD c.up k 0) (0 : Int) (20 : Int))) || (!(within (List.getD c.down k 0) (0 : Int) (20 : Int)))))],[(1,⟨26,.fix (cC c)⟩)],[1,999]⟩)
      (True ∧ (True ∧ True ∧ (Fits .i64 (((k + 1) : Nat) : Int))) ∧ True ∧ True)
      ⟨tt,⟨tt,tt,(by exact fits_i64 (by omega) (by omega))⟩,tt,tt⟩ ?_
     refine thenQ_normal ?_
     refine ⟨((k + 1)),(show ((k + 1) ≤ 3) ∧ (∀ j,j < (k + 1) → within (c.up.getD j 0) 0 20 = true) ∧ (∀ j,j < (k + 1) → within (c.down.getD j 0) 0 20 = true) from ⟨(by first | assumption | omega | rfl | (intro _ hjj; omega) | (simp; done) | (simp; omega)),(by exact upto_succ hU (within_bad n68).1),(by exact upto_succ hD (within_bad n68).2)⟩),(show 3 - (k + 1) < 3 - k from (by first | omega | (simp_all; omega))),?_⟩
     exact Sub.of [] (@cast (((((1 : Nat) = 1) ∧ ((0 : Nat) = 0) ∧ ((1 : Nat) ∈ ([1,999] : List Nat))) ∧ (Si (((k + 1) : Nat) : Int)) ∧ True) ∧ ((((26 : Nat) = 26) ∧ (Sc c) ∧ ((1 : Nat) ∈ ([1,999] : List Nat))) ∧ True) ∧ (true = true) ∧ (true = true)) _ (by kernel_rfl) ⟨⟨⟨rfl,rfl,(by decide)⟩,rfl,tt⟩,⟨⟨rfl,⟨rfl,rfl,rfl,rfl,rfl,rfl,tt⟩,(by decide)⟩,tt⟩,rfl,rfl⟩)
   ·intro n50
    refine W.exit (thenQ_exit (thenQ_exit (blockQ_hit ?_)))
    refine thenQ_normal ?_
    refine W.seq ?_
    refine Kk cok tab36 hnt [] [1,4] (⟨[(1,.ptr 1 0),(4,.i (0 : Int))],[(1,⟨26,.fix (cC c)⟩)],[1,999]⟩)
     (True ∧ True)
     ⟨tt,tt⟩ ?_
    refine W.block ?_
    refine W.loop (ι := Nat) (fun (i : Nat) => (⟨[(1,.ptr 1 0),(4,.i ((i : Nat) : Int))],[(1,⟨26,.fix (cC c)⟩)],[1,999]⟩ : St))
     (fun (i : Nat) => (i ≤ c.marks.length) ∧ (∀ j,j < i → markOK c.marks j = true))
     (fun (i : Nat) => (c.marks.length - i : Nat)) (0) ?_ ?_ ?_
    ·exact (show (0 ≤ c.marks.length) ∧ (∀ j,j < 0 → markOK c.marks j = true) from ⟨(by first | assumption | omega | rfl | (intro _ hjj; omega) | (simp; done) | (simp; omega)),(by exact upto_zero)⟩)
    ·exact Sub.of [] (@cast (((((1 : Nat) = 1) ∧ ((0 : Nat) = 0) ∧ ((1 : Nat) ∈ ([1,999] : List Nat))) ∧ ((.int .i64 (0 : Int) : Value) = .int .i64 ((0 : Nat) : Int)) ∧ True) ∧ ((((26 : Nat) = 26) ∧ (Sc c) ∧ ((1 : Nat) ∈ ([1,999] : List Nat))) ∧ True) ∧ (true = true) ∧ (true = true)) _ (by kernel_rfl) ⟨⟨⟨rfl,rfl,(by decide)⟩,(congrArg (Value.int .i64) (by first | rfl | omega | assumption | simp | simp_all)),tt⟩,⟨⟨rfl,⟨rfl,rfl,rfl,rfl,rfl,rfl,tt⟩,(by decide)⟩,tt⟩,rfl,rfl⟩)
    ·rintro i hC0
     have hC : (i ≤ c.marks.length) ∧ (∀ j,j < i → markOK c.marks j = true) := hC0
     clear hC0
     obtain ⟨hi,hA⟩ := hC
     refine W.to (⟨[(1,.ptr 1 0),(4,.i ((i : Nat) : Int))],[(1,⟨26,.fix (cC c)⟩)],[1,999]⟩) rfl ?_
     refine W.seq ?_
     refine Kk cok tab36 hnt [] [1,4,73] (⟨[(1,.ptr 1 0),(4,.i ((i : Nat) : Int)),(73,.b (decide (((i : Nat) : Int) < (((List.length c.marks) : Nat) : Int))))],[(1,⟨26,.fix (cC c)⟩)],[1,999]⟩)
      (True ∧ True ∧ True ∧ True ∧ (True ∧ True ∧ True) ∧ True)
      ⟨tt,tt,tt,tt,⟨tt,tt,tt⟩,tt⟩ ?_
     refine W.ifP (((i : Nat) : Int) < (((List.length c.marks) : Nat) : Int)) (.b (decide (((i : Nat) : Int) < (((List.length c.marks) : Nat) : Int)))) (by kernel_rfl) rfl trivial ?_ ?_
     ·intro h73
      refine W.skip (thenQ_normal ?_)
      refine W.seq ?_
      refine W.block ?_
      refine Kk cok tab36 hnt [] [1,4,5] (⟨[(1,.ptr 1 0),(4,.i ((i : Nat) : Int)),(5,.ptr 5 0)],[(1,⟨26,.fix (cC c)⟩),(5,⟨52,.fix [.i ((List.getD c.marks i default).value),.i ((List.getD c.marks i default).proc),.i ((List.getD c.marks i default).number),.b ((List.getD c.marks i default).gone)]⟩)],[5,1,999]⟩)
       (True ∧ True ∧ True ∧ (True ∧ True ∧ (0 ≤ ((i : Nat) : Int)) ∧ (((i : Nat) : Int) < (((List.length c.marks) : Nat) : Int))) ∧ True ∧ True ∧ (True ∧ True) ∧ True)
       ⟨tt,tt,tt,⟨tt,tt,(by omega),(by omega)⟩,tt,tt,⟨tt,tt⟩,tt⟩ ?_
      refine W.KA cok tab36 hnt [] [1,4,111] (⟨[(1,.ptr 1 0),(4,.i ((i : Nat) : Int)),(111,.b ((((!(within ((List.getD c.marks i default).value) (0 : Int) (3 : Int))) || (!(within ((List.getD c.marks i default).proc) (0 : Int) (2 : Int)))) || (!(within ((List.getD c.marks i default).number) (1 : Int) (20 : Int)))) || ((decide ((0 : Int) < ((i : Nat) : Int))) && (!(lessM (List.getD c.marks (Int.toNat (((i : Nat) : Int) - (1 : Int))) default) (List.getD c.marks i default))))))],[(1,⟨26,.fix (cC c)⟩),(5,⟨52,.fix [.i ((List.getD c.marks i default).value),.i ((List.getD c.marks i default).proc),.i ((List.getD c.marks i default).number),.b ((List.getD c.marks i default).gone)]⟩)],[5,1,999]⟩)
       ((fun (Z1:Bool)=>((fun (Z2:Bool)=>((fun (Z3:Bool)=>((fun (Z4:Bool)=>((fun (Z5:Bool)=>((fun (Z6:Bool)=>(True ∧ (True ∧ ((True ∧ ((True ∧ (True ∧ (True ∧ True))) ∧ True)) ∧ (True ∧ (True ∧ (((!Z2) = true → True) ∧ (((!Z2) = true → (((!Z2) = true) ∧ True)) ∧ (((!Z2) = true → (True ∧ (((((!Z2) = true) ∧ True) ∧ (True ∧ (True ∧ True))) ∧ True))) ∧ (((!Z2) = true → (((!Z2) = true) ∧ True)) ∧ ((True ∧ ((Z2 = true → True) ∧ (Z2 = false → ((!Z2) = true) ∧ True))) ∧ (True ∧ (((!Z3) = true → True) ∧ (((!Z3) = true → (((!Z3) = true) ∧ True)) ∧ (((!Z3) = true → (True ∧ (((((!Z3) = true) ∧ True) ∧ (True ∧ (True ∧ True))) ∧ True))) ∧ (((!Z3) = true → (((!Z3) = true) ∧ True)) ∧ ((True ∧ ((Z3 = true → True) ∧ (Z3 = false → ((!Z3) = true) ∧ True))) ∧ (True ∧ ((Z5 = true → True) ∧ ((Z5 = true → (((Z5 = true) ∧ True) ∧ (True ∧ True))) ∧ ((Z5 = true → True) ∧ ((Z6 = true → True) ∧ ((Z6 = true → ((Z6 = true) ∧ True)) ∧ ((Z6 = true → True) ∧ ((Z6 = true → (((Z6 = true) ∧ True) ∧ (True ∧ (Fits .i64 (((i : Nat) : Int) - (1 : Int)))))) ∧ ((Z6 = true → (((Z6 = true) ∧ True) ∧ (((Z6 = true) ∧ True) ∧ ((0 ≤ (((i : Nat) : Int) - (1 : Int))) ∧ ((((i : Nat) : Int) - (1 : Int)) < (((List.length c.marks) : Nat) : Int)))))) ∧ ((Z6 = true → ((Z6 = true) ∧ True)) ∧ ((Z6 = true → True) ∧ ((Z6 = true → (True ∧ ((((Z6 = true) ∧ True) ∧ (((Z6 = true) ∧ True) ∧ True)) ∧ True))) ∧ ((Z6 = true → ((Z6 = true) ∧ True)) ∧ ((Z5 = true → (((Z5 = true) ∧ ((Z5 = true) ∧ True)) ∧ ((Z1 = true → (Z6 = true) ∧ True) ∧ (Z1 = false → True)))) ∧ ((True ∧ ((Z4 = true → True) ∧ (Z4 = false → (Z5 = true) ∧ True))) ∧ True)))))))))))))))))))))))))))))))) (Z5 && (Z5 && Z1)))) (!Z4))) (Z3 || (!(within ((List.getD c.marks i default).number) (1 : Int) (20 : Int)))))) (Z2 || (!(within ((List.getD c.marks i default).proc) (0 : Int) (2 : Int)))))) (!(within ((List.getD c.marks i default).value) (0 : Int) (3 : Int))))) (decide ((0 : Int) < ((i : Nat) : Int)))) (by kernel_rfl) (by kernel_rfl)
       ⟨tt,tt,⟨tt,⟨tt,tt,tt,tt⟩,tt⟩,tt,tt,(fun _ => trivial),(fun hG => ⟨hG,tt⟩),(fun hG => ⟨tt,⟨⟨hG,tt⟩,tt,tt,tt⟩,tt⟩),(fun hG => ⟨hG,tt⟩),⟨tt,(fun _ => trivial),(fun hp => ⟨(not_t hp),tt⟩)⟩,tt,(fun _ => trivial),(fun hG => ⟨hG,tt⟩),(fun hG => ⟨tt,⟨⟨hG,tt⟩,tt,tt,tt⟩,tt⟩),(fun hG => ⟨hG,tt⟩),⟨tt,(fun _ => trivial),(fun hp => ⟨(not_t hp),tt⟩)⟩,tt,(fun _ => trivial),(fun hG => ⟨⟨hG,tt⟩,tt,tt⟩),(fun _ => trivial),(fun _ => trivial),(fun hG => ⟨hG,tt⟩),(fun _ => trivial),(fun hG => ⟨⟨hG,tt⟩,tt,(by have hg0 : (0 : Int) < ((i : Nat) : Int) := of_decide_eq_true (and_r (and_r hG)); exact fits_i64 (by omega) (by omega))⟩),(fun hG => ⟨⟨hG,tt⟩,⟨hG,tt⟩,(by have hg0 : (0 : Int) < ((i : Nat) : Int) := of_decide_eq_true (and_r (and_r hG)); omega),(by have hg0 : (0 : Int) < ((i : Nat) : Int) := of_decide_eq_true (and_r (and_r hG)); omega)⟩),(fun hG => ⟨hG,tt⟩),(fun _ => trivial),(fun hG => ⟨tt,⟨⟨hG,tt⟩,⟨hG,tt⟩,tt⟩,tt⟩),(fun hG => ⟨hG,tt⟩),(fun hG => ⟨⟨hG,hG,tt⟩,(fun hp => ⟨(and_t hG (and_t hG hp)),tt⟩),(fun _ => trivial)⟩),⟨tt,(fun _ => trivial),(fun hp => ⟨(not_t hp),tt⟩)⟩,tt⟩ ?_
      refine W.if' ((((!(within ((List.getD c.marks i default).value) (0 : Int) (3 : Int))) || (!(within ((List.getD c.marks i default).proc) (0 : Int) (2 : Int)))) || (!(within ((List.getD c.marks i default).number) (1 : Int) (20 : Int)))) || ((decide ((0 : Int) < ((i : Nat) : Int))) && (!(lessM (List.getD c.marks (Int.toNat (((i : Nat) : Int) - (1 : Int))) default) (List.getD c.marks i default))))) (.b ((((!(within ((List.getD c.marks i default).value) (0 : Int) (3 : Int))) || (!(within ((List.getD c.marks i default).proc) (0 : Int) (2 : Int)))) || (!(within ((List.getD c.marks i default).number) (1 : Int) (20 : Int)))) || ((decide ((0 : Int) < ((i : Nat) : Int))) && (!(lessM (List.getD c.marks (Int.toNat (((i : Nat) : Int) - (1 : Int))) default) (List.getD c.marks i default)))))) (by kernel_rfl) rfl trivial ?_ ?_
      ·intro h111
       refine Kk cok tab36 hnt [] [2] (⟨[(2,.b false)],[(1,⟨26,.fix (cC c)⟩),(5,⟨52,.fix [.i ((List.getD c.marks i default).value),.i ((List.getD c.marks i default).proc),.i ((List.getD c.marks i default).number),.b ((List.getD c.marks i default).gone)]⟩)],[5,1,999]⟩)
        (True ∧ True)
        ⟨tt,tt⟩ ?_
       refine W.ret (blockQ_ret (thenQ_ret (thenQ_ret (blockQ_ret (thenQ_ret ?_)))))
       exact endQ_ret (.b false) (by kernel_rfl) (@cast ((.bool false : Value) = .bool (validCopy c)) _ (by kernel_rfl) (congrArg Value.bool (by rw [show ((i : Int) - 1).toNat = i - 1 by omega] at h111; exact (valid_marks (mark_bad (i := i) (by omega) (markS_no h111))).symm)))
      ·intro n111
       refine W.skip (blockQ_normal (thenQ_normal ?_))
       refine Lk cok tab36 hnt [] (⟨[(1,.ptr 1 0),(4,.i (((i + 1) : Nat) : Int)),(74,.i ((i : Nat) : Int)),(75,.i (((i + 1) : Nat) : Int)),(111,.b ((((!(within ((List.getD c.marks i default).value) (0 : Int) (3 : Int))) || (!(within ((List.getD c.marks i default).proc) (0 : Int) (2 : Int)))) || (!(within ((List.getD c.marks i default).number) (1 : Int) (20 : Int)))) || ((decide ((0 : Int) < ((i : Nat) : Int))) && (!(lessM (List.getD c.marks (Int.toNat (((i : Nat) : Int) - (1 : Int))) default) (List.getD c.marks i default))))))],[(1,⟨26,.fix (cC c)⟩),(5,⟨52,.fix [.i ((List.getD c.marks i default).value),.i ((List.getD c.marks i default).proc),.i ((List.getD c.marks i default).number),.b ((List.getD c.marks i default).gone)]⟩)],[5,1,999]⟩)
        (True ∧ (True ∧ True ∧ (Fits .i64 (((i + 1) : Nat) : Int))) ∧ True ∧ True)
        ⟨tt,⟨tt,tt,(by exact fits_i64 (by omega) (by omega))⟩,tt,tt⟩ ?_
       refine thenQ_normal ?_
       refine ⟨((i + 1)),(show ((i + 1) ≤ c.marks.length) ∧ (∀ j,j < (i + 1) → markOK c.marks j = true) from ⟨(by first | assumption | omega | rfl | (intro _ hjj; omega) | (simp; done) | (simp; omega)),(by rw [show ((i : Int) - 1).toNat = i - 1 by omega] at n111; exact upto_succ hA (markS_ok n111))⟩),(show c.marks.length - (i + 1) < c.marks.length - i from (by first | omega | (simp_all; omega))),?_⟩
       exact Sub.of [] (@cast (((((1 : Nat) = 1) ∧ ((0 : Nat) = 0) ∧ ((1 : Nat) ∈ ([1,999] : List Nat))) ∧ (Si (((i + 1) : Nat) : Int)) ∧ True) ∧ ((((26 : Nat) = 26) ∧ (Sc c) ∧ ((1 : Nat) ∈ ([1,999] : List Nat))) ∧ True) ∧ (true = true) ∧ (true = true)) _ (by kernel_rfl) ⟨⟨⟨rfl,rfl,(by decide)⟩,rfl,tt⟩,⟨⟨rfl,⟨rfl,rfl,rfl,rfl,rfl,rfl,tt⟩,(by decide)⟩,tt⟩,rfl,rfl⟩)
     ·intro n73
      refine W.exit (thenQ_exit (thenQ_exit (blockQ_hit ?_)))
      refine thenQ_normal ?_
      refine Kk cok tab36 hnt [] [2] (⟨[(2,.b (decide ((((List.length c.marks) : Nat) : Int) ≤ (20 : Int))))],[(1,⟨26,.fix (cC c)⟩)],[1,999]⟩)
       (True ∧ True ∧ True ∧ (True ∧ True ∧ True) ∧ True ∧ True)
       ⟨tt,tt,tt,⟨tt,tt,tt⟩,tt,tt⟩ ?_
      refine W.ret ?_
      exact endQ_ret (.b (decide ((((List.length c.marks) : Nat) : Int) ≤ (20 : Int)))) (by kernel_rfl) (@cast ((.bool (decide ((((List.length c.marks) : Nat) : Int) ≤ (20 : Int))) : Value) = .bool (validCopy c)) _ (by kernel_rfl) (congrArg Value.bool (by exact valid_spec (valid_spec2 n48).2.2 (counts_part (valid_spec2 n48).1 (fun j hj => hU j (by omega))) (counts_part (valid_spec2 n48).2.1 (fun j hj => hD j (by omega))) (allN_true (fun j hj => hA j (by omega))))))
theorem ent36 : Entr prog 36 := ⟨_,func36,rfl,by decide⟩
end Go.Proofs.Try

set_option linter.unusedSimpArgs false
set_option linter.unusedVariables false
namespace Go.Proofs.Try
open Go.Ab Go.RowKit
def fs46 : FnS := fnS [.a [some .ints,some .ints,none,none,none,some .marks]] [.copy] (fun _ (c,_) => (.agg [.own 0 (List.length c.up),.own 1 (List.length c.down),.i c.value,.i c.time,.i c.proc,.own 2 (List.length c.marks)],[(3,.ints c.up),(3,.ints c.down),(52,.marks c.marks)],(c.up.length ≤ 1000 ∧ c.down.length ≤ 1000 ∧ c.marks.length ≤ 1000)))
abbrev T46 : Tab := lk []
theorem tab46 : TabOK prog T46 := TabOK.nil
set_option maxRecDepth 100000 in
set_option maxHeartbeats 1000000 in
theorem ok46 : FnOK prog 46 fs46 := by
 refine FnOK.mk cok func46 rfl rfl rfl ?_
 rintro fl ⟨(c : CopyD),_⟩ hpre F hnt0 _
 have hnt : F.nt = 22 := hnt0.trans ntmps46
 replace hpre : (c.up.length ≤ 1000 ∧ c.down.length ≤ 1000 ∧ c.marks.length ≤ 1000) := hpre
 have hs := hpre
 refine W.to (⟨[(0,.agg (cC c))],[],[999]⟩) rfl ?_
 refine W.lenA 0 0 (cC c) (.ints c.up) (by kernel_rfl) (by kernel_rfl) ?_
 intro hl_c_up; replace hl_c_up : List.length c.up ≤ 9223372036854775807 := hl_c_up
 refine W.lenA 0 1 (cC c) (.ints c.down) (by kernel_rfl) (by kernel_rfl) ?_
 intro hl_c_down; replace hl_c_down : List.length c.down ≤ 9223372036854775807 := hl_c_down
 refine W.lenA 0 5 (cC c) (.marks c.marks) (by kernel_rfl) (by kernel_rfl) ?_
 intro hl_c_marks; replace hl_c_marks : List.length c.marks ≤ 9223372036854775807 := hl_c_marks
 refine Kk cok tab46 hnt [] [1,2] (⟨[(1,.ptr 1 0),(2,.ptr 2 0)],[(1,⟨26,.fix (cC c)⟩),(2,⟨26,.fix [.v (.slice none 0 0),.v (.slice none 0 0),.i (0 : Int),.i (0 : Int),.i (0 : Int),.v (.slice none 0 0)]⟩)],[2,1,999]⟩)
  (True ∧ True ∧ True)
  ⟨tt,tt,tt⟩ ?_
 refine W.KA cok tab46 hnt [3,6,7,10,17,20] [2] (⟨[(2,.ptr 2 0)],[(1,⟨26,.fix (cC c)⟩),(2,⟨26,.fix [.own 6 (List.length c.up),.own 10 (List.length c.down),.i c.value,.i c.time,.i c.proc,.own 20 (List.length c.marks)]⟩),(6,⟨3,.row (.ints c.up)⟩),(10,⟨3,.row (.ints c.down)⟩),(20,⟨52,.row (.marks c.marks)⟩)],[20,17,10,7,6,3,2,1,999]⟩)
  (True ∧ True ∧ True ∧ ((True ∧ ((List.length ([] : List Int)) = (List.length ([] : List Int)))) ∧ True ∧ (((List.length ([] : List Int)) + (List.length c.up)) * 8 ≤ 140737488355328)) ∧ True ∧ True ∧ True ∧ ((True ∧ ((List.length ([] : List Int)) = (List.length ([] : List Int)))) ∧ True ∧ (((List.length ([] : List Int)) + (List.length c.down)) * 8 ≤ 140737488355328)) ∧ True ∧ True ∧ True ∧ True ∧ True ∧ True ∧ True ∧ True ∧ True ∧ ((True ∧ ((List.length ([] : List MarkD)) = (List.length ([] : List MarkD)))) ∧ True ∧ (((List.length ([] : List MarkD)) + (List.length c.marks)) * 32 ≤ 140737488355328)) ∧ (True ∧ True ∧ True ∧ True ∧ True ∧ True ∧ True) ∧ (True ∧ True) ∧ True) (by kernel_rfl) (by kernel_rfl)
  ⟨tt,tt,tt,⟨⟨tt,rfl⟩,tt,(by (try simp only [List.length_append,List.length_cons,List.length_nil,List.length_set]); omega)⟩,tt,tt,tt,⟨⟨tt,rfl⟩,tt,(by (try simp only [List.length_append,List.length_cons,List.length_nil,List.length_set]); omega)⟩,tt,tt,tt,tt,tt,tt,tt,tt,tt,⟨⟨tt,rfl⟩,tt,(by (try simp only [List.length_append,List.length_cons,List.length_nil,List.length_set]); omega)⟩,⟨tt,tt,tt,tt,tt,tt,tt⟩,⟨tt,tt⟩,tt⟩ ?_
 refine W.ret ?_
 exact endQ_rows [(0,6),(1,10),(2,20)] (.agg [.own 6 (List.length c.up),.own 10 (List.length c.down),.i c.value,.i c.time,.i c.proc,.own 20 (List.length c.marks)]) (by kernel_rfl) (@cast ((((6 : Nat) = 6) ∧ ((List.length c.up) = (List.length c.up)) ∧ ((0 : Nat) ∈ ([0,1,2] : List Nat))) ∧ (((10 : Nat) = 10) ∧ ((List.length c.down) = (List.length c.down)) ∧ ((1 : Nat) ∈ ([0,1,2] : List Nat))) ∧ (Si c.value) ∧ (Si c.time) ∧ (Si c.proc) ∧ (((20 : Nat) = 20) ∧ ((List.length c.marks) = (List.length c.marks)) ∧ ((2 : Nat) ∈ ([0,1,2] : List Nat))) ∧ True) _ (by kernel_rfl) ⟨⟨rfl,rfl,(by decide)⟩,⟨rfl,rfl,(by decide)⟩,rfl,rfl,rfl,⟨rfl,rfl,(by decide)⟩,tt⟩) (@cast ((((3 : Nat) = 3) ∧ (Sd (.ints c.up)) ∧ ((0 : Nat) ∈ ([0,1,2] : List Nat))) ∧ (((3 : Nat) = 3) ∧ (Sd (.ints c.down)) ∧ ((1 : Nat) ∈ ([0,1,2] : List Nat))) ∧ (((52 : Nat) = 52) ∧ (Sd (.marks c.marks)) ∧ ((2 : Nat) ∈ ([0,1,2] : List Nat))) ∧ True) _ (by kernel_rfl) ⟨⟨rfl,rfl,(by decide)⟩,⟨rfl,rfl,(by decide)⟩,⟨rfl,rfl,(by decide)⟩,tt⟩) (by kernel_rfl)
theorem ent46 : Entr prog 46 := ⟨_,func46,rfl,by decide⟩
end Go.Proofs.Try

set_option linter.unusedSimpArgs false
set_option linter.unusedVariables false
namespace Go.Proofs.Try
open Go.Ab Go.RowKit
def fs47 : FnS := fnS [.a [some .ints,some .ints,none,none,none,some .marks],.a [some .ints,some .ints,none,none,none,some .marks]] [.copy,.copy] (fun _ (a,b,_) => (.b (newerC a b),[],True))
abbrev T47 : Tab := lk []
theorem tab47 : TabOK prog T47 := TabOK.nil
set_option maxRecDepth 100000 in
set_option maxHeartbeats 1000000 in
theorem ok47 : FnOK prog 47 fs47 := by
 refine FnOK.mk cok func47 rfl rfl rfl ?_
 rintro fl ⟨(a : CopyD),(b : CopyD),_⟩ hpre F hnt0 _
 have hnt : F.nt = 30 := hnt0.trans ntmps47
 clear hpre
 refine W.to (⟨[(0,.agg (cC a)),(1,.agg (cC b))],[],[999]⟩) rfl ?_
 refine W.lenA 0 0 (cC a) (.ints a.up) (by kernel_rfl) (by kernel_rfl) ?_
 intro hl_a_up; replace hl_a_up : List.length a.up ≤ 9223372036854775807 := hl_a_up
 refine W.lenA 0 1 (cC a) (.ints a.down) (by kernel_rfl) (by kernel_rfl) ?_
 intro hl_a_down; replace hl_a_down : List.length a.down ≤ 9223372036854775807 := hl_a_down
 refine W.lenA 0 5 (cC a) (.marks a.marks) (by kernel_rfl) (by kernel_rfl) ?_
 intro hl_a_marks; replace hl_a_marks : List.length a.marks ≤ 9223372036854775807 := hl_a_marks
 refine W.lenA 1 0 (cC b) (.ints b.up) (by kernel_rfl) (by kernel_rfl) ?_
 intro hl_b_up; replace hl_b_up : List.length b.up ≤ 9223372036854775807 := hl_b_up
 refine W.lenA 1 1 (cC b) (.ints b.down) (by kernel_rfl) (by kernel_rfl) ?_
 intro hl_b_down; replace hl_b_down : List.length b.down ≤ 9223372036854775807 := hl_b_down
 refine W.lenA 1 5 (cC b) (.marks b.marks) (by kernel_rfl) (by kernel_rfl) ?_
 intro hl_b_marks; replace hl_b_marks : List.length b.marks ≤ 9223372036854775807 := hl_b_marks
 refine Kk cok tab47 hnt [] [2,3] (⟨[(2,.ptr 2 0),(3,.ptr 3 0)],[(2,⟨26,.fix (cC a)⟩),(3,⟨26,.fix (cC b)⟩)],[3,2,999]⟩)
  (True ∧ True ∧ True ∧ True)
  ⟨tt,tt,tt,tt⟩ ?_
 refine W.seq ?_
 refine Kk cok tab47 hnt [] [2,3,9] (⟨[(2,.ptr 2 0),(3,.ptr 3 0),(9,.b (decide (a.time ≠ b.time)))],[(2,⟨26,.fix (cC a)⟩),(3,⟨26,.fix (cC b)⟩)],[3,2,999]⟩)
  (True ∧ True ∧ True ∧ True ∧ (True ∧ True ∧ True) ∧ True)
  ⟨tt,tt,tt,tt,⟨tt,tt,tt⟩,tt⟩ ?_
 refine W.ifP (a.time ≠ b.time) (.b (decide (a.time ≠ b.time))) (by kernel_rfl) rfl trivial ?_ ?_
 ·intro h9
  refine Kk cok tab47 hnt [] [4] (⟨[(4,.b (decide (b.time < a.time)))],[(2,⟨26,.fix (cC a)⟩),(3,⟨26,.fix (cC b)⟩)],[3,2,999]⟩)
   (True ∧ True ∧ True ∧ True ∧ (True ∧ True ∧ True) ∧ True ∧ True)
   ⟨tt,tt,tt,tt,⟨tt,tt,tt⟩,tt,tt⟩ ?_
  refine W.ret (thenQ_ret ?_)
  exact endQ_ret (.b (decide (b.time < a.time))) (by kernel_rfl) (@cast ((.bool (decide (b.time < a.time)) : Value) = .bool (newerC a b)) _ (by kernel_rfl) (congrArg Value.bool (by unfold newerC; rw [decide_eq_true h9]; rfl)))
 ·intro n9
  refine W.skip (thenQ_normal ?_)
  refine W.seq ?_
  refine Kk cok tab47 hnt [] [2,3,19] (⟨[(2,.ptr 2 0),(3,.ptr 3 0),(19,.b (decide (a.proc ≠ b.proc)))],[(2,⟨26,.fix (cC a)⟩),(3,⟨26,.fix (cC b)⟩)],[3,2,999]⟩)
   (True ∧ True ∧ True ∧ True ∧ (True ∧ True ∧ True) ∧ True)
   ⟨tt,tt,tt,tt,⟨tt,tt,tt⟩,tt⟩ ?_
  refine W.ifP (a.proc ≠ b.proc) (.b (decide (a.proc ≠ b.proc))) (by kernel_rfl) rfl trivial ?_ ?_
  ·intro h19
   refine Kk cok tab47 hnt [] [4] (⟨[(4,.b (decide (b.proc < a.proc)))],[(2,⟨26,.fix (cC a)⟩),(3,⟨26,.fix (cC b)⟩)],[3,2,999]⟩)
    (True ∧ True ∧ True ∧ True ∧ (True ∧ True ∧ True) ∧ True ∧ True)
    ⟨tt,tt,tt,tt,⟨tt,tt,tt⟩,tt,tt⟩ ?_
   refine W.ret (thenQ_ret ?_)
   exact endQ_ret (.b (decide (b.proc < a.proc))) (by kernel_rfl) (@cast ((.bool (decide (b.proc < a.proc)) : Value) = .bool (newerC a b)) _ (by kernel_rfl) (congrArg Value.bool (by unfold newerC; rw [decide_eq_false n9,decide_eq_true h19]; rfl)))
  ·intro n19
   refine W.skip (thenQ_normal ?_)
   refine Kk cok tab47 hnt [] [4] (⟨[(4,.b (decide (b.value < a.value)))],[(2,⟨26,.fix (cC a)⟩),(3,⟨26,.fix (cC b)⟩)],[3,2,999]⟩)
    (True ∧ True ∧ True ∧ True ∧ (True ∧ True ∧ True) ∧ True ∧ True)
    ⟨tt,tt,tt,tt,⟨tt,tt,tt⟩,tt,tt⟩ ?_
   refine W.ret ?_
   exact endQ_ret (.b (decide (b.value < a.value))) (by kernel_rfl) (@cast ((.bool (decide (b.value < a.value)) : Value) = .bool (newerC a b)) _ (by kernel_rfl) (congrArg Value.bool (by unfold newerC; rw [decide_eq_false n9,decide_eq_false n19]; rfl)))
theorem ent47 : Entr prog 47 := ⟨_,func47,rfl,by decide⟩
end Go.Proofs.Try

set_option linter.unusedSimpArgs false
set_option linter.unusedVariables false
namespace Go.Proofs.Try
open Go.Ab Go.RowKit
def fs20 : FnS := fnS [.a [some .ints,some .ints,none,none,none,some .marks],.o,.o,.o] [.copy,.int,.int,.int] (fun _ (c,value,time,p,_) => (.tup [.agg (cC ((writeTo c value time p).1)),.b ((writeTo c value time p).2)],[],True))
abbrev T20 : Tab := lk [(36,fs36),(45,fs45),(46,fs46),(47,fs47)]
theorem tab20 : TabOK prog T20 := (TabOK.cons ok36 ent36 (TabOK.cons ok45 ent45 (TabOK.cons ok46 ent46 (TabOK.cons ok47 ent47 TabOK.nil))))
set_option maxRecDepth 100000 in
set_option maxHeartbeats 1000000 in
theorem ok20 : FnOK prog 20 fs20 := by
 refine FnOK.mk cok func20 rfl rfl rfl ?_
 rintro fl ⟨(c : CopyD),(value : Int),(time : Int),(p : Int),_⟩ hpre F hnt0 _
 have hnt : F.nt = 44 := hnt0.trans ntmps20
 clear hpre
 refine W.to (⟨[(0,.agg (cC c)),(1,.i value),(2,.i time),(3,.i p)],[],[999]⟩) rfl ?_
 refine W.lenA 0 0 (cC c) (.ints c.up) (by kernel_rfl) (by kernel_rfl) ?_
 intro hl_c_up; replace hl_c_up : List.length c.up ≤ 9223372036854775807 := hl_c_up
 refine W.lenA 0 1 (cC c) (.ints c.down) (by kernel_rfl) (by kernel_rfl) ?_
 intro hl_c_down; replace hl_c_down : List.length c.down ≤ 9223372036854775807 := hl_c_down
 refine W.lenA 0 5 (cC c) (.marks c.marks) (by kernel_rfl) (by kernel_rfl) ?_
 intro hl_c_marks; replace hl_c_marks : List.length c.marks ≤ 9223372036854775807 := hl_c_marks
 refine Kk cok tab20 hnt [] [1,2,3,4,8] (⟨[(1,.i value),(2,.i time),(3,.i p),(4,.ptr 4 0),(8,.ptr 8 0)],[(4,⟨26,.fix (cC c)⟩),(8,⟨26,.fix [.v (.slice none 0 0),.v (.slice none 0 0),.i (0 : Int),.i (0 : Int),.i (0 : Int),.v (.slice none 0 0)]⟩)],[8,4,999]⟩)
  (True ∧ True ∧ True ∧ True)
  ⟨tt,tt,tt,tt⟩ ?_
 refine Kk cok tab20 hnt [] [1,2,3,4,8,10] (⟨[(1,.i value),(2,.i time),(3,.i p),(4,.ptr 4 0),(8,.ptr 8 0),(10,.ptr 10 0)],[(4,⟨26,.fix (cC c)⟩),(8,⟨26,.fix [.v (.slice none 0 0),.v (.slice none 0 0),.i (0 : Int),.i (0 : Int),.i (0 : Int),.v (.slice none 0 0)]⟩),(10,⟨26,.fix (cC newC)⟩)],[10,8,4,999]⟩)
  ((True ∧ True ∧ True) ∧ True ∧ (True ∧ True) ∧ True)
  ⟨⟨tt,tt,tt⟩,tt,⟨tt,tt⟩,tt⟩ ?_
 refine Kk cok tab20 hnt [] [1,2,3,4,8,10] (⟨[(1,.i value),(2,.i time),(3,.i p),(4,.ptr 4 0),(8,.ptr 8 0),(10,.ptr 10 0)],[(4,⟨26,.fix (cC c)⟩),(8,⟨26,.fix [.v (.slice none 0 0),.v (.slice none 0 0),.i (0 : Int),.i (0 : Int),.i (0 : Int),.v (.slice none 0 0)]⟩),(10,⟨26,.fix [.sl (.ints newC.up),.sl (.ints newC.down),.i value,.i newC.time,.i newC.proc,.sl (.marks newC.marks)]⟩)],[10,8,4,999]⟩)
  (True ∧ True ∧ (True ∧ True) ∧ True)
  ⟨tt,tt,⟨tt,tt⟩,tt⟩ ?_
 refine Kk cok tab20 hnt [] [1,2,3,4,8,10] (⟨[(1,.i value),(2,.i time),(3,.i p),(4,.ptr 4 0),(8,.ptr 8 0),(10,.ptr 10 0)],[(4,⟨26,.fix (cC c)⟩),(8,⟨26,.fix [.v (.slice none 0 0),.v (.slice none 0 0),.i (0 : Int),.i (0 : Int),.i (0 : Int),.v (.slice none 0 0)]⟩),(10,⟨26,.fix [.sl (.ints newC.up),.sl (.ints newC.down),.i value,.i time,.i newC.proc,.sl (.marks newC.marks)]⟩)],[10,8,4,999]⟩)
  (True ∧ True ∧ (True ∧ True) ∧ True)
  ⟨tt,tt,⟨tt,tt⟩,tt⟩ ?_
 refine Kk cok tab20 hnt [] [1,2,3,4,8,10] (⟨[(1,.i value),(2,.i time),(3,.i p),(4,.ptr 4 0),(8,.ptr 8 0),(10,.ptr 10 0)],[(4,⟨26,.fix (cC c)⟩),(8,⟨26,.fix [.v (.slice none 0 0),.v (.slice none 0 0),.i (0 : Int),.i (0 : Int),.i (0 : Int),.v (.slice none 0 0)]⟩),(10,⟨26,.fix [.sl (.ints newC.up),.sl (.ints newC.down),.i value,.i time,.i p,.sl (.marks newC.marks)]⟩)],[10,8,4,999]⟩)
  (True ∧ True ∧ (True ∧ True) ∧ True)
  ⟨tt,tt,⟨tt,tt⟩,tt⟩ ?_
 refine W.seq ?_
 refine Kk cok tab20 hnt [] [1,2,3,4,8,10,30] (⟨[(1,.i value),(2,.i time),(3,.i p),(4,.ptr 4 0),(8,.ptr 8 0),(10,.ptr 10 0),(30,.b (((!(validCopy c)) || (!(validCopy ⟨newC.up,newC.down,value,time,p,newC.marks⟩))) || (decide (time < (1 : Int)))))],[(4,⟨26,.fix (cC c)⟩),(8,⟨26,.fix [.v (.slice none 0 0),.v (.slice none 0 0),.i (0 : Int),.i (0 : Int),.i (0 : Int),.v (.slice none 0 0)]⟩),(10,⟨26,.fix [.sl (.ints newC.up),.sl (.ints newC.down),.i value,.i time,.i p,.sl (.marks newC.marks)]⟩)],[10,8,4,999]⟩)
  ((fun (Z1:Bool)=>((fun (Z2:Bool)=>(True ∧ ((True ∧ (((True ∧ (True ∧ (True ∧ (True ∧ (True ∧ (True ∧ (True ∧ True))))))) ∧ True) ∧ True)) ∧ (True ∧ (True ∧ (((!Z1) = true → True) ∧ (((!Z1) = true → (True ∧ ((((((!Z1) = true) ∧ True) ∧ (True ∧ (True ∧ (True ∧ (True ∧ (True ∧ (True ∧ True))))))) ∧ True) ∧ True))) ∧ (((!Z1) = true → (((!Z1) = true) ∧ True)) ∧ ((True ∧ ((Z1 = true → True) ∧ (Z1 = false → ((!Z1) = true) ∧ True))) ∧ (True ∧ (((!Z2) = true → True) ∧ (((!Z2) = true → ((((!Z2) = true) ∧ True) ∧ (True ∧ True))) ∧ ((True ∧ ((Z2 = true → True) ∧ (Z2 = false → ((!Z2) = true) ∧ True))) ∧ True))))))))))))) (Z1 || (!(validCopy ⟨newC.up,newC.down,value,time,p,newC.marks⟩))))) (!(validCopy c)))
  ⟨tt,⟨tt,⟨⟨tt,tt,tt,tt,tt,tt,tt,tt⟩,tt⟩,tt⟩,tt,tt,(fun _ => trivial),(fun hG => ⟨tt,⟨⟨⟨hG,tt⟩,tt,tt,tt,tt,tt,tt,tt⟩,tt⟩,tt⟩),(fun hG => ⟨hG,tt⟩),⟨tt,(fun _ => trivial),(fun hp => ⟨(not_t hp),tt⟩)⟩,tt,(fun _ => trivial),(fun hG => ⟨⟨hG,tt⟩,tt,tt⟩),⟨tt,(fun _ => trivial),(fun hp => ⟨(not_t hp),tt⟩)⟩,tt⟩ ?_
 refine W.if' (((!(validCopy c)) || (!(validCopy ⟨newC.up,newC.down,value,time,p,newC.marks⟩))) || (decide (time < (1 : Int)))) (.b (((!(validCopy c)) || (!(validCopy ⟨newC.up,newC.down,value,time,p,newC.marks⟩))) || (decide (time < (1 : Int))))) (by kernel_rfl) rfl trivial ?_ ?_
 ·intro h30
  refine Kk cok tab20 hnt [] [8,9] (⟨[(8,.ptr 8 0),(9,.b false)],[(4,⟨26,.fix (cC c)⟩),(8,⟨26,.fix [.v (.slice none 0 0),.v (.slice none 0 0),.i (0 : Int),.i (0 : Int),.i (0 : Int),.v (.slice none 0 0)]⟩),(10,⟨26,.fix [.sl (.ints newC.up),.sl (.ints newC.down),.i value,.i time,.i p,.sl (.marks newC.marks)]⟩)],[10,8,4,999]⟩)
   (True ∧ (True ∧ True) ∧ True ∧ True)
   ⟨tt,⟨tt,tt⟩,tt,tt⟩ ?_
  refine W.ret (thenQ_ret ?_)
  exact endQ_ret (.tup [.agg [.v (.slice none 0 0),.v (.slice none 0 0),.i (0 : Int),.i (0 : Int),.i (0 : Int),.v (.slice none 0 0)],.b false]) (by kernel_rfl) (@cast (((((Value.slice none 0 0 : Value) = .slice none 0 0) ∧ ((Dat.ints ((writeTo c value time p).1.up)).len = 0)) ∧ (((Value.slice none 0 0 : Value) = .slice none 0 0) ∧ ((Dat.ints ((writeTo c value time p).1.down)).len = 0)) ∧ ((.int .i64 (0 : Int) : Value) = .int .i64 ((writeTo c value time p).1.value)) ∧ ((.int .i64 (0 : Int) : Value) = .int .i64 ((writeTo c value time p).1.time)) ∧ ((.int .i64 (0 : Int) : Value) = .int .i64 ((writeTo c value time p).1.proc)) ∧ (((Value.slice none 0 0 : Value) = .slice none 0 0) ∧ ((Dat.marks ((writeTo c value time p).1.marks)).len = 0)) ∧ True) ∧ ((.bool false : Value) = .bool ((writeTo c value time p).2)) ∧ True) _ (by kernel_rfl) ⟨⟨⟨rfl,(by show List.length ((writeTo c value time p).1.up) = 0; rw [writeTo_no (write_bad h30)]; try rfl)⟩,⟨rfl,(by show List.length ((writeTo c value time p).1.down) = 0; rw [writeTo_no (write_bad h30)]; try rfl)⟩,(congrArg (Value.int .i64) (by rw [writeTo_no (write_bad h30)]; try rfl)),(congrArg (Value.int .i64) (by rw [writeTo_no (write_bad h30)]; try rfl)),(congrArg (Value.int .i64) (by rw [writeTo_no (write_bad h30)]; try rfl)),⟨rfl,(by show List.length ((writeTo c value time p).1.marks) = 0; rw [writeTo_no (write_bad h30)]; try rfl)⟩,tt⟩,(congrArg Value.bool (by rw [writeTo_no (write_bad h30)]; try rfl)),tt⟩)
 ·intro n30
  have n30_0 : ¬ (time < (1 : Int)) := of_decide_eq_false (or_r n30)
  have hg := write_good n30
  have hf := up_len hg.2
  refine W.skip (thenQ_normal ?_)
  refine Kk cok tab20 hnt [] [1,2,3,4,8,10,11] (⟨[(1,.i value),(2,.i time),(3,.i p),(4,.ptr 4 0),(8,.ptr 8 0),(10,.ptr 10 0),(11,.ptr 11 0)],[(4,⟨26,.fix (cC c)⟩),(8,⟨26,.fix [.v (.slice none 0 0),.v (.slice none 0 0),.i (0 : Int),.i (0 : Int),.i (0 : Int),.v (.slice none 0 0)]⟩),(10,⟨26,.fix [.sl (.ints newC.up),.sl (.ints newC.down),.i value,.i time,.i p,.sl (.marks newC.marks)]⟩),(11,⟨26,.fix [.own 33 (List.length c.up),.own 1033 (List.length c.down),.i c.value,.i c.time,.i c.proc,.own 2033 (List.length c.marks)]⟩),(33,⟨3,.row (.ints c.up)⟩),(1033,⟨3,.row (.ints c.down)⟩),(2033,⟨52,.row (.marks c.marks)⟩)],[11,2033,1033,33,10,8,4,999]⟩)
   (True ∧ (True ∧ ((True ∧ True ∧ True ∧ True ∧ True ∧ True ∧ True ∧ True) ∧ True) ∧ c.up.length ≤ 1000 ∧ c.down.length ≤ 1000 ∧ c.marks.length ≤ 1000) ∧ True ∧ (True ∧ True) ∧ True)
   ⟨tt,⟨tt,⟨⟨tt,tt,tt,tt,tt,tt,tt,tt⟩,tt⟩,(by omega)⟩,tt,⟨tt,tt⟩,tt⟩ ?_
  refine W.seq ?_
  refine Kk cok tab20 hnt [] [1,2,3,8,11,36] (⟨[(1,.i value),(2,.i time),(3,.i p),(8,.ptr 8 0),(11,.ptr 11 0),(36,.b (newerC ⟨newC.up,newC.down,value,time,p,newC.marks⟩ c))],[(4,⟨26,.fix (cC c)⟩),(8,⟨26,.fix [.v (.slice none 0 0),.v (.slice none 0 0),.i (0 : Int),.i (0 : Int),.i (0 : Int),.v (.slice none 0 0)]⟩),(10,⟨26,.fix [.sl (.ints newC.up),.sl (.ints newC.down),.i value,.i time,.i p,.sl (.marks newC.marks)]⟩),(11,⟨26,.fix [.own 33 (List.length c.up),.own 1033 (List.length c.down),.i c.value,.i c.time,.i c.proc,.own 2033 (List.length c.marks)]⟩),(33,⟨3,.row (.ints c.up)⟩),(1033,⟨3,.row (.ints c.down)⟩),(2033,⟨52,.row (.marks c.marks)⟩)],[11,2033,1033,33,10,8,4,999]⟩)
   (True ∧ True ∧ (True ∧ ((True ∧ True ∧ True ∧ True ∧ True ∧ True ∧ True ∧ True) ∧ (True ∧ True ∧ True ∧ True ∧ True ∧ True ∧ True ∧ True) ∧ True) ∧ True) ∧ True)
   ⟨tt,tt,⟨tt,⟨⟨tt,tt,tt,tt,tt,tt,tt,tt⟩,⟨tt,tt,tt,tt,tt,tt,tt,tt⟩,tt⟩,tt⟩,tt⟩ ?_
  refine W.if' (newerC ⟨newC.up,newC.down,value,time,p,newC.marks⟩ c) (.b (newerC ⟨newC.up,newC.down,value,time,p,newC.marks⟩ c)) (by kernel_rfl) rfl trivial ?_ ?_
  ·intro h36
   refine Kk cok tab20 hnt [] [2,3,8,11] (⟨[(2,.i time),(3,.i p),(8,.ptr 8 0),(11,.ptr 11 0)],[(4,⟨26,.fix (cC c)⟩),(8,⟨26,.fix [.v (.slice none 0 0),.v (.slice none 0 0),.i (0 : Int),.i (0 : Int),.i (0 : Int),.v (.slice none 0 0)]⟩),(10,⟨26,.fix [.sl (.ints newC.up),.sl (.ints newC.down),.i value,.i time,.i p,.sl (.marks newC.marks)]⟩),(11,⟨26,.fix [.own 33 (List.length c.up),.own 1033 (List.length c.down),.i value,.i c.time,.i c.proc,.own 2033 (List.length c.marks)]⟩),(33,⟨3,.row (.ints c.up)⟩),(1033,⟨3,.row (.ints c.down)⟩),(2033,⟨52,.row (.marks c.marks)⟩)],[11,2033,1033,33,10,8,4,999]⟩)
    (True ∧ True ∧ (True ∧ True) ∧ True)
    ⟨tt,tt,⟨tt,tt⟩,tt⟩ ?_
   refine Kk cok tab20 hnt [] [3,8,11] (⟨[(3,.i p),(8,.ptr 8 0),(11,.ptr 11 0)],[(4,⟨26,.fix (cC c)⟩),(8,⟨26,.fix [.v (.slice none 0 0),.v (.slice none 0 0),.i (0 : Int),.i (0 : Int),.i (0 : Int),.v (.slice none 0 0)]⟩),(10,⟨26,.fix [.sl (.ints newC.up),.sl (.ints newC.down),.i value,.i time,.i p,.sl (.marks newC.marks)]⟩),(11,⟨26,.fix [.own 33 (List.length c.up),.own 1033 (List.length c.down),.i value,.i time,.i c.proc,.own 2033 (List.length c.marks)]⟩),(33,⟨3,.row (.ints c.up)⟩),(1033,⟨3,.row (.ints c.down)⟩),(2033,⟨52,.row (.marks c.marks)⟩)],[11,2033,1033,33,10,8,4,999]⟩)
    (True ∧ True ∧ (True ∧ True) ∧ True)
    ⟨tt,tt,⟨tt,tt⟩,tt⟩ ?_
   refine Lk cok tab20 hnt [] (⟨[(3,.i p),(8,.ptr 8 0),(11,.ptr 11 0),(41,.i p),(42,.ptr 11 4)],[(4,⟨26,.fix (cC c)⟩),(8,⟨26,.fix [.v (.slice none 0 0),.v (.slice none 0 0),.i (0 : Int),.i (0 : Int),.i (0 : Int),.v (.slice none 0 0)]⟩),(10,⟨26,.fix [.sl (.ints newC.up),.sl (.ints newC.down),.i value,.i time,.i p,.sl (.marks newC.marks)]⟩),(11,⟨26,.fix [.own 33 (List.length c.up),.own 1033 (List.length c.down),.i value,.i time,.i p,.own 2033 (List.length c.marks)]⟩),(33,⟨3,.row (.ints c.up)⟩),(1033,⟨3,.row (.ints c.down)⟩),(2033,⟨52,.row (.marks c.marks)⟩)],[11,2033,1033,33,10,8,4,999]⟩)
    (True ∧ True ∧ (True ∧ True) ∧ True)
    ⟨tt,tt,⟨tt,tt⟩,tt⟩ ?_
   refine thenQ_normal ?_
   refine Kk cok tab20 hnt [] [8,9] (⟨[(8,.ptr 8 0),(9,.b true)],[(4,⟨26,.fix (cC c)⟩),(8,⟨26,.fix [.own 33 (List.length c.up),.own 1033 (List.length c.down),.i value,.i time,.i p,.own 2033 (List.length c.marks)]⟩),(10,⟨26,.fix [.sl (.ints newC.up),.sl (.ints newC.down),.i value,.i time,.i p,.sl (.marks newC.marks)]⟩),(11,⟨26,.fix [.own 33 (List.length c.up),.own 1033 (List.length c.down),.i value,.i time,.i p,.own 2033 (List.length c.marks)]⟩),(33,⟨3,.row (.ints c.up)⟩),(1033,⟨3,.row (.ints c.down)⟩),(2033,⟨52,.row (.marks c.marks)⟩)],[11,2033,1033,33,10,8,4,999]⟩)
    (True ∧ (True ∧ True) ∧ True ∧ True)
    ⟨tt,⟨tt,tt⟩,tt,tt⟩ ?_
   refine W.ret ?_
   exact endQ_ret (.tup [.agg [.own 33 (List.length c.up),.own 1033 (List.length c.down),.i value,.i time,.i p,.own 2033 (List.length c.marks)],.b true]) (by kernel_rfl) (@cast (((((List.length c.up) = (List.length c.up)) ∧ ((.ints c.up : Dat) = .ints ((writeTo c value time p).1.up)) ∧ ((33 : Nat) ∉ ([] : List Nat))) ∧ (((List.length c.down) = (List.length c.down)) ∧ ((.ints c.down : Dat) = .ints ((writeTo c value time p).1.down)) ∧ ((1033 : Nat) ∉ ([] : List Nat))) ∧ ((.int .i64 value : Value) = .int .i64 ((writeTo c value time p).1.value)) ∧ ((.int .i64 time : Value) = .int .i64 ((writeTo c value time p).1.time)) ∧ ((.int .i64 p : Value) = .int .i64 ((writeTo c value time p).1.proc)) ∧ (((List.length c.marks) = (List.length c.marks)) ∧ ((.marks c.marks : Dat) = .marks ((writeTo c value time p).1.marks)) ∧ ((2033 : Nat) ∉ ([] : List Nat))) ∧ True) ∧ ((.bool true : Value) = .bool ((writeTo c value time p).2)) ∧ True) _ (by kernel_rfl) ⟨⟨⟨rfl,(congrArg Dat.ints (by rw [writeTo_yes hg.1 h36]; try rfl)),(by decide)⟩,⟨rfl,(congrArg Dat.ints (by rw [writeTo_yes hg.1 h36]; try rfl)),(by decide)⟩,(congrArg (Value.int .i64) (by rw [writeTo_yes hg.1 h36]; try rfl)),(congrArg (Value.int .i64) (by rw [writeTo_yes hg.1 h36]; try rfl)),(congrArg (Value.int .i64) (by rw [writeTo_yes hg.1 h36]; try rfl)),⟨rfl,(congrArg Dat.marks (by rw [writeTo_yes hg.1 h36]; try rfl)),(by decide)⟩,tt⟩,(congrArg Value.bool (by rw [writeTo_yes hg.1 h36]; try rfl)),tt⟩)
  ·intro n36
   refine W.skip (thenQ_normal ?_)
   refine Kk cok tab20 hnt [] [8,9] (⟨[(8,.ptr 8 0),(9,.b true)],[(4,⟨26,.fix (cC c)⟩),(8,⟨26,.fix [.own 33 (List.length c.up),.own 1033 (List.length c.down),.i c.value,.i c.time,.i c.proc,.own 2033 (List.length c.marks)]⟩),(10,⟨26,.fix [.sl (.ints newC.up),.sl (.ints newC.down),.i value,.i time,.i p,.sl (.marks newC.marks)]⟩),(11,⟨26,.fix [.own 33 (List.length c.up),.own 1033 (List.length c.down),.i c.value,.i c.time,.i c.proc,.own 2033 (List.length c.marks)]⟩),(33,⟨3,.row (.ints c.up)⟩),(1033,⟨3,.row (.ints c.down)⟩),(2033,⟨52,.row (.marks c.marks)⟩)],[11,2033,1033,33,10,8,4,999]⟩)
    (True ∧ (True ∧ True) ∧ True ∧ True)
    ⟨tt,⟨tt,tt⟩,tt,tt⟩ ?_
   refine W.ret ?_
   exact endQ_ret (.tup [.agg [.own 33 (List.length c.up),.own 1033 (List.length c.down),.i c.value,.i c.time,.i c.proc,.own 2033 (List.length c.marks)],.b true]) (by kernel_rfl) (@cast (((((List.length c.up) = (List.length c.up)) ∧ ((.ints c.up : Dat) = .ints ((writeTo c value time p).1.up)) ∧ ((33 : Nat) ∉ ([] : List Nat))) ∧ (((List.length c.down) = (List.length c.down)) ∧ ((.ints c.down : Dat) = .ints ((writeTo c value time p).1.down)) ∧ ((1033 : Nat) ∉ ([] : List Nat))) ∧ ((.int .i64 c.value : Value) = .int .i64 ((writeTo c value time p).1.value)) ∧ ((.int .i64 c.time : Value) = .int .i64 ((writeTo c value time p).1.time)) ∧ ((.int .i64 c.proc : Value) = .int .i64 ((writeTo c value time p).1.proc)) ∧ (((List.length c.marks) = (List.length c.marks)) ∧ ((.marks c.marks : Dat) = .marks ((writeTo c value time p).1.marks)) ∧ ((2033 : Nat) ∉ ([] : List Nat))) ∧ True) ∧ ((.bool true : Value) = .bool ((writeTo c value time p).2)) ∧ True) _ (by kernel_rfl) ⟨⟨⟨rfl,(congrArg Dat.ints (by rw [writeTo_old hg.1 n36]; try rfl)),(by decide)⟩,⟨rfl,(congrArg Dat.ints (by rw [writeTo_old hg.1 n36]; try rfl)),(by decide)⟩,(congrArg (Value.int .i64) (by rw [writeTo_old hg.1 n36]; try rfl)),(congrArg (Value.int .i64) (by rw [writeTo_old hg.1 n36]; try rfl)),(congrArg (Value.int .i64) (by rw [writeTo_old hg.1 n36]; try rfl)),⟨rfl,(congrArg Dat.marks (by rw [writeTo_old hg.1 n36]; try rfl)),(by decide)⟩,tt⟩,(congrArg Value.bool (by rw [writeTo_old hg.1 n36]; try rfl)),tt⟩)
theorem ent20 : Entr prog 20 := ⟨_,func20,rfl,by decide⟩
end Go.Proofs.Try

set_option linter.unusedSimpArgs false
set_option linter.unusedVariables false
namespace Go.Proofs.Try
open Go.Ab Go.RowKit
def fs31 : FnS := fnS [.s .ints,.s .ints] [.ints,.ints] (fun _ (a,b,_) => (.b (decide (a = b)),[],True))
abbrev T31 : Tab := lk []
theorem tab31 : TabOK prog T31 := TabOK.nil
set_option maxRecDepth 100000 in
set_option maxHeartbeats 1000000 in
theorem ok31 : FnOK prog 31 fs31 := by
 refine FnOK.mk cok func31 rfl rfl rfl ?_
 rintro fl ⟨(a : List Int),(b : List Int),_⟩ hpre F hnt0 _
 have hnt : F.nt = 26 := hnt0.trans ntmps31
 clear hpre
 refine W.to (⟨[(0,.sl (.ints a)),(1,.sl (.ints b))],[],[999]⟩) rfl ?_
 refine W.lenOf 0 (.ints a) (by kernel_rfl) ?_
 intro hl_a; replace hl_a : List.length a ≤ 9223372036854775807 := hl_a
 refine W.lenOf 1 (.ints b) (by kernel_rfl) ?_
 intro hl_b; replace hl_b : List.length b ≤ 9223372036854775807 := hl_b
 refine Kk cok tab31 hnt [] [0,1] (⟨[(0,.sl (.ints a)),(1,.sl (.ints b))],[],[999]⟩)
  (True ∧ True)
  ⟨tt,tt⟩ ?_
 refine W.seq ?_
 refine Kk cok tab31 hnt [] [0,1,10] (⟨[(0,.sl (.ints a)),(1,.sl (.ints b)),(10,.b (decide ((a.length : Int) ≠ (b.length : Int))))],[],[999]⟩)
  (True ∧ True ∧ True ∧ True ∧ (True ∧ True ∧ True) ∧ True)
  ⟨tt,tt,tt,tt,⟨tt,tt,tt⟩,tt⟩ ?_
 refine W.ifP ((a.length : Int) ≠ (b.length : Int)) (.b (decide ((a.length : Int) ≠ (b.length : Int)))) (by kernel_rfl) rfl trivial ?_ ?_
 ·intro h10
  refine Kk cok tab31 hnt [] [4] (⟨[(4,.b false)],[],[999]⟩)
   (True ∧ True)
   ⟨tt,tt⟩ ?_
  refine W.ret (thenQ_ret ?_)
  exact endQ_ret (.b false) (by kernel_rfl) (@cast ((.bool false : Value) = .bool (decide (a = b))) _ (by kernel_rfl) (congrArg Value.bool (by symm; exact decide_eq_false (fun e => h10 (by rw [e])))))
 ·intro n10
  refine W.skip (thenQ_normal ?_)
  refine W.seq ?_
  refine Kk cok tab31 hnt [] [0,1,5] (⟨[(0,.sl (.ints a)),(1,.sl (.ints b)),(5,.i (0 : Int))],[],[999]⟩)
   (True ∧ True)
   ⟨tt,tt⟩ ?_
  refine W.block ?_
  refine W.loop (ι := Nat) (fun (i : Nat) => (⟨[(0,.sl (.ints a)),(1,.sl (.ints b)),(5,.i ((i : Nat) : Int))],[],[999]⟩ : St))
   (fun (i : Nat) => (i ≤ a.length) ∧ (∀ j,j < i → a.getD j 0 = b.getD j 0))
   (fun (i : Nat) => (a.length - i : Nat)) (0) ?_ ?_ ?_
  ·exact (show (0 ≤ a.length) ∧ (∀ j,j < 0 → a.getD j 0 = b.getD j 0) from ⟨(by first | assumption | omega | rfl | (intro _ hjj; omega) | (simp; done) | (simp; omega)),(by exact upto_zero)⟩)
  ·exact Sub.of [] (@cast (((Sd (.ints a)) ∧ (Sd (.ints b)) ∧ ((.int .i64 (0 : Int) : Value) = .int .i64 ((0 : Nat) : Int)) ∧ True) ∧ True ∧ (true = true) ∧ (true = true)) _ (by kernel_rfl) ⟨⟨rfl,rfl,(congrArg (Value.int .i64) (by first | rfl | omega | assumption | simp | simp_all)),tt⟩,tt,rfl,rfl⟩)
  ·rintro i hC0
   have hC : (i ≤ a.length) ∧ (∀ j,j < i → a.getD j 0 = b.getD j 0) := hC0
   clear hC0
   obtain ⟨hi,hA⟩ := hC
   refine W.to (⟨[(0,.sl (.ints a)),(1,.sl (.ints b)),(5,.i ((i : Nat) : Int))],[],[999]⟩) rfl ?_
   refine W.seq ?_
   refine Kk cok tab31 hnt [] [0,1,5,14] (⟨[(0,.sl (.ints a)),(1,.sl (.ints b)),(5,.i ((i : Nat) : Int)),(14,.b (decide (((i : Nat) : Int) < (a.length : Int))))],[],[999]⟩)
    (True ∧ True ∧ True ∧ (True ∧ True ∧ True) ∧ True)
    ⟨tt,tt,tt,⟨tt,tt,tt⟩,tt⟩ ?_
   refine W.ifP (((i : Nat) : Int) < (a.length : Int)) (.b (decide (((i : Nat) : Int) < (a.length : Int)))) (by kernel_rfl) rfl trivial ?_ ?_
   ·intro h14
    refine W.skip (thenQ_normal ?_)
    refine W.seq ?_
    refine W.block ?_
    refine W.KA cok tab31 hnt [] [0,1,5,25] (⟨[(0,.sl (.ints a)),(1,.sl (.ints b)),(5,.i ((i : Nat) : Int)),(25,.b (decide ((a.getD i 0) ≠ (b.getD i 0))))],[],[999]⟩)
     (True ∧ True ∧ (True ∧ True ∧ (0 ≤ ((i : Nat) : Int)) ∧ (((i : Nat) : Int) < (a.length : Int))) ∧ True ∧ True ∧ True ∧ (True ∧ True ∧ (0 ≤ ((i : Nat) : Int)) ∧ (((i : Nat) : Int) < (b.length : Int))) ∧ True ∧ (True ∧ True ∧ True) ∧ True) (by kernel_rfl) (by kernel_rfl)
     ⟨tt,tt,⟨tt,tt,(by omega),(by omega)⟩,tt,tt,tt,⟨tt,tt,(by omega),(by omega)⟩,tt,⟨tt,tt,tt⟩,tt⟩ ?_
    refine W.ifP ((a.getD i 0) ≠ (b.getD i 0)) (.b (decide ((a.getD i 0) ≠ (b.getD i 0)))) (by kernel_rfl) rfl trivial ?_ ?_
    ·intro h25
     refine Kk cok tab31 hnt [] [4] (⟨[(4,.b false)],[],[999]⟩)
      (True ∧ True)
      ⟨tt,tt⟩ ?_
     refine W.ret (blockQ_ret (thenQ_ret (thenQ_ret (blockQ_ret (thenQ_ret ?_)))))
     exact endQ_ret (.b false) (by kernel_rfl) (@cast ((.bool false : Value) = .bool (decide (a = b))) _ (by kernel_rfl) (congrArg Value.bool (by symm; exact decide_eq_false (fun e => h25 (by rw [e])))))
    ·intro n25
     refine W.skip (blockQ_normal (thenQ_normal ?_))
     refine Lk cok tab31 hnt [] (⟨[(0,.sl (.ints a)),(1,.sl (.ints b)),(5,.i (((i + 1) : Nat) : Int)),(15,.i ((i : Nat) : Int)),(16,.i (((i + 1) : Nat) : Int)),(25,.b (decide ((a.getD i 0) ≠ (b.getD i 0))))],[],[999]⟩)
      (True ∧ (True ∧ True ∧ (Fits .i64 (((i + 1) : Nat) : Int))) ∧ True ∧ True)
      ⟨tt,⟨tt,tt,(by exact fits_i64 (by omega) (by omega))⟩,tt,tt⟩ ?_
     refine thenQ_normal ?_
     refine ⟨((i + 1)),(show ((i + 1) ≤ a.length) ∧ (∀ j,j < (i + 1) → a.getD j 0 = b.getD j 0) from ⟨(by first | assumption | omega | rfl | (intro _ hjj; omega) | (simp; done) | (simp; omega)),(by exact upto_succ hA (Decidable.not_not.1 n25))⟩),(show a.length - (i + 1) < a.length - i from (by first | omega | (simp_all; omega))),?_⟩
     exact Sub.of [] (@cast (((Sd (.ints a)) ∧ (Sd (.ints b)) ∧ (Si (((i + 1) : Nat) : Int)) ∧ True) ∧ True ∧ (true = true) ∧ (true = true)) _ (by kernel_rfl) ⟨⟨rfl,rfl,rfl,tt⟩,tt,rfl,rfl⟩)
   ·intro n14
    refine W.exit (thenQ_exit (thenQ_exit (blockQ_hit ?_)))
    refine thenQ_normal ?_
    refine Kk cok tab31 hnt [] [4] (⟨[(4,.b true)],[],[999]⟩)
     (True ∧ True)
     ⟨tt,tt⟩ ?_
    refine W.ret ?_
    exact endQ_ret (.b true) (by kernel_rfl) (@cast ((.bool true : Value) = .bool (decide (a = b))) _ (by kernel_rfl) (congrArg Value.bool (by symm; exact decide_eq_true (ints_ext (by omega) (fun j hj => hA j (by omega))))))
theorem ent31 : Entr prog 31 := ⟨_,func31,rfl,by decide⟩
end Go.Proofs.Try
