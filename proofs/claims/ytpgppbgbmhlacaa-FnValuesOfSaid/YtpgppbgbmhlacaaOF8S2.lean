import Derived.Test.YtpgppbgbmhlacaaOF8S0
import Derived.Test.YtpgppbgbmhlacaaOF8S1
set_option linter.unusedSimpArgs false
set_option linter.unusedVariables false
namespace Go.Proofs.Try
open Go.Ab Go.RowKit
def fs60 : FnS := fnS [.a [some .ints,some .ints,none,none,none,some .marks]] [.copy] (fun _ (c,_) => (.own 0 (List.length (valsUp c.marks 4)),[(3,.ints (valsUp c.marks 4))],True))
abbrev T60 : Tab := lk []
theorem tab60 : TabOK prog T60 := TabOK.nil
set_option maxRecDepth 100000 in
set_option maxHeartbeats 1000000 in
theorem ok60 : FnOK prog 60 fs60 := by
 refine FnOK.mk cok func60 rfl rfl rfl ?_
 rintro fl ⟨(c : CopyD),_⟩ hpre F hnt0 _
 have hnt : F.nt = 40 := hnt0.trans ntmps60
 clear hpre
 refine W.to (⟨[(0,.agg (cC c))],[],[999]⟩) rfl ?_
 refine W.lenA 0 0 (cC c) (.ints c.up) (by kernel_rfl) (by kernel_rfl) ?_
 intro hl_c_up; replace hl_c_up : List.length c.up ≤ 9223372036854775807 := hl_c_up
 refine W.lenA 0 1 (cC c) (.ints c.down) (by kernel_rfl) (by kernel_rfl) ?_
 intro hl_c_down; replace hl_c_down : List.length c.down ≤ 9223372036854775807 := hl_c_down
 refine W.lenA 0 5 (cC c) (.marks c.marks) (by kernel_rfl) (by kernel_rfl) ?_
 intro hl_c_marks; replace hl_c_marks : List.length c.marks ≤ 9223372036854775807 := hl_c_marks
 refine Kk cok tab60 hnt [] [1] (⟨[(1,.ptr 1 0)],[(1,⟨26,.fix (cC c)⟩)],[1,999]⟩)
  (True ∧ True ∧ True)
  ⟨tt,tt,tt⟩ ?_
 refine Kk cok tab60 hnt [6] [1,3] (⟨[(1,.ptr 1 0),(3,.own 6 (List.length ([] : List Int)))],[(1,⟨26,.fix (cC c)⟩),(6,⟨3,.row (.ints ([] : List Int))⟩)],[6,1,999]⟩)
  (True ∧ True ∧ True)
  ⟨tt,tt,tt⟩ ?_
 refine W.seq ?_
 refine Kk cok tab60 hnt [] [1,3,4] (⟨[(1,.ptr 1 0),(3,.own 6 (List.length ([] : List Int))),(4,.i (0 : Int))],[(1,⟨26,.fix (cC c)⟩),(6,⟨3,.row (.ints ([] : List Int))⟩)],[6,1,999]⟩)
  (True ∧ True)
  ⟨tt,tt⟩ ?_
 refine W.block ?_
 refine W.loop (ι := Nat × (List Int)) (fun (x : Nat × (List Int)) => match x with | (v,lo) => (⟨[(1,.ptr 1 0),(3,.own 6 lo.length),(4,.i ((v : Nat) : Int))],[(1,⟨26,.fix (cC c)⟩),(6,⟨3,.row (.ints lo)⟩)],[1,6,999]⟩ : St))
  (fun (x : Nat × (List Int)) => match x with | (v,lo) => (v ≤ 4) ∧ (lo = valsUp c.marks v))
  (fun (x : Nat × (List Int)) => match x with | (v,lo) => (4 - v : Nat)) (0,([] : List Int)) ?_ ?_ ?_
 ·exact (show (0 ≤ 4) ∧ (([] : List Int) = valsUp c.marks 0) from ⟨(by first | assumption | omega | rfl | (intro _ hjj; omega) | (simp; done) | (simp; omega)),(by rfl)⟩)
 ·exact Sub.of [] (@cast (((((1 : Nat) = 1) ∧ ((0 : Nat) = 0) ∧ ((1 : Nat) ∈ ([1,6,999] : List Nat))) ∧ (((6 : Nat) = 6) ∧ ((List.length ([] : List Int)) = (List.length ([] : List Int))) ∧ ((6 : Nat) ∈ ([1,6,999] : List Nat))) ∧ ((.int .i64 (0 : Int) : Value) = .int .i64 ((0 : Nat) : Int)) ∧ True) ∧ ((((26 : Nat) = 26) ∧ (Sc c) ∧ ((1 : Nat) ∈ ([1,6,999] : List Nat))) ∧ (((3 : Nat) = 3) ∧ (Sd (.ints ([] : List Int))) ∧ ((6 : Nat) ∈ ([1,6,999] : List Nat))) ∧ True) ∧ (true = true) ∧ (true = true)) _ (by kernel_rfl) ⟨⟨⟨rfl,rfl,(by decide)⟩,⟨rfl,rfl,(by decide)⟩,(congrArg (Value.int .i64) (by first | rfl | omega | assumption | simp | simp_all)),tt⟩,⟨⟨rfl,⟨rfl,rfl,rfl,rfl,rfl,rfl,tt⟩,(by decide)⟩,⟨rfl,rfl,(by decide)⟩,tt⟩,rfl,rfl⟩)
 ·rintro ⟨v,lo⟩ hC0
  have hC : (v ≤ 4) ∧ (lo = valsUp c.marks v) := hC0
  clear hC0
  obtain ⟨hv,hl⟩ := hC
  refine W.to (⟨[(1,.ptr 1 0),(3,.own 6 lo.length),(4,.i ((v : Nat) : Int))],[(1,⟨26,.fix (cC c)⟩),(6,⟨3,.row (.ints lo)⟩)],[1,6,999]⟩) rfl ?_
  have hll : lo.length ≤ v := by rw [hl]; exact valsUp_len _ _
  refine W.seq ?_
  refine Kk cok tab60 hnt [] [1,3,4,8] (⟨[(1,.ptr 1 0),(3,.own 6 lo.length),(4,.i ((v : Nat) : Int)),(8,.b (decide (((v : Nat) : Int) ≤ (3 : Int))))],[(1,⟨26,.fix (cC c)⟩),(6,⟨3,.row (.ints lo)⟩)],[1,6,999]⟩)
   (True ∧ (True ∧ True ∧ True) ∧ True)
   ⟨tt,⟨tt,tt,tt⟩,tt⟩ ?_
  refine W.ifP (((v : Nat) : Int) ≤ (3 : Int)) (.b (decide (((v : Nat) : Int) ≤ (3 : Int)))) (by kernel_rfl) rfl trivial ?_ ?_
  ·intro h8
   refine W.skip (thenQ_normal ?_)
   refine W.seq ?_
   refine W.block ?_
   refine Kk cok tab60 hnt [] [1,3,4,5] (⟨[(1,.ptr 1 0),(3,.own 6 lo.length),(4,.i ((v : Nat) : Int)),(5,.i (0 : Int))],[(1,⟨26,.fix (cC c)⟩),(6,⟨3,.row (.ints lo)⟩)],[1,6,999]⟩)
    (True ∧ True)
    ⟨tt,tt⟩ ?_
   refine W.block ?_
   refine W.loop (ι := Nat × (List Int)) (fun (x : Nat × (List Int)) => match x with | (i,lw) => (⟨[(1,.ptr 1 0),(3,.own 6 lw.length),(4,.i ((v : Nat) : Int)),(5,.i ((i : Nat) : Int))],[(1,⟨26,.fix (cC c)⟩),(6,⟨3,.row (.ints lw)⟩)],[1,6,999]⟩ : St))
    (fun (x : Nat × (List Int)) => match x with | (i,lw) => (i ≤ c.marks.length) ∧ (lw = valsUp c.marks v) ∧ (∀ j,j < i → hasAt c.marks ((v : Nat) : Int) j = false))
    (fun (x : Nat × (List Int)) => match x with | (i,lw) => (c.marks.length - i : Nat)) (0,lo) ?_ ?_ ?_
   ·exact (show (0 ≤ c.marks.length) ∧ (lo = valsUp c.marks v) ∧ (∀ j,j < 0 → hasAt c.marks ((v : Nat) : Int) j = false) from ⟨(by first | assumption | omega | rfl | (intro _ hjj; omega) | (simp; done) | (simp; omega)),(by exact hl),(by exact upto_zero2)⟩)
   ·exact Sub.of [] (@cast (((((1 : Nat) = 1) ∧ ((0 : Nat) = 0) ∧ ((1 : Nat) ∈ ([1,6,999] : List Nat))) ∧ (((6 : Nat) = 6) ∧ (lo.length = lo.length) ∧ ((6 : Nat) ∈ ([1,6,999] : List Nat))) ∧ (Si ((v : Nat) : Int)) ∧ ((.int .i64 (0 : Int) : Value) = .int .i64 ((0 : Nat) : Int)) ∧ True) ∧ ((((26 : Nat) = 26) ∧ (Sc c) ∧ ((1 : Nat) ∈ ([1,6,999] : List Nat))) ∧ (((3 : Nat) = 3) ∧ (Sd (.ints lo)) ∧ ((6 : Nat) ∈ ([1,6,999] : List Nat))) ∧ True) ∧ (true = true) ∧ (true = true)) _ (by kernel_rfl) ⟨⟨⟨rfl,rfl,(by decide)⟩,⟨rfl,rfl,(by decide)⟩,rfl,(congrArg (Value.int .i64) (by first | rfl | omega | assumption | simp | simp_all)),tt⟩,⟨⟨rfl,⟨rfl,rfl,rfl,rfl,rfl,rfl,tt⟩,(by decide)⟩,⟨rfl,rfl,(by decide)⟩,tt⟩,rfl,rfl⟩)
   ·rintro ⟨i,lw⟩ hC0
    have hC : (i ≤ c.marks.length) ∧ (lw = valsUp c.marks v) ∧ (∀ j,j < i → hasAt c.marks ((v : Nat) : Int) j = false) := hC0
    clear hC0
    obtain ⟨hi,hlw,hA⟩ := hC
    refine W.to (⟨[(1,.ptr 1 0),(3,.own 6 lw.length),(4,.i ((v : Nat) : Int)),(5,.i ((i : Nat) : Int))],[(1,⟨26,.fix (cC c)⟩),(6,⟨3,.row (.ints lw)⟩)],[1,6,999]⟩) rfl ?_
    have hlwl : lw.length ≤ v := by rw [hlw]; exact valsUp_len _ _
    refine W.seq ?_
    refine Kk cok tab60 hnt [] [1,3,4,5,15] (⟨[(1,.ptr 1 0),(3,.own 6 lw.length),(4,.i ((v : Nat) : Int)),(5,.i ((i : Nat) : Int)),(15,.b (decide (((i : Nat) : Int) < (((List.length c.marks) : Nat) : Int))))],[(1,⟨26,.fix (cC c)⟩),(6,⟨3,.row (.ints lw)⟩)],[1,6,999]⟩)
     (True ∧ True ∧ True ∧ True ∧ (True ∧ True ∧ True) ∧ True)
     ⟨tt,tt,tt,tt,⟨tt,tt,tt⟩,tt⟩ ?_
    refine W.ifP (((i : Nat) : Int) < (((List.length c.marks) : Nat) : Int)) (.b (decide (((i : Nat) : Int) < (((List.length c.marks) : Nat) : Int)))) (by kernel_rfl) rfl trivial ?_ ?_
    ·intro h15
     refine W.skip (thenQ_normal ?_)
     refine W.seq ?_
     refine W.block ?_
     refine Kk cok tab60 hnt [] [1,3,4,5,34] (⟨[(1,.ptr 1 0),(3,.own 6 lw.length),(4,.i ((v : Nat) : Int)),(5,.i ((i : Nat) : Int)),(34,.b ((decide (((List.getD c.marks i default).value) = ((v : Nat) : Int))) && (!((List.getD c.marks i default).gone))))],[(1,⟨26,.fix (cC c)⟩),(6,⟨3,.row (.ints lw)⟩)],[1,6,999]⟩)
      ((fun (Z1:Bool)=>(True ∧ (True ∧ (True ∧ ((True ∧ (True ∧ ((0 ≤ ((i : Nat) : Int)) ∧ (((i : Nat) : Int) < (((List.length c.marks) : Nat) : Int))))) ∧ (True ∧ (True ∧ (True ∧ ((True ∧ (True ∧ True)) ∧ (True ∧ ((Z1 = true → True) ∧ ((Z1 = true → ((Z1 = true) ∧ True)) ∧ ((Z1 = true → True) ∧ ((Z1 = true → (((Z1 = true) ∧ True) ∧ (((Z1 = true) ∧ True) ∧ ((0 ≤ ((i : Nat) : Int)) ∧ (((i : Nat) : Int) < (((List.length c.marks) : Nat) : Int)))))) ∧ ((Z1 = true → ((Z1 = true) ∧ True)) ∧ ((Z1 = true → ((Z1 = true) ∧ True)) ∧ ((Z1 = true → ((Z1 = true) ∧ True)) ∧ ((True ∧ ((Z1 = true → (Z1 = true) ∧ True) ∧ (Z1 = false → True))) ∧ True)))))))))))))))))) (decide (((List.getD c.marks i default).value) = ((v : Nat) : Int))))
      ⟨tt,tt,tt,⟨tt,tt,(by omega),(by omega)⟩,tt,tt,tt,⟨tt,tt,tt⟩,tt,(fun _ => trivial),(fun hG => ⟨hG,tt⟩),(fun _ => trivial),(fun hG => ⟨⟨hG,tt⟩,⟨hG,tt⟩,(by have hg0 : ((List.getD c.marks i default).value) = ((v : Nat) : Int) := of_decide_eq_true hG; omega),(by have hg0 : ((List.getD c.marks i default).value) = ((v : Nat) : Int) := of_decide_eq_true hG; omega)⟩),(fun hG => ⟨hG,tt⟩),(fun hG => ⟨hG,tt⟩),(fun hG => ⟨hG,tt⟩),⟨tt,(fun hp => ⟨hp,tt⟩),(fun _ => trivial)⟩,tt⟩ ?_
     refine W.if' ((decide (((List.getD c.marks i default).value) = ((v : Nat) : Int))) && (!((List.getD c.marks i default).gone))) (.b ((decide (((List.getD c.marks i default).value) = ((v : Nat) : Int))) && (!((List.getD c.marks i default).gone)))) (by kernel_rfl) rfl trivial ?_ ?_
     ·intro h34
      have h34_0 : ((List.getD c.marks i default).value) = ((v : Nat) : Int) := of_decide_eq_true (and_l h34)
      refine Kk cok tab60 hnt [38] [1,3,4] (⟨[(1,.ptr 1 0),(3,.own 38 (List.length (lw ++ ([((v : Nat) : Int)])))),(4,.i ((v : Nat) : Int))],[(1,⟨26,.fix (cC c)⟩),(38,⟨3,.row (.ints (lw ++ ([((v : Nat) : Int)])))⟩)],[38,37,1,6,999]⟩)
       (True ∧ True ∧ (True ∧ True) ∧ ((True ∧ (lw.length = lw.length)) ∧ True ∧ ((lw.length + (List.length ([((v : Nat) : Int)]))) * 8 ≤ 140737488355328)) ∧ True ∧ True)
       ⟨tt,tt,⟨tt,tt⟩,⟨⟨tt,rfl⟩,tt,(by (try simp only [List.length_append,List.length_cons,List.length_nil,List.length_set]); omega)⟩,tt,tt⟩ ?_
      refine W.exit (blockQ_miss rfl (thenQ_exit (thenQ_exit (blockQ_hit ?_))))
      refine blockQ_normal (thenQ_normal ?_)
      refine Lk cok tab60 hnt [] (⟨[(1,.ptr 1 0),(3,.own 38 (List.length (lw ++ ([((v : Nat) : Int)])))),(4,.i (((v + 1) : Nat) : Int)),(9,.i ((v : Nat) : Int)),(10,.i (((v + 1) : Nat) : Int))],[(1,⟨26,.fix (cC c)⟩),(38,⟨3,.row (.ints (lw ++ ([((v : Nat) : Int)])))⟩)],[38,37,1,6,999]⟩)
       (True ∧ (True ∧ True ∧ (Fits .i64 (((v + 1) : Nat) : Int))) ∧ True ∧ True)
       ⟨tt,⟨tt,tt,(by exact fits_i64 (by omega) (by omega))⟩,tt,tt⟩ ?_
      refine thenQ_normal ?_
      refine ⟨((v + 1),(lw ++ ([((v : Nat) : Int)]))),(show ((v + 1) ≤ 4) ∧ ((lw ++ ([((v : Nat) : Int)])) = valsUp c.marks (v + 1)) from ⟨(by first | assumption | omega | rfl | (intro _ hjj; omega) | (simp; done) | (simp; omega)),(by first | exact vals_yes hlw (by omega) h34 | exact vals_no hlw hA (by omega))⟩),(show 4 - (v + 1) < 4 - v from (by first | omega | (simp_all; omega))),?_⟩
      exact Sub.of [(6,38)] (@cast (((((1 : Nat) = 1) ∧ ((0 : Nat) = 0) ∧ ((1 : Nat) ∈ ([1,6,999] : List Nat))) ∧ (((38 : Nat) = 38) ∧ ((List.length (lw ++ ([((v : Nat) : Int)]))) = (List.length (lw ++ ([((v : Nat) : Int)])))) ∧ ((6 : Nat) ∈ ([1,6,999] : List Nat))) ∧ (Si (((v + 1) : Nat) : Int)) ∧ True) ∧ ((((26 : Nat) = 26) ∧ (Sc c) ∧ ((1 : Nat) ∈ ([1,6,999] : List Nat))) ∧ (((3 : Nat) = 3) ∧ (Sd (.ints (lw ++ ([((v : Nat) : Int)])))) ∧ ((6 : Nat) ∈ ([1,6,999] : List Nat))) ∧ True) ∧ (true = true) ∧ (true = true)) _ (by kernel_rfl) ⟨⟨⟨rfl,rfl,(by decide)⟩,⟨rfl,rfl,(by decide)⟩,rfl,tt⟩,⟨⟨rfl,⟨rfl,rfl,rfl,rfl,rfl,rfl,tt⟩,(by decide)⟩,⟨rfl,rfl,(by decide)⟩,tt⟩,rfl,rfl⟩)
     ·intro n34
      refine W.skip (blockQ_normal (thenQ_normal ?_))
      refine Lk cok tab60 hnt [] (⟨[(1,.ptr 1 0),(3,.own 6 lw.length),(4,.i ((v : Nat) : Int)),(5,.i (((i + 1) : Nat) : Int)),(16,.i ((i : Nat) : Int)),(17,.i (((i + 1) : Nat) : Int)),(34,.b ((decide (((List.getD c.marks i default).value) = ((v : Nat) : Int))) && (!((List.getD c.marks i default).gone))))],[(1,⟨26,.fix (cC c)⟩),(6,⟨3,.row (.ints lw)⟩)],[1,6,999]⟩)
       (True ∧ (True ∧ True ∧ (Fits .i64 (((i + 1) : Nat) : Int))) ∧ True ∧ True)
       ⟨tt,⟨tt,tt,(by exact fits_i64 (by omega) (by omega))⟩,tt,tt⟩ ?_
      refine thenQ_normal ?_
      refine ⟨((i + 1),lw),(show ((i + 1) ≤ c.marks.length) ∧ (lw = valsUp c.marks v) ∧ (∀ j,j < (i + 1) → hasAt c.marks ((v : Nat) : Int) j = false) from ⟨(by first | assumption | omega | rfl | (intro _ hjj; omega) | (simp; done) | (simp; omega)),(by first | assumption | omega | rfl | (intro _ hjj; omega) | (simp; done) | (simp; omega)),(by exact upto_succ2 hA n34)⟩),(show c.marks.length - (i + 1) < c.marks.length - i from (by first | omega | (simp_all; omega))),?_⟩
      exact Sub.of [] (@cast (((((1 : Nat) = 1) ∧ ((0 : Nat) = 0) ∧ ((1 : Nat) ∈ ([1,6,999] : List Nat))) ∧ (((6 : Nat) = 6) ∧ (lw.length = lw.length) ∧ ((6 : Nat) ∈ ([1,6,999] : List Nat))) ∧ (Si ((v : Nat) : Int)) ∧ (Si (((i + 1) : Nat) : Int)) ∧ True) ∧ ((((26 : Nat) = 26) ∧ (Sc c) ∧ ((1 : Nat) ∈ ([1,6,999] : List Nat))) ∧ (((3 : Nat) = 3) ∧ (Sd (.ints lw)) ∧ ((6 : Nat) ∈ ([1,6,999] : List Nat))) ∧ True) ∧ (true = true) ∧ (true = true)) _ (by kernel_rfl) ⟨⟨⟨rfl,rfl,(by decide)⟩,⟨rfl,rfl,(by decide)⟩,rfl,rfl,tt⟩,⟨⟨rfl,⟨rfl,rfl,rfl,rfl,rfl,rfl,tt⟩,(by decide)⟩,⟨rfl,rfl,(by decide)⟩,tt⟩,rfl,rfl⟩)
    ·intro n15
     refine W.exit (thenQ_exit (thenQ_exit (blockQ_hit ?_)))
     refine blockQ_normal (thenQ_normal ?_)
     refine Lk cok tab60 hnt [] (⟨[(1,.ptr 1 0),(3,.own 6 lw.length),(4,.i (((v + 1) : Nat) : Int)),(5,.i ((i : Nat) : Int)),(9,.i ((v : Nat) : Int)),(10,.i (((v + 1) : Nat) : Int)),(15,.b (decide (((i : Nat) : Int) < (((List.length c.marks) : Nat) : Int))))],[(1,⟨26,.fix (cC c)⟩),(6,⟨3,.row (.ints lw)⟩)],[1,6,999]⟩)
      (True ∧ (True ∧ True ∧ (Fits .i64 (((v + 1) : Nat) : Int))) ∧ True ∧ True)
      ⟨tt,⟨tt,tt,(by exact fits_i64 (by omega) (by omega))⟩,tt,tt⟩ ?_
     refine thenQ_normal ?_
     refine ⟨((v + 1),lw),(show ((v + 1) ≤ 4) ∧ (lw = valsUp c.marks (v + 1)) from ⟨(by first | assumption | omega | rfl | (intro _ hjj; omega) | (simp; done) | (simp; omega)),(by first | exact vals_yes hlw (by omega) h34 | exact vals_no hlw hA (by omega))⟩),(show 4 - (v + 1) < 4 - v from (by first | omega | (simp_all; omega))),?_⟩
     exact Sub.of [] (@cast (((((1 : Nat) = 1) ∧ ((0 : Nat) = 0) ∧ ((1 : Nat) ∈ ([1,6,999] : List Nat))) ∧ (((6 : Nat) = 6) ∧ (lw.length = lw.length) ∧ ((6 : Nat) ∈ ([1,6,999] : List Nat))) ∧ (Si (((v + 1) : Nat) : Int)) ∧ True) ∧ ((((26 : Nat) = 26) ∧ (Sc c) ∧ ((1 : Nat) ∈ ([1,6,999] : List Nat))) ∧ (((3 : Nat) = 3) ∧ (Sd (.ints lw)) ∧ ((6 : Nat) ∈ ([1,6,999] : List Nat))) ∧ True) ∧ (true = true) ∧ (true = true)) _ (by kernel_rfl) ⟨⟨⟨rfl,rfl,(by decide)⟩,⟨rfl,rfl,(by decide)⟩,rfl,tt⟩,⟨⟨rfl,⟨rfl,rfl,rfl,rfl,rfl,rfl,tt⟩,(by decide)⟩,⟨rfl,rfl,(by decide)⟩,tt⟩,rfl,rfl⟩)
  ·intro n8
   refine W.exit (thenQ_exit (thenQ_exit (blockQ_hit ?_)))
   refine thenQ_normal ?_
   refine Kk cok tab60 hnt [] [2] (⟨[(2,.own 6 lo.length)],[(1,⟨26,.fix (cC c)⟩),(6,⟨3,.row (.ints lo)⟩)],[1,6,999]⟩)
    (True ∧ True ∧ True)
    ⟨tt,tt,tt⟩ ?_
   refine W.ret ?_
   exact endQ_rows [(0,6)] (.own 6 lo.length) (by kernel_rfl) (@cast (((6 : Nat) = 6) ∧ (lo.length = (List.length (valsUp c.marks 4))) ∧ ((0 : Nat) ∈ ([0] : List Nat))) _ (by kernel_rfl) ⟨rfl,(by first | rfl | omega | assumption | (symm; assumption) | (exact congrArg List.length (by rw [hl,show v = 4 by omega])) | (rw [hl,show v = 4 by omega]; done) | simp | simp_all),(by decide)⟩) (@cast ((((3 : Nat) = 3) ∧ ((.ints lo : Dat) = .ints (valsUp c.marks 4)) ∧ ((0 : Nat) ∈ ([0] : List Nat))) ∧ True) _ (by kernel_rfl) ⟨⟨rfl,(congrArg Dat.ints (by rw [hl,show v = 4 by omega])),(by decide)⟩,tt⟩) (by kernel_rfl)
theorem ent60 : Entr prog 60 := ⟨_,func60,rfl,by decide⟩
end Go.Proofs.Try

set_option linter.unusedSimpArgs false
set_option linter.unusedVariables false
namespace Go.Proofs.Try
open Go.Ab Go.RowKit
def fs32 : FnS := fnS [.a [some .ints,some .ints,none,none,none,some .marks]] [.copy] (fun _ (c,_) => (.sl (.ints (valuesC c)),[],True))
abbrev T32 : Tab := lk [(36,fs36),(60,fs60)]
theorem tab32 : TabOK prog T32 := (TabOK.cons ok36 ent36 (TabOK.cons ok60 ent60 TabOK.nil))
set_option maxRecDepth 100000 in
set_option maxHeartbeats 1000000 in
theorem ok32 : FnOK prog 32 fs32 := by
 refine FnOK.mk cok func32 rfl rfl rfl ?_
 rintro fl ⟨(c : CopyD),_⟩ hpre F hnt0 _
 have hnt : F.nt = 8 := hnt0.trans ntmps32
 clear hpre
 refine W.to (⟨[(0,.agg (cC c))],[],[999]⟩) rfl ?_
 refine W.lenA 0 0 (cC c) (.ints c.up) (by kernel_rfl) (by kernel_rfl) ?_
 intro hl_c_up; replace hl_c_up : List.length c.up ≤ 9223372036854775807 := hl_c_up
 refine W.lenA 0 1 (cC c) (.ints c.down) (by kernel_rfl) (by kernel_rfl) ?_
 intro hl_c_down; replace hl_c_down : List.length c.down ≤ 9223372036854775807 := hl_c_down
 refine W.lenA 0 5 (cC c) (.marks c.marks) (by kernel_rfl) (by kernel_rfl) ?_
 intro hl_c_marks; replace hl_c_marks : List.length c.marks ≤ 9223372036854775807 := hl_c_marks
 refine Kk cok tab32 hnt [] [1] (⟨[(1,.ptr 1 0)],[(1,⟨26,.fix (cC c)⟩)],[1,999]⟩)
  (True ∧ True ∧ True)
  ⟨tt,tt,tt⟩ ?_
 refine W.seq ?_
 refine Kk cok tab32 hnt [] [1,5] (⟨[(1,.ptr 1 0),(5,.b (!(validCopy c)))],[(1,⟨26,.fix (cC c)⟩)],[1,999]⟩)
  (True ∧ (True ∧ ((True ∧ True ∧ True ∧ True ∧ True ∧ True ∧ True ∧ True) ∧ True) ∧ True) ∧ True ∧ True)
  ⟨tt,⟨tt,⟨⟨tt,tt,tt,tt,tt,tt,tt,tt⟩,tt⟩,tt⟩,tt,tt⟩ ?_
 refine W.if' (!(validCopy c)) (.b (!(validCopy c))) (by kernel_rfl) rfl trivial ?_ ?_
 ·intro h5
  refine Kk cok tab32 hnt [] [2] (⟨[(2,.v (.slice none 0 0))],[(1,⟨26,.fix (cC c)⟩)],[1,999]⟩)
   (True ∧ True)
   ⟨tt,tt⟩ ?_
  refine W.ret (thenQ_ret ?_)
  exact endQ_ret (.v (.slice none 0 0)) (by kernel_rfl) (@cast (((Value.slice none 0 0 : Value) = .slice none 0 0) ∧ ((Dat.ints (valuesC c)).len = 0)) _ (by kernel_rfl) ⟨rfl,(by show List.length (valuesC c) = 0; rw [← values_bad (not_f h5)]; rfl)⟩)
 ·intro n5
  refine W.skip (thenQ_normal ?_)
  refine Kk cok tab32 hnt [] [2] (⟨[(2,.sl (.ints (valsUp c.marks 4)))],[(1,⟨26,.fix (cC c)⟩)],[7,1,999]⟩)
   (True ∧ ((True ∧ ((True ∧ True ∧ True ∧ True ∧ True ∧ True ∧ True ∧ True) ∧ True) ∧ True) ∧ ((List.length (valsUp c.marks 4)) = (List.length (valsUp c.marks 4)))) ∧ True ∧ True)
   ⟨tt,⟨⟨tt,⟨⟨tt,tt,tt,tt,tt,tt,tt,tt⟩,tt⟩,tt⟩,rfl⟩,tt,tt⟩ ?_
  refine W.ret ?_
  exact endQ_ret (.sl (.ints (valsUp c.marks 4))) (by kernel_rfl) (@cast ((.ints (valsUp c.marks 4) : Dat) = .ints (valuesC c)) _ (by kernel_rfl) (congrArg Dat.ints (by exact values_ok2 (not_g n5))))
theorem ent32 : Entr prog 32 := ⟨_,func32,rfl,by decide⟩
end Go.Proofs.Try

set_option linter.unusedSimpArgs false
set_option linter.unusedVariables false
namespace Go.Proofs.Try
open Go.Ab Go.RowKit
def fs31 : FnS := fnS [.s .ints,.s .ints] [.ints,.ints] (fun _ (a,b,_) => (.b (decide (a = b)),[],True))
abbrev T31 : Tab := lk []
theorem tab31 : TabOK prog T31 := TabOK.nil
set_option maxRecDepth 100000 in
set_option maxHeartbeats 1000000 in
theorem ok31 : FnOK prog 31 fs31 := by
 refine FnOK.mk cok func31 rfl rfl rfl ?_
 rintro fl ⟨(a : List Int),(b : List Int),_⟩ hpre F hnt0 _
 have hnt : F.nt = 26 := hnt0.trans ntmps31
 clear hpre
 refine W.to (⟨[(0,.sl (.ints a)),(1,.sl (.ints b))],[],[999]⟩) rfl ?_
 refine W.lenOf 0 (.ints a) (by kernel_rfl) ?_
 intro hl_a; replace hl_a : List.length a ≤ 9223372036854775807 := hl_a
 refine W.lenOf 1 (.ints b) (by kernel_rfl) ?_
 intro hl_b; replace hl_b : List.length b ≤ 9223372036854775807 := hl_b
 refine Kk cok tab31 hnt [] [0,1] (⟨[(0,.sl (.ints a)),(1,.sl (.ints b))],[],[999]⟩)
  (True ∧ True)
  ⟨tt,tt⟩ ?_
 refine W.seq ?_
 refine Kk cok tab31 hnt [] [0,1,10] (⟨[(0,.sl (.ints a)),(1,.sl (.ints b)),(10,.b (decide ((a.length : Int) ≠ (b.length : Int))))],[],[999]⟩)
  (True ∧ True ∧ True ∧ True ∧ (True ∧ True ∧ True) ∧ True)
  ⟨tt,tt,tt,tt,⟨tt,tt,tt⟩,tt⟩ ?_
 refine W.ifP ((a.length : Int) ≠ (b.length : Int)) (.b (decide ((a.length : Int) ≠ (b.length : Int)))) (by kernel_rfl) rfl trivial ?_ ?_
 ·intro h10
  refine Kk cok tab31 hnt [] [4] (⟨[(4,.b false)],[],[999]⟩)
   (True ∧ True)
   ⟨tt,tt⟩ ?_
  refine W.ret (thenQ_ret ?_)
  exact endQ_ret (.b false) (by kernel_rfl) (@cast ((.bool false : Value) = .bool (decide (a = b))) _ (by kernel_rfl) (congrArg Value.bool (by symm; exact decide_eq_false (fun e => h10 (by rw [e])))))
 ·intro n10
  refine W.skip (thenQ_normal ?_)
  refine W.seq ?_
  refine Kk cok tab31 hnt [] [0,1,5] (⟨[(0,.sl (.ints a)),(1,.sl (.ints b)),(5,.i (0 : Int))],[],[999]⟩)
   (True ∧ True)
   ⟨tt,tt⟩ ?_
  refine W.block ?_
  refine W.loop (ι := Nat) (fun (i : Nat) => (⟨[(0,.sl (.ints a)),(1,.sl (.ints b)),(5,.i ((i : Nat) : Int))],[],[999]⟩ : St))
   (fun (i : Nat) => (i ≤ a.length) ∧ (∀ j,j < i → a.getD j 0 = b.getD j 0))
   (fun (i : Nat) => (a.length - i : Nat)) (0) ?_ ?_ ?_
  ·exact (show (0 ≤ a.length) ∧ (∀ j,j < 0 → a.getD j 0 = b.getD j 0) from ⟨(by first | assumption | omega | rfl | (intro _ hjj; omega) | (simp; done) | (simp; omega)),(by exact upto_zero)⟩)
  ·exact Sub.of [] (@cast (((Sd (.ints a)) ∧ (Sd (.ints b)) ∧ ((.int .i64 (0 : Int) : Value) = .int .i64 ((0 : Nat) : Int)) ∧ True) ∧ True ∧ (true = true) ∧ (true = true)) _ (by kernel_rfl) ⟨⟨rfl,rfl,(congrArg (Value.int .i64) (by first | rfl | omega | assumption | simp | simp_all)),tt⟩,tt,rfl,rfl⟩)
  ·rintro i hC0
   have hC : (i ≤ a.length) ∧ (∀ j,j < i → a.getD j 0 = b.getD j 0) := hC0
   clear hC0
   obtain ⟨hi,hA⟩ := hC
   refine W.to (⟨[(0,.sl (.ints a)),(1,.sl (.ints b)),(5,.i ((i : Nat) : Int))],[],[999]⟩) rfl ?_
   refine W.seq ?_
   refine Kk cok tab31 hnt [] [0,1,5,14] (⟨[(0,.sl (.ints a)),(1,.sl (.ints b)),(5,.i ((i : Nat) : Int)),(14,.b (decide (((i : Nat) : Int) < (a.length : Int))))],[],[999]⟩)
    (True ∧ True ∧ True ∧ (True ∧ True ∧ True) ∧ True)
    ⟨tt,tt,tt,⟨tt,tt,tt⟩,tt⟩ ?_
   refine W.ifP (((i : Nat) : Int) < (a.length : Int)) (.b (decide (((i : Nat) : Int) < (a.length : Int)))) (by kernel_rfl) rfl trivial ?_ ?_
   ·intro h14
    refine W.skip (thenQ_normal ?_)
    refine W.seq ?_
    refine W.block ?_
    refine W.KA cok tab31 hnt [] [0,1,5,25] (⟨[(0,.sl (.ints a)),(1,.sl (.ints b)),(5,.i ((i : Nat) : Int)),(25,.b (decide ((a.getD i 0) ≠ (b.getD i 0))))],[],[999]⟩)
     (True ∧ True ∧ (True ∧ True ∧ (0 ≤ ((i : Nat) : Int)) ∧ (((i : Nat) : Int) < (a.length : Int))) ∧ True ∧ True ∧ True ∧ (True ∧ True ∧ (0 ≤ ((i : Nat) : Int)) ∧ (((i : Nat) : Int) < (b.length : Int))) ∧ True ∧ (True ∧ True ∧ True) ∧ True) (by kernel_rfl) (by kernel_rfl)
     ⟨tt,tt,⟨tt,tt,(by omega),(by omega)⟩,tt,tt,tt,⟨tt,tt,(by omega),(by omega)⟩,tt,⟨tt,tt,tt⟩,tt⟩ ?_
    refine W.ifP ((a.getD i 0) ≠ (b.getD i 0)) (.b (decide ((a.getD i 0) ≠ (b.getD i 0)))) (by kernel_rfl) rfl trivial ?_ ?_
    ·intro h25
     refine Kk cok tab31 hnt [] [4] (⟨[(4,.b false)],[],[999]⟩)
      (True ∧ True)
      ⟨tt,tt⟩ ?_
     refine W.ret (blockQ_ret (thenQ_ret (thenQ_ret (blockQ_ret (thenQ_ret ?_)))))
     exact endQ_ret (.b false) (by kernel_rfl) (@cast ((.bool false : Value) = .bool (decide (a = b))) _ (by kernel_rfl) (congrArg Value.bool (by symm; exact decide_eq_false (fun e => h25 (by rw [e])))))
    ·intro n25
     refine W.skip (blockQ_normal (thenQ_normal ?_))
     refine Lk cok tab31 hnt [] (⟨[(0,.sl (.ints a)),(1,.sl (.ints b)),(5,.i (((i + 1) : Nat) : Int)),(15,.i ((i : Nat) : Int)),(16,.i (((i + 1) : Nat) : Int)),(25,.b (decide ((a.getD i 0) ≠ (b.getD i 0))))],[],[999]⟩)
      (True ∧ (True ∧ True ∧ (Fits .i64 (((i + 1) : Nat) : Int))) ∧ True ∧ True)
      ⟨tt,⟨tt,tt,(by exact fits_i64 (by omega) (by omega))⟩,tt,tt⟩ ?_
     refine thenQ_normal ?_
     refine ⟨((i + 1)),(show ((i + 1) ≤ a.length) ∧ (∀ j,j < (i + 1) → a.getD j 0 = b.getD j 0) from ⟨(by first | assumption | omega | rfl | (intro _ hjj; omega) | (simp; done) | (simp; omega)),(by exact upto_succ hA (Decidable.not_not.1 n25))⟩),(show a.length - (i + 1) < a.length - i from (by first | omega | (simp_all; omega))),?_⟩
     exact Sub.of [] (@cast (((Sd (.ints a)) ∧ (Sd (.ints b)) ∧ (Si (((i + 1) : Nat) : Int)) ∧ True) ∧ True ∧ (true = true) ∧ (true = true)) _ (by kernel_rfl) ⟨⟨rfl,rfl,rfl,tt⟩,tt,rfl,rfl⟩)
   ·intro n14
    refine W.exit (thenQ_exit (thenQ_exit (blockQ_hit ?_)))
    refine thenQ_normal ?_
    refine Kk cok tab31 hnt [] [4] (⟨[(4,.b true)],[],[999]⟩)
     (True ∧ True)
     ⟨tt,tt⟩ ?_
    refine W.ret ?_
    exact endQ_ret (.b true) (by kernel_rfl) (@cast ((.bool true : Value) = .bool (decide (a = b))) _ (by kernel_rfl) (congrArg Value.bool (by symm; exact decide_eq_true (ints_ext (by omega) (fun j hj => hA j (by omega))))))
theorem ent31 : Entr prog 31 := ⟨_,func31,rfl,by decide⟩
end Go.Proofs.Try

set_option linter.unusedSimpArgs false
set_option linter.unusedVariables false
namespace Go.Proofs.Try
open Go.Ab Go.RowKit
def fs33 : FnS := fnS [.s .ints] [.ints] (fun _ (l,_) => (.b (ascends l),[],True))
abbrev T33 : Tab := lk []
theorem tab33 : TabOK prog T33 := TabOK.nil
set_option maxRecDepth 100000 in
set_option maxHeartbeats 1000000 in
theorem ok33 : FnOK prog 33 fs33 := by
 refine FnOK.mk cok func33 rfl rfl rfl ?_
 rintro fl ⟨(l : List Int),_⟩ hpre F hnt0 _
 have hnt : F.nt = 20 := hnt0.trans ntmps33
 clear hpre
 refine W.to (⟨[(0,.sl (.ints l))],[],[999]⟩) rfl ?_
 refine W.lenOf 0 (.ints l) (by kernel_rfl) ?_
 intro hl_l; replace hl_l : List.length l ≤ 9223372036854775807 := hl_l
 refine Kk cok tab33 hnt [] [0] (⟨[(0,.sl (.ints l))],[],[999]⟩)
  (True ∧ True)
  ⟨tt,tt⟩ ?_
 refine W.seq ?_
 refine Kk cok tab33 hnt [] [0,3] (⟨[(0,.sl (.ints l)),(3,.i (1 : Int))],[],[999]⟩)
  (True ∧ True)
  ⟨tt,tt⟩ ?_
 refine W.block ?_
 refine W.loop (ι := Nat) (fun (i : Nat) => (⟨[(0,.sl (.ints l)),(3,.i ((i : Nat) : Int))],[],[999]⟩ : St))
  (fun (i : Nat) => (1 ≤ i) ∧ (i ≤ max 1 l.length) ∧ (∀ j,j < i → ascAt l j = true))
  (fun (i : Nat) => (l.length - i : Nat)) (1) ?_ ?_ ?_
 ·exact (show (1 ≤ 1) ∧ (1 ≤ max 1 l.length) ∧ (∀ j,j < 1 → ascAt l j = true) from ⟨(by omega),(by omega),(by exact asc_zero l)⟩)
 ·exact Sub.of [] (@cast (((Sd (.ints l)) ∧ ((.int .i64 (1 : Int) : Value) = .int .i64 ((1 : Nat) : Int)) ∧ True) ∧ True ∧ (true = true) ∧ (true = true)) _ (by kernel_rfl) ⟨⟨rfl,(congrArg (Value.int .i64) (by first | rfl | omega | assumption | simp | simp_all)),tt⟩,tt,rfl,rfl⟩)
 ·rintro i hC0
  have hC : (1 ≤ i) ∧ (i ≤ max 1 l.length) ∧ (∀ j,j < i → ascAt l j = true) := hC0
  clear hC0
  obtain ⟨h1,hi,hA⟩ := hC
  refine W.to (⟨[(0,.sl (.ints l)),(3,.i ((i : Nat) : Int))],[],[999]⟩) rfl ?_
  refine W.seq ?_
  refine Kk cok tab33 hnt [] [0,3,7] (⟨[(0,.sl (.ints l)),(3,.i ((i : Nat) : Int)),(7,.b (decide (((i : Nat) : Int) < (l.length : Int))))],[],[999]⟩)
   (True ∧ True ∧ True ∧ (True ∧ True ∧ True) ∧ True)
   ⟨tt,tt,tt,⟨tt,tt,tt⟩,tt⟩ ?_
  refine W.ifP (((i : Nat) : Int) < (l.length : Int)) (.b (decide (((i : Nat) : Int) < (l.length : Int)))) (by kernel_rfl) rfl trivial ?_ ?_
  ·intro h7
   refine W.skip (thenQ_normal ?_)
   refine W.seq ?_
   refine W.block ?_
   refine W.KA cok tab33 hnt [] [0,3,19] (⟨[(0,.sl (.ints l)),(3,.i ((i : Nat) : Int)),(19,.b (decide ((l.getD i 0) ≤ (l.getD (Int.toNat (((i : Nat) : Int) - (1 : Int))) 0))))],[],[999]⟩)
    (True ∧ True ∧ (True ∧ True ∧ (0 ≤ ((i : Nat) : Int)) ∧ (((i : Nat) : Int) < (l.length : Int))) ∧ True ∧ True ∧ True ∧ (True ∧ True ∧ (Fits .i64 (((i : Nat) : Int) - (1 : Int)))) ∧ (True ∧ True ∧ (0 ≤ (((i : Nat) : Int) - (1 : Int))) ∧ ((((i : Nat) : Int) - (1 : Int)) < (l.length : Int))) ∧ True ∧ (True ∧ True ∧ True) ∧ True) (by kernel_rfl) (by kernel_rfl)
    ⟨tt,tt,⟨tt,tt,(by omega),(by omega)⟩,tt,tt,tt,⟨tt,tt,(by exact fits_i64 (by omega) (by omega))⟩,⟨tt,tt,(by omega),(by omega)⟩,tt,⟨tt,tt,tt⟩,tt⟩ ?_
   refine W.ifP ((l.getD i 0) ≤ (l.getD (Int.toNat (((i : Nat) : Int) - (1 : Int))) 0)) (.b (decide ((l.getD i 0) ≤ (l.getD (Int.toNat (((i : Nat) : Int) - (1 : Int))) 0)))) (by kernel_rfl) rfl trivial ?_ ?_
   ·intro h19
    refine Kk cok tab33 hnt [] [2] (⟨[(2,.b false)],[],[999]⟩)
     (True ∧ True)
     ⟨tt,tt⟩ ?_
    refine W.ret (blockQ_ret (thenQ_ret (thenQ_ret (blockQ_ret (thenQ_ret ?_)))))
    exact endQ_ret (.b false) (by kernel_rfl) (@cast ((.bool false : Value) = .bool (ascends l)) _ (by kernel_rfl) (congrArg Value.bool (by rw [show ((i : Int) - 1).toNat = i - 1 by omega] at h19; exact (asc_no h1 (by omega) h19).symm)))
   ·intro n19
    refine W.skip (blockQ_normal (thenQ_normal ?_))
    refine Lk cok tab33 hnt [] (⟨[(0,.sl (.ints l)),(3,.i (((i + 1) : Nat) : Int)),(8,.i ((i : Nat) : Int)),(9,.i (((i + 1) : Nat) : Int)),(19,.b (decide ((l.getD i 0) ≤ (l.getD (Int.toNat (((i : Nat) : Int) - (1 : Int))) 0))))],[],[999]⟩)
     (True ∧ (True ∧ True ∧ (Fits .i64 (((i + 1) : Nat) : Int))) ∧ True ∧ True)
     ⟨tt,⟨tt,tt,(by exact fits_i64 (by omega) (by omega))⟩,tt,tt⟩ ?_
    refine thenQ_normal ?_
    refine ⟨((i + 1)),(show (1 ≤ (i + 1)) ∧ ((i + 1) ≤ max 1 l.length) ∧ (∀ j,j < (i + 1) → ascAt l j = true) from ⟨(by first | assumption | omega | rfl | (intro _ hjj; omega) | (simp; done) | (simp; omega)),(by first | assumption | omega | rfl | (intro _ hjj; omega) | (simp; done) | (simp; omega)),(by rw [show ((i : Int) - 1).toNat = i - 1 by omega] at n19; exact upto_succ hA (asc_step n19))⟩),(show l.length - (i + 1) < l.length - i from (by first | omega | (simp_all; omega))),?_⟩
    exact Sub.of [] (@cast (((Sd (.ints l)) ∧ (Si (((i + 1) : Nat) : Int)) ∧ True) ∧ True ∧ (true = true) ∧ (true = true)) _ (by kernel_rfl) ⟨⟨rfl,rfl,tt⟩,tt,rfl,rfl⟩)
  ·intro n7
   refine W.exit (thenQ_exit (thenQ_exit (blockQ_hit ?_)))
   refine thenQ_normal ?_
   refine Kk cok tab33 hnt [] [2] (⟨[(2,.b true)],[],[999]⟩)
    (True ∧ True)
    ⟨tt,tt⟩ ?_
   refine W.ret ?_
   exact endQ_ret (.b true) (by kernel_rfl) (@cast ((.bool true : Value) = .bool (ascends l)) _ (by kernel_rfl) (congrArg Value.bool (by exact (allN_true (fun j hj => hA j (by omega))).symm)))
theorem ent33 : Entr prog 33 := ⟨_,func33,rfl,by decide⟩
end Go.Proofs.Try

set_option linter.unusedSimpArgs false
set_option linter.unusedVariables false
namespace Go.Proofs.Try
open Go.Ab Go.RowKit
def pre35 : List AV → List AV → Prop := preP [.bytes] [] (fun (code,_) _ => True)
def rel35 : RelS := relP [.bytes] [] (ι := (List UInt8)) (fun (code,_) _ l => True) (fun (code,_) _ l => (.ptr 0 0,[⟨69,.fix [.sl (.bytes l),.i (0 : Int)]⟩],[]))
abbrev T35 : Tab := lk []
theorem tab35 : TabOK prog T35 := TabOK.nil
set_option maxRecDepth 100000 in
set_option maxHeartbeats 1000000 in
theorem rok35 : RelOK prog 35 none [.s .bytes] pre35 rel35 := by
 refine RelOK.mk cok func35 rfl rfl rfl ?_
 rintro ⟨(code : List UInt8),_⟩ _ hpre F hnt0
 have hnt : F.nt = 11 := hnt0.trans ntmps35
 clear hpre
 refine W.to (⟨[(0,.sl (.bytes code))],[],[998,999]⟩) rfl ?_
 refine Kk cok tab35 hnt [] [0] (⟨[(0,.sl (.bytes code))],[],[998,999]⟩)
  (True ∧ True)
  ⟨tt,tt⟩ ?_
 refine W.seq ?_
 refine Kk cok tab35 hnt [] [0,5] (⟨[(0,.sl (.bytes code)),(5,.b (decide ((2000 : Int) < (code.length : Int))))],[],[998,999]⟩)
  (True ∧ True ∧ (True ∧ True ∧ True) ∧ True)
  ⟨tt,tt,⟨tt,tt,tt⟩,tt⟩ ?_
 refine W.ifP ((2000 : Int) < (code.length : Int)) (.b (decide ((2000 : Int) < (code.length : Int)))) (by kernel_rfl) rfl trivial ?_ ?_
 ·intro h5
  refine Lk cok tab35 hnt [] (⟨[(0,.sl (.bytes (List.take 2000 code))),(5,.b (decide ((2000 : Int) < (code.length : Int)))),(6,.sl (.bytes code)),(7,.sl (.bytes (List.take 2000 code)))],[],[998,999]⟩)
   (True ∧ (True ∧ True ∧ True ∧ (0 ≤ (0 : Int)) ∧ ((0 : Int) ≤ (2000 : Int)) ∧ ((2000 : Int) ≤ (code.length : Int))) ∧ True ∧ True)
   ⟨tt,⟨tt,tt,tt,(by omega),(by omega),(by omega)⟩,tt,tt⟩ ?_
  refine thenQ_normal ?_
  refine Kk cok tab35 hnt [] [2] (⟨[(2,.ptr 10 0)],[(10,⟨69,.fix [.sl (.bytes (List.take 2000 code)),.i (0 : Int)]⟩)],[10,998,999]⟩)
   (True ∧ (True ∧ True) ∧ True ∧ True ∧ True)
   ⟨tt,⟨tt,tt⟩,tt,tt,tt⟩ ?_
  refine W.ret ?_
  exact endP_ret ((List.take 2000 code)) (show True from trivial) [(0,10)] (.ptr 10 0) (by kernel_rfl) (@cast ((((10 : Nat) = 10) ∧ ((0 : Nat) = 0) ∧ ((0 : Nat) ∈ ([0] : List Nat))) ∧ ((((69 : Nat) = 69) ∧ ((Sd (.bytes (List.take 2000 code))) ∧ (Si (0 : Int)) ∧ True) ∧ ((0 : Nat) ∈ ([0] : List Nat))) ∧ True) ∧ (true = true) ∧ ((([] : List Nat) = []) ∧ True) ∧ (false = true → (10 : Nat) = 998)) _ (by kernel_rfl) ⟨⟨rfl,rfl,(by decide)⟩,⟨⟨rfl,⟨rfl,rfl,tt⟩,(by decide)⟩,tt⟩,rfl,⟨rfl,tt⟩,(fun h => by cases h)⟩)
 ·intro n5
  refine W.skip (thenQ_normal ?_)
  refine Kk cok tab35 hnt [] [2] (⟨[(2,.ptr 10 0)],[(10,⟨69,.fix [.sl (.bytes code),.i (0 : Int)]⟩)],[10,998,999]⟩)
   (True ∧ (True ∧ True) ∧ True ∧ True ∧ True)
   ⟨tt,⟨tt,tt⟩,tt,tt,tt⟩ ?_
  refine W.ret ?_
  exact endP_ret (code) (show True from trivial) [(0,10)] (.ptr 10 0) (by kernel_rfl) (@cast ((((10 : Nat) = 10) ∧ ((0 : Nat) = 0) ∧ ((0 : Nat) ∈ ([0] : List Nat))) ∧ ((((69 : Nat) = 69) ∧ ((Sd (.bytes code)) ∧ (Si (0 : Int)) ∧ True) ∧ ((0 : Nat) ∈ ([0] : List Nat))) ∧ True) ∧ (true = true) ∧ ((([] : List Nat) = []) ∧ True) ∧ (false = true → (10 : Nat) = 998)) _ (by kernel_rfl) ⟨⟨rfl,rfl,(by decide)⟩,⟨⟨rfl,⟨rfl,rfl,tt⟩,(by decide)⟩,tt⟩,rfl,⟨rfl,tt⟩,(fun h => by cases h)⟩)
theorem ent35 : Entr prog 35 := ⟨_,func35,rfl,by decide⟩
end Go.Proofs.Try

set_option linter.unusedSimpArgs false
set_option linter.unusedVariables false
namespace Go.Proofs.Try
open Go.Ab Go.RowKit
def fs45 : FnS := fnS [] [] (fun _ _ => (.agg (cC newC),[],True))
abbrev T45 : Tab := lk []
theorem tab45 : TabOK prog T45 := TabOK.nil
set_option maxRecDepth 100000 in
set_option maxHeartbeats 1000000 in
theorem ok45 : FnOK prog 45 fs45 := by
 refine FnOK.mk cok func45 rfl rfl rfl ?_
 rintro fl _ hpre F hnt0 _
 have hnt : F.nt = 5 := hnt0.trans ntmps45
 clear hpre
 refine W.to (⟨[],[],[999]⟩) rfl ?_
 refine Kk cok tab45 hnt [] [0] (⟨[(0,.ptr 0 0)],[(0,⟨26,.fix [.v (.slice none 0 0),.v (.slice none 0 0),.i (0 : Int),.i (0 : Int),.i (0 : Int),.v (.slice none 0 0)]⟩)],[0,999]⟩)
  (True ∧ True)
  ⟨tt,tt⟩ ?_
 refine W.subS [(997,0)] (⟨[(0,.ptr 997 0)],[(997,⟨26,.fix [.v (.slice none 0 0),.v (.slice none 0 0),.i (0 : Int),.i (0 : Int),.i (0 : Int),.v (.slice none 0 0)]⟩)],[997,999]⟩) (@cast (((((0 : Nat) = 0) ∧ ((0 : Nat) = 0) ∧ ((997 : Nat) ∈ ([997,999] : List Nat))) ∧ True) ∧ ((((26 : Nat) = 26) ∧ ((((.slice none 0 0) : Value) = (.slice none 0 0)) ∧ (((.slice none 0 0) : Value) = (.slice none 0 0)) ∧ (Si (0 : Int)) ∧ (Si (0 : Int)) ∧ (Si (0 : Int)) ∧ (((.slice none 0 0) : Value) = (.slice none 0 0)) ∧ True) ∧ ((997 : Nat) ∈ ([997,999] : List Nat))) ∧ True) ∧ (true = true) ∧ (true = true)) _ (by kernel_rfl) ⟨⟨⟨rfl,rfl,(by decide)⟩,tt⟩,⟨⟨rfl,⟨rfl,rfl,rfl,rfl,rfl,rfl,tt⟩,(by decide)⟩,tt⟩,rfl,rfl⟩) ?_
 refine W.KA cok tab45 hnt [] [0] (⟨[(0,.ptr 997 0)],[(997,⟨26,.fix [.sl (.ints (List.replicate 3 (0 : Int))),.sl (.ints (List.replicate 3 (0 : Int))),.i (0 : Int),.i (0 : Int),.i (0 : Int),.sl (.marks ([] : List MarkD))]⟩)],[3,2,1,997,999]⟩)
  ((True ∧ True ∧ ((3 : Int) = (3 : Int)) ∧ (0 ≤ (3 : Int)) ∧ ((3 : Int) * 8 ≤ 281474976710656)) ∧ (True ∧ True ∧ ((3 : Int) = (3 : Int)) ∧ (0 ≤ (3 : Int)) ∧ ((3 : Int) * 8 ≤ 281474976710656)) ∧ True ∧ (True ∧ True ∧ True ∧ True) ∧ (True ∧ True) ∧ True) (by kernel_rfl) (by kernel_rfl)
  ⟨⟨tt,tt,rfl,(by omega),(by omega)⟩,⟨tt,tt,rfl,(by omega),(by omega)⟩,tt,⟨tt,tt,tt,tt⟩,⟨tt,tt⟩,tt⟩ ?_
 refine W.ret ?_
 exact endQ_ret (.agg [.sl (.ints (List.replicate 3 (0 : Int))),.sl (.ints (List.replicate 3 (0 : Int))),.i (0 : Int),.i (0 : Int),.i (0 : Int),.sl (.marks ([] : List MarkD))]) (by kernel_rfl) (@cast (((.ints (List.replicate 3 (0 : Int)) : Dat) = .ints newC.up) ∧ ((.ints (List.replicate 3 (0 : Int)) : Dat) = .ints newC.down) ∧ ((.int .i64 (0 : Int) : Value) = .int .i64 newC.value) ∧ ((.int .i64 (0 : Int) : Value) = .int .i64 newC.time) ∧ ((.int .i64 (0 : Int) : Value) = .int .i64 newC.proc) ∧ ((.marks ([] : List MarkD) : Dat) = .marks newC.marks) ∧ True) _ (by kernel_rfl) ⟨(congrArg Dat.ints (by rfl)),(congrArg Dat.ints (by rfl)),(congrArg (Value.int .i64) (by rfl)),(congrArg (Value.int .i64) (by rfl)),(congrArg (Value.int .i64) (by rfl)),(congrArg Dat.marks (by rfl)),tt⟩)
theorem ent45 : Entr prog 45 := ⟨_,func45,rfl,by decide⟩
end Go.Proofs.Try

set_option linter.unusedSimpArgs false
set_option linter.unusedVariables false
namespace Go.Proofs.Try
open Go.Ab Go.RowKit
def fs46 : FnS := fnS [.a [some .ints,some .ints,none,none,none,some .marks]] [.copy] (fun _ (c,_) => (.agg [.own 0 (List.length c.up),.own 1 (List.length c.down),.i c.value,.i c.time,.i c.proc,.own 2 (List.length c.marks)],[(3,.ints c.up),(3,.ints c.down),(52,.marks c.marks)],(c.up.length ≤ 1000 ∧ c.down.length ≤ 1000 ∧ c.marks.length ≤ 1000)))
abbrev T46 : Tab := lk []
theorem tab46 : TabOK prog T46 := TabOK.nil
set_option maxRecDepth 100000 in
set_option maxHeartbeats 1000000 in
theorem ok46 : FnOK prog 46 fs46 := by
 refine FnOK.mk cok func46 rfl rfl rfl ?_
 rintro fl ⟨(c : CopyD),_⟩ hpre F hnt0 _
 have hnt : F.nt = 22 := hnt0.trans ntmps46
 replace hpre : (c.up.length ≤ 1000 ∧ c.down.length ≤ 1000 ∧ c.marks.length ≤ 1000) := hpre
 have hs := hpre
 refine W.to (⟨[(0,.agg (cC c))],[],[999]⟩) rfl ?_
 refine W.lenA 0 0 (cC c) (.ints c.up) (by kernel_rfl) (by kernel_rfl) ?_
 intro hl_c_up; replace hl_c_up : List.length c.up ≤ 9223372036854775807 := hl_c_up
 refine W.lenA 0 1 (cC c) (.ints c.down) (by kernel_rfl) (by kernel_rfl) ?_
 intro hl_c_down; replace hl_c_down : List.length c.down ≤ 9223372036854775807 := hl_c_down
 refine W.lenA 0 5 (cC c) (.marks c.marks) (by kernel_rfl) (by kernel_rfl) ?_
 intro hl_c_marks; replace hl_c_marks : List.length c.marks ≤ 9223372036854775807 := hl_c_marks
 refine Kk cok tab46 hnt [] [1,2] (⟨[(1,.ptr 1 0),(2,.ptr 2 0)],[(1,⟨26,.fix (cC c)⟩),(2,⟨26,.fix [.v (.slice none 0 0),.v (.slice none 0 0),.i (0 : Int),.i (0 : Int),.i (0 : Int),.v (.slice none 0 0)]⟩)],[2,1,999]⟩)
  (True ∧ True ∧ True)
  ⟨tt,tt,tt⟩ ?_
 refine W.KA cok tab46 hnt [3,6,7,10,17,20] [2] (⟨[(2,.ptr 2 0)],[(1,⟨26,.fix (cC c)⟩),(2,⟨26,.fix [.own 6 (List.length c.up),.own 10 (List.length c.down),.i c.value,.i c.time,.i c.proc,.own 20 (List.length c.marks)]⟩),(6,⟨3,.row (.ints c.up)⟩),(10,⟨3,.row (.ints c.down)⟩),(20,⟨52,.row (.marks c.marks)⟩)],[20,17,10,7,6,3,2,1,999]⟩)
  (True ∧ True ∧ True ∧ ((True ∧ ((List.length ([] : List Int)) = (List.length ([] : List Int)))) ∧ True ∧ (((List.length ([] : List Int)) + (List.length c.up)) * 8 ≤ 140737488355328)) ∧ True ∧ True ∧ True ∧ ((True ∧ ((List.length ([] : List Int)) = (List.length ([] : List Int)))) ∧ True ∧ (((List.length ([] : List Int)) + (List.length c.down)) * 8 ≤ 140737488355328)) ∧ True ∧ True ∧ True ∧ True ∧ True ∧ True ∧ True ∧ True ∧ True ∧ ((True ∧ ((List.length ([] : List MarkD)) = (List.length ([] : List MarkD)))) ∧ True ∧ (((List.length ([] : List MarkD)) + (List.length c.marks)) * 32 ≤ 140737488355328)) ∧ (True ∧ True ∧ True ∧ True ∧ True ∧ True ∧ True) ∧ (True ∧ True) ∧ True) (by kernel_rfl) (by kernel_rfl)
  ⟨tt,tt,tt,⟨⟨tt,rfl⟩,tt,(by (try simp only [List.length_append,List.length_cons,List.length_nil,List.length_set]); omega)⟩,tt,tt,tt,⟨⟨tt,rfl⟩,tt,(by (try simp only [List.length_append,List.length_cons,List.length_nil,List.length_set]); omega)⟩,tt,tt,tt,tt,tt,tt,tt,tt,tt,⟨⟨tt,rfl⟩,tt,(by (try simp only [List.length_append,List.length_cons,List.length_nil,List.length_set]); omega)⟩,⟨tt,tt,tt,tt,tt,tt,tt⟩,⟨tt,tt⟩,tt⟩ ?_
 refine W.ret ?_
 exact endQ_rows [(0,6),(1,10),(2,20)] (.agg [.own 6 (List.length c.up),.own 10 (List.length c.down),.i c.value,.i c.time,.i c.proc,.own 20 (List.length c.marks)]) (by kernel_rfl) (@cast ((((6 : Nat) = 6) ∧ ((List.length c.up) = (List.length c.up)) ∧ ((0 : Nat) ∈ ([0,1,2] : List Nat))) ∧ (((10 : Nat) = 10) ∧ ((List.length c.down) = (List.length c.down)) ∧ ((1 : Nat) ∈ ([0,1,2] : List Nat))) ∧ (Si c.value) ∧ (Si c.time) ∧ (Si c.proc) ∧ (((20 : Nat) = 20) ∧ ((List.length c.marks) = (List.length c.marks)) ∧ ((2 : Nat) ∈ ([0,1,2] : List Nat))) ∧ True) _ (by kernel_rfl) ⟨⟨rfl,rfl,(by decide)⟩,⟨rfl,rfl,(by decide)⟩,rfl,rfl,rfl,⟨rfl,rfl,(by decide)⟩,tt⟩) (@cast ((((3 : Nat) = 3) ∧ (Sd (.ints c.up)) ∧ ((0 : Nat) ∈ ([0,1,2] : List Nat))) ∧ (((3 : Nat) = 3) ∧ (Sd (.ints c.down)) ∧ ((1 : Nat) ∈ ([0,1,2] : List Nat))) ∧ (((52 : Nat) = 52) ∧ (Sd (.marks c.marks)) ∧ ((2 : Nat) ∈ ([0,1,2] : List Nat))) ∧ True) _ (by kernel_rfl) ⟨⟨rfl,rfl,(by decide)⟩,⟨rfl,rfl,(by decide)⟩,⟨rfl,rfl,(by decide)⟩,tt⟩) (by kernel_rfl)
theorem ent46 : Entr prog 46 := ⟨_,func46,rfl,by decide⟩
end Go.Proofs.Try

set_option linter.unusedSimpArgs false
set_option linter.unusedVariables false
namespace Go.Proofs.Try
open Go.Ab Go.RowKit
def fs47 : FnS := fnS [.a [some .ints,some .ints,none,none,none,some .marks],.a [some .ints,some .ints,none,none,none,some .marks]] [.copy,.copy] (fun _ (a,b,_) => (.b (newerC a b),[],True))
abbrev T47 : Tab := lk []
theorem tab47 : TabOK prog T47 := TabOK.nil
set_option maxRecDepth 100000 in
set_option maxHeartbeats 1000000 in
theorem ok47 : FnOK prog 47 fs47 := by
 refine FnOK.mk cok func47 rfl rfl rfl ?_
 rintro fl ⟨(a : CopyD),(b : CopyD),_⟩ hpre F hnt0 _
 have hnt : F.nt = 30 := hnt0.trans ntmps47
 clear hpre
 refine W.to (⟨[(0,.agg (cC a)),(1,.agg (cC b))],[],[999]⟩) rfl ?_
 refine W.lenA 0 0 (cC a) (.ints a.up) (by kernel_rfl) (by kernel_rfl) ?_
 intro hl_a_up; replace hl_a_up : List.length a.up ≤ 9223372036854775807 := hl_a_up
 refine W.lenA 0 1 (cC a) (.ints a.down) (by kernel_rfl) (by kernel_rfl) ?_
 intro hl_a_down; replace hl_a_down : List.length a.down ≤ 9223372036854775807 := hl_a_down
 refine W.lenA 0 5 (cC a) (.marks a.marks) (by kernel_rfl) (by kernel_rfl) ?_
 intro hl_a_marks; replace hl_a_marks : List.length a.marks ≤ 9223372036854775807 := hl_a_marks
 refine W.lenA 1 0 (cC b) (.ints b.up) (by kernel_rfl) (by kernel_rfl) ?_
 intro hl_b_up; replace hl_b_up : List.length b.up ≤ 9223372036854775807 := hl_b_up
 refine W.lenA 1 1 (cC b) (.ints b.down) (by kernel_rfl) (by kernel_rfl) ?_
 intro hl_b_down; replace hl_b_down : List.length b.down ≤ 9223372036854775807 := hl_b_down
 refine W.lenA 1 5 (cC b) (.marks b.marks) (by kernel_rfl) (by kernel_rfl) ?_
 intro hl_b_marks; replace hl_b_marks : List.length b.marks ≤ 9223372036854775807 := hl_b_marks
 refine Kk cok tab47 hnt [] [2,3] (⟨[(2,.ptr 2 0),(3,.ptr 3 0)],[(2,⟨26,.fix (cC a)⟩),(3,⟨26,.fix (cC b)⟩)],[3,2,999]⟩)
  (True ∧ True ∧ True ∧ True)
  ⟨tt,tt,tt,tt⟩ ?_
 refine W.seq ?_
 refine Kk cok tab47 hnt [] [2,3,9] (⟨[(2,.ptr 2 0),(3,.ptr 3 0),(9,.b (decide (a.time ≠ b.time)))],[(2,⟨26,.fix (cC a)⟩),(3,⟨26,.fix (cC b)⟩)],[3,2,999]⟩)
  (True ∧ True ∧ True ∧ True ∧ (True ∧ True ∧ True) ∧ True)
  ⟨tt,tt,tt,tt,⟨tt,tt,tt⟩,tt⟩ ?_
 refine W.ifP (a.time ≠ b.time) (.b (decide (a.time ≠ b.time))) (by kernel_rfl) rfl trivial ?_ ?_
 ·intro h9
  refine Kk cok tab47 hnt [] [4] (⟨[(4,.b (decide (b.time < a.time)))],[(2,⟨26,.fix (cC a)⟩),(3,⟨26,.fix (cC b)⟩)],[3,2,999]⟩)
   (True ∧ True ∧ True ∧ True ∧ (True ∧ True ∧ True) ∧ True ∧ True)
   ⟨tt,tt,tt,tt,⟨tt,tt,tt⟩,tt,tt⟩ ?_
  refine W.ret (thenQ_ret ?_)
  exact endQ_ret (.b (decide (b.time < a.time))) (by kernel_rfl) (@cast ((.bool (decide (b.time < a.time)) : Value) = .bool (newerC a b)) _ (by kernel_rfl) (congrArg Value.bool (by unfold newerC; rw [decide_eq_true h9]; rfl)))
 ·intro n9
  refine W.skip (thenQ_normal ?_)
  refine W.seq ?_
  refine Kk cok tab47 hnt [] [2,3,19] (⟨[(2,.ptr 2 0),(3,.ptr 3 0),(19,.b (decide (a.proc ≠ b.proc)))],[(2,⟨26,.fix (cC a)⟩),(3,⟨26,.fix (cC b)⟩)],[3,2,999]⟩)
   (True ∧ True ∧ True ∧ True ∧ (True ∧ True ∧ True) ∧ True)
   ⟨tt,tt,tt,tt,⟨tt,tt,tt⟩,tt⟩ ?_
  refine W.ifP (a.proc ≠ b.proc) (.b (decide (a.proc ≠ b.proc))) (by kernel_rfl) rfl trivial ?_ ?_
  ·intro h19
   refine Kk cok tab47 hnt [] [4] (⟨[(4,.b (decide (b.proc < a.proc)))],[(2,⟨26,.fix (cC a)⟩),(3,⟨26,.fix (cC b)⟩)],[3,2,999]⟩)
    (True ∧ True ∧ True ∧ True ∧ (True ∧ True ∧ True) ∧ True ∧ True)
    ⟨tt,tt,tt,tt,⟨tt,tt,tt⟩,tt,tt⟩ ?_
   refine W.ret (thenQ_ret ?_)
   exact endQ_ret (.b (decide (b.proc < a.proc))) (by kernel_rfl) (@cast ((.bool (decide (b.proc < a.proc)) : Value) = .bool (newerC a b)) _ (by kernel_rfl) (congrArg Value.bool (by unfold newerC; rw [decide_eq_false n9,decide_eq_true h19]; rfl)))
  ·intro n19
   refine W.skip (thenQ_normal ?_)
   refine Kk cok tab47 hnt [] [4] (⟨[(4,.b (decide (b.value < a.value)))],[(2,⟨26,.fix (cC a)⟩),(3,⟨26,.fix (cC b)⟩)],[3,2,999]⟩)
    (True ∧ True ∧ True ∧ True ∧ (True ∧ True ∧ True) ∧ True ∧ True)
    ⟨tt,tt,tt,tt,⟨tt,tt,tt⟩,tt,tt⟩ ?_
   refine W.ret ?_
   exact endQ_ret (.b (decide (b.value < a.value))) (by kernel_rfl) (@cast ((.bool (decide (b.value < a.value)) : Value) = .bool (newerC a b)) _ (by kernel_rfl) (congrArg Value.bool (by unfold newerC; rw [decide_eq_false n9,decide_eq_false n19]; rfl)))
theorem ent47 : Entr prog 47 := ⟨_,func47,rfl,by decide⟩
end Go.Proofs.Try

set_option linter.unusedSimpArgs false
set_option linter.unusedVariables false
namespace Go.Proofs.Try
open Go.Ab Go.RowKit
def fs70 : FnS := fnS [.s .marks,.s .marks] [.marks,.marks] (fun _ (a,b,_) => (.tup [.sl (.marks ((uniteP a b).1)),.b ((uniteP a b).2)],[],(a.length ≤ 1000 ∧ b.length ≤ 1000)))
abbrev T70 : Tab := lk [(61,fs61)]
theorem tab70 : TabOK prog T70 := (TabOK.cons ok61 ent61 TabOK.nil)
set_option maxRecDepth 100000 in
set_option maxHeartbeats 1000000 in
theorem ok70 : FnOK prog 70 fs70 := by
 refine FnOK.mk cok func70 rfl rfl rfl ?_
 rintro fl ⟨(a : List MarkD),(b : List MarkD),_⟩ hpre F hnt0 _
 have hnt : F.nt = 112 := hnt0.trans ntmps70
 replace hpre : (a.length ≤ 1000 ∧ b.length ≤ 1000) := hpre
 have hs := hpre
 refine W.to (⟨[(0,.sl (.marks a)),(1,.sl (.marks b))],[],[999]⟩) rfl ?_
 refine W.lenOf 0 (.marks a) (by kernel_rfl) ?_
 intro hl_a; replace hl_a : List.length a ≤ 9223372036854775807 := hl_a
 refine W.lenOf 1 (.marks b) (by kernel_rfl) ?_
 intro hl_b; replace hl_b : List.length b ≤ 9223372036854775807 := hl_b
 refine Kk cok tab70 hnt [] [0,1] (⟨[(0,.sl (.marks a)),(1,.sl (.marks b))],[],[999]⟩)
  (True ∧ True ∧ True)
  ⟨tt,tt,tt⟩ ?_
 refine Kk cok tab70 hnt [10] [0,1,6] (⟨[(0,.sl (.marks a)),(1,.sl (.marks b)),(6,.own 10 (List.length ([] : List MarkD)))],[(10,⟨52,.row (.marks ([] : List MarkD))⟩)],[10,999]⟩)
  (True ∧ True ∧ True)
  ⟨tt,tt,tt⟩ ?_
 refine Kk cok tab70 hnt [] [0,1,6,7] (⟨[(0,.sl (.marks a)),(1,.sl (.marks b)),(6,.own 10 (List.length ([] : List MarkD))),(7,.i (0 : Int))],[(10,⟨52,.row (.marks ([] : List MarkD))⟩)],[10,999]⟩)
  (True ∧ True)
  ⟨tt,tt⟩ ?_
 refine Kk cok tab70 hnt [] [0,1,6,7,8] (⟨[(0,.sl (.marks a)),(1,.sl (.marks b)),(6,.own 10 (List.length ([] : List MarkD))),(7,.i (0 : Int)),(8,.i (0 : Int))],[(10,⟨52,.row (.marks ([] : List MarkD))⟩)],[10,999]⟩)
  (True ∧ True)
  ⟨tt,tt⟩ ?_
 refine W.seq ?_
 refine W.block ?_
 refine W.loop (ι := (List MarkD) × Nat × Nat) (fun (x : (List MarkD) × Nat × Nat) => match x with | (o,i,k) => (⟨[(0,.sl (.marks a)),(1,.sl (.marks b)),(6,.own 10 o.length),(7,.i ((i : Nat) : Int)),(8,.i ((k : Nat) : Int))],[(10,⟨52,.row (.marks o)⟩)],[10,999]⟩ : St))
  (fun (x : (List MarkD) × Nat × Nat) => match x with | (o,i,k) => (i ≤ a.length ∧ k ≤ b.length) ∧ (unUp a b i k o) ∧ (o.length ≤ i + k))
  (fun (x : (List MarkD) × Nat × Nat) => match x with | (o,i,k) => (a.length - i + (b.length - k) : Nat)) (([] : List MarkD),0,0) ?_ ?_ ?_
 ·exact (show (0 ≤ a.length ∧ 0 ≤ b.length) ∧ (unUp a b 0 0 ([] : List MarkD)) ∧ (([] : List MarkD).length ≤ 0 + 0) from ⟨(by first | assumption | omega | rfl | (intro _ hjj; omega) | (simp; done) | (simp; omega)),(by exact unUp_zero a b),(by exact Nat.le_refl _)⟩)
 ·exact Sub.of [] (@cast (((Sd (.marks a)) ∧ (Sd (.marks b)) ∧ (((10 : Nat) = 10) ∧ ((List.length ([] : List MarkD)) = (List.length ([] : List MarkD))) ∧ ((10 : Nat) ∈ ([10,999] : List Nat))) ∧ ((.int .i64 (0 : Int) : Value) = .int .i64 ((0 : Nat) : Int)) ∧ ((.int .i64 (0 : Int) : Value) = .int .i64 ((0 : Nat) : Int)) ∧ True) ∧ ((((52 : Nat) = 52) ∧ (Sd (.marks ([] : List MarkD))) ∧ ((10 : Nat) ∈ ([10,999] : List Nat))) ∧ True) ∧ (true = true) ∧ (true = true)) _ (by kernel_rfl) ⟨⟨rfl,rfl,⟨rfl,rfl,(by decide)⟩,(congrArg (Value.int .i64) (by first | rfl | omega | assumption | simp | simp_all)),(congrArg (Value.int .i64) (by first | rfl | omega | assumption | simp | simp_all)),tt⟩,⟨⟨rfl,rfl,(by decide)⟩,tt⟩,rfl,rfl⟩)
 ·rintro ⟨o,i,k⟩ hC0
  have hC : (i ≤ a.length ∧ k ≤ b.length) ∧ (unUp a b i k o) ∧ (o.length ≤ i + k) := hC0
  clear hC0
  obtain ⟨hik,hu,hol⟩ := hC
  refine W.to (⟨[(0,.sl (.marks a)),(1,.sl (.marks b)),(6,.own 10 o.length),(7,.i ((i : Nat) : Int)),(8,.i ((k : Nat) : Int))],[(10,⟨52,.row (.marks o)⟩)],[10,999]⟩) rfl ?_
  refine W.seq ?_
  refine Kk cok tab70 hnt [] [0,1,6,7,8,20] (⟨[(0,.sl (.marks a)),(1,.sl (.marks b)),(6,.own 10 o.length),(7,.i ((i : Nat) : Int)),(8,.i ((k : Nat) : Int)),(20,.b ((decide (((i : Nat) : Int) < (a.length : Int))) || (decide (((k : Nat) : Int) < (b.length : Int)))))],[(10,⟨52,.row (.marks o)⟩)],[10,999]⟩)
   ((fun (Z1:Bool)=>(True ∧ (True ∧ (True ∧ ((True ∧ (True ∧ True)) ∧ (True ∧ (((!Z1) = true → True) ∧ (((!Z1) = true → True) ∧ (((!Z1) = true → (((!Z1) = true) ∧ True)) ∧ (((!Z1) = true → ((((!Z1) = true) ∧ True) ∧ ((((!Z1) = true) ∧ True) ∧ True))) ∧ ((True ∧ ((Z1 = true → True) ∧ (Z1 = false → ((!Z1) = true) ∧ True))) ∧ True))))))))))) (decide (((i : Nat) : Int) < (a.length : Int))))
   ⟨tt,tt,tt,⟨tt,tt,tt⟩,tt,(fun _ => trivial),(fun _ => trivial),(fun hG => ⟨hG,tt⟩),(fun hG => ⟨⟨hG,tt⟩,⟨hG,tt⟩,tt⟩),⟨tt,(fun _ => trivial),(fun hp => ⟨(not_t hp),tt⟩)⟩,tt⟩ ?_
  refine W.if' ((decide (((i : Nat) : Int) < (a.length : Int))) || (decide (((k : Nat) : Int) < (b.length : Int)))) (.b ((decide (((i : Nat) : Int) < (a.length : Int))) || (decide (((k : Nat) : Int) < (b.length : Int))))) (by kernel_rfl) rfl trivial ?_ ?_
  ·intro h20
   refine W.skip (thenQ_normal ?_)
   refine W.block ?_
   refine W.KA cok tab70 hnt [] [0,1,6,7,8,41] (⟨[(0,.sl (.marks a)),(1,.sl (.marks b)),(6,.own 10 o.length),(7,.i ((i : Nat) : Int)),(8,.i ((k : Nat) : Int)),(41,.b ((decide (((k : Nat) : Int) = (b.length : Int))) || ((decide (((i : Nat) : Int) < (a.length : Int))) && (lessM (a.getD i default) (b.getD k default)))))],[(10,⟨52,.row (.marks o)⟩)],[10,999]⟩)
    ((fun (Z1:Bool)=>((fun (Z2:Bool)=>((fun (Z3:Bool)=>((fun (Z4:Bool)=>(True ∧ (True ∧ (True ∧ ((True ∧ (True ∧ True)) ∧ (True ∧ ((Z3 = true → True) ∧ ((Z3 = true → True) ∧ ((Z3 = true → ((Z3 = true) ∧ True)) ∧ ((Z3 = true → (((Z3 = true) ∧ True) ∧ (((Z3 = true) ∧ True) ∧ True))) ∧ ((Z3 = true → True) ∧ ((Z4 = true → True) ∧ ((Z4 = true → True) ∧ ((Z4 = true → (((Z4 = true) ∧ True) ∧ (((Z4 = true) ∧ True) ∧ ((0 ≤ ((i : Nat) : Int)) ∧ (((i : Nat) : Int) < (a.length : Int)))))) ∧ ((Z4 = true → ((Z4 = true) ∧ True)) ∧ ((Z4 = true → True) ∧ ((Z4 = true → True) ∧ ((Z4 = true → (((Z4 = true) ∧ True) ∧ (((Z4 = true) ∧ True) ∧ ((0 ≤ ((k : Nat) : Int)) ∧ (((k : Nat) : Int) < (b.length : Int)))))) ∧ ((Z4 = true → ((Z4 = true) ∧ True)) ∧ ((Z4 = true → (True ∧ ((((Z4 = true) ∧ True) ∧ (((Z4 = true) ∧ True) ∧ True)) ∧ True))) ∧ ((Z3 = true → (((Z3 = true) ∧ ((Z3 = true) ∧ True)) ∧ ((Z1 = true → (Z4 = true) ∧ True) ∧ (Z1 = false → True)))) ∧ ((True ∧ ((Z2 = true → True) ∧ (Z2 = false → (Z3 = true) ∧ True))) ∧ True)))))))))))))))))))))) (Z3 && (Z3 && Z1)))) (!Z2))) (decide (((k : Nat) : Int) = (b.length : Int))))) (decide (((i : Nat) : Int) < (a.length : Int)))) (by kernel_rfl) (by kernel_rfl)
    ⟨tt,tt,tt,⟨tt,tt,tt⟩,tt,(fun _ => trivial),(fun _ => trivial),(fun hG => ⟨hG,tt⟩),(fun hG => ⟨⟨hG,tt⟩,⟨hG,tt⟩,tt⟩),(fun _ => trivial),(fun _ => trivial),(fun _ => trivial),(fun hG => ⟨⟨hG,tt⟩,⟨hG,tt⟩,(by have hg0 : ¬ (((k : Nat) : Int) = (b.length : Int)) := of_decide_eq_false (not_f (and_l hG)); have hg1 : ¬ (((k : Nat) : Int) = (b.length : Int)) := of_decide_eq_false (not_f (and_l (and_r hG))); have hg2 : ((i : Nat) : Int) < (a.length : Int) := of_decide_eq_true (and_r (and_r hG)); omega),(by have hg0 : ¬ (((k : Nat) : Int) = (b.length : Int)) := of_decide_eq_false (not_f (and_l hG)); have hg1 : ¬ (((k : Nat) : Int) = (b.length : Int)) := of_decide_eq_false (not_f (and_l (and_r hG))); have hg2 : ((i : Nat) : Int) < (a.length : Int) := of_decide_eq_true (and_r (and_r hG)); omega)⟩),(fun hG => ⟨hG,tt⟩),(fun _ => trivial),(fun _ => trivial),(fun hG => ⟨⟨hG,tt⟩,⟨hG,tt⟩,(by have hg0 : ¬ (((k : Nat) : Int) = (b.length : Int)) := of_decide_eq_false (not_f (and_l hG)); have hg1 : ¬ (((k : Nat) : Int) = (b.length : Int)) := of_decide_eq_false (not_f (and_l (and_r hG))); have hg2 : ((i : Nat) : Int) < (a.length : Int) := of_decide_eq_true (and_r (and_r hG)); omega),(by have hg0 : ¬ (((k : Nat) : Int) = (b.length : Int)) := of_decide_eq_false (not_f (and_l hG)); have hg1 : ¬ (((k : Nat) : Int) = (b.length : Int)) := of_decide_eq_false (not_f (and_l (and_r hG))); have hg2 : ((i : Nat) : Int) < (a.length : Int) := of_decide_eq_true (and_r (and_r hG)); omega)⟩),(fun hG => ⟨hG,tt⟩),(fun hG => ⟨tt,⟨⟨hG,tt⟩,⟨hG,tt⟩,tt⟩,tt⟩),(fun hG => ⟨⟨hG,hG,tt⟩,(fun hp => ⟨(and_t hG (and_t hG hp)),tt⟩),(fun _ => trivial)⟩),⟨tt,(fun _ => trivial),(fun hp => ⟨(not_t hp),tt⟩)⟩,tt⟩ ?_
   refine W.if' ((decide (((k : Nat) : Int) = (b.length : Int))) || ((decide (((i : Nat) : Int) < (a.length : Int))) && (lessM (a.getD i default) (b.getD k default)))) (.b ((decide (((k : Nat) : Int) = (b.length : Int))) || ((decide (((i : Nat) : Int) < (a.length : Int))) && (lessM (a.getD i default) (b.getD k default))))) (by kernel_rfl) rfl trivial ?_ ?_
   ·intro h41
    have hai := (un_a hu (by simp at h20; omega) hik h41).2
    refine Kk cok tab70 hnt [48] [0,1,6,7,8] (⟨[(0,.sl (.marks a)),(1,.sl (.marks b)),(6,.own 48 (List.length (o ++ ([(a.getD i default)])))),(7,.i ((i : Nat) : Int)),(8,.i ((k : Nat) : Int))],[(48,⟨52,.row (.marks (o ++ ([(a.getD i default)])))⟩)],[48,47,10,999]⟩)
     (True ∧ True ∧ True ∧ (True ∧ True ∧ (0 ≤ ((i : Nat) : Int)) ∧ (((i : Nat) : Int) < (a.length : Int))) ∧ True ∧ (True ∧ True) ∧ ((True ∧ (o.length = o.length)) ∧ True ∧ ((o.length + (List.length ([(a.getD i default)]))) * 32 ≤ 140737488355328)) ∧ True ∧ True)
     ⟨tt,tt,tt,⟨tt,tt,(by omega),(by omega)⟩,tt,⟨tt,tt⟩,⟨⟨tt,rfl⟩,tt,(by (try simp only [List.length_append,List.length_cons,List.length_nil,List.length_set]); omega)⟩,tt,tt⟩ ?_
    refine Lk cok tab70 hnt [] (⟨[(0,.sl (.marks a)),(1,.sl (.marks b)),(6,.own 48 (List.length (o ++ ([(a.getD i default)])))),(7,.i (((i + 1) : Nat) : Int)),(8,.i ((k : Nat) : Int)),(49,.i ((i : Nat) : Int)),(50,.i (((i + 1) : Nat) : Int))],[(48,⟨52,.row (.marks (o ++ ([(a.getD i default)])))⟩)],[48,47,10,999]⟩)
     (True ∧ (True ∧ True ∧ (Fits .i64 (((i + 1) : Nat) : Int))) ∧ True ∧ True)
     ⟨tt,⟨tt,tt,(by exact fits_i64 (by omega) (by omega))⟩,tt,tt⟩ ?_
    refine blockQ_normal (thenQ_normal ?_)
    refine ⟨((o ++ ([(a.getD i default)])),(i + 1),k),(show ((i + 1) ≤ a.length ∧ k ≤ b.length) ∧ (unUp a b (i + 1) k (o ++ ([(a.getD i default)]))) ∧ ((o ++ ([(a.getD i default)])).length ≤ (i + 1) + k) from ⟨(by first | (have := (un_a hu (by simp at h20; omega) hik h41).2; omega) | (have := (un_b hu hik n41 h65).2; omega) | omega),(by first | exact (un_a hu (by simp at h20; omega) hik h41).1 | exact (un_b hu hik n41 h65).1 | exact un_c hu hbb n85),(by simp; omega)⟩),(show a.length - (i + 1) + (b.length - k) < a.length - i + (b.length - k) from (by first | (have := (un_a hu (by simp at h20; omega) hik h41).2; omega) | (have := (un_b hu hik n41 h65).2; omega) | omega)),?_⟩
    exact Sub.of [(10,48)] (@cast (((Sd (.marks a)) ∧ (Sd (.marks b)) ∧ (((48 : Nat) = 48) ∧ ((List.length (o ++ ([(a.getD i default)]))) = (List.length (o ++ ([(a.getD i default)])))) ∧ ((10 : Nat) ∈ ([10,999] : List Nat))) ∧ (Si (((i + 1) : Nat) : Int)) ∧ (Si ((k : Nat) : Int)) ∧ True) ∧ ((((52 : Nat) = 52) ∧ (Sd (.marks (o ++ ([(a.getD i default)])))) ∧ ((10 : Nat) ∈ ([10,999] : List Nat))) ∧ True) ∧ (true = true) ∧ (true = true)) _ (by kernel_rfl) ⟨⟨rfl,rfl,⟨rfl,rfl,(by decide)⟩,rfl,rfl,tt⟩,⟨⟨rfl,rfl,(by decide)⟩,tt⟩,rfl,rfl⟩)
   ·intro n41
    have n41_0 : ¬ (((k : Nat) : Int) = (b.length : Int)) := of_decide_eq_false (or_l n41)
    refine W.KA cok tab70 hnt [] [0,1,6,7,8,65] (⟨[(0,.sl (.marks a)),(1,.sl (.marks b)),(6,.own 10 o.length),(7,.i ((i : Nat) : Int)),(8,.i ((k : Nat) : Int)),(65,.b ((decide (((i : Nat) : Int) = (a.length : Int))) || (lessM (b.getD k default) (a.getD i default))))],[(10,⟨52,.row (.marks o)⟩)],[10,999]⟩)
     ((fun (Z1:Bool)=>(True ∧ (True ∧ (True ∧ ((True ∧ (True ∧ True)) ∧ (True ∧ (((!Z1) = true → True) ∧ (((!Z1) = true → True) ∧ (((!Z1) = true → ((((!Z1) = true) ∧ True) ∧ ((((!Z1) = true) ∧ True) ∧ ((0 ≤ ((k : Nat) : Int)) ∧ (((k : Nat) : Int) < (b.length : Int)))))) ∧ (((!Z1) = true → (((!Z1) = true) ∧ True)) ∧ (((!Z1) = true → True) ∧ (((!Z1) = true → True) ∧ (((!Z1) = true → ((((!Z1) = true) ∧ True) ∧ ((((!Z1) = true) ∧ True) ∧ ((0 ≤ ((i : Nat) : Int)) ∧ (((i : Nat) : Int) < (a.length : Int)))))) ∧ (((!Z1) = true → (((!Z1) = true) ∧ True)) ∧ (((!Z1) = true → (True ∧ (((((!Z1) = true) ∧ True) ∧ ((((!Z1) = true) ∧ True) ∧ True)) ∧ True))) ∧ ((True ∧ ((Z1 = true → True) ∧ (Z1 = false → ((!Z1) = true) ∧ True))) ∧ True)))))))))))))))) (decide (((i : Nat) : Int) = (a.length : Int)))) (by kernel_rfl) (by kernel_rfl)
     ⟨tt,tt,tt,⟨tt,tt,tt⟩,tt,(fun _ => trivial),(fun _ => trivial),(fun hG => ⟨⟨hG,tt⟩,⟨hG,tt⟩,(by have hg0 : ¬ (((i : Nat) : Int) = (a.length : Int)) := of_decide_eq_false (not_f hG); omega),(by have hg0 : ¬ (((i : Nat) : Int) = (a.length : Int)) := of_decide_eq_false (not_f hG); omega)⟩),(fun hG => ⟨hG,tt⟩),(fun _ => trivial),(fun _ => trivial),(fun hG => ⟨⟨hG,tt⟩,⟨hG,tt⟩,(by have hg0 : ¬ (((i : Nat) : Int) = (a.length : Int)) := of_decide_eq_false (not_f hG); omega),(by have hg0 : ¬ (((i : Nat) : Int) = (a.length : Int)) := of_decide_eq_false (not_f hG); omega)⟩),(fun hG => ⟨hG,tt⟩),(fun hG => ⟨tt,⟨⟨hG,tt⟩,⟨hG,tt⟩,tt⟩,tt⟩),⟨tt,(fun _ => trivial),(fun hp => ⟨(not_t hp),tt⟩)⟩,tt⟩ ?_
    refine W.if' ((decide (((i : Nat) : Int) = (a.length : Int))) || (lessM (b.getD k default) (a.getD i default))) (.b ((decide (((i : Nat) : Int) = (a.length : Int))) || (lessM (b.getD k default) (a.getD i default)))) (by kernel_rfl) rfl trivial ?_ ?_
    ·intro h65
     have hbi := (un_b hu hik n41 h65).2
     refine Kk cok tab70 hnt [72] [0,1,6,7,8] (⟨[(0,.sl (.marks a)),(1,.sl (.marks b)),(6,.own 72 (List.length (o ++ ([(b.getD k default)])))),(7,.i ((i : Nat) : Int)),(8,.i ((k : Nat) : Int))],[(72,⟨52,.row (.marks (o ++ ([(b.getD k default)])))⟩)],[72,71,10,999]⟩)
      (True ∧ True ∧ True ∧ (True ∧ True ∧ (0 ≤ ((k : Nat) : Int)) ∧ (((k : Nat) : Int) < (b.length : Int))) ∧ True ∧ (True ∧ True) ∧ ((True ∧ (o.length = o.length)) ∧ True ∧ ((o.length + (List.length ([(b.getD k default)]))) * 32 ≤ 140737488355328)) ∧ True ∧ True)
      ⟨tt,tt,tt,⟨tt,tt,(by omega),(by omega)⟩,tt,⟨tt,tt⟩,⟨⟨tt,rfl⟩,tt,(by (try simp only [List.length_append,List.length_cons,List.length_nil,List.length_set]); omega)⟩,tt,tt⟩ ?_
     refine Lk cok tab70 hnt [] (⟨[(0,.sl (.marks a)),(1,.sl (.marks b)),(6,.own 72 (List.length (o ++ ([(b.getD k default)])))),(7,.i ((i : Nat) : Int)),(8,.i (((k + 1) : Nat) : Int)),(73,.i ((k : Nat) : Int)),(74,.i (((k + 1) : Nat) : Int))],[(72,⟨52,.row (.marks (o ++ ([(b.getD k default)])))⟩)],[72,71,10,999]⟩)
      (True ∧ (True ∧ True ∧ (Fits .i64 (((k + 1) : Nat) : Int))) ∧ True ∧ True)
      ⟨tt,⟨tt,tt,(by exact fits_i64 (by omega) (by omega))⟩,tt,tt⟩ ?_
     refine blockQ_normal (thenQ_normal ?_)
     refine ⟨((o ++ ([(b.getD k default)])),i,(k + 1)),(show (i ≤ a.length ∧ (k + 1) ≤ b.length) ∧ (unUp a b i (k + 1) (o ++ ([(b.getD k default)]))) ∧ ((o ++ ([(b.getD k default)])).length ≤ i + (k + 1)) from ⟨(by first | (have := (un_a hu (by simp at h20; omega) hik h41).2; omega) | (have := (un_b hu hik n41 h65).2; omega) | omega),(by first | exact (un_a hu (by simp at h20; omega) hik h41).1 | exact (un_b hu hik n41 h65).1 | exact un_c hu hbb n85),(by simp; omega)⟩),(show a.length - i + (b.length - (k + 1)) < a.length - i + (b.length - k) from (by first | (have := (un_a hu (by simp at h20; omega) hik h41).2; omega) | (have := (un_b hu hik n41 h65).2; omega) | omega)),?_⟩
     exact Sub.of [(10,72)] (@cast (((Sd (.marks a)) ∧ (Sd (.marks b)) ∧ (((72 : Nat) = 72) ∧ ((List.length (o ++ ([(b.getD k default)]))) = (List.length (o ++ ([(b.getD k default)])))) ∧ ((10 : Nat) ∈ ([10,999] : List Nat))) ∧ (Si ((i : Nat) : Int)) ∧ (Si (((k + 1) : Nat) : Int)) ∧ True) ∧ ((((52 : Nat) = 52) ∧ (Sd (.marks (o ++ ([(b.getD k default)])))) ∧ ((10 : Nat) ∈ ([10,999] : List Nat))) ∧ True) ∧ (true = true) ∧ (true = true)) _ (by kernel_rfl) ⟨⟨rfl,rfl,⟨rfl,rfl,(by decide)⟩,rfl,rfl,tt⟩,⟨⟨rfl,rfl,(by decide)⟩,tt⟩,rfl,rfl⟩)
    ·intro n65
     have n65_0 : ¬ (((i : Nat) : Int) = (a.length : Int)) := of_decide_eq_false (or_l n65)
     have hbb := un_both hik n41 n65
     refine W.seq ?_
     refine W.KA cok tab70 hnt [] [0,1,6,7,8,85] (⟨[(0,.sl (.marks a)),(1,.sl (.marks b)),(6,.own 10 o.length),(7,.i ((i : Nat) : Int)),(8,.i ((k : Nat) : Int)),(85,.b (decide (((a.getD i default).value) ≠ ((b.getD k default).value))))],[(10,⟨52,.row (.marks o)⟩)],[10,999]⟩)
      (True ∧ True ∧ (True ∧ True ∧ (0 ≤ ((i : Nat) : Int)) ∧ (((i : Nat) : Int) < (a.length : Int))) ∧ True ∧ True ∧ True ∧ True ∧ (True ∧ True ∧ (0 ≤ ((k : Nat) : Int)) ∧ (((k : Nat) : Int) < (b.length : Int))) ∧ True ∧ True ∧ (True ∧ True ∧ True) ∧ True) (by kernel_rfl) (by kernel_rfl)
      ⟨tt,tt,⟨tt,tt,(by omega),(by omega)⟩,tt,tt,tt,tt,⟨tt,tt,(by omega),(by omega)⟩,tt,tt,⟨tt,tt,tt⟩,tt⟩ ?_
     refine W.ifP (((a.getD i default).value) ≠ ((b.getD k default).value)) (.b (decide (((a.getD i default).value) ≠ ((b.getD k default).value)))) (by kernel_rfl) rfl trivial ?_ ?_
     ·intro h85
      refine Kk cok tab70 hnt [] [4,5] (⟨[(4,.v (.slice none 0 0)),(5,.b false)],[(10,⟨52,.row (.marks o)⟩)],[10,999]⟩)
       (True ∧ True ∧ True)
       ⟨tt,tt,tt⟩ ?_
      refine W.ret (thenQ_ret (blockQ_ret (thenQ_ret (blockQ_ret (thenQ_ret ?_)))))
      exact endQ_ret (.tup [.v (.slice none 0 0),.b false]) (by kernel_rfl) (@cast ((((Value.slice none 0 0 : Value) = .slice none 0 0) ∧ ((Dat.marks ((uniteP a b).1)).len = 0)) ∧ ((.bool false : Value) = .bool ((uniteP a b).2)) ∧ True) _ (by kernel_rfl) ⟨⟨rfl,(by show List.length ((uniteP a b).1) = 0; rw [un_no hu hbb h85]; try rfl)⟩,(congrArg Value.bool (by rw [un_no hu hbb h85]; try rfl)),tt⟩)
     ·intro n85
      refine W.skip (thenQ_normal ?_)
      refine Kk cok tab70 hnt [] [0,1,6,7,8,9] (⟨[(0,.sl (.marks a)),(1,.sl (.marks b)),(6,.own 10 o.length),(7,.i ((i : Nat) : Int)),(8,.i ((k : Nat) : Int)),(9,.ptr 9 0)],[(9,⟨52,.fix [.i ((a.getD i default).value),.i ((a.getD i default).proc),.i ((a.getD i default).number),.b ((a.getD i default).gone)]⟩),(10,⟨52,.row (.marks o)⟩)],[9,10,999]⟩)
       (True ∧ True ∧ (True ∧ True ∧ (0 ≤ ((i : Nat) : Int)) ∧ (((i : Nat) : Int) < (a.length : Int))) ∧ True ∧ True ∧ (True ∧ True) ∧ True)
       ⟨tt,tt,⟨tt,tt,(by omega),(by omega)⟩,tt,tt,⟨tt,tt⟩,tt⟩ ?_
      refine Kk cok tab70 hnt [] [0,1,6,7,8,9] (⟨[(0,.sl (.marks a)),(1,.sl (.marks b)),(6,.own 10 o.length),(7,.i ((i : Nat) : Int)),(8,.i ((k : Nat) : Int)),(9,.ptr 9 0)],[(9,⟨52,.fix [.i ((a.getD i default).value),.i ((a.getD i default).proc),.i ((a.getD i default).number),.b (((a.getD i default).gone) || ((b.getD k default).gone))]⟩),(10,⟨52,.row (.marks o)⟩)],[9,10,999]⟩)
       ((fun (Z1:Bool)=>(True ∧ (True ∧ ((True ∧ (True ∧ ((0 ≤ ((i : Nat) : Int)) ∧ (((i : Nat) : Int) < (a.length : Int))))) ∧ (True ∧ (True ∧ (True ∧ (((!Z1) = true → True) ∧ (((!Z1) = true → True) ∧ (((!Z1) = true → ((((!Z1) = true) ∧ True) ∧ ((((!Z1) = true) ∧ True) ∧ ((0 ≤ ((k : Nat) : Int)) ∧ (((k : Nat) : Int) < (b.length : Int)))))) ∧ (((!Z1) = true → (((!Z1) = true) ∧ True)) ∧ (((!Z1) = true → (((!Z1) = true) ∧ True)) ∧ ((True ∧ ((Z1 = true → True) ∧ (Z1 = false → ((!Z1) = true) ∧ True))) ∧ (True ∧ ((True ∧ True) ∧ True))))))))))))))) ((a.getD i default).gone))
       ⟨tt,tt,⟨tt,tt,(by omega),(by omega)⟩,tt,tt,tt,(fun _ => trivial),(fun _ => trivial),(fun hG => ⟨⟨hG,tt⟩,⟨hG,tt⟩,(by omega),(by omega)⟩),(fun hG => ⟨hG,tt⟩),(fun hG => ⟨hG,tt⟩),⟨tt,(fun _ => trivial),(fun hp => ⟨(not_t hp),tt⟩)⟩,tt,⟨tt,tt⟩,tt⟩ ?_
      refine Kk cok tab70 hnt [106] [0,1,6,7,8] ((fun (Z1:Bool)=>(⟨[(0,.sl (.marks a)),(1,.sl (.marks b)),(6,.own 106 (List.length (o ++ ([(⟨((a.getD i default).value),((a.getD i default).proc),((a.getD i default).number),Z1⟩ : MarkD)])))),(7,.i ((i : Nat) : Int)),(8,.i ((k : Nat) : Int))],[(9,⟨52,.fix [.i ((a.getD i default).value),.i ((a.getD i default).proc),.i ((a.getD i default).number),.b Z1]⟩),(106,⟨52,.row (.marks (o ++ ([(⟨((a.getD i default).value),((a.getD i default).proc),((a.getD i default).number),Z1⟩ : MarkD)])))⟩)],[106,105,9,10,999]⟩:St)) (((a.getD i default).gone) || ((b.getD k default).gone)))
       (True ∧ True ∧ (True ∧ True) ∧ ((True ∧ (o.length = o.length)) ∧ True ∧ ((o.length + (List.length ([(⟨((a.getD i default).value),((a.getD i default).proc),((a.getD i default).number),(((a.getD i default).gone) || ((b.getD k default).gone))⟩ : MarkD)]))) * 32 ≤ 140737488355328)) ∧ True ∧ True)
       ⟨tt,tt,⟨tt,tt⟩,⟨⟨tt,rfl⟩,tt,(by (try simp only [List.length_append,List.length_cons,List.length_nil,List.length_set]); omega)⟩,tt,tt⟩ ?_
      refine Kk cok tab70 hnt [] [0,1,6,7,8] ((fun (Z1:Bool)=>(⟨[(0,.sl (.marks a)),(1,.sl (.marks b)),(6,.own 106 (List.length (o ++ ([(⟨((a.getD i default).value),((a.getD i default).proc),((a.getD i default).number),Z1⟩ : MarkD)])))),(7,.i (((i + 1) : Nat) : Int)),(8,.i ((k : Nat) : Int))],[(9,⟨52,.fix [.i ((a.getD i default).value),.i ((a.getD i default).proc),.i ((a.getD i default).number),.b Z1]⟩),(106,⟨52,.row (.marks (o ++ ([(⟨((a.getD i default).value),((a.getD i default).proc),((a.getD i default).number),Z1⟩ : MarkD)])))⟩)],[106,105,9,10,999]⟩:St)) (((a.getD i default).gone) || ((b.getD k default).gone)))
       (True ∧ (True ∧ True ∧ (Fits .i64 (((i + 1) : Nat) : Int))) ∧ True ∧ True)
       ⟨tt,⟨tt,tt,(by exact fits_i64 (by omega) (by omega))⟩,tt,tt⟩ ?_
      refine Lk cok tab70 hnt [] ((fun (Z1:Bool)=>(⟨[(0,.sl (.marks a)),(1,.sl (.marks b)),(6,.own 106 (List.length (o ++ ([(⟨((a.getD i default).value),((a.getD i default).proc),((a.getD i default).number),Z1⟩ : MarkD)])))),(7,.i (((i + 1) : Nat) : Int)),(8,.i (((k + 1) : Nat) : Int)),(109,.i ((k : Nat) : Int)),(110,.i (((k + 1) : Nat) : Int))],[(9,⟨52,.fix [.i ((a.getD i default).value),.i ((a.getD i default).proc),.i ((a.getD i default).number),.b Z1]⟩),(106,⟨52,.row (.marks (o ++ ([(⟨((a.getD i default).value),((a.getD i default).proc),((a.getD i default).number),Z1⟩ : MarkD)])))⟩)],[106,105,9,10,999]⟩:St)) (((a.getD i default).gone) || ((b.getD k default).gone)))
       (True ∧ (True ∧ True ∧ (Fits .i64 (((k + 1) : Nat) : Int))) ∧ True ∧ True)
       ⟨tt,⟨tt,tt,(by exact fits_i64 (by omega) (by omega))⟩,tt,tt⟩ ?_
      refine blockQ_normal (thenQ_normal ?_)
      refine ⟨((o ++ ([(⟨((a.getD i default).value),((a.getD i default).proc),((a.getD i default).number),(((a.getD i default).gone) || ((b.getD k default).gone))⟩ : MarkD)])),(i + 1),(k + 1)),(show ((i + 1) ≤ a.length ∧ (k + 1) ≤ b.length) ∧ (unUp a b (i + 1) (k + 1) (o ++ ([(⟨((a.getD i default).value),((a.getD i default).proc),((a.getD i default).number),(((a.getD i default).gone) || ((b.getD k default).gone))⟩ : MarkD)]))) ∧ ((o ++ ([(⟨((a.getD i default).value),((a.getD i default).proc),((a.getD i default).number),(((a.getD i default).gone) || ((b.getD k default).gone))⟩ : MarkD)])).length ≤ (i + 1) + (k + 1)) from ⟨(by first | (have := (un_a hu (by simp at h20; omega) hik h41).2; omega) | (have := (un_b hu hik n41 h65).2; omega) | omega),(by first | exact (un_a hu (by simp at h20; omega) hik h41).1 | exact (un_b hu hik n41 h65).1 | exact un_c hu hbb n85),(by simp; omega)⟩),(show a.length - (i + 1) + (b.length - (k + 1)) < a.length - i + (b.length - k) from (by first | (have := (un_a hu (by simp at h20; omega) hik h41).2; omega) | (have := (un_b hu hik n41 h65).2; omega) | omega)),?_⟩
      exact Sub.of [(10,106)] (@cast (((Sd (.marks a)) ∧ (Sd (.marks b)) ∧ (((106 : Nat) = 106) ∧ ((List.length (o ++ ([(⟨((a.getD i default).value),((a.getD i default).proc),((a.getD i default).number),(((a.getD i default).gone) || ((b.getD k default).gone))⟩ : MarkD)]))) = (List.length (o ++ ([(⟨((a.getD i default).value),((a.getD i default).proc),((a.getD i default).number),(((a.getD i default).gone) || ((b.getD k default).gone))⟩ : MarkD)])))) ∧ ((10 : Nat) ∈ ([10,999] : List Nat))) ∧ (Si (((i + 1) : Nat) : Int)) ∧ (Si (((k + 1) : Nat) : Int)) ∧ True) ∧ ((((52 : Nat) = 52) ∧ (Sd (.marks (o ++ ([(⟨((a.getD i default).value),((a.getD i default).proc),((a.getD i default).number),(((a.getD i default).gone) || ((b.getD k default).gone))⟩ : MarkD)])))) ∧ ((10 : Nat) ∈ ([10,999] : List Nat))) ∧ True) ∧ (true = true) ∧ (true = true)) _ (by kernel_rfl) ⟨⟨rfl,rfl,⟨rfl,rfl,(by decide)⟩,rfl,rfl,tt⟩,⟨⟨rfl,rfl,(by decide)⟩,tt⟩,rfl,rfl⟩)
  ·intro n20
   have n20_0 : ¬ (((i : Nat) : Int) < (a.length : Int)) := of_decide_eq_false (or_l n20)
   have n20_1 : ¬ (((k : Nat) : Int) < (b.length : Int)) := of_decide_eq_false (or_r n20)
   refine W.exit (thenQ_exit (thenQ_exit (blockQ_hit ?_)))
   refine thenQ_normal ?_
   refine Kk cok tab70 hnt [] [4,5] (⟨[(4,.own 10 o.length),(5,.b true)],[(10,⟨52,.row (.marks o)⟩)],[10,999]⟩)
    (True ∧ True ∧ True ∧ True)
    ⟨tt,tt,tt,tt⟩ ?_
   refine W.ret ?_
   exact endQ_ret (.tup [.own 10 o.length,.b true]) (by kernel_rfl) (@cast (((o.length = o.length) ∧ ((.marks o : Dat) = .marks ((uniteP a b).1)) ∧ ((10 : Nat) ∉ ([] : List Nat))) ∧ ((.bool true : Value) = .bool ((uniteP a b).2)) ∧ True) _ (by kernel_rfl) ⟨⟨rfl,(congrArg Dat.marks (by rw [un_end hu n20]; try rfl)),(by decide)⟩,(congrArg Value.bool (by rw [un_end hu n20]; try rfl)),tt⟩)
theorem ent70 : Entr prog 70 := ⟨_,func70,rfl,by decide⟩
end Go.Proofs.Try
