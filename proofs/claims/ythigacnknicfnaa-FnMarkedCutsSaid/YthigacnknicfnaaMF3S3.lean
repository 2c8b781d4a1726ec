import Derived.Test.YthigacnknicfnaaMF3S0
import Derived.Test.YthigacnknicfnaaMF3S2
set_option linter.unusedSimpArgs false
set_option linter.unusedVariables false
namespace Go.Proofs.Try
open Go.Ab Go.RowKit
def fs43 : FnS := fnS [.s .events] [.events] (fun _ (h,_) => (.sl (.ints (pastL h h.length)),[],(h.length ≤ 60)))
abbrev T43 : Tab := lk [(19,fs19)]
theorem tab43 : TabOK prog T43 := (TabOK.cons ok19 ent19 TabOK.nil)
set_option maxRecDepth 100000 in
set_option maxHeartbeats 1000000 in
theorem ok43 : FnOK prog 43 fs43 := by
 refine FnOK.mk cok func43 rfl rfl rfl ?_
 rintro fl ⟨(h : List EventD),_⟩ hpre F hnt0 _
 have hnt : F.nt = 72 := hnt0.trans ntmps43
 replace hpre : (h.length ≤ 60) := hpre
 have hn := hpre
 refine W.to (⟨[(0,.sl (.events h))],[],[999]⟩) rfl ?_
 refine W.lenOf 0 (.events h) (by kernel_rfl) ?_
 intro hl_h; replace hl_h : List.length h ≤ 9223372036854775807 := hl_h
 refine Kk cok tab43 hnt [] [0] (⟨[(0,.sl (.events h))],[],[999]⟩)
  (True ∧ True)
  ⟨tt,tt⟩ ?_
 refine Kk cok tab43 hnt [7] [0,3] (⟨[(0,.sl (.events h)),(3,.own 7 (List.length ([] : List Int)))],[(7,⟨3,.row (.ints ([] : List Int))⟩)],[7,999]⟩)
  (True ∧ True ∧ True)
  ⟨tt,tt,tt⟩ ?_
 refine W.seq ?_
 refine Kk cok tab43 hnt [] [0,3,4] (⟨[(0,.sl (.events h)),(3,.own 7 (List.length ([] : List Int))),(4,.i (0 : Int))],[(7,⟨3,.row (.ints ([] : List Int))⟩)],[7,999]⟩)
  (True ∧ True)
  ⟨tt,tt⟩ ?_
 refine W.block ?_
 refine W.loop (ι := Nat × (List Int)) (fun (x : Nat × (List Int)) => match x with | (i,o) => (⟨[(0,.sl (.events h)),(3,.own 7 o.length),(4,.i ((i : Nat) : Int))],[(7,⟨3,.row (.ints o)⟩)],[7,999]⟩ : St))
  (fun (x : Nat × (List Int)) => match x with | (i,o) => (i ≤ h.length) ∧ (o = pastL h i))
  (fun (x : Nat × (List Int)) => match x with | (i,o) => (h.length - i : Nat)) (0,([] : List Int)) ?_ ?_ ?_
 ·exact (show (0 ≤ h.length) ∧ (([] : List Int) = pastL h 0) from ⟨(by first | assumption | omega | rfl | (intro _ hjj; omega) | (simp; done) | (simp; omega)),(by rfl)⟩)
 ·exact Sub.of [] (@cast (((Sd (.events h)) ∧ (((7 : Nat) = 7) ∧ ((List.length ([] : List Int)) = (List.length ([] : List Int))) ∧ ((7 : Nat) ∈ ([7,999] : List Nat))) ∧ ((.int .i64 (0 : Int) : Value) = .int .i64 ((0 : Nat) : Int)) ∧ True) ∧ ((((3 : Nat) = 3) ∧ (Sd (.ints ([] : List Int))) ∧ ((7 : Nat) ∈ ([7,999] : List Nat))) ∧ True) ∧ (true = true) ∧ (true = true)) _ (by kernel_rfl) ⟨⟨rfl,⟨rfl,rfl,(by decide)⟩,(congrArg (Value.int .i64) (by first | rfl | omega | assumption | simp | simp_all)),tt⟩,⟨⟨rfl,rfl,(by decide)⟩,tt⟩,rfl,rfl⟩)
 ·rintro ⟨i,o⟩ hC0
  have hC : (i ≤ h.length) ∧ (o = pastL h i) := hC0
  clear hC0
  obtain ⟨hi,ho⟩ := hC
  refine W.to (⟨[(0,.sl (.events h)),(3,.own 7 o.length),(4,.i ((i : Nat) : Int))],[(7,⟨3,.row (.ints o)⟩)],[7,999]⟩) rfl ?_
  have hol : o.length = i := by rw [ho]; exact pastL_len h i
  refine W.seq ?_
  refine Kk cok tab43 hnt [] [0,3,4,11] (⟨[(0,.sl (.events h)),(3,.own 7 o.length),(4,.i ((i : Nat) : Int)),(11,.b (decide (((i : Nat) : Int) < (h.length : Int))))],[(7,⟨3,.row (.ints o)⟩)],[7,999]⟩)
   (True ∧ True ∧ True ∧ (True ∧ True ∧ True) ∧ True)
   ⟨tt,tt,tt,⟨tt,tt,tt⟩,tt⟩ ?_
  refine W.ifP (((i : Nat) : Int) < (h.length : Int)) (.b (decide (((i : Nat) : Int) < (h.length : Int)))) (by kernel_rfl) rfl trivial ?_ ?_
  ·intro h11
   refine W.skip (thenQ_normal ?_)
   refine W.seq ?_
   refine W.block ?_
   refine Kk cok tab43 hnt [] [0,3,4,5] (⟨[(0,.sl (.events h)),(3,.own 7 o.length),(4,.i ((i : Nat) : Int)),(5,.i (power ((i : Nat) : Int)))],[(7,⟨3,.row (.ints o)⟩)],[7,999]⟩)
    (True ∧ (True ∧ (True ∧ True) ∧ (((i : Nat) : Int) ≤ 60)) ∧ True ∧ True)
    ⟨tt,⟨tt,⟨tt,tt⟩,(by omega)⟩,tt,tt⟩ ?_
   refine W.seq ?_
   refine Kk cok tab43 hnt [] [0,3,4,5,6] (⟨[(0,.sl (.events h)),(3,.own 7 o.length),(4,.i ((i : Nat) : Int)),(5,.i (power ((i : Nat) : Int))),(6,.i (0 : Int))],[(7,⟨3,.row (.ints o)⟩)],[7,999]⟩)
    (True ∧ True)
    ⟨tt,tt⟩ ?_
   refine W.block ?_
   refine W.loop (ι := Nat × Int) (fun (x : Nat × Int) => match x with | (k,x) => (⟨[(0,.sl (.events h)),(3,.own 7 o.length),(4,.i ((i : Nat) : Int)),(5,.i x),(6,.i ((k : Nat) : Int))],[(7,⟨3,.row (.ints o)⟩)],[7,999]⟩ : St))
    (fun (x : Nat × Int) => match x with | (k,x) => (k ≤ i) ∧ (x = pastStep h (pastL h i) i k))
    (fun (x : Nat × Int) => match x with | (k,x) => (i - k : Nat)) (0,(power ((i : Nat) : Int))) ?_ ?_ ?_
   ·exact (show (0 ≤ i) ∧ ((power ((i : Nat) : Int)) = pastStep h (pastL h i) i 0) from ⟨(by first | assumption | omega | rfl | (intro _ hjj; omega) | (simp; done) | (simp; omega)),(by first | rfl | (rw [shl_one (by omega),← power_nat]; rfl))⟩)
   ·exact Sub.of [] (@cast (((Sd (.events h)) ∧ (((7 : Nat) = 7) ∧ (o.length = o.length) ∧ ((7 : Nat) ∈ ([7,999] : List Nat))) ∧ (Si ((i : Nat) : Int)) ∧ (Si (power ((i : Nat) : Int))) ∧ ((.int .i64 (0 : Int) : Value) = .int .i64 ((0 : Nat) : Int)) ∧ True) ∧ ((((3 : Nat) = 3) ∧ (Sd (.ints o)) ∧ ((7 : Nat) ∈ ([7,999] : List Nat))) ∧ True) ∧ (true = true) ∧ (true = true)) _ (by kernel_rfl) ⟨⟨rfl,⟨rfl,rfl,(by decide)⟩,rfl,rfl,(congrArg (Value.int .i64) (by first | rfl | omega | assumption | simp | simp_all)),tt⟩,⟨⟨rfl,rfl,(by decide)⟩,tt⟩,rfl,rfl⟩)
   ·rintro ⟨k,x⟩ hC0
    have hC : (k ≤ i) ∧ (x = pastStep h (pastL h i) i k) := hC0
    clear hC0
    obtain ⟨hk,hx⟩ := hC
    refine W.to (⟨[(0,.sl (.events h)),(3,.own 7 o.length),(4,.i ((i : Nat) : Int)),(5,.i x),(6,.i ((k : Nat) : Int))],[(7,⟨3,.row (.ints o)⟩)],[7,999]⟩) rfl ?_
    refine W.seq ?_
    refine Kk cok tab43 hnt [] [0,3,4,5,6,18] (⟨[(0,.sl (.events h)),(3,.own 7 o.length),(4,.i ((i : Nat) : Int)),(5,.i x),(6,.i ((k : Nat) : Int)),(18,.b (decide (((k : Nat) : Int) < ((i : Nat) : Int))))],[(7,⟨3,.row (.ints o)⟩)],[7,999]⟩)
     (True ∧ True ∧ (True ∧ True ∧ True) ∧ True)
     ⟨tt,tt,⟨tt,tt,tt⟩,tt⟩ ?_
    refine W.ifP (((k : Nat) : Int) < ((i : Nat) : Int)) (.b (decide (((k : Nat) : Int) < ((i : Nat) : Int)))) (by kernel_rfl) rfl trivial ?_ ?_
    ·intro h18
     refine W.skip (thenQ_normal ?_)
     refine W.seq ?_
     refine W.block ?_
     refine W.KA cok tab43 hnt [] [0,3,4,5,6,60] (⟨[(0,.sl (.events h)),(3,.own 7 o.length),(4,.i ((i : Nat) : Int)),(5,.i x),(6,.i ((k : Nat) : Int)),(60,.b ((decide (((h.getD k default).proc) = ((h.getD i default).proc))) || (((decide (((h.getD k default).kind) = (1 : Int))) && (decide (((h.getD i default).kind) = (2 : Int)))) && (decide (((h.getD k default).msg) = ((h.getD i default).msg))))))],[(7,⟨3,.row (.ints o)⟩)],[7,999]⟩)
      ((fun (Z1:Bool)=>((fun (Z2:Bool)=>((fun (Z3:Bool)=>((fun (Z4:Bool)=>((fun (Z5:Bool)=>((fun (Z6:Bool)=>(True ∧ (True ∧ ((True ∧ (True ∧ ((0 ≤ ((k : Nat) : Int)) ∧ (((k : Nat) : Int) < (h.length : Int))))) ∧ (True ∧ (True ∧ (True ∧ (True ∧ ((True ∧ (True ∧ ((0 ≤ ((i : Nat) : Int)) ∧ (((i : Nat) : Int) < (h.length : Int))))) ∧ (True ∧ (True ∧ ((True ∧ (True ∧ True)) ∧ (True ∧ ((Z4 = true → True) ∧ ((Z4 = true → True) ∧ ((Z4 = true → (((Z4 = true) ∧ True) ∧ (((Z4 = true) ∧ True) ∧ ((0 ≤ ((k : Nat) : Int)) ∧ (((k : Nat) : Int) < (h.length : Int)))))) ∧ ((Z4 = true → ((Z4 = true) ∧ True)) ∧ ((Z4 = true → ((Z4 = true) ∧ True)) ∧ ((Z4 = true → (((Z4 = true) ∧ True) ∧ (True ∧ True))) ∧ ((Z4 = true → True) ∧ ((Z5 = true → True) ∧ ((Z5 = true → True) ∧ ((Z5 = true → (((Z5 = true) ∧ True) ∧ (((Z5 = true) ∧ True) ∧ ((0 ≤ ((i : Nat) : Int)) ∧ (((i : Nat) : Int) < (h.length : Int)))))) ∧ ((Z5 = true → ((Z5 = true) ∧ True)) ∧ ((Z5 = true → ((Z5 = true) ∧ True)) ∧ ((Z5 = true → (((Z5 = true) ∧ True) ∧ (True ∧ True))) ∧ ((Z4 = true → (((Z4 = true) ∧ ((Z4 = true) ∧ True)) ∧ ((Z1 = true → (Z5 = true) ∧ True) ∧ (Z1 = false → True)))) ∧ ((Z4 = true → True) ∧ ((Z6 = true → True) ∧ ((Z6 = true → True) ∧ ((Z6 = true → (((Z6 = true) ∧ True) ∧ (((Z6 = true) ∧ True) ∧ ((0 ≤ ((k : Nat) : Int)) ∧ (((k : Nat) : Int) < (h.length : Int)))))) ∧ ((Z6 = true → ((Z6 = true) ∧ True)) ∧ ((Z6 = true → ((Z6 = true) ∧ True)) ∧ ((Z6 = true → True) ∧ ((Z6 = true → True) ∧ ((Z6 = true → (((Z6 = true) ∧ True) ∧ (((Z6 = true) ∧ True) ∧ ((0 ≤ ((i : Nat) : Int)) ∧ (((i : Nat) : Int) < (h.length : Int)))))) ∧ ((Z6 = true → ((Z6 = true) ∧ True)) ∧ ((Z6 = true → ((Z6 = true) ∧ True)) ∧ ((Z6 = true → (((Z6 = true) ∧ True) ∧ (((Z6 = true) ∧ True) ∧ True))) ∧ ((Z4 = true → (((Z4 = true) ∧ ((Z4 = true) ∧ True)) ∧ ((Z2 = true → (Z6 = true) ∧ True) ∧ (Z2 = false → True)))) ∧ ((True ∧ ((Z3 = true → True) ∧ (Z3 = false → (Z4 = true) ∧ True))) ∧ True))))))))))))))))))))))))))))))))))))))))) (Z4 && (Z4 && Z2)))) (Z4 && (Z4 && Z1)))) (!Z3))) (decide (((h.getD k default).proc) = ((h.getD i default).proc))))) (Z1 && (decide (((h.getD i default).kind) = (2 : Int)))))) (decide (((h.getD k default).kind) = (1 : Int)))) (by kernel_rfl) (by kernel_rfl)
      ⟨tt,tt,⟨tt,tt,(by omega),(by omega)⟩,tt,tt,tt,tt,⟨tt,tt,(by omega),(by omega)⟩,tt,tt,⟨tt,tt,tt⟩,tt,(fun _ => trivial),(fun _ => trivial),(fun hG => ⟨⟨hG,tt⟩,⟨hG,tt⟩,(by have hg0 : ¬ (((h.getD k default).proc) = ((h.getD i default).proc)) := of_decide_eq_false (not_f hG); omega),(by have hg0 : ¬ (((h.getD k default).proc) = ((h.getD i default).proc)) := of_decide_eq_false (not_f hG); omega)⟩),(fun hG => ⟨hG,tt⟩),(fun hG => ⟨hG,tt⟩),(fun hG => ⟨⟨hG,tt⟩,tt,tt⟩),(fun _ => trivial),(fun _ => trivial),(fun _ => trivial),(fun hG => ⟨⟨hG,tt⟩,⟨hG,tt⟩,(by have hg0 : ¬ (((h.getD k default).proc) = ((h.getD i default).proc)) := of_decide_eq_false (not_f (and_l hG)); have hg1 : ¬ (((h.getD k default).proc) = ((h.getD i default).proc)) := of_decide_eq_false (not_f (and_l (and_r hG))); have hg2 : ((h.getD k default).kind) = (1 : Int) := of_decide_eq_true (and_r (and_r hG)); omega),(by have hg0 : ¬ (((h.getD k default).proc) = ((h.getD i default).proc)) := of_decide_eq_false (not_f (and_l hG)); have hg1 : ¬ (((h.getD k default).proc) = ((h.getD i default).proc)) := of_decide_eq_false (not_f (and_l (and_r hG))); have hg2 : ((h.getD k default).kind) = (1 : Int) := of_decide_eq_true (and_r (and_r hG)); omega)⟩),(fun hG => ⟨hG,tt⟩),(fun hG => ⟨hG,tt⟩),(fun hG => ⟨⟨hG,tt⟩,tt,tt⟩),(fun hG => ⟨⟨hG,hG,tt⟩,(fun hp => ⟨(and_t hG (and_t hG hp)),tt⟩),(fun _ => trivial)⟩),(fun _ => trivial),(fun _ => trivial),(fun _ => trivial),(fun hG => ⟨⟨hG,tt⟩,⟨hG,tt⟩,(by have hg0 : ¬ (((h.getD k default).proc) = ((h.getD i default).proc)) := of_decide_eq_false (not_f (and_l hG)); have hg1 : ¬ (((h.getD k default).proc) = ((h.getD i default).proc)) := of_decide_eq_false (not_f (and_l (and_r hG))); have hg2 : ((h.getD k default).kind) = (1 : Int) := of_decide_eq_true (and_l (and_r (and_r hG))); have hg3 : ((h.getD i default).kind) = (2 : Int) := of_decide_eq_true (and_r (and_r (and_r hG))); omega),(by have hg0 : ¬ (((h.getD k default).proc) = ((h.getD i default).proc)) := of_decide_eq_false (not_f (and_l hG)); have hg1 : ¬ (((h.getD k default).proc) = ((h.getD i default).proc)) := of_decide_eq_false (not_f (and_l (and_r hG))); have hg2 : ((h.getD k default).kind) = (1 : Int) := of_decide_eq_true (and_l (and_r (and_r hG))); have hg3 : ((h.getD i default).kind) = (2 : Int) := of_decide_eq_true (and_r (and_r (and_r hG))); omega)⟩),(fun hG => ⟨hG,tt⟩),(fun hG => ⟨hG,tt⟩),(fun _ => trivial),(fun _ => trivial),(fun hG => ⟨⟨hG,tt⟩,⟨hG,tt⟩,(by have hg0 : ¬ (((h.getD k default).proc) = ((h.getD i default).proc)) := of_decide_eq_false (not_f (and_l hG)); have hg1 : ¬ (((h.getD k default).proc) = ((h.getD i default).proc)) := of_decide_eq_false (not_f (and_l (and_r hG))); have hg2 : ((h.getD k default).kind) = (1 : Int) := of_decide_eq_true (and_l (and_r (and_r hG))); have hg3 : ((h.getD i default).kind) = (2 : Int) := of_decide_eq_true (and_r (and_r (and_r hG))); omega),(by have hg0 : ¬ (((h.getD k default).proc) = ((h.getD i default).proc)) := of_decide_eq_false (not_f (and_l hG)); have hg1 : ¬ (((h.getD k default).proc) = ((h.getD i default).proc)) := of_decide_eq_false (not_f (and_l (and_r hG))); have hg2 : ((h.getD k default).kind) = (1 : Int) := of_decide_eq_true (and_l (and_r (and_r hG))); have hg3 : ((h.getD i default).kind) = (2 : Int) := of_decide_eq_true (and_r (and_r (and_r hG))); omega)⟩),(fun hG => ⟨hG,tt⟩),(fun hG => ⟨hG,tt⟩),(fun hG => ⟨⟨hG,tt⟩,⟨hG,tt⟩,tt⟩),(fun hG => ⟨⟨hG,hG,tt⟩,(fun hp => ⟨(and_t hG (and_t hG hp)),tt⟩),(fun _ => trivial)⟩),⟨tt,(fun _ => trivial),(fun hp => ⟨(not_t hp),tt⟩)⟩,tt⟩ ?_
     refine W.if' ((decide (((h.getD k default).proc) = ((h.getD i default).proc))) || (((decide (((h.getD k default).kind) = (1 : Int))) && (decide (((h.getD i default).kind) = (2 : Int)))) && (decide (((h.getD k default).msg) = ((h.getD i default).msg))))) (.b ((decide (((h.getD k default).proc) = ((h.getD i default).proc))) || (((decide (((h.getD k default).kind) = (1 : Int))) && (decide (((h.getD i default).kind) = (2 : Int)))) && (decide (((h.getD k default).msg) = ((h.getD i default).msg)))))) (by kernel_rfl) rfl trivial ?_ ?_
     ·intro h60
      refine Lk cok tab43 hnt [] (⟨[(0,.sl (.events h)),(3,.own 7 o.length),(4,.i ((i : Nat) : Int)),(5,.i (bitsI .or .i64 x (o.getD k 0))),(6,.i ((k : Nat) : Int)),(60,.b ((decide (((h.getD k default).proc) = ((h.getD i default).proc))) || (((decide (((h.getD k default).kind) = (1 : Int))) && (decide (((h.getD i default).kind) = (2 : Int)))) && (decide (((h.getD k default).msg) = ((h.getD i default).msg)))))),(61,.i x),(62,.own 7 o.length),(63,.i ((k : Nat) : Int)),(64,.pel 7 1 k 0),(65,.i (o.getD k 0)),(66,.i (bitsI .or .i64 x (o.getD k 0)))],[(7,⟨3,.row (.ints o)⟩)],[7,999]⟩)
       (True ∧ True ∧ True ∧ (True ∧ True ∧ (0 ≤ ((k : Nat) : Int)) ∧ (((k : Nat) : Int) < (o.length : Int))) ∧ (True ∧ (k < o.length)) ∧ (True ∧ True ∧ True) ∧ True ∧ True)
       ⟨tt,tt,tt,⟨tt,tt,(by omega),(by omega)⟩,⟨tt,(by omega)⟩,⟨tt,tt,tt⟩,tt,tt⟩ ?_
      refine blockQ_normal (thenQ_normal ?_)
      refine Lk cok tab43 hnt [] (⟨[(0,.sl (.events h)),(3,.own 7 o.length),(4,.i ((i : Nat) : Int)),(5,.i (bitsI .or .i64 x (o.getD k 0))),(6,.i (((k + 1) : Nat) : Int)),(19,.i ((k : Nat) : Int)),(20,.i (((k + 1) : Nat) : Int)),(60,.b ((decide (((h.getD k default).proc) = ((h.getD i default).proc))) || (((decide (((h.getD k default).kind) = (1 : Int))) && (decide (((h.getD i default).kind) = (2 : Int)))) && (decide (((h.getD k default).msg) = ((h.getD i default).msg)))))),(61,.i x),(62,.own 7 o.length),(63,.i ((k : Nat) : Int)),(64,.pel 7 1 k 0),(65,.i (o.getD k 0)),(66,.i (bitsI .or .i64 x (o.getD k 0)))],[(7,⟨3,.row (.ints o)⟩)],[7,999]⟩)
       (True ∧ (True ∧ True ∧ (Fits .i64 (((k + 1) : Nat) : Int))) ∧ True ∧ True)
       ⟨tt,⟨tt,tt,(by exact fits_i64 (by omega) (by omega))⟩,tt,tt⟩ ?_
      refine thenQ_normal ?_
      refine ⟨((k + 1),(bitsI .or .i64 x (o.getD k 0))),(show ((k + 1) ≤ i) ∧ ((bitsI .or .i64 x (o.getD k 0)) = pastStep h (pastL h i) i (k + 1)) from ⟨(by first | assumption | omega | rfl | (intro _ hjj; omega) | (simp; done) | (simp; omega)),(by first | (rw [hx,ho]; exact (past_yes (by rw [Bool.and_comm (decide ((h.getD i default).kind = 2))]; exact h60)).symm) | (rw [hx]; exact (past_no (by rw [Bool.and_comm (decide ((h.getD i default).kind = 2))]; exact n60)).symm))⟩),(show i - (k + 1) < i - k from (by first | omega | (simp_all; omega))),?_⟩
      exact Sub.of [] (@cast (((Sd (.events h)) ∧ (((7 : Nat) = 7) ∧ (o.length = o.length) ∧ ((7 : Nat) ∈ ([7,999] : List Nat))) ∧ (Si ((i : Nat) : Int)) ∧ (Si (bitsI .or .i64 x (o.getD k 0))) ∧ (Si (((k + 1) : Nat) : Int)) ∧ True) ∧ ((((3 : Nat) = 3) ∧ (Sd (.ints o)) ∧ ((7 : Nat) ∈ ([7,999] : List Nat))) ∧ True) ∧ (true = true) ∧ (true = true)) _ (by kernel_rfl) ⟨⟨rfl,⟨rfl,rfl,(by decide)⟩,rfl,rfl,rfl,tt⟩,⟨⟨rfl,rfl,(by decide)⟩,tt⟩,rfl,rfl⟩)
     ·intro n60
      have n60_0 : ¬ (((h.getD k default).proc) = ((h.getD i default).proc)) := of_decide_eq_false (or_l n60)
      refine W.skip (blockQ_normal (thenQ_normal ?_))
      refine Lk cok tab43 hnt [] (⟨[(0,.sl (.events h)),(3,.own 7 o.length),(4,.i ((i : Nat) : Int)),(5,.i x),(6,.i (((k + 1) : Nat) : Int)),(19,.i ((k : Nat) : Int)),(20,.i (((k + 1) : Nat) : Int)),(60,.b ((decide (((h.getD k default).proc) = ((h.getD i default).proc))) || (((decide (((h.getD k default).kind) = (1 : Int))) && (decide (((h.getD i default).kind) = (2 : Int)))) && (decide (((h.getD k default).msg) = ((h.getD i default).msg))))))],[(7,⟨3,.row (.ints o)⟩)],[7,999]⟩)
       (True ∧ (True ∧ True ∧ (Fits .i64 (((k + 1) : Nat) : Int))) ∧ True ∧ True)
       ⟨tt,⟨tt,tt,(by exact fits_i64 (by omega) (by omega))⟩,tt,tt⟩ ?_
      refine thenQ_normal ?_
      refine ⟨((k + 1),x),(show ((k + 1) ≤ i) ∧ (x = pastStep h (pastL h i) i (k + 1)) from ⟨(by first | assumption | omega | rfl | (intro _ hjj; omega) | (simp; done) | (simp; omega)),(by first | (rw [hx,ho]; exact (past_yes (by rw [Bool.and_comm (decide ((h.getD i default).kind = 2))]; exact h60)).symm) | (rw [hx]; exact (past_no (by rw [Bool.and_comm (decide ((h.getD i default).kind = 2))]; exact n60)).symm))⟩),(show i - (k + 1) < i - k from (by first | omega | (simp_all; omega))),?_⟩
      exact Sub.of [] (@cast (((Sd (.events h)) ∧ (((7 : Nat) = 7) ∧ (o.length = o.length) ∧ ((7 : Nat) ∈ ([7,999] : List Nat))) ∧ (Si ((i : Nat) : Int)) ∧ (Si x) ∧ (Si (((k + 1) : Nat) : Int)) ∧ True) ∧ ((((3 : Nat) = 3) ∧ (Sd (.ints o)) ∧ ((7 : Nat) ∈ ([7,999] : List Nat))) ∧ True) ∧ (true = true) ∧ (true = true)) _ (by kernel_rfl) ⟨⟨rfl,⟨rfl,rfl,(by decide)⟩,rfl,rfl,rfl,tt⟩,⟨⟨rfl,rfl,(by decide)⟩,tt⟩,rfl,rfl⟩)
    ·intro n18
     refine W.exit (thenQ_exit (thenQ_exit (blockQ_hit ?_)))
     refine thenQ_normal ?_
     refine Lk cok tab43 hnt [70] (⟨[(0,.sl (.events h)),(3,.own 70 (List.length (o ++ ([x])))),(4,.i ((i : Nat) : Int)),(5,.i x),(6,.i ((k : Nat) : Int)),(18,.b (decide (((k : Nat) : Int) < ((i : Nat) : Int)))),(67,.own 7 o.length),(68,.i x),(69,.sl (.ints ([x]))),(70,.own 70 (List.length (o ++ ([x]))))],[(70,⟨3,.row (.ints (o ++ ([x])))⟩)],[70,69,7,999]⟩)
      (True ∧ True ∧ (True ∧ True) ∧ ((True ∧ (o.length = o.length)) ∧ True ∧ ((o.length + (List.length ([x]))) * 8 ≤ 140737488355328)) ∧ True ∧ True)
      ⟨tt,tt,⟨tt,tt⟩,⟨⟨tt,rfl⟩,tt,(by (first | omega | (simp only [List.length_set]; done) | (simp only [List.length_append,List.length_cons,List.length_nil,List.length_take,List.length_drop,List.length_set,List.length_replicate,List.length_map] at *; omega) | assumption))⟩,tt,tt⟩ ?_
     refine blockQ_normal (thenQ_normal ?_)
     refine Lk cok tab43 hnt [] (⟨[(0,.sl (.events h)),(3,.own 70 (List.length (o ++ ([x])))),(4,.i (((i + 1) : Nat) : Int)),(5,.i x),(6,.i ((k : Nat) : Int)),(12,.i ((i : Nat) : Int)),(13,.i (((i + 1) : Nat) : Int)),(18,.b (decide (((k : Nat) : Int) < ((i : Nat) : Int)))),(67,.own 7 o.length),(68,.i x),(69,.sl (.ints ([x]))),(70,.own 70 (List.length (o ++ ([x]))))],[(70,⟨3,.row (.ints (o ++ ([x])))⟩)],[70,69,7,999]⟩)
      (True ∧ (True ∧ True ∧ (Fits .i64 (((i + 1) : Nat) : Int))) ∧ True ∧ True)
      ⟨tt,⟨tt,tt,(by exact fits_i64 (by omega) (by omega))⟩,tt,tt⟩ ?_
     refine thenQ_normal ?_
     refine ⟨((i + 1),(o ++ ([x]))),(show ((i + 1) ≤ h.length) ∧ ((o ++ ([x])) = pastL h (i + 1)) from ⟨(by first | assumption | omega | rfl | (intro _ hjj; omega) | (simp; done) | (simp; omega)),(by rw [ho,hx,show k = i by omega]; rfl)⟩),(show h.length - (i + 1) < h.length - i from (by first | omega | (simp_all; omega))),?_⟩
     exact Sub.of [(7,70)] (@cast (((Sd (.events h)) ∧ (((70 : Nat) = 70) ∧ ((List.length (o ++ ([x]))) = (List.length (o ++ ([x])))) ∧ ((7 : Nat) ∈ ([7,999] : List Nat))) ∧ (Si (((i + 1) : Nat) : Int)) ∧ True) ∧ ((((3 : Nat) = 3) ∧ (Sd (.ints (o ++ ([x])))) ∧ ((7 : Nat) ∈ ([7,999] : List Nat))) ∧ True) ∧ (true = true) ∧ (true = true)) _ (by kernel_rfl) ⟨⟨rfl,⟨rfl,rfl,(by decide)⟩,rfl,tt⟩,⟨⟨rfl,rfl,(by decide)⟩,tt⟩,rfl,rfl⟩)
  ·intro n11
   refine W.exit (thenQ_exit (thenQ_exit (blockQ_hit ?_)))
   refine thenQ_normal ?_
   refine Kk cok tab43 hnt [] [2] (⟨[(2,.own 7 o.length)],[(7,⟨3,.row (.ints o)⟩)],[7,999]⟩)
    (True ∧ True ∧ True)
    ⟨tt,tt,tt⟩ ?_
   refine W.subS [] (⟨[(2,.sl (.ints o))],[],[999]⟩) (@cast ((((o.length = o.length) ∧ (Sd (.ints o)) ∧ ((7 : Nat) ∉ ([] : List Nat))) ∧ True) ∧ True ∧ (true = true) ∧ (true = true)) _ (by kernel_rfl) ⟨⟨⟨rfl,rfl,(by decide)⟩,tt⟩,tt,rfl,rfl⟩) ?_
   refine W.ret ?_
   exact endQ_ret (.sl (.ints o)) (by kernel_rfl) (@cast ((.ints o : Dat) = .ints (pastL h h.length)) _ (by kernel_rfl) (congrArg Dat.ints (by rw [ho,show i = h.length by omega])))
theorem ent43 : Entr prog 43 := ⟨_,func43,rfl,by decide⟩
end Go.Proofs.Try

set_option linter.unusedSimpArgs false
set_option linter.unusedVariables false
namespace Go.Proofs.Try
open Go.Ab Go.RowKit
def fs40 : FnS := fnS [.o,.o] [.int,.int] (fun _ (x,j,_) => (.i (bitOf x j),[],(j ≤ 60) ∧ (0 ≤ x ∧ x ≤ 4611686018427387904)))
abbrev T40 : Tab := lk [(19,fs19)]
theorem tab40 : TabOK prog T40 := (TabOK.cons ok19 ent19 TabOK.nil)
set_option maxRecDepth 100000 in
set_option maxHeartbeats 1000000 in
theorem ok40 : FnOK prog 40 fs40 := by
 refine FnOK.mk cok func40 rfl rfl rfl ?_
 rintro fl ⟨(x : Int),(j : Int),_⟩ hpre F hnt0 _
 have hnt : F.nt = 10 := hnt0.trans ntmps40
 replace hpre : (j ≤ 60) ∧ (0 ≤ x ∧ x ≤ 4611686018427387904) := hpre
 obtain ⟨hj,hx⟩ := hpre
 refine W.to (⟨[(0,.i x),(1,.i j)],[],[999]⟩) rfl ?_
 refine Kk cok tab40 hnt [] [0,1] (⟨[(0,.i x),(1,.i j)],[],[999]⟩)
  (True ∧ True)
  ⟨tt,tt⟩ ?_
 have hp := power_pos j
 refine Kk cok tab40 hnt [] [4] (⟨[(4,.i (Int.tmod (Int.tdiv x (power j)) (2 : Int)))],[],[999]⟩)
  (True ∧ True ∧ (True ∧ (True ∧ True) ∧ (j ≤ 60)) ∧ (True ∧ True ∧ ((power j) ≠ 0) ∧ (Fits .i64 (Int.tdiv x (power j)))) ∧ (True ∧ True ∧ ((2 : Int) ≠ 0)) ∧ True ∧ True)
  ⟨tt,tt,⟨tt,⟨tt,tt⟩,(by omega)⟩,⟨tt,tt,(by omega),(by exact fits_i64 (Int.le_trans (by omega) (Int.tdiv_nonneg (by omega) (by omega))) (Int.le_trans (Int.tdiv_le_self _ (by omega)) (by omega)))⟩,⟨tt,tt,(by decide)⟩,tt,tt⟩ ?_
 refine W.ret ?_
 exact endQ_ret (.i (Int.tmod (Int.tdiv x (power j)) (2 : Int))) (by kernel_rfl) (@cast ((.int .i64 (Int.tmod (Int.tdiv x (power j)) (2 : Int)) : Value) = .int .i64 (bitOf x j)) _ (by kernel_rfl) (congrArg (Value.int .i64) (by first | rfl | simp_all)))
theorem ent40 : Entr prog 40 := ⟨_,func40,rfl,by decide⟩
end Go.Proofs.Try

set_option linter.unusedSimpArgs false
set_option linter.unusedVariables false
namespace Go.Proofs.Try
open Go.Ab Go.RowKit
def fs39 : FnS := fnS [.s .events,.o] [.events,.int] (fun _ (h,s,_) => (.b (isCutE h s),[],(h.length ≤ 60)))
abbrev T39 : Tab := lk [(19,fs19),(27,fs27),(40,fs40),(43,fs43)]
theorem tab39 : TabOK prog T39 := (TabOK.cons ok19 ent19 (TabOK.cons ok27 ent27 (TabOK.cons ok40 ent40 (TabOK.cons ok43 ent43 TabOK.nil))))
set_option maxRecDepth 100000 in
set_option maxHeartbeats 1000000 in
theorem ok39 : FnOK prog 39 fs39 := by
 refine FnOK.mk cok func39 rfl rfl rfl ?_
 rintro fl ⟨(h : List EventD),(s : Int),_⟩ hpre F hnt0 _
 have hnt : F.nt = 39 := hnt0.trans ntmps39
 replace hpre : (h.length ≤ 60) := hpre
 have hn := hpre
 refine W.to (⟨[(0,.sl (.events h)),(1,.i s)],[],[999]⟩) rfl ?_
 have hpl := pastL_len h h.length
 have hpo := pastL_ok h h.length (by omega)
 have hpw := power_le (n := (h.length : Int)) (by omega)
 have hpp := power_pos (h.length : Int)
 refine W.lenOf 0 (.events h) (by kernel_rfl) ?_
 intro hl_h; replace hl_h : List.length h ≤ 9223372036854775807 := hl_h
 refine Kk cok tab39 hnt [] [0,1] (⟨[(0,.sl (.events h)),(1,.i s)],[],[999]⟩)
  (True ∧ True)
  ⟨tt,tt⟩ ?_
 refine Kk cok tab39 hnt [] [0,1,5] (⟨[(0,.sl (.events h)),(1,.i s),(5,.sl (.ints (pastL h h.length)))],[],[999]⟩)
  (True ∧ (True ∧ (True ∧ True) ∧ (h.length ≤ 60)) ∧ True ∧ True)
  ⟨tt,⟨tt,⟨tt,tt⟩,(by omega)⟩,tt,tt⟩ ?_
 refine W.seq ?_
 refine Kk cok tab39 hnt [] [0,1,5,15] (⟨[(0,.sl (.events h)),(1,.i s),(5,.sl (.ints (pastL h h.length))),(15,.b (!(within s (0 : Int) ((power (h.length : Int)) - (1 : Int)))))],[],[999]⟩)
  (True ∧ True ∧ True ∧ (True ∧ (True ∧ True) ∧ ((h.length : Int) ≤ 60)) ∧ (True ∧ True ∧ (Fits .i64 ((power (h.length : Int)) - (1 : Int)))) ∧ (True ∧ (True ∧ True ∧ True ∧ True) ∧ True) ∧ True ∧ True)
  ⟨tt,tt,tt,⟨tt,⟨tt,tt⟩,(by omega)⟩,⟨tt,tt,(by exact fits_i64 (by omega) (by omega))⟩,⟨tt,⟨tt,tt,tt,tt⟩,tt⟩,tt,tt⟩ ?_
 refine W.if' (!(within s (0 : Int) ((power (h.length : Int)) - (1 : Int)))) (.b (!(within s (0 : Int) ((power (h.length : Int)) - (1 : Int))))) (by kernel_rfl) rfl trivial ?_ ?_
 ·intro h15
  refine Kk cok tab39 hnt [] [4] (⟨[(4,.b false)],[],[999]⟩)
   (True ∧ True)
   ⟨tt,tt⟩ ?_
  refine W.ret (thenQ_ret ?_)
  exact endQ_ret (.b false) (by kernel_rfl) (@cast ((.bool false : Value) = .bool (isCutE h s)) _ (by kernel_rfl) (congrArg Value.bool (by unfold isCutE; symm; exact and_fl (not_f h15))))
 ·intro n15
  refine W.skip (thenQ_normal ?_)
  refine W.seq ?_
  refine Kk cok tab39 hnt [] [0,1,5,6] (⟨[(0,.sl (.events h)),(1,.i s),(5,.sl (.ints (pastL h h.length))),(6,.i (0 : Int))],[],[999]⟩)
   (True ∧ True)
   ⟨tt,tt⟩ ?_
  refine W.block ?_
  refine W.loop (ι := Nat) (fun (i : Nat) => (⟨[(0,.sl (.events h)),(1,.i s),(5,.sl (.ints (pastL h h.length))),(6,.i ((i : Nat) : Int))],[],[999]⟩ : St))
   (fun (i : Nat) => (i ≤ h.length) ∧ (∀ j,j < i → cutAt (pastL h h.length) s.toNat j = true))
   (fun (i : Nat) => (h.length - i : Nat)) (0) ?_ ?_ ?_
  ·exact (show (0 ≤ h.length) ∧ (∀ j,j < 0 → cutAt (pastL h h.length) s.toNat j = true) from ⟨(by first | assumption | omega | rfl | (intro _ hjj; omega) | (simp; done) | (simp; omega)),(by exact upto_zero)⟩)
  ·exact Sub.of [] (@cast (((Sd (.events h)) ∧ (Si s) ∧ (Sd (.ints (pastL h h.length))) ∧ ((.int .i64 (0 : Int) : Value) = .int .i64 ((0 : Nat) : Int)) ∧ True) ∧ True ∧ (true = true) ∧ (true = true)) _ (by kernel_rfl) ⟨⟨rfl,rfl,rfl,(congrArg (Value.int .i64) (by first | rfl | omega | assumption | simp | simp_all)),tt⟩,tt,rfl,rfl⟩)
  ·rintro i hC0
   have hC : (i ≤ h.length) ∧ (∀ j,j < i → cutAt (pastL h h.length) s.toNat j = true) := hC0
   clear hC0
   obtain ⟨hi,hA⟩ := hC
   refine W.to (⟨[(0,.sl (.events h)),(1,.i s),(5,.sl (.ints (pastL h h.length))),(6,.i ((i : Nat) : Int))],[],[999]⟩) rfl ?_
   have hr := inRange_iff.1 (not_g n15)
   have hpi := hpo i
   unfold okBits at hpi
   refine W.seq ?_
   refine Kk cok tab39 hnt [] [0,1,5,6,19] (⟨[(0,.sl (.events h)),(1,.i s),(5,.sl (.ints (pastL h h.length))),(6,.i ((i : Nat) : Int)),(19,.b (decide (((i : Nat) : Int) < (h.length : Int))))],[],[999]⟩)
    (True ∧ True ∧ True ∧ (True ∧ True ∧ True) ∧ True)
    ⟨tt,tt,tt,⟨tt,tt,tt⟩,tt⟩ ?_
   refine W.ifP (((i : Nat) : Int) < (h.length : Int)) (.b (decide (((i : Nat) : Int) < (h.length : Int)))) (by kernel_rfl) rfl trivial ?_ ?_
   ·intro h19
    refine W.skip (thenQ_normal ?_)
    refine W.seq ?_
    refine W.block ?_
    refine W.KA cok tab39 hnt [] [0,1,5,6,38] (⟨[(0,.sl (.events h)),(1,.i s),(5,.sl (.ints (pastL h h.length))),(6,.i ((i : Nat) : Int)),(38,.b ((decide ((bitOf s ((i : Nat) : Int)) = (1 : Int))) && (decide ((bitsI .and .i64 (List.getD (pastL h h.length) i 0) s) ≠ (List.getD (pastL h h.length) i 0)))))],[],[999]⟩)
     ((fun (Z1:Bool)=>(True ∧ (True ∧ ((True ∧ ((True ∧ (True ∧ True)) ∧ ((((i : Nat) : Int) ≤ 60) ∧ (0 ≤ s ∧ s ≤ 4611686018427387904)))) ∧ ((True ∧ (True ∧ True)) ∧ (True ∧ ((Z1 = true → True) ∧ ((Z1 = true → True) ∧ ((Z1 = true → (((Z1 = true) ∧ True) ∧ (((Z1 = true) ∧ True) ∧ ((0 ≤ ((i : Nat) : Int)) ∧ (((i : Nat) : Int) < (((List.length (pastL h h.length)) : Nat) : Int)))))) ∧ ((Z1 = true → ((Z1 = true) ∧ True)) ∧ ((Z1 = true → True) ∧ ((Z1 = true → (((Z1 = true) ∧ True) ∧ (((Z1 = true) ∧ True) ∧ True))) ∧ ((Z1 = true → True) ∧ ((Z1 = true → True) ∧ ((Z1 = true → (((Z1 = true) ∧ True) ∧ (((Z1 = true) ∧ True) ∧ ((0 ≤ ((i : Nat) : Int)) ∧ (((i : Nat) : Int) < (((List.length (pastL h h.length)) : Nat) : Int)))))) ∧ ((Z1 = true → ((Z1 = true) ∧ True)) ∧ ((Z1 = true → (((Z1 = true) ∧ True) ∧ (((Z1 = true) ∧ True) ∧ True))) ∧ ((True ∧ ((Z1 = true → (Z1 = true) ∧ True) ∧ (Z1 = false → True))) ∧ True)))))))))))))))))) (decide ((bitOf s ((i : Nat) : Int)) = (1 : Int)))) (by kernel_rfl) (by kernel_rfl)
     ⟨tt,tt,⟨tt,⟨tt,tt,tt⟩,(by omega),(by omega)⟩,⟨tt,tt,tt⟩,tt,(fun _ => trivial),(fun _ => trivial),(fun hG => ⟨⟨hG,tt⟩,⟨hG,tt⟩,(by have hg0 : (bitOf s ((i : Nat) : Int)) = (1 : Int) := of_decide_eq_true hG; omega),(by have hg0 : (bitOf s ((i : Nat) : Int)) = (1 : Int) := of_decide_eq_true hG; omega)⟩),(fun hG => ⟨hG,tt⟩),(fun _ => trivial),(fun hG => ⟨⟨hG,tt⟩,⟨hG,tt⟩,tt⟩),(fun _ => trivial),(fun _ => trivial),(fun hG => ⟨⟨hG,tt⟩,⟨hG,tt⟩,(by have hg0 : (bitOf s ((i : Nat) : Int)) = (1 : Int) := of_decide_eq_true hG; omega),(by have hg0 : (bitOf s ((i : Nat) : Int)) = (1 : Int) := of_decide_eq_true hG; omega)⟩),(fun hG => ⟨hG,tt⟩),(fun hG => ⟨⟨hG,tt⟩,⟨hG,tt⟩,tt⟩),⟨tt,(fun hp => ⟨hp,tt⟩),(fun _ => trivial)⟩,tt⟩ ?_
    refine W.if' ((decide ((bitOf s ((i : Nat) : Int)) = (1 : Int))) && (decide ((bitsI .and .i64 (List.getD (pastL h h.length) i 0) s) ≠ (List.getD (pastL h h.length) i 0)))) (.b ((decide ((bitOf s ((i : Nat) : Int)) = (1 : Int))) && (decide ((bitsI .and .i64 (List.getD (pastL h h.length) i 0) s) ≠ (List.getD (pastL h h.length) i 0))))) (by kernel_rfl) rfl trivial ?_ ?_
    ·intro h38
     have h38_0 : (bitOf s ((i : Nat) : Int)) = (1 : Int) := of_decide_eq_true (and_l h38)
     have h38_1 : (bitsI .and .i64 (List.getD (pastL h h.length) i 0) s) ≠ (List.getD (pastL h h.length) i 0) := of_decide_eq_true (and_r h38)
     refine Kk cok tab39 hnt [] [4] (⟨[(4,.b false)],[],[999]⟩)
      (True ∧ True)
      ⟨tt,tt⟩ ?_
     refine W.ret (blockQ_ret (thenQ_ret (thenQ_ret (blockQ_ret (thenQ_ret ?_)))))
     exact endQ_ret (.b false) (by kernel_rfl) (@cast ((.bool false : Value) = .bool (isCutE h s)) _ (by kernel_rfl) (congrArg Value.bool (by unfold isCutE; symm; exact and_fr (allN_false (i := i) (by omega) (cut_spec (by omega) (by omega) h38)))))
    ·intro n38
     refine W.skip (blockQ_normal (thenQ_normal ?_))
     refine Lk cok tab39 hnt [] (⟨[(0,.sl (.events h)),(1,.i s),(5,.sl (.ints (pastL h h.length))),(6,.i (((i + 1) : Nat) : Int)),(20,.i ((i : Nat) : Int)),(21,.i (((i + 1) : Nat) : Int)),(38,.b ((decide ((bitOf s ((i : Nat) : Int)) = (1 : Int))) && (decide ((bitsI .and .i64 (List.getD (pastL h h.length) i 0) s) ≠ (List.getD (pastL h h.length) i 0)))))],[],[999]⟩)
      (True ∧ (True ∧ True ∧ (Fits .i64 (((i + 1) : Nat) : Int))) ∧ True ∧ True)
      ⟨tt,⟨tt,tt,(by exact fits_i64 (by omega) (by omega))⟩,tt,tt⟩ ?_
     refine thenQ_normal ?_
     refine ⟨((i + 1)),(show ((i + 1) ≤ h.length) ∧ (∀ j,j < (i + 1) → cutAt (pastL h h.length) s.toNat j = true) from ⟨(by first | assumption | omega | rfl | (intro _ hjj; omega) | (simp; done) | (simp; omega)),(by exact upto_succ hA (cut_spec (by omega) (by omega) n38))⟩),(show h.length - (i + 1) < h.length - i from (by first | omega | (simp_all; omega))),?_⟩
     exact Sub.of [] (@cast (((Sd (.events h)) ∧ (Si s) ∧ (Sd (.ints (pastL h h.length))) ∧ (Si (((i + 1) : Nat) : Int)) ∧ True) ∧ True ∧ (true = true) ∧ (true = true)) _ (by kernel_rfl) ⟨⟨rfl,rfl,rfl,rfl,tt⟩,tt,rfl,rfl⟩)
   ·intro n19
    refine W.exit (thenQ_exit (thenQ_exit (blockQ_hit ?_)))
    refine thenQ_normal ?_
    refine Kk cok tab39 hnt [] [4] (⟨[(4,.b true)],[],[999]⟩)
     (True ∧ True)
     ⟨tt,tt⟩ ?_
    refine W.ret ?_
    exact endQ_ret (.b true) (by kernel_rfl) (@cast ((.bool true : Value) = .bool (isCutE h s)) _ (by kernel_rfl) (congrArg Value.bool (by unfold isCutE; symm; exact and_t (not_g n15) (allN_true (fun j hj => hA j (by omega))))))
theorem ent39 : Entr prog 39 := ⟨_,func39,rfl,by decide⟩
end Go.Proofs.Try

set_option linter.unusedSimpArgs false
set_option linter.unusedVariables false
namespace Go.Proofs.Try
open Go.Ab Go.RowKit
def fs28 : FnS := fnS [.s .events] [.events] (fun _ (h,_) => (.sl (.ints (cutsN h (2 ^ h.length))),[],(h.length ≤ 7)))
abbrev T28 : Tab := lk [(19,fs19),(39,fs39)]
theorem tab28 : TabOK prog T28 := (TabOK.cons ok19 ent19 (TabOK.cons ok39 ent39 TabOK.nil))
set_option maxRecDepth 100000 in
set_option maxHeartbeats 1000000 in
theorem ok28 : FnOK prog 28 fs28 := by
 refine FnOK.mk cok func28 rfl rfl rfl ?_
 rintro fl ⟨(h : List EventD),_⟩ hpre F hnt0 _
 have hnt : F.nt = 21 := hnt0.trans ntmps28
 replace hpre : (h.length ≤ 7) := hpre
 have hn := hpre
 refine W.to (⟨[(0,.sl (.events h))],[],[999]⟩) rfl ?_
 have hpn := power_nat h.length
 have hp7 := Nat.pow_le_pow_right (show 0 < 2 by omega) hn
 refine W.lenOf 0 (.events h) (by kernel_rfl) ?_
 intro hl_h; replace hl_h : List.length h ≤ 9223372036854775807 := hl_h
 refine Kk cok tab28 hnt [] [0] (⟨[(0,.sl (.events h))],[],[999]⟩)
  (True ∧ True)
  ⟨tt,tt⟩ ?_
 refine Kk cok tab28 hnt [5] [0,3] (⟨[(0,.sl (.events h)),(3,.own 5 (List.length ([] : List Int)))],[(5,⟨3,.row (.ints ([] : List Int))⟩)],[5,999]⟩)
  (True ∧ True ∧ True)
  ⟨tt,tt,tt⟩ ?_
 refine W.seq ?_
 refine Kk cok tab28 hnt [] [0,3,4] (⟨[(0,.sl (.events h)),(3,.own 5 (List.length ([] : List Int))),(4,.i (0 : Int))],[(5,⟨3,.row (.ints ([] : List Int))⟩)],[5,999]⟩)
  (True ∧ True)
  ⟨tt,tt⟩ ?_
 refine W.block ?_
 refine W.loop (ι := (List Int) × Nat) (fun (x : (List Int) × Nat) => match x with | (o,k) => (⟨[(0,.sl (.events h)),(3,.own 5 o.length),(4,.i ((k : Nat) : Int))],[(5,⟨3,.row (.ints o)⟩)],[5,999]⟩ : St))
  (fun (x : (List Int) × Nat) => match x with | (o,k) => (k ≤ 2 ^ h.length) ∧ (o = cutsN h k))
  (fun (x : (List Int) × Nat) => match x with | (o,k) => (2 ^ h.length - k : Nat)) (([] : List Int),0) ?_ ?_ ?_
 ·exact (show (0 ≤ 2 ^ h.length) ∧ (([] : List Int) = cutsN h 0) from ⟨(by exact Nat.zero_le _),(by rfl)⟩)
 ·exact Sub.of [] (@cast (((Sd (.events h)) ∧ (((5 : Nat) = 5) ∧ ((List.length ([] : List Int)) = (List.length ([] : List Int))) ∧ ((5 : Nat) ∈ ([5,999] : List Nat))) ∧ ((.int .i64 (0 : Int) : Value) = .int .i64 ((0 : Nat) : Int)) ∧ True) ∧ ((((3 : Nat) = 3) ∧ (Sd (.ints ([] : List Int))) ∧ ((5 : Nat) ∈ ([5,999] : List Nat))) ∧ True) ∧ (true = true) ∧ (true = true)) _ (by kernel_rfl) ⟨⟨rfl,⟨rfl,rfl,(by decide)⟩,(congrArg (Value.int .i64) (by first | rfl | omega | assumption | simp | simp_all)),tt⟩,⟨⟨rfl,rfl,(by decide)⟩,tt⟩,rfl,rfl⟩)
 ·rintro ⟨o,k⟩ hC0
  have hC : (k ≤ 2 ^ h.length) ∧ (o = cutsN h k) := hC0
  clear hC0
  obtain ⟨hk,ho⟩ := hC
  refine W.to (⟨[(0,.sl (.events h)),(3,.own 5 o.length),(4,.i ((k : Nat) : Int))],[(5,⟨3,.row (.ints o)⟩)],[5,999]⟩) rfl ?_
  have hol : o.length ≤ k := by rw [ho]; exact cutsN_len h k
  refine W.seq ?_
  refine Kk cok tab28 hnt [] [0,3,4,10] (⟨[(0,.sl (.events h)),(3,.own 5 o.length),(4,.i ((k : Nat) : Int)),(10,.b (decide (((k : Nat) : Int) < (power (h.length : Int)))))],[(5,⟨3,.row (.ints o)⟩)],[5,999]⟩)
   (True ∧ True ∧ True ∧ (True ∧ (True ∧ True) ∧ ((h.length : Int) ≤ 60)) ∧ (True ∧ True ∧ True) ∧ True)
   ⟨tt,tt,tt,⟨tt,⟨tt,tt⟩,(by omega)⟩,⟨tt,tt,tt⟩,tt⟩ ?_
  refine W.ifP (((k : Nat) : Int) < (power (h.length : Int))) (.b (decide (((k : Nat) : Int) < (power (h.length : Int))))) (by kernel_rfl) rfl trivial ?_ ?_
  ·intro h10
   refine W.skip (thenQ_normal ?_)
   refine W.seq ?_
   refine W.block ?_
   refine Kk cok tab28 hnt [] [0,3,4,15] (⟨[(0,.sl (.events h)),(3,.own 5 o.length),(4,.i ((k : Nat) : Int)),(15,.b (isCutE h ((k : Nat) : Int)))],[(5,⟨3,.row (.ints o)⟩)],[5,999]⟩)
    (True ∧ True ∧ (True ∧ (True ∧ True ∧ True) ∧ (h.length ≤ 60)) ∧ True)
    ⟨tt,tt,⟨tt,⟨tt,tt,tt⟩,(by omega)⟩,tt⟩ ?_
   refine W.if' (isCutE h ((k : Nat) : Int)) (.b (isCutE h ((k : Nat) : Int))) (by kernel_rfl) rfl trivial ?_ ?_
   ·intro h15
    refine Lk cok tab28 hnt [19] (⟨[(0,.sl (.events h)),(3,.own 19 (List.length (o ++ ([((k : Nat) : Int)])))),(4,.i ((k : Nat) : Int)),(15,.b (isCutE h ((k : Nat) : Int))),(16,.own 5 o.length),(17,.i ((k : Nat) : Int)),(18,.sl (.ints ([((k : Nat) : Int)]))),(19,.own 19 (List.length (o ++ ([((k : Nat) : Int)]))))],[(19,⟨3,.row (.ints (o ++ ([((k : Nat) : Int)])))⟩)],[19,18,5,999]⟩)
     (True ∧ True ∧ (True ∧ True) ∧ ((True ∧ (o.length = o.length)) ∧ True ∧ ((o.length + (List.length ([((k : Nat) : Int)]))) * 8 ≤ 140737488355328)) ∧ True ∧ True)
     ⟨tt,tt,⟨tt,tt⟩,⟨⟨tt,rfl⟩,tt,(by (first | omega | (simp only [List.length_set]; done) | (simp only [List.length_append,List.length_cons,List.length_nil,List.length_take,List.length_drop,List.length_set,List.length_replicate,List.length_map] at *; omega) | assumption))⟩,tt,tt⟩ ?_
    refine blockQ_normal (thenQ_normal ?_)
    refine Lk cok tab28 hnt [] (⟨[(0,.sl (.events h)),(3,.own 19 (List.length (o ++ ([((k : Nat) : Int)])))),(4,.i (((k + 1) : Nat) : Int)),(11,.i ((k : Nat) : Int)),(12,.i (((k + 1) : Nat) : Int)),(15,.b (isCutE h ((k : Nat) : Int))),(16,.own 5 o.length),(17,.i ((k : Nat) : Int)),(18,.sl (.ints ([((k : Nat) : Int)]))),(19,.own 19 (List.length (o ++ ([((k : Nat) : Int)]))))],[(19,⟨3,.row (.ints (o ++ ([((k : Nat) : Int)])))⟩)],[19,18,5,999]⟩)
     (True ∧ (True ∧ True ∧ (Fits .i64 (((k + 1) : Nat) : Int))) ∧ True ∧ True)
     ⟨tt,⟨tt,tt,(by exact fits_i64 (by omega) (by omega))⟩,tt,tt⟩ ?_
    refine thenQ_normal ?_
    refine ⟨((o ++ ([((k : Nat) : Int)])),(k + 1)),(show ((k + 1) ≤ 2 ^ h.length) ∧ ((o ++ ([((k : Nat) : Int)])) = cutsN h (k + 1)) from ⟨(by first | assumption | omega | rfl | (intro _ hjj; omega) | (simp; done) | (simp; omega)),(by first | (rw [ho]; exact (cutsN_yes h15).symm) | (rw [ho]; exact (cutsN_no n15).symm))⟩),(show 2 ^ h.length - (k + 1) < 2 ^ h.length - k from (by first | omega | (simp_all; omega))),?_⟩
    exact Sub.of [(5,19)] (@cast (((Sd (.events h)) ∧ (((19 : Nat) = 19) ∧ ((List.length (o ++ ([((k : Nat) : Int)]))) = (List.length (o ++ ([((k : Nat) : Int)])))) ∧ ((5 : Nat) ∈ ([5,999] : List Nat))) ∧ (Si (((k + 1) : Nat) : Int)) ∧ True) ∧ ((((3 : Nat) = 3) ∧ (Sd (.ints (o ++ ([((k : Nat) : Int)])))) ∧ ((5 : Nat) ∈ ([5,999] : List Nat))) ∧ True) ∧ (true = true) ∧ (true = true)) _ (by kernel_rfl) ⟨⟨rfl,⟨rfl,rfl,(by decide)⟩,rfl,tt⟩,⟨⟨rfl,rfl,(by decide)⟩,tt⟩,rfl,rfl⟩)
   ·intro n15
    refine W.skip (blockQ_normal (thenQ_normal ?_))
    refine Lk cok tab28 hnt [] (⟨[(0,.sl (.events h)),(3,.own 5 o.length),(4,.i (((k + 1) : Nat) : Int)),(11,.i ((k : Nat) : Int)),(12,.i (((k + 1) : Nat) : Int)),(15,.b (isCutE h ((k : Nat) : Int)))],[(5,⟨3,.row (.ints o)⟩)],[5,999]⟩)
     (True ∧ (True ∧ True ∧ (Fits .i64 (((k + 1) : Nat) : Int))) ∧ True ∧ True)
     ⟨tt,⟨tt,tt,(by exact fits_i64 (by omega) (by omega))⟩,tt,tt⟩ ?_
    refine thenQ_normal ?_
    refine ⟨(o,(k + 1)),(show ((k + 1) ≤ 2 ^ h.length) ∧ (o = cutsN h (k + 1)) from ⟨(by first | assumption | omega | rfl | (intro _ hjj; omega) | (simp; done) | (simp; omega)),(by first | (rw [ho]; exact (cutsN_yes h15).symm) | (rw [ho]; exact (cutsN_no n15).symm))⟩),(show 2 ^ h.length - (k + 1) < 2 ^ h.length - k from (by first | omega | (simp_all; omega))),?_⟩
    exact Sub.of [] (@cast (((Sd (.events h)) ∧ (((5 : Nat) = 5) ∧ (o.length = o.length) ∧ ((5 : Nat) ∈ ([5,999] : List Nat))) ∧ (Si (((k + 1) : Nat) : Int)) ∧ True) ∧ ((((3 : Nat) = 3) ∧ (Sd (.ints o)) ∧ ((5 : Nat) ∈ ([5,999] : List Nat))) ∧ True) ∧ (true = true) ∧ (true = true)) _ (by kernel_rfl) ⟨⟨rfl,⟨rfl,rfl,(by decide)⟩,rfl,tt⟩,⟨⟨rfl,rfl,(by decide)⟩,tt⟩,rfl,rfl⟩)
  ·intro n10
   refine W.exit (thenQ_exit (thenQ_exit (blockQ_hit ?_)))
   refine thenQ_normal ?_
   refine Kk cok tab28 hnt [] [2] (⟨[(2,.own 5 o.length)],[(5,⟨3,.row (.ints o)⟩)],[5,999]⟩)
    (True ∧ True ∧ True)
    ⟨tt,tt,tt⟩ ?_
   refine W.subS [] (⟨[(2,.sl (.ints o))],[],[999]⟩) (@cast ((((o.length = o.length) ∧ (Sd (.ints o)) ∧ ((5 : Nat) ∉ ([] : List Nat))) ∧ True) ∧ True ∧ (true = true) ∧ (true = true)) _ (by kernel_rfl) ⟨⟨⟨rfl,rfl,(by decide)⟩,tt⟩,tt,rfl,rfl⟩) ?_
   refine W.ret ?_
   exact endQ_ret (.sl (.ints o)) (by kernel_rfl) (@cast ((.ints o : Dat) = .ints (cutsN h (2 ^ h.length))) _ (by kernel_rfl) (congrArg Dat.ints (by rw [ho,show k = 2 ^ h.length by omega])))
theorem ent28 : Entr prog 28 := ⟨_,func28,rfl,by decide⟩
end Go.Proofs.Try

set_option linter.unusedSimpArgs false
set_option linter.unusedVariables false
namespace Go.Proofs.Try
open Go.Ab Go.RowKit
def fs29 : FnS := fnS [.s .events,.o,.o] [.events,.int,.int] (fun _ (h,mk,c,_) => (.b (markedE h mk.toNat c.toNat),[],(h.length ≤ 60) ∧ (0 ≤ c ∧ c < 4611686018427387904) ∧ (0 ≤ mk ∧ mk < 4611686018427387904)))
abbrev T29 : Tab := lk [(40,fs40)]
theorem tab29 : TabOK prog T29 := (TabOK.cons ok40 ent40 TabOK.nil)
set_option maxRecDepth 100000 in
set_option maxHeartbeats 1000000 in
theorem ok29 : FnOK prog 29 fs29 := by
 refine FnOK.mk cok func29 rfl rfl rfl ?_
 rintro fl ⟨(h : List EventD),(mk : Int),(c : Int),_⟩ hpre F hnt0 _
 have hnt : F.nt = 42 := hnt0.trans ntmps29
 replace hpre : (h.length ≤ 60) ∧ (0 ≤ c ∧ c < 4611686018427387904) ∧ (0 ≤ mk ∧ mk < 4611686018427387904) := hpre
 obtain ⟨hn,hc,hm⟩ := hpre
 refine W.to (⟨[(0,.sl (.events h)),(1,.i mk),(2,.i c)],[],[999]⟩) rfl ?_
 refine W.lenOf 0 (.events h) (by kernel_rfl) ?_
 intro hl_h; replace hl_h : List.length h ≤ 9223372036854775807 := hl_h
 refine Kk cok tab29 hnt [] [0,1,2] (⟨[(0,.sl (.events h)),(1,.i mk),(2,.i c)],[],[999]⟩)
  (True ∧ True)
  ⟨tt,tt⟩ ?_
 refine W.seq ?_
 refine Kk cok tab29 hnt [] [0,1,2,7] (⟨[(0,.sl (.events h)),(1,.i mk),(2,.i c),(7,.i (0 : Int))],[],[999]⟩)
  (True ∧ True)
  ⟨tt,tt⟩ ?_
 refine W.block ?_
 refine W.loop (ι := Nat) (fun (p : Nat) => (⟨[(0,.sl (.events h)),(1,.i mk),(2,.i c),(7,.i ((p : Nat) : Int))],[],[999]⟩ : St))
  (fun (p : Nat) => (p ≤ 3) ∧ (∀ j,j < p → markedAt h mk.toNat c.toNat j = true))
  (fun (p : Nat) => (3 - p : Nat)) (0) ?_ ?_ ?_
 ·exact (show (0 ≤ 3) ∧ (∀ j,j < 0 → markedAt h mk.toNat c.toNat j = true) from ⟨(by first | assumption | omega | rfl | (intro _ hjj; omega) | (simp; done) | (simp; omega)),(by exact upto_zero)⟩)
 ·exact Sub.of [] (@cast (((Sd (.events h)) ∧ (Si mk) ∧ (Si c) ∧ ((.int .i64 (0 : Int) : Value) = .int .i64 ((0 : Nat) : Int)) ∧ True) ∧ True ∧ (true = true) ∧ (true = true)) _ (by kernel_rfl) ⟨⟨rfl,rfl,rfl,(congrArg (Value.int .i64) (by first | rfl | omega | assumption | simp | simp_all)),tt⟩,tt,rfl,rfl⟩)
 ·rintro p hC0
  have hC : (p ≤ 3) ∧ (∀ j,j < p → markedAt h mk.toNat c.toNat j = true) := hC0
  clear hC0
  obtain ⟨hp,hA⟩ := hC
  refine W.to (⟨[(0,.sl (.events h)),(1,.i mk),(2,.i c),(7,.i ((p : Nat) : Int))],[],[999]⟩) rfl ?_
  refine W.seq ?_
  refine Kk cok tab29 hnt [] [0,1,2,7,11] (⟨[(0,.sl (.events h)),(1,.i mk),(2,.i c),(7,.i ((p : Nat) : Int)),(11,.b (decide (((p : Nat) : Int) < (3 : Int))))],[],[999]⟩)
   (True ∧ (True ∧ True ∧ True) ∧ True)
   ⟨tt,⟨tt,tt,tt⟩,tt⟩ ?_
  refine W.ifP (((p : Nat) : Int) < (3 : Int)) (.b (decide (((p : Nat) : Int) < (3 : Int)))) (by kernel_rfl) rfl trivial ?_ ?_
  ·intro h11
   refine W.skip (thenQ_normal ?_)
   refine W.seq ?_
   refine W.block ?_
   refine Kk cok tab29 hnt [] [0,1,2,7,8] (⟨[(0,.sl (.events h)),(1,.i mk),(2,.i c),(7,.i ((p : Nat) : Int)),(8,.i (-1 : Int))],[],[999]⟩)
    (True ∧ True)
    ⟨tt,tt⟩ ?_
   refine W.seq ?_
   refine Kk cok tab29 hnt [] [0,1,2,7,8,9] (⟨[(0,.sl (.events h)),(1,.i mk),(2,.i c),(7,.i ((p : Nat) : Int)),(8,.i (-1 : Int)),(9,.i (0 : Int))],[],[999]⟩)
    (True ∧ True)
    ⟨tt,tt⟩ ?_
   refine W.block ?_
   refine W.loop (ι := Int × Nat) (fun (x : Int × Nat) => match x with | (x,k) => (⟨[(0,.sl (.events h)),(1,.i mk),(2,.i c),(7,.i ((p : Nat) : Int)),(8,.i x),(9,.i ((k : Nat) : Int))],[],[999]⟩ : St))
    (fun (x : Int × Nat) => match x with | (x,k) => (k ≤ h.length) ∧ (x = lastE h c.toNat ((p : Nat) : Int) k))
    (fun (x : Int × Nat) => match x with | (x,k) => (h.length - k : Nat)) ((-1 : Int),0) ?_ ?_ ?_
   ·exact (show (0 ≤ h.length) ∧ ((-1 : Int) = lastE h c.toNat ((p : Nat) : Int) 0) from ⟨(by first | assumption | omega | rfl | (intro _ hjj; omega) | (simp; done) | (simp; omega)),(by rfl)⟩)
   ·exact Sub.of [] (@cast (((Sd (.events h)) ∧ (Si mk) ∧ (Si c) ∧ (Si ((p : Nat) : Int)) ∧ (Si (-1 : Int)) ∧ ((.int .i64 (0 : Int) : Value) = .int .i64 ((0 : Nat) : Int)) ∧ True) ∧ True ∧ (true = true) ∧ (true = true)) _ (by kernel_rfl) ⟨⟨rfl,rfl,rfl,rfl,rfl,(congrArg (Value.int .i64) (by first | rfl | omega | assumption | simp | simp_all)),tt⟩,tt,rfl,rfl⟩)
   ·rintro ⟨x,k⟩ hC0
    have hC : (k ≤ h.length) ∧ (x = lastE h c.toNat ((p : Nat) : Int) k) := hC0
    clear hC0
    obtain ⟨hk,hx⟩ := hC
    refine W.to (⟨[(0,.sl (.events h)),(1,.i mk),(2,.i c),(7,.i ((p : Nat) : Int)),(8,.i x),(9,.i ((k : Nat) : Int))],[],[999]⟩) rfl ?_
    have hbd := lastE_bnd h c.toNat ((p : Nat) : Int) k
    rw [← hx] at hbd
    refine W.seq ?_
    refine Kk cok tab29 hnt [] [0,1,2,7,8,9,17] (⟨[(0,.sl (.events h)),(1,.i mk),(2,.i c),(7,.i ((p : Nat) : Int)),(8,.i x),(9,.i ((k : Nat) : Int)),(17,.b (decide (((k : Nat) : Int) < (h.length : Int))))],[],[999]⟩)
     (True ∧ True ∧ True ∧ (True ∧ True ∧ True) ∧ True)
     ⟨tt,tt,tt,⟨tt,tt,tt⟩,tt⟩ ?_
    refine W.ifP (((k : Nat) : Int) < (h.length : Int)) (.b (decide (((k : Nat) : Int) < (h.length : Int)))) (by kernel_rfl) rfl trivial ?_ ?_
    ·intro h17
     refine W.skip (thenQ_normal ?_)
     refine W.seq ?_
     refine W.block ?_
     refine Kk cok tab29 hnt [] [0,1,2,7,8,9,32] (⟨[(0,.sl (.events h)),(1,.i mk),(2,.i c),(7,.i ((p : Nat) : Int)),(8,.i x),(9,.i ((k : Nat) : Int)),(32,.b ((decide ((bitOf c ((k : Nat) : Int)) = (1 : Int))) && (decide (((h.getD k default).proc) = ((p : Nat) : Int)))))],[],[999]⟩)
      ((fun (Z1:Bool)=>(True ∧ (True ∧ ((True ∧ ((True ∧ (True ∧ True)) ∧ ((((k : Nat) : Int) ≤ 60) ∧ (0 ≤ c ∧ c ≤ 4611686018427387904)))) ∧ ((True ∧ (True ∧ True)) ∧ (True ∧ ((Z1 = true → True) ∧ ((Z1 = true → True) ∧ ((Z1 = true → (((Z1 = true) ∧ True) ∧ (((Z1 = true) ∧ True) ∧ ((0 ≤ ((k : Nat) : Int)) ∧ (((k : Nat) : Int) < (h.length : Int)))))) ∧ ((Z1 = true → ((Z1 = true) ∧ True)) ∧ ((Z1 = true → ((Z1 = true) ∧ True)) ∧ ((Z1 = true → True) ∧ ((Z1 = true → (((Z1 = true) ∧ True) ∧ (((Z1 = true) ∧ True) ∧ True))) ∧ ((True ∧ ((Z1 = true → (Z1 = true) ∧ True) ∧ (Z1 = false → True))) ∧ True)))))))))))))) (decide ((bitOf c ((k : Nat) : Int)) = (1 : Int))))
      ⟨tt,tt,⟨tt,⟨tt,tt,tt⟩,(by omega),(by omega)⟩,⟨tt,tt,tt⟩,tt,(fun _ => trivial),(fun _ => trivial),(fun hG => ⟨⟨hG,tt⟩,⟨hG,tt⟩,(by have hg0 : (bitOf c ((k : Nat) : Int)) = (1 : Int) := of_decide_eq_true hG; omega),(by have hg0 : (bitOf c ((k : Nat) : Int)) = (1 : Int) := of_decide_eq_true hG; omega)⟩),(fun hG => ⟨hG,tt⟩),(fun hG => ⟨hG,tt⟩),(fun _ => trivial),(fun hG => ⟨⟨hG,tt⟩,⟨hG,tt⟩,tt⟩),⟨tt,(fun hp => ⟨hp,tt⟩),(fun _ => trivial)⟩,tt⟩ ?_
     refine W.if' ((decide ((bitOf c ((k : Nat) : Int)) = (1 : Int))) && (decide (((h.getD k default).proc) = ((p : Nat) : Int)))) (.b ((decide ((bitOf c ((k : Nat) : Int)) = (1 : Int))) && (decide (((h.getD k default).proc) = ((p : Nat) : Int))))) (by kernel_rfl) rfl trivial ?_ ?_
     ·intro h32
      have h32_0 : (bitOf c ((k : Nat) : Int)) = (1 : Int) := of_decide_eq_true (and_l h32)
      have h32_1 : ((h.getD k default).proc) = ((p : Nat) : Int) := of_decide_eq_true (and_r h32)
      refine Lk cok tab29 hnt [] (⟨[(0,.sl (.events h)),(1,.i mk),(2,.i c),(7,.i ((p : Nat) : Int)),(8,.i ((k : Nat) : Int)),(9,.i ((k : Nat) : Int)),(32,.b ((decide ((bitOf c ((k : Nat) : Int)) = (1 : Int))) && (decide (((h.getD k default).proc) = ((p : Nat) : Int))))),(33,.i ((k : Nat) : Int))],[],[999]⟩)
       (True ∧ True ∧ True)
       ⟨tt,tt,tt⟩ ?_
      refine blockQ_normal (thenQ_normal ?_)
      refine Lk cok tab29 hnt [] (⟨[(0,.sl (.events h)),(1,.i mk),(2,.i c),(7,.i ((p : Nat) : Int)),(8,.i ((k : Nat) : Int)),(9,.i (((k + 1) : Nat) : Int)),(18,.i ((k : Nat) : Int)),(19,.i (((k + 1) : Nat) : Int)),(32,.b ((decide ((bitOf c ((k : Nat) : Int)) = (1 : Int))) && (decide (((h.getD k default).proc) = ((p : Nat) : Int))))),(33,.i ((k : Nat) : Int))],[],[999]⟩)
       (True ∧ (True ∧ True ∧ (Fits .i64 (((k + 1) : Nat) : Int))) ∧ True ∧ True)
       ⟨tt,⟨tt,tt,(by exact fits_i64 (by omega) (by omega))⟩,tt,tt⟩ ?_
      refine thenQ_normal ?_
      refine ⟨(((k : Nat) : Int),(k + 1)),(show ((k + 1) ≤ h.length) ∧ (((k : Nat) : Int) = lastE h c.toNat ((p : Nat) : Int) (k + 1)) from ⟨(by first | assumption | omega | rfl | (intro _ hjj; omega) | (simp; done) | (simp; omega)),(by first | exact (lastS hc.1 h32).symm | (rw [hx]; exact (lastS hc.1 n32).symm))⟩),(show h.length - (k + 1) < h.length - k from (by first | omega | (simp_all; omega))),?_⟩
      exact Sub.of [] (@cast (((Sd (.events h)) ∧ (Si mk) ∧ (Si c) ∧ (Si ((p : Nat) : Int)) ∧ (Si ((k : Nat) : Int)) ∧ (Si (((k + 1) : Nat) : Int)) ∧ True) ∧ True ∧ (true = true) ∧ (true = true)) _ (by kernel_rfl) ⟨⟨rfl,rfl,rfl,rfl,rfl,rfl,tt⟩,tt,rfl,rfl⟩)
     ·intro n32
      refine W.skip (blockQ_normal (thenQ_normal ?_))
      refine Lk cok tab29 hnt [] (⟨[(0,.sl (.events h)),(1,.i mk),(2,.i c),(7,.i ((p : Nat) : Int)),(8,.i x),(9,.i (((k + 1) : Nat) : Int)),(18,.i ((k : Nat) : Int)),(19,.i (((k + 1) : Nat) : Int)),(32,.b ((decide ((bitOf c ((k : Nat) : Int)) = (1 : Int))) && (decide (((h.getD k default).proc) = ((p : Nat) : Int)))))],[],[999]⟩)
       (True ∧ (True ∧ True ∧ (Fits .i64 (((k + 1) : Nat) : Int))) ∧ True ∧ True)
       ⟨tt,⟨tt,tt,(by exact fits_i64 (by omega) (by omega))⟩,tt,tt⟩ ?_
      refine thenQ_normal ?_
      refine ⟨(x,(k + 1)),(show ((k + 1) ≤ h.length) ∧ (x = lastE h c.toNat ((p : Nat) : Int) (k + 1)) from ⟨(by first | assumption | omega | rfl | (intro _ hjj; omega) | (simp; done) | (simp; omega)),(by first | exact (lastS hc.1 h32).symm | (rw [hx]; exact (lastS hc.1 n32).symm))⟩),(show h.length - (k + 1) < h.length - k from (by first | omega | (simp_all; omega))),?_⟩
      exact Sub.of [] (@cast (((Sd (.events h)) ∧ (Si mk) ∧ (Si c) ∧ (Si ((p : Nat) : Int)) ∧ (Si x) ∧ (Si (((k + 1) : Nat) : Int)) ∧ True) ∧ True ∧ (true = true) ∧ (true = true)) _ (by kernel_rfl) ⟨⟨rfl,rfl,rfl,rfl,rfl,rfl,tt⟩,tt,rfl,rfl⟩)
    ·intro n17
     refine W.exit (thenQ_exit (thenQ_exit (blockQ_hit ?_)))
     refine thenQ_normal ?_
     refine Kk cok tab29 hnt [] [0,1,2,7,41] (⟨[(0,.sl (.events h)),(1,.i mk),(2,.i c),(7,.i ((p : Nat) : Int)),(41,.b ((decide (x < (0 : Int))) || (decide ((bitOf mk x) = (0 : Int)))))],[],[999]⟩)
      ((fun (Z1:Bool)=>(True ∧ ((True ∧ (True ∧ True)) ∧ (True ∧ (((!Z1) = true → True) ∧ (((!Z1) = true → True) ∧ (((!Z1) = true → (True ∧ (((((!Z1) = true) ∧ True) ∧ ((((!Z1) = true) ∧ True) ∧ True)) ∧ ((x ≤ 60) ∧ (0 ≤ mk ∧ mk ≤ 4611686018427387904))))) ∧ (((!Z1) = true → ((((!Z1) = true) ∧ True) ∧ (True ∧ True))) ∧ ((True ∧ ((Z1 = true → True) ∧ (Z1 = false → ((!Z1) = true) ∧ True))) ∧ True))))))))) (decide (x < (0 : Int))))
      ⟨tt,⟨tt,tt,tt⟩,tt,(fun _ => trivial),(fun _ => trivial),(fun hG => ⟨tt,⟨⟨hG,tt⟩,⟨hG,tt⟩,tt⟩,(by have hg0 : ¬ (x < (0 : Int)) := of_decide_eq_false (not_f hG); omega),(by have hg0 : ¬ (x < (0 : Int)) := of_decide_eq_false (not_f hG); omega)⟩),(fun hG => ⟨⟨hG,tt⟩,tt,tt⟩),⟨tt,(fun _ => trivial),(fun hp => ⟨(not_t hp),tt⟩)⟩,tt⟩ ?_
     refine W.if' ((decide (x < (0 : Int))) || (decide ((bitOf mk x) = (0 : Int)))) (.b ((decide (x < (0 : Int))) || (decide ((bitOf mk x) = (0 : Int))))) (by kernel_rfl) rfl trivial ?_ ?_
     ·intro h41
      refine Kk cok tab29 hnt [] [6] (⟨[(6,.b false)],[],[999]⟩)
       (True ∧ True)
       ⟨tt,tt⟩ ?_
      refine W.ret (blockQ_ret (thenQ_ret (thenQ_ret (blockQ_ret (thenQ_ret ?_)))))
      exact endQ_ret (.b false) (by kernel_rfl) (@cast ((.bool false : Value) = .bool (markedE h mk.toNat c.toNat)) _ (by kernel_rfl) (congrArg Value.bool (by rw [show k = h.length by omega] at hx; exact (allN_false (i := p) (by omega) (markS hm.1 hx h41)).symm)))
     ·intro n41
      have n41_0 : ¬ (x < (0 : Int)) := of_decide_eq_false (or_l n41)
      have n41_1 : ¬ ((bitOf mk x) = (0 : Int)) := of_decide_eq_false (or_r n41)
      refine W.skip (blockQ_normal (thenQ_normal ?_))
      refine Lk cok tab29 hnt [] (⟨[(0,.sl (.events h)),(1,.i mk),(2,.i c),(7,.i (((p + 1) : Nat) : Int)),(12,.i ((p : Nat) : Int)),(13,.i (((p + 1) : Nat) : Int)),(41,.b ((decide (x < (0 : Int))) || (decide ((bitOf mk x) = (0 : Int)))))],[],[999]⟩)
       (True ∧ (True ∧ True ∧ (Fits .i64 (((p + 1) : Nat) : Int))) ∧ True ∧ True)
       ⟨tt,⟨tt,tt,(by exact fits_i64 (by omega) (by omega))⟩,tt,tt⟩ ?_
      refine thenQ_normal ?_
      refine ⟨((p + 1)),(show ((p + 1) ≤ 3) ∧ (∀ j,j < (p + 1) → markedAt h mk.toNat c.toNat j = true) from ⟨(by first | assumption | omega | rfl | (intro _ hjj; omega) | (simp; done) | (simp; omega)),(by rw [show k = h.length by omega] at hx; exact upto_succ hA (markS hm.1 hx n41))⟩),(show 3 - (p + 1) < 3 - p from (by first | omega | (simp_all; omega))),?_⟩
      exact Sub.of [] (@cast (((Sd (.events h)) ∧ (Si mk) ∧ (Si c) ∧ (Si (((p + 1) : Nat) : Int)) ∧ True) ∧ True ∧ (true = true) ∧ (true = true)) _ (by kernel_rfl) ⟨⟨rfl,rfl,rfl,rfl,tt⟩,tt,rfl,rfl⟩)
  ·intro n11
   refine W.exit (thenQ_exit (thenQ_exit (blockQ_hit ?_)))
   refine thenQ_normal ?_
   refine Kk cok tab29 hnt [] [6] (⟨[(6,.b true)],[],[999]⟩)
    (True ∧ True)
    ⟨tt,tt⟩ ?_
   refine W.ret ?_
   exact endQ_ret (.b true) (by kernel_rfl) (@cast ((.bool true : Value) = .bool (markedE h mk.toNat c.toNat)) _ (by kernel_rfl) (congrArg Value.bool (by exact (allN_true (fun j hj => hA j (by omega))).symm)))
theorem ent29 : Entr prog 29 := ⟨_,func29,rfl,by decide⟩
end Go.Proofs.Try

set_option linter.unusedSimpArgs false
set_option linter.unusedVariables false
namespace Go.Proofs.Try
open Go.Ab Go.RowKit
def fs8 : FnS := fnS [.s .events,.o] [.events,.int] (fun _ (h,mk,_) => (.sl (.ints (mkCuts h mk)),[],True))
abbrev T8 : Tab := lk [(19,fs19),(26,fs26),(27,fs27),(28,fs28),(29,fs29)]
theorem tab8 : TabOK prog T8 := (TabOK.cons ok19 ent19 (TabOK.cons ok26 ent26 (TabOK.cons ok27 ent27 (TabOK.cons ok28 ent28 (TabOK.cons ok29 ent29 TabOK.nil)))))
set_option maxRecDepth 100000 in
set_option maxHeartbeats 1000000 in
theorem ok8 : FnOK prog 8 fs8 := by
 refine FnOK.mk cok func8 rfl rfl rfl ?_
 rintro fl ⟨(h : List EventD),(mk : Int),_⟩ hpre F hnt0 _
 have hnt : F.nt = 44 := hnt0.trans ntmps8
 clear hpre
 refine W.to (⟨[(0,.sl (.events h)),(1,.i mk)],[],[999]⟩) rfl ?_
 refine W.lenOf 0 (.events h) (by kernel_rfl) ?_
 intro hl_h; replace hl_h : List.length h ≤ 9223372036854775807 := hl_h
 refine Kk cok tab8 hnt [] [0,1] (⟨[(0,.sl (.events h)),(1,.i mk)],[],[999]⟩)
  (True ∧ True)
  ⟨tt,tt⟩ ?_
 refine W.seq ?_
 refine Kk cok tab8 hnt [] [0,1,19] (⟨[(0,.sl (.events h)),(1,.i mk),(19,.b ((!(validE h)) || (!(within mk (0 : Int) ((power (h.length : Int)) - (1 : Int))))))],[],[999]⟩)
  ((fun (Z1:Bool)=>(True ∧ ((True ∧ ((True ∧ True) ∧ True)) ∧ (True ∧ (True ∧ (((!Z1) = true → True) ∧ (((!Z1) = true → True) ∧ (((!Z1) = true → (((!Z1) = true) ∧ True)) ∧ (((!Z1) = true → (True ∧ (((((!Z1) = true) ∧ True) ∧ True) ∧ ((h.length : Int) ≤ 60)))) ∧ (((!Z1) = true → ((((!Z1) = true) ∧ True) ∧ (True ∧ (Fits .i64 ((power (h.length : Int)) - (1 : Int)))))) ∧ (((!Z1) = true → (True ∧ (((((!Z1) = true) ∧ True) ∧ (True ∧ ((((!Z1) = true) ∧ True) ∧ True))) ∧ True))) ∧ (((!Z1) = true → (((!Z1) = true) ∧ True)) ∧ ((True ∧ ((Z1 = true → True) ∧ (Z1 = false → ((!Z1) = true) ∧ True))) ∧ True))))))))))))) (!(validE h)))
  ⟨tt,⟨tt,⟨tt,tt⟩,tt⟩,tt,tt,(fun _ => trivial),(fun _ => trivial),(fun hG => ⟨hG,tt⟩),(fun hG => ⟨tt,⟨⟨hG,tt⟩,tt⟩,(by first | omega | (have hn : h.length ≤ 7 := of_decide_eq_true (and_l (show validE h = true by simpa using hG)); omega))⟩),(fun hG => ⟨⟨hG,tt⟩,tt,(by have hn : h.length ≤ 7 := of_decide_eq_true (and_l (show validE h = true by simpa using hG)); have hp7 := Nat.pow_le_pow_right (show 0 < 2 by omega) hn; have hp0 := Nat.pow_pos (n := h.length) (show 0 < 2 by omega); rw [power_nat]; exact fits_i64 (by omega) (by omega))⟩),(fun hG => ⟨tt,⟨⟨hG,tt⟩,tt,⟨hG,tt⟩,tt⟩,tt⟩),(fun hG => ⟨hG,tt⟩),⟨tt,(fun _ => trivial),(fun hp => ⟨(not_t hp),tt⟩)⟩,tt⟩ ?_
 refine W.if' ((!(validE h)) || (!(within mk (0 : Int) ((power (h.length : Int)) - (1 : Int))))) (.b ((!(validE h)) || (!(within mk (0 : Int) ((power (h.length : Int)) - (1 : Int)))))) (by kernel_rfl) rfl trivial ?_ ?_
 ·intro h19
  refine Kk cok tab8 hnt [] [4] (⟨[(4,.v (.slice none 0 0))],[],[999]⟩)
   (True ∧ True)
   ⟨tt,tt⟩ ?_
  refine W.ret (thenQ_ret ?_)
  exact endQ_ret (.v (.slice none 0 0)) (by kernel_rfl) (@cast (((Value.slice none 0 0 : Value) = .slice none 0 0) ∧ ((Dat.ints (mkCuts h mk)).len = 0)) _ (by kernel_rfl) ⟨rfl,(by show List.length (mkCuts h mk) = 0; first | exact mk_no (spec_noset h19) | exact mk_no0 (spec_noset h19))⟩)
 ·intro n19
  have hs : isSetE h mk = true := spec_set n19
  have hss := set_small hs
  have hmb := set_bnd hs
  have hp7 := Nat.pow_le_pow_right (show 0 < 2 by omega) hss.1
  have hcl := cutsN_len h (2 ^ h.length)
  refine W.skip (thenQ_normal ?_)
  refine Kk cok tab8 hnt [20] [0,1,5] (⟨[(0,.sl (.events h)),(1,.i mk),(5,.own 20 (List.length ([] : List Int)))],[(20,⟨3,.row (.ints ([] : List Int))⟩)],[20,999]⟩)
   (True ∧ True ∧ True)
   ⟨tt,tt,tt⟩ ?_
  refine Kk cok tab8 hnt [] [0,1,5,6] (⟨[(0,.sl (.events h)),(1,.i mk),(5,.own 20 (List.length ([] : List Int))),(6,.sl (.ints (cutsN h (2 ^ h.length))))],[(20,⟨3,.row (.ints ([] : List Int))⟩)],[20,999]⟩)
   (True ∧ (True ∧ (True ∧ True) ∧ (h.length ≤ 7)) ∧ True ∧ True)
   ⟨tt,⟨tt,⟨tt,tt⟩,(by omega)⟩,tt,tt⟩ ?_
  refine W.seq ?_
  refine Kk cok tab8 hnt [] [0,1,5,6,7] (⟨[(0,.sl (.events h)),(1,.i mk),(5,.own 20 (List.length ([] : List Int))),(6,.sl (.ints (cutsN h (2 ^ h.length)))),(7,.i (0 : Int))],[(20,⟨3,.row (.ints ([] : List Int))⟩)],[20,999]⟩)
   (True ∧ True)
   ⟨tt,tt⟩ ?_
  refine W.block ?_
  refine W.loop (ι := Nat × (List Int)) (fun (x : Nat × (List Int)) => match x with | (i,o) => (⟨[(0,.sl (.events h)),(1,.i mk),(5,.own 20 o.length),(6,.sl (.ints (cutsN h (2 ^ h.length)))),(7,.i ((i : Nat) : Int))],[(20,⟨3,.row (.ints o)⟩)],[20,999]⟩ : St))
   (fun (x : Nat × (List Int)) => match x with | (i,o) => (i ≤ (cutsN h (2 ^ h.length)).length) ∧ (o = mkUp h mk i))
   (fun (x : Nat × (List Int)) => match x with | (i,o) => ((cutsN h (2 ^ h.length)).length - i : Nat)) (0,([] : List Int)) ?_ ?_ ?_
  ·exact (show (0 ≤ (cutsN h (2 ^ h.length)).length) ∧ (([] : List Int) = mkUp h mk 0) from ⟨(by first | assumption | omega | rfl | (intro _ hjj; omega) | (simp; done) | (simp; omega)),(by rfl)⟩)
  ·exact Sub.of [] (@cast (((Sd (.events h)) ∧ (Si mk) ∧ (((20 : Nat) = 20) ∧ ((List.length ([] : List Int)) = (List.length ([] : List Int))) ∧ ((20 : Nat) ∈ ([20,999] : List Nat))) ∧ (Sd (.ints (cutsN h (2 ^ h.length)))) ∧ ((.int .i64 (0 : Int) : Value) = .int .i64 ((0 : Nat) : Int)) ∧ True) ∧ ((((3 : Nat) = 3) ∧ (Sd (.ints ([] : List Int))) ∧ ((20 : Nat) ∈ ([20,999] : List Nat))) ∧ True) ∧ (true = true) ∧ (true = true)) _ (by kernel_rfl) ⟨⟨rfl,rfl,⟨rfl,rfl,(by decide)⟩,rfl,(congrArg (Value.int .i64) (by first | rfl | omega | assumption | simp | simp_all)),tt⟩,⟨⟨rfl,rfl,(by decide)⟩,tt⟩,rfl,rfl⟩)
  ·rintro ⟨i,o⟩ hC0
   have hC : (i ≤ (cutsN h (2 ^ h.length)).length) ∧ (o = mkUp h mk i) := hC0
   clear hC0
   obtain ⟨hi,ho⟩ := hC
   refine W.to (⟨[(0,.sl (.events h)),(1,.i mk),(5,.own 20 o.length),(6,.sl (.ints (cutsN h (2 ^ h.length)))),(7,.i ((i : Nat) : Int))],[(20,⟨3,.row (.ints o)⟩)],[20,999]⟩) rfl ?_
   have hol : o.length ≤ i := by rw [ho]; exact mkUp_len h mk i
   refine W.seq ?_
   refine Kk cok tab8 hnt [] [0,1,5,6,7,26] (⟨[(0,.sl (.events h)),(1,.i mk),(5,.own 20 o.length),(6,.sl (.ints (cutsN h (2 ^ h.length)))),(7,.i ((i : Nat) : Int)),(26,.b (decide (((i : Nat) : Int) < (((List.length (cutsN h (2 ^ h.length))) : Nat) : Int))))],[(20,⟨3,.row (.ints o)⟩)],[20,999]⟩)
    (True ∧ True ∧ True ∧ (True ∧ True ∧ True) ∧ True)
    ⟨tt,tt,tt,⟨tt,tt,tt⟩,tt⟩ ?_
   refine W.ifP (((i : Nat) : Int) < (((List.length (cutsN h (2 ^ h.length))) : Nat) : Int)) (.b (decide (((i : Nat) : Int) < (((List.length (cutsN h (2 ^ h.length))) : Nat) : Int)))) (by kernel_rfl) rfl trivial ?_ ?_
   ·intro h26
    refine W.skip (thenQ_normal ?_)
    refine W.seq ?_
    refine W.block ?_
    refine Kk cok tab8 hnt [] [0,1,5,6,7,35] (⟨[(0,.sl (.events h)),(1,.i mk),(5,.own 20 o.length),(6,.sl (.ints (cutsN h (2 ^ h.length)))),(7,.i ((i : Nat) : Int)),(35,.b (markedE h mk.toNat (List.getD (cutsN h (2 ^ h.length)) i 0).toNat))],[(20,⟨3,.row (.ints o)⟩)],[20,999]⟩)
     (True ∧ True ∧ True ∧ True ∧ (True ∧ True ∧ (0 ≤ ((i : Nat) : Int)) ∧ (((i : Nat) : Int) < (((List.length (cutsN h (2 ^ h.length))) : Nat) : Int))) ∧ True ∧ (True ∧ (True ∧ True ∧ True ∧ True) ∧ (h.length ≤ 60) ∧ (0 ≤ (List.getD (cutsN h (2 ^ h.length)) i 0) ∧ (List.getD (cutsN h (2 ^ h.length)) i 0) < 4611686018427387904) ∧ 0 ≤ mk ∧ mk < 4611686018427387904) ∧ True)
     ⟨tt,tt,tt,tt,⟨tt,tt,(by omega),(by omega)⟩,tt,⟨tt,⟨tt,tt,tt,tt⟩,(by first | omega | (have hn : h.length ≤ 7 := of_decide_eq_true (and_l (show validE h = true by simpa using hG)); omega)),(by have h9 := cuts_small hss.1 (i := i) (by omega); omega),(by omega)⟩,tt⟩ ?_
    refine W.if' (markedE h mk.toNat (List.getD (cutsN h (2 ^ h.length)) i 0).toNat) (.b (markedE h mk.toNat (List.getD (cutsN h (2 ^ h.length)) i 0).toNat)) (by kernel_rfl) rfl trivial ?_ ?_
    ·intro h35
     refine Lk cok tab8 hnt [42] (⟨[(0,.sl (.events h)),(1,.i mk),(5,.own 42 (List.length (o ++ ([(List.getD (cutsN h (2 ^ h.length)) i 0)])))),(6,.sl (.ints (cutsN h (2 ^ h.length)))),(7,.i ((i : Nat) : Int)),(35,.b (markedE h mk.toNat (List.getD (cutsN h (2 ^ h.length)) i 0).toNat)),(36,.own 20 o.length),(37,.sl (.ints (cutsN h (2 ^ h.length)))),(38,.i ((i : Nat) : Int)),(39,.ep [.i (List.getD (cutsN h (2 ^ h.length)) i 0)]),(40,.i (List.getD (cutsN h (2 ^ h.length)) i 0)),(41,.sl (.ints ([(List.getD (cutsN h (2 ^ h.length)) i 0)]))),(42,.own 42 (List.length (o ++ ([(List.getD (cutsN h (2 ^ h.length)) i 0)]))))],[(42,⟨3,.row (.ints (o ++ ([(List.getD (cutsN h (2 ^ h.length)) i 0)])))⟩)],[42,41,20,999]⟩)
      (True ∧ True ∧ True ∧ (True ∧ True ∧ (0 ≤ ((i : Nat) : Int)) ∧ (((i : Nat) : Int) < (((List.length (cutsN h (2 ^ h.length))) : Nat) : Int))) ∧ True ∧ (True ∧ True) ∧ ((True ∧ (o.length = o.length)) ∧ True ∧ ((o.length + (List.length ([(List.getD (cutsN h (2 ^ h.length)) i 0)]))) * 8 ≤ 140737488355328)) ∧ True ∧ True)
      ⟨tt,tt,tt,⟨tt,tt,(by omega),(by omega)⟩,tt,⟨tt,tt⟩,⟨⟨tt,rfl⟩,tt,(by (try simp only [List.length_append,List.length_cons,List.length_nil]); omega)⟩,tt,tt⟩ ?_
     refine blockQ_normal (thenQ_normal ?_)
     refine Lk cok tab8 hnt [] (⟨[(0,.sl (.events h)),(1,.i mk),(5,.own 42 (List.length (o ++ ([(List.getD (cutsN h (2 ^ h.length)) i 0)])))),(6,.sl (.ints (cutsN h (2 ^ h.length)))),(7,.i (((i + 1) : Nat) : Int)),(27,.i ((i : Nat) : Int)),(28,.i (((i + 1) : Nat) : Int)),(35,.b (markedE h mk.toNat (List.getD (cutsN h (2 ^ h.length)) i 0).toNat)),(36,.own 20 o.length),(37,.sl (.ints (cutsN h (2 ^ h.length)))),(38,.i ((i : Nat) : Int)),(39,.ep [.i (List.getD (cutsN h (2 ^ h.length)) i 0)]),(40,.i (List.getD (cutsN h (2 ^ h.length)) i 0)),(41,.sl (.ints ([(List.getD (cutsN h (2 ^ h.length)) i 0)]))),(42,.own 42 (List.length (o ++ ([(List.getD (cutsN h (2 ^ h.length)) i 0)]))))],[(42,⟨3,.row (.ints (o ++ ([(List.getD (cutsN h (2 ^ h.length)) i 0)])))⟩)],[42,41,20,999]⟩)
      (True ∧ (True ∧ True ∧ (Fits .i64 (((i + 1) : Nat) : Int))) ∧ True ∧ True)
      ⟨tt,⟨tt,tt,(by exact fits_i64 (by omega) (by omega))⟩,tt,tt⟩ ?_
     refine thenQ_normal ?_
     refine ⟨((i + 1),(o ++ ([(List.getD (cutsN h (2 ^ h.length)) i 0)]))),(show ((i + 1) ≤ (cutsN h (2 ^ h.length)).length) ∧ ((o ++ ([(List.getD (cutsN h (2 ^ h.length)) i 0)])) = mkUp h mk (i + 1)) from ⟨(by first | assumption | omega | rfl | (intro _ hjj; omega) | (simp; done) | (simp; omega)),(by first | exact mkUp_yes ho (by omega) h35 | exact mkUp_no ho (by omega) n35)⟩),(show (cutsN h (2 ^ h.length)).length - (i + 1) < (cutsN h (2 ^ h.length)).length - i from (by first | omega | (simp_all; omega))),?_⟩
     exact Sub.of [(20,42)] (@cast (((Sd (.events h)) ∧ (Si mk) ∧ (((42 : Nat) = 42) ∧ ((List.length (o ++ ([(List.getD (cutsN h (2 ^ h.length)) i 0)]))) = (List.length (o ++ ([(List.getD (cutsN h (2 ^ h.length)) i 0)])))) ∧ ((20 : Nat) ∈ ([20,999] : List Nat))) ∧ (Sd (.ints (cutsN h (2 ^ h.length)))) ∧ (Si (((i + 1) : Nat) : Int)) ∧ True) ∧ ((((3 : Nat) = 3) ∧ (Sd (.ints (o ++ ([(List.getD (cutsN h (2 ^ h.length)) i 0)])))) ∧ ((20 : Nat) ∈ ([20,999] : List Nat))) ∧ True) ∧ (true = true) ∧ (true = true)) _ (by kernel_rfl) ⟨⟨rfl,rfl,⟨rfl,rfl,(by decide)⟩,rfl,rfl,tt⟩,⟨⟨rfl,rfl,(by decide)⟩,tt⟩,rfl,rfl⟩)
    ·intro n35
     refine W.skip (blockQ_normal (thenQ_normal ?_))
     refine Lk cok tab8 hnt [] (⟨[(0,.sl (.events h)),(1,.i mk),(5,.own 20 o.length),(6,.sl (.ints (cutsN h (2 ^ h.length)))),(7,.i (((i + 1) : Nat) : Int)),(27,.i ((i : Nat) : Int)),(28,.i (((i + 1) : Nat) : Int)),(35,.b (markedE h mk.toNat (List.getD (cutsN h (2 ^ h.length)) i 0).toNat))],[(20,⟨3,.row (.ints o)⟩)],[20,999]⟩)
      (True ∧ (True ∧ True ∧ (Fits .i64 (((i + 1) : Nat) : Int))) ∧ True ∧ True)
      ⟨tt,⟨tt,tt,(by exact fits_i64 (by omega) (by omega))⟩,tt,tt⟩ ?_
     refine thenQ_normal ?_
     refine ⟨((i + 1),o),(show ((i + 1) ≤ (cutsN h (2 ^ h.length)).length) ∧ (o = mkUp h mk (i + 1)) from ⟨(by first | assumption | omega | rfl | (intro _ hjj; omega) | (simp; done) | (simp; omega)),(by first | exact mkUp_yes ho (by omega) h35 | exact mkUp_no ho (by omega) n35)⟩),(show (cutsN h (2 ^ h.length)).length - (i + 1) < (cutsN h (2 ^ h.length)).length - i from (by first | omega | (simp_all; omega))),?_⟩
     exact Sub.of [] (@cast (((Sd (.events h)) ∧ (Si mk) ∧ (((20 : Nat) = 20) ∧ (o.length = o.length) ∧ ((20 : Nat) ∈ ([20,999] : List Nat))) ∧ (Sd (.ints (cutsN h (2 ^ h.length)))) ∧ (Si (((i + 1) : Nat) : Int)) ∧ True) ∧ ((((3 : Nat) = 3) ∧ (Sd (.ints o)) ∧ ((20 : Nat) ∈ ([20,999] : List Nat))) ∧ True) ∧ (true = true) ∧ (true = true)) _ (by kernel_rfl) ⟨⟨rfl,rfl,⟨rfl,rfl,(by decide)⟩,rfl,rfl,tt⟩,⟨⟨rfl,rfl,(by decide)⟩,tt⟩,rfl,rfl⟩)
   ·intro n26
    refine W.exit (thenQ_exit (thenQ_exit (blockQ_hit ?_)))
    refine thenQ_normal ?_
    refine Kk cok tab8 hnt [] [4] (⟨[(4,.own 20 o.length)],[(20,⟨3,.row (.ints o)⟩)],[20,999]⟩)
     (True ∧ True ∧ True)
     ⟨tt,tt,tt⟩ ?_
    refine W.ret ?_
    exact endQ_ret (.own 20 o.length) (by kernel_rfl) (@cast ((o.length = o.length) ∧ ((.ints o : Dat) = .ints (mkCuts h mk)) ∧ ((20 : Nat) ∉ ([] : List Nat))) _ (by kernel_rfl) ⟨rfl,⟨(congrArg Dat.ints (by rw [mk_all hs ho (by omega)])),(by decide)⟩⟩)
theorem ent8 : Entr prog 8 := ⟨_,func8,rfl,by decide⟩
end Go.Proofs.Try

set_option linter.unusedSimpArgs false
set_option linter.unusedVariables false
namespace Go.Proofs.Try
open Go.Ab Go.RowKit
def fs7 : FnS := fnS [.s .ints,.s .ints] [.ints,.ints] (fun _ (a,b,_) => (.b (decide (a = b)),[],True))
abbrev T7 : Tab := lk []
theorem tab7 : TabOK prog T7 := TabOK.nil
set_option maxRecDepth 100000 in
set_option maxHeartbeats 1000000 in
theorem ok7 : FnOK prog 7 fs7 := by
 refine FnOK.mk cok func7 rfl rfl rfl ?_
 rintro fl ⟨(a : List Int),(b : List Int),_⟩ hpre F hnt0 _
 have hnt : F.nt = 26 := hnt0.trans ntmps7
 clear hpre
 refine W.to (⟨[(0,.sl (.ints a)),(1,.sl (.ints b))],[],[999]⟩) rfl ?_
 refine W.lenOf 0 (.ints a) (by kernel_rfl) ?_
 intro hl_a; replace hl_a : List.length a ≤ 9223372036854775807 := hl_a
 refine W.lenOf 1 (.ints b) (by kernel_rfl) ?_
 intro hl_b; replace hl_b : List.length b ≤ 9223372036854775807 := hl_b
 refine Kk cok tab7 hnt [] [0,1] (⟨[(0,.sl (.ints a)),(1,.sl (.ints b))],[],[999]⟩)
  (True ∧ True)
  ⟨tt,tt⟩ ?_
 refine W.seq ?_
 refine Kk cok tab7 hnt [] [0,1,10] (⟨[(0,.sl (.ints a)),(1,.sl (.ints b)),(10,.b (decide ((a.length : Int) ≠ (b.length : Int))))],[],[999]⟩)
  (True ∧ True ∧ True ∧ True ∧ (True ∧ True ∧ True) ∧ True)
  ⟨tt,tt,tt,tt,⟨tt,tt,tt⟩,tt⟩ ?_
 refine W.ifP ((a.length : Int) ≠ (b.length : Int)) (.b (decide ((a.length : Int) ≠ (b.length : Int)))) (by kernel_rfl) rfl trivial ?_ ?_
 ·intro h10
  refine Kk cok tab7 hnt [] [4] (⟨[(4,.b false)],[],[999]⟩)
   (True ∧ True)
   ⟨tt,tt⟩ ?_
  refine W.ret (thenQ_ret ?_)
  exact endQ_ret (.b false) (by kernel_rfl) (@cast ((.bool false : Value) = .bool (decide (a = b))) _ (by kernel_rfl) (congrArg Value.bool (by symm; exact decide_eq_false (fun e => h10 (by rw [e])))))
 ·intro n10
  refine W.skip (thenQ_normal ?_)
  refine W.seq ?_
  refine Kk cok tab7 hnt [] [0,1,5] (⟨[(0,.sl (.ints a)),(1,.sl (.ints b)),(5,.i (0 : Int))],[],[999]⟩)
   (True ∧ True)
   ⟨tt,tt⟩ ?_
  refine W.block ?_
  refine W.loop (ι := Nat) (fun (i : Nat) => (⟨[(0,.sl (.ints a)),(1,.sl (.ints b)),(5,.i ((i : Nat) : Int))],[],[999]⟩ : St))
   (fun (i : Nat) => (i ≤ a.length) ∧ (∀ j,j < i → a.getD j 0 = b.getD j 0))
   (fun (i : Nat) => (a.length - i : Nat)) (0) ?_ ?_ ?_
  ·exact (show (0 ≤ a.length) ∧ (∀ j,j < 0 → a.getD j 0 = b.getD j 0) from ⟨(by first | assumption | omega | rfl | (intro _ hjj; omega) | (simp; done) | (simp; omega)),(by exact upto_zero)⟩)
  ·exact Sub.of [] (@cast (((Sd (.ints a)) ∧ (Sd (.ints b)) ∧ ((.int .i64 (0 : Int) : Value) = .int .i64 ((0 : Nat) : Int)) ∧ True) ∧ True ∧ (true = true) ∧ (true = true)) _ (by kernel_rfl) ⟨⟨rfl,rfl,(congrArg (Value.int .i64) (by first | rfl | omega | assumption | simp | simp_all)),tt⟩,tt,rfl,rfl⟩)
  ·rintro i hC0
   have hC : (i ≤ a.length) ∧ (∀ j,j < i → a.getD j 0 = b.getD j 0) := hC0
   clear hC0
   obtain ⟨hi,hA⟩ := hC
   refine W.to (⟨[(0,.sl (.ints a)),(1,.sl (.ints b)),(5,.i ((i : Nat) : Int))],[],[999]⟩) rfl ?_
   refine W.seq ?_
   refine Kk cok tab7 hnt [] [0,1,5,14] (⟨[(0,.sl (.ints a)),(1,.sl (.ints b)),(5,.i ((i : Nat) : Int)),(14,.b (decide (((i : Nat) : Int) < (a.length : Int))))],[],[999]⟩)
    (True ∧ True ∧ True ∧ (True ∧ True ∧ True) ∧ True)
    ⟨tt,tt,tt,⟨tt,tt,tt⟩,tt⟩ ?_
   refine W.ifP (((i : Nat) : Int) < (a.length : Int)) (.b (decide (((i : Nat) : Int) < (a.length : Int)))) (by kernel_rfl) rfl trivial ?_ ?_
   ·intro h14
    refine W.skip (thenQ_normal ?_)
    refine W.seq ?_
    refine W.block ?_
    refine W.KA cok tab7 hnt [] [0,1,5,25] (⟨[(0,.sl (.ints a)),(1,.sl (.ints b)),(5,.i ((i : Nat) : Int)),(25,.b (decide ((a.getD i 0) ≠ (b.getD i 0))))],[],[999]⟩)
     (True ∧ True ∧ (True ∧ True ∧ (0 ≤ ((i : Nat) : Int)) ∧ (((i : Nat) : Int) < (a.length : Int))) ∧ True ∧ True ∧ True ∧ (True ∧ True ∧ (0 ≤ ((i : Nat) : Int)) ∧ (((i : Nat) : Int) < (b.length : Int))) ∧ True ∧ (True ∧ True ∧ True) ∧ True) (by kernel_rfl) (by kernel_rfl)
     ⟨tt,tt,⟨tt,tt,(by omega),(by omega)⟩,tt,tt,tt,⟨tt,tt,(by omega),(by omega)⟩,tt,⟨tt,tt,tt⟩,tt⟩ ?_
    refine W.ifP ((a.getD i 0) ≠ (b.getD i 0)) (.b (decide ((a.getD i 0) ≠ (b.getD i 0)))) (by kernel_rfl) rfl trivial ?_ ?_
    ·intro h25
     refine Kk cok tab7 hnt [] [4] (⟨[(4,.b false)],[],[999]⟩)
      (True ∧ True)
      ⟨tt,tt⟩ ?_
     refine W.ret (blockQ_ret (thenQ_ret (thenQ_ret (blockQ_ret (thenQ_ret ?_)))))
     exact endQ_ret (.b false) (by kernel_rfl) (@cast ((.bool false : Value) = .bool (decide (a = b))) _ (by kernel_rfl) (congrArg Value.bool (by symm; exact decide_eq_false (fun e => h25 (by rw [e])))))
    ·intro n25
     refine W.skip (blockQ_normal (thenQ_normal ?_))
     refine Lk cok tab7 hnt [] (⟨[(0,.sl (.ints a)),(1,.sl (.ints b)),(5,.i (((i + 1) : Nat) : Int)),(15,.i ((i : Nat) : Int)),(16,.i (((i + 1) : Nat) : Int)),(25,.b (decide ((a.getD i 0) ≠ (b.getD i 0))))],[],[999]⟩)
      (True ∧ (True ∧ True ∧ (Fits .i64 (((i + 1) : Nat) : Int))) ∧ True ∧ True)
      ⟨tt,⟨tt,tt,(by exact fits_i64 (by omega) (by omega))⟩,tt,tt⟩ ?_
     refine thenQ_normal ?_
     refine ⟨((i + 1)),(show ((i + 1) ≤ a.length) ∧ (∀ j,j < (i + 1) → a.getD j 0 = b.getD j 0) from ⟨(by first | assumption | omega | rfl | (intro _ hjj; omega) | (simp; done) | (simp; omega)),(by exact upto_succ hA (Decidable.not_not.1 n25))⟩),(show a.length - (i + 1) < a.length - i from (by first | omega | (simp_all; omega))),?_⟩
     exact Sub.of [] (@cast (((Sd (.ints a)) ∧ (Sd (.ints b)) ∧ (Si (((i + 1) : Nat) : Int)) ∧ True) ∧ True ∧ (true = true) ∧ (true = true)) _ (by kernel_rfl) ⟨⟨rfl,rfl,rfl,tt⟩,tt,rfl,rfl⟩)
   ·intro n14
    refine W.exit (thenQ_exit (thenQ_exit (blockQ_hit ?_)))
    refine thenQ_normal ?_
    refine Kk cok tab7 hnt [] [4] (⟨[(4,.b true)],[],[999]⟩)
     (True ∧ True)
     ⟨tt,tt⟩ ?_
    refine W.ret ?_
    exact endQ_ret (.b true) (by kernel_rfl) (@cast ((.bool true : Value) = .bool (decide (a = b))) _ (by kernel_rfl) (congrArg Value.bool (by symm; exact decide_eq_true (ints_ext (by omega) (fun j hj => hA j (by omega))))))
theorem ent7 : Entr prog 7 := ⟨_,func7,rfl,by decide⟩
end Go.Proofs.Try

set_option linter.unusedSimpArgs false
set_option linter.unusedVariables false
namespace Go.Proofs.Try
open Go.Ab Go.RowKit
def fs10 : FnS := fnS [.s .ints,.o] [.ints,.int] (fun _ (l,n,_) => (.b (hasInt l n),[],True))
abbrev T10 : Tab := lk []
theorem tab10 : TabOK prog T10 := TabOK.nil
set_option maxRecDepth 100000 in
set_option maxHeartbeats 1000000 in
theorem ok10 : FnOK prog 10 fs10 := by
 refine FnOK.mk cok func10 rfl rfl rfl ?_
 rintro fl ⟨(l : List Int),(n : Int),_⟩ hpre F hnt0 _
 have hnt : F.nt = 18 := hnt0.trans ntmps10
 clear hpre
 refine W.to (⟨[(0,.sl (.ints l)),(1,.i n)],[],[999]⟩) rfl ?_
 refine W.lenOf 0 (.ints l) (by kernel_rfl) ?_
 intro hl_l; replace hl_l : List.length l ≤ 9223372036854775807 := hl_l
 refine Kk cok tab10 hnt [] [0,1] (⟨[(0,.sl (.ints l)),(1,.i n)],[],[999]⟩)
  (True ∧ True)
  ⟨tt,tt⟩ ?_
 refine W.seq ?_
 refine Kk cok tab10 hnt [] [0,1,5] (⟨[(0,.sl (.ints l)),(1,.i n),(5,.i (0 : Int))],[],[999]⟩)
  (True ∧ True)
  ⟨tt,tt⟩ ?_
 refine W.block ?_
 refine W.loop (ι := Nat) (fun (i : Nat) => (⟨[(0,.sl (.ints l)),(1,.i n),(5,.i ((i : Nat) : Int))],[],[999]⟩ : St))
  (fun (i : Nat) => (i ≤ l.length) ∧ (∀ j,j < i → decide (l.getD j 0 = n) = false))
  (fun (i : Nat) => (l.length - i : Nat)) (0) ?_ ?_ ?_
 ·exact (show (0 ≤ l.length) ∧ (∀ j,j < 0 → decide (l.getD j 0 = n) = false) from ⟨(by first | assumption | omega | rfl | (intro _ hjj; omega) | (simp; done) | (simp; omega)),(by exact upto_zero)⟩)
 ·exact Sub.of [] (@cast (((Sd (.ints l)) ∧ (Si n) ∧ ((.int .i64 (0 : Int) : Value) = .int .i64 ((0 : Nat) : Int)) ∧ True) ∧ True ∧ (true = true) ∧ (true = true)) _ (by kernel_rfl) ⟨⟨rfl,rfl,(congrArg (Value.int .i64) (by first | rfl | omega | assumption | simp | simp_all)),tt⟩,tt,rfl,rfl⟩)
 ·rintro i hC0
  have hC : (i ≤ l.length) ∧ (∀ j,j < i → decide (l.getD j 0 = n) = false) := hC0
  clear hC0
  obtain ⟨hi,hA⟩ := hC
  refine W.to (⟨[(0,.sl (.ints l)),(1,.i n),(5,.i ((i : Nat) : Int))],[],[999]⟩) rfl ?_
  refine W.seq ?_
  refine Kk cok tab10 hnt [] [0,1,5,9] (⟨[(0,.sl (.ints l)),(1,.i n),(5,.i ((i : Nat) : Int)),(9,.b (decide (((i : Nat) : Int) < (l.length : Int))))],[],[999]⟩)
   (True ∧ True ∧ True ∧ (True ∧ True ∧ True) ∧ True)
   ⟨tt,tt,tt,⟨tt,tt,tt⟩,tt⟩ ?_
  refine W.ifP (((i : Nat) : Int) < (l.length : Int)) (.b (decide (((i : Nat) : Int) < (l.length : Int)))) (by kernel_rfl) rfl trivial ?_ ?_
  ·intro h9
   refine W.skip (thenQ_normal ?_)
   refine W.seq ?_
   refine W.block ?_
   refine Kk cok tab10 hnt [] [0,1,5,17] (⟨[(0,.sl (.ints l)),(1,.i n),(5,.i ((i : Nat) : Int)),(17,.b (decide ((l.getD i 0) = n)))],[],[999]⟩)
    (True ∧ True ∧ (True ∧ True ∧ (0 ≤ ((i : Nat) : Int)) ∧ (((i : Nat) : Int) < (l.length : Int))) ∧ True ∧ True ∧ (True ∧ True ∧ True) ∧ True)
    ⟨tt,tt,⟨tt,tt,(by omega),(by omega)⟩,tt,tt,⟨tt,tt,tt⟩,tt⟩ ?_
   refine W.ifP ((l.getD i 0) = n) (.b (decide ((l.getD i 0) = n))) (by kernel_rfl) rfl trivial ?_ ?_
   ·intro h17
    refine Kk cok tab10 hnt [] [4] (⟨[(4,.b true)],[],[999]⟩)
     (True ∧ True)
     ⟨tt,tt⟩ ?_
    refine W.ret (blockQ_ret (thenQ_ret (thenQ_ret (blockQ_ret (thenQ_ret ?_)))))
    exact endQ_ret (.b true) (by kernel_rfl) (@cast ((.bool true : Value) = .bool (hasInt l n)) _ (by kernel_rfl) (congrArg Value.bool (by exact (anyN_true (i := i) (by omega) (decide_eq_true h17)).symm)))
   ·intro n17
    refine W.skip (blockQ_normal (thenQ_normal ?_))
    refine Lk cok tab10 hnt [] (⟨[(0,.sl (.ints l)),(1,.i n),(5,.i (((i + 1) : Nat) : Int)),(10,.i ((i : Nat) : Int)),(11,.i (((i + 1) : Nat) : Int)),(17,.b (decide ((l.getD i 0) = n)))],[],[999]⟩)
     (True ∧ (True ∧ True ∧ (Fits .i64 (((i + 1) : Nat) : Int))) ∧ True ∧ True)
     ⟨tt,⟨tt,tt,(by exact fits_i64 (by omega) (by omega))⟩,tt,tt⟩ ?_
    refine thenQ_normal ?_
    refine ⟨((i + 1)),(show ((i + 1) ≤ l.length) ∧ (∀ j,j < (i + 1) → decide (l.getD j 0 = n) = false) from ⟨(by first | assumption | omega | rfl | (intro _ hjj; omega) | (simp; done) | (simp; omega)),(by exact upto_succ hA (decide_eq_false n17))⟩),(show l.length - (i + 1) < l.length - i from (by first | omega | (simp_all; omega))),?_⟩
    exact Sub.of [] (@cast (((Sd (.ints l)) ∧ (Si n) ∧ (Si (((i + 1) : Nat) : Int)) ∧ True) ∧ True ∧ (true = true) ∧ (true = true)) _ (by kernel_rfl) ⟨⟨rfl,rfl,rfl,tt⟩,tt,rfl,rfl⟩)
  ·intro n9
   refine W.exit (thenQ_exit (thenQ_exit (blockQ_hit ?_)))
   refine thenQ_normal ?_
   refine Kk cok tab10 hnt [] [4] (⟨[(4,.b false)],[],[999]⟩)
    (True ∧ True)
    ⟨tt,tt⟩ ?_
   refine W.ret ?_
   exact endQ_ret (.b false) (by kernel_rfl) (@cast ((.bool false : Value) = .bool (hasInt l n)) _ (by kernel_rfl) (congrArg Value.bool (by exact (anyN_false (fun j hj => hA j (by omega))).symm)))
theorem ent10 : Entr prog 10 := ⟨_,func10,rfl,by decide⟩
end Go.Proofs.Try

set_option linter.unusedSimpArgs false
set_option linter.unusedVariables false
namespace Go.Proofs.Try
open Go.Ab Go.RowKit
def fs11 : FnS := fnS [.s .ints] [.ints] (fun _ (l,_) => (.b (ascends l),[],True))
abbrev T11 : Tab := lk []
theorem tab11 : TabOK prog T11 := TabOK.nil
set_option maxRecDepth 100000 in
set_option maxHeartbeats 1000000 in
theorem ok11 : FnOK prog 11 fs11 := by
 refine FnOK.mk cok func11 rfl rfl rfl ?_
 rintro fl ⟨(l : List Int),_⟩ hpre F hnt0 _
 have hnt : F.nt = 20 := hnt0.trans ntmps11
 clear hpre
 refine W.to (⟨[(0,.sl (.ints l))],[],[999]⟩) rfl ?_
 refine W.lenOf 0 (.ints l) (by kernel_rfl) ?_
 intro hl_l; replace hl_l : List.length l ≤ 9223372036854775807 := hl_l
 refine Kk cok tab11 hnt [] [0] (⟨[(0,.sl (.ints l))],[],[999]⟩)
  (True ∧ True)
  ⟨tt,tt⟩ ?_
 refine W.seq ?_
 refine Kk cok tab11 hnt [] [0,3] (⟨[(0,.sl (.ints l)),(3,.i (1 : Int))],[],[999]⟩)
  (True ∧ True)
  ⟨tt,tt⟩ ?_
 refine W.block ?_
 refine W.loop (ι := Nat) (fun (i : Nat) => (⟨[(0,.sl (.ints l)),(3,.i ((i : Nat) : Int))],[],[999]⟩ : St))
  (fun (i : Nat) => (1 ≤ i) ∧ (i ≤ max 1 l.length) ∧ (∀ j,j < i → ascAt l j = true))
  (fun (i : Nat) => (l.length - i : Nat)) (1) ?_ ?_ ?_
 ·exact (show (1 ≤ 1) ∧ (1 ≤ max 1 l.length) ∧ (∀ j,j < 1 → ascAt l j = true) from ⟨(by omega),(by omega),(by exact asc_zero l)⟩)
 ·exact Sub.of [] (@cast (((Sd (.ints l)) ∧ ((.int .i64 (1 : Int) : Value) = .int .i64 ((1 : Nat) : Int)) ∧ True) ∧ True ∧ (true = true) ∧ (true = true)) _ (by kernel_rfl) ⟨⟨rfl,(congrArg (Value.int .i64) (by first | rfl | omega | assumption | simp | simp_all)),tt⟩,tt,rfl,rfl⟩)
 ·rintro i hC0
  have hC : (1 ≤ i) ∧ (i ≤ max 1 l.length) ∧ (∀ j,j < i → ascAt l j = true) := hC0
  clear hC0
  obtain ⟨h1,hi,hA⟩ := hC
  refine W.to (⟨[(0,.sl (.ints l)),(3,.i ((i : Nat) : Int))],[],[999]⟩) rfl ?_
  refine W.seq ?_
  refine Kk cok tab11 hnt [] [0,3,7] (⟨[(0,.sl (.ints l)),(3,.i ((i : Nat) : Int)),(7,.b (decide (((i : Nat) : Int) < (l.length : Int))))],[],[999]⟩)
   (True ∧ True ∧ True ∧ (True ∧ True ∧ True) ∧ True)
   ⟨tt,tt,tt,⟨tt,tt,tt⟩,tt⟩ ?_
  refine W.ifP (((i : Nat) : Int) < (l.length : Int)) (.b (decide (((i : Nat) : Int) < (l.length : Int)))) (by kernel_rfl) rfl trivial ?_ ?_
  ·intro h7
   refine W.skip (thenQ_normal ?_)
   refine W.seq ?_
   refine W.block ?_
   refine W.KA cok tab11 hnt [] [0,3,19] (⟨[(0,.sl (.ints l)),(3,.i ((i : Nat) : Int)),(19,.b (decide ((l.getD i 0) ≤ (l.getD (Int.toNat (((i : Nat) : Int) - (1 : Int))) 0))))],[],[999]⟩)
    (True ∧ True ∧ (True ∧ True ∧ (0 ≤ ((i : Nat) : Int)) ∧ (((i : Nat) : Int) < (l.length : Int))) ∧ True ∧ True ∧ True ∧ (True ∧ True ∧ (Fits .i64 (((i : Nat) : Int) - (1 : Int)))) ∧ (True ∧ True ∧ (0 ≤ (((i : Nat) : Int) - (1 : Int))) ∧ ((((i : Nat) : Int) - (1 : Int)) < (l.length : Int))) ∧ True ∧ (True ∧ True ∧ True) ∧ True) (by kernel_rfl) (by kernel_rfl)
    ⟨tt,tt,⟨tt,tt,(by omega),(by omega)⟩,tt,tt,tt,⟨tt,tt,(by exact fits_i64 (by omega) (by omega))⟩,⟨tt,tt,(by omega),(by omega)⟩,tt,⟨tt,tt,tt⟩,tt⟩ ?_
   refine W.ifP ((l.getD i 0) ≤ (l.getD (Int.toNat (((i : Nat) : Int) - (1 : Int))) 0)) (.b (decide ((l.getD i 0) ≤ (l.getD (Int.toNat (((i : Nat) : Int) - (1 : Int))) 0)))) (by kernel_rfl) rfl trivial ?_ ?_
   ·intro h19
    refine Kk cok tab11 hnt [] [2] (⟨[(2,.b false)],[],[999]⟩)
     (True ∧ True)
     ⟨tt,tt⟩ ?_
    refine W.ret (blockQ_ret (thenQ_ret (thenQ_ret (blockQ_ret (thenQ_ret ?_)))))
    exact endQ_ret (.b false) (by kernel_rfl) (@cast ((.bool false : Value) = .bool (ascends l)) _ (by kernel_rfl) (congrArg Value.bool (by rw [show ((i : Int) - 1).toNat = i - 1 by omega] at h19; exact (asc_no h1 (by omega) h19).symm)))
   ·intro n19
    refine W.skip (blockQ_normal (thenQ_normal ?_))
    refine Lk cok tab11 hnt [] (⟨[(0,.sl (.ints l)),(3,.i (((i + 1) : Nat) : Int)),(8,.i ((i : Nat) : Int)),(9,.i (((i + 1) : Nat) : Int)),(19,.b (decide ((l.getD i 0) ≤ (l.getD (Int.toNat (((i : Nat) : Int) - (1 : Int))) 0))))],[],[999]⟩)
     (True ∧ (True ∧ True ∧ (Fits .i64 (((i + 1) : Nat) : Int))) ∧ True ∧ True)
     ⟨tt,⟨tt,tt,(by exact fits_i64 (by omega) (by omega))⟩,tt,tt⟩ ?_
    refine thenQ_normal ?_
    refine ⟨((i + 1)),(show (1 ≤ (i + 1)) ∧ ((i + 1) ≤ max 1 l.length) ∧ (∀ j,j < (i + 1) → ascAt l j = true) from ⟨(by first | assumption | omega | rfl | (intro _ hjj; omega) | (simp; done) | (simp; omega)),(by first | assumption | omega | rfl | (intro _ hjj; omega) | (simp; done) | (simp; omega)),(by rw [show ((i : Int) - 1).toNat = i - 1 by omega] at n19; exact upto_succ hA (asc_step n19))⟩),(show l.length - (i + 1) < l.length - i from (by first | omega | (simp_all; omega))),?_⟩
    exact Sub.of [] (@cast (((Sd (.ints l)) ∧ (Si (((i + 1) : Nat) : Int)) ∧ True) ∧ True ∧ (true = true) ∧ (true = true)) _ (by kernel_rfl) ⟨⟨rfl,rfl,tt⟩,tt,rfl,rfl⟩)
  ·intro n7
   refine W.exit (thenQ_exit (thenQ_exit (blockQ_hit ?_)))
   refine thenQ_normal ?_
   refine Kk cok tab11 hnt [] [2] (⟨[(2,.b true)],[],[999]⟩)
    (True ∧ True)
    ⟨tt,tt⟩ ?_
   refine W.ret ?_
   exact endQ_ret (.b true) (by kernel_rfl) (@cast ((.bool true : Value) = .bool (ascends l)) _ (by kernel_rfl) (congrArg Value.bool (by exact (allN_true (fun j hj => hA j (by omega))).symm)))
theorem ent11 : Entr prog 11 := ⟨_,func11,rfl,by decide⟩
end Go.Proofs.Try
