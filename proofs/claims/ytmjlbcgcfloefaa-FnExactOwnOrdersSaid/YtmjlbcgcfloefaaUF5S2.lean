import Derived.Test.YtmjlbcgcfloefaaUF5S0
import Derived.Test.YtmjlbcgcfloefaaUF5S1
set_option linter.unusedSimpArgs false
set_option linter.unusedVariables false
namespace Go.Proofs.Try
open Go.Ab Go.RowKit
def fs41 : FnS := fnS [.s .calls] [.calls] (fun _ (h,_) => (.sl (.ints (rowsOf h.length (ownF h))),[],(h.length ≤ 60)))
abbrev T41 : Tab := lk [(47,fs47),(49,fs49)]
theorem tab41 : TabOK prog T41 := (TabOK.cons ok47 ent47 (TabOK.cons ok49 ent49 TabOK.nil))
set_option maxRecDepth 100000 in
set_option maxHeartbeats 1000000 in
theorem ok41 : FnOK prog 41 fs41 := by
 refine FnOK.mk cok func41 rfl rfl rfl ?_
 rintro fl ⟨(h : List CallD),_⟩ hpre F hnt0 _
 have hnt : F.nt = 51 := hnt0.trans ntmps41
 replace hpre : (h.length ≤ 60) := hpre
 have hn := hpre
 refine W.to (⟨[(0,.sl (.calls h))],[],[999]⟩) rfl ?_
 refine W.lenOf 0 (.calls h) (by kernel_rfl) ?_
 intro hl_h; replace hl_h : List.length h ≤ 9223372036854775807 := hl_h
 refine Kk cok tab41 hnt [] [0] (⟨[(0,.sl (.calls h))],[],[999]⟩)
  (True ∧ True)
  ⟨tt,tt⟩ ?_
 refine Kk cok tab41 hnt [7] [0,3] (⟨[(0,.sl (.calls h)),(3,.own 7 (List.length ([] : List Int)))],[(7,⟨3,.row (.ints ([] : List Int))⟩)],[7,999]⟩)
  (True ∧ True ∧ True)
  ⟨tt,tt,tt⟩ ?_
 refine W.seq ?_
 refine Kk cok tab41 hnt [] [0,3,4] (⟨[(0,.sl (.calls h)),(3,.own 7 (List.length ([] : List Int))),(4,.i (0 : Int))],[(7,⟨3,.row (.ints ([] : List Int))⟩)],[7,999]⟩)
  (True ∧ True)
  ⟨tt,tt⟩ ?_
 refine W.block ?_
 refine W.loop (ι := (List Int) × Nat) (fun (x : (List Int) × Nat) => match x with | (o,i) => (⟨[(0,.sl (.calls h)),(3,.own 7 o.length),(4,.i ((i : Nat) : Int))],[(7,⟨3,.row (.ints o)⟩)],[7,999]⟩ : St))
  (fun (x : (List Int) × Nat) => match x with | (o,i) => (i ≤ h.length) ∧ (o = (List.range i).map fun j => mask h.length (ownF h j)))
  (fun (x : (List Int) × Nat) => match x with | (o,i) => (h.length - i : Nat)) (([] : List Int),0) ?_ ?_ ?_
 ·exact (show (0 ≤ h.length) ∧ (([] : List Int) = (List.range 0).map fun j => mask h.length (ownF h j)) from ⟨(by first | assumption | omega | rfl | (intro _ hjj; omega) | (simp; done) | (simp; omega)),(by rfl)⟩)
 ·exact Sub.of [] (@cast (((Sd (.calls h)) ∧ (((7 : Nat) = 7) ∧ ((List.length ([] : List Int)) = (List.length ([] : List Int))) ∧ ((7 : Nat) ∈ ([7,999] : List Nat))) ∧ ((.int .i64 (0 : Int) : Value) = .int .i64 ((0 : Nat) : Int)) ∧ True) ∧ ((((3 : Nat) = 3) ∧ (Sd (.ints ([] : List Int))) ∧ ((7 : Nat) ∈ ([7,999] : List Nat))) ∧ True) ∧ (true = true) ∧ (true = true)) _ (by kernel_rfl) ⟨⟨rfl,⟨rfl,rfl,(by decide)⟩,(congrArg (Value.int .i64) (by first | rfl | omega | assumption | simp | simp_all)),tt⟩,⟨⟨rfl,rfl,(by decide)⟩,tt⟩,rfl,rfl⟩)
 ·rintro ⟨o,i⟩ hC0
  have hC : (i ≤ h.length) ∧ (o = (List.range i).map fun j => mask h.length (ownF h j)) := hC0
  clear hC0
  obtain ⟨hi,ho⟩ := hC
  refine W.to (⟨[(0,.sl (.calls h)),(3,.own 7 o.length),(4,.i ((i : Nat) : Int))],[(7,⟨3,.row (.ints o)⟩)],[7,999]⟩) rfl ?_
  have hol : o.length = i := by rw [ho]; simp
  refine W.seq ?_
  refine Kk cok tab41 hnt [] [0,3,4,11] (⟨[(0,.sl (.calls h)),(3,.own 7 o.length),(4,.i ((i : Nat) : Int)),(11,.b (decide (((i : Nat) : Int) < (h.length : Int))))],[(7,⟨3,.row (.ints o)⟩)],[7,999]⟩)
   (True ∧ True ∧ True ∧ (True ∧ True ∧ True) ∧ True)
   ⟨tt,tt,tt,⟨tt,tt,tt⟩,tt⟩ ?_
  refine W.ifP (((i : Nat) : Int) < (h.length : Int)) (.b (decide (((i : Nat) : Int) < (h.length : Int)))) (by kernel_rfl) rfl trivial ?_ ?_
  ·intro h11
   refine W.skip (thenQ_normal ?_)
   refine W.seq ?_
   refine W.block ?_
   refine Kk cok tab41 hnt [] [0,3,4,5] (⟨[(0,.sl (.calls h)),(3,.own 7 o.length),(4,.i ((i : Nat) : Int)),(5,.i (0 : Int))],[(7,⟨3,.row (.ints o)⟩)],[7,999]⟩)
    (True ∧ True)
    ⟨tt,tt⟩ ?_
   refine W.seq ?_
   refine Kk cok tab41 hnt [] [0,3,4,5,6] (⟨[(0,.sl (.calls h)),(3,.own 7 o.length),(4,.i ((i : Nat) : Int)),(5,.i (0 : Int)),(6,.i (0 : Int))],[(7,⟨3,.row (.ints o)⟩)],[7,999]⟩)
    (True ∧ True)
    ⟨tt,tt⟩ ?_
   refine W.block ?_
   refine W.loop (ι := Int × Nat) (fun (x : Int × Nat) => match x with | (r,k) => (⟨[(0,.sl (.calls h)),(3,.own 7 o.length),(4,.i ((i : Nat) : Int)),(5,.i r),(6,.i ((k : Nat) : Int))],[(7,⟨3,.row (.ints o)⟩)],[7,999]⟩ : St))
    (fun (x : Int × Nat) => match x with | (r,k) => (k ≤ h.length) ∧ (r = mask k (ownF h i)))
    (fun (x : Int × Nat) => match x with | (r,k) => (h.length - k : Nat)) ((0 : Int),0) ?_ ?_ ?_
   ·exact (show (0 ≤ h.length) ∧ ((0 : Int) = mask 0 (ownF h i)) from ⟨(by first | assumption | omega | rfl | (intro _ hjj; omega) | (simp; done) | (simp; omega)),(by rfl)⟩)
   ·exact Sub.of [] (@cast (((Sd (.calls h)) ∧ (((7 : Nat) = 7) ∧ (o.length = o.length) ∧ ((7 : Nat) ∈ ([7,999] : List Nat))) ∧ (Si ((i : Nat) : Int)) ∧ (Si (0 : Int)) ∧ ((.int .i64 (0 : Int) : Value) = .int .i64 ((0 : Nat) : Int)) ∧ True) ∧ ((((3 : Nat) = 3) ∧ (Sd (.ints o)) ∧ ((7 : Nat) ∈ ([7,999] : List Nat))) ∧ True) ∧ (true = true) ∧ (true = true)) _ (by kernel_rfl) ⟨⟨rfl,⟨rfl,rfl,(by decide)⟩,rfl,rfl,(congrArg (Value.int .i64) (by first | rfl | omega | assumption | simp | simp_all)),tt⟩,⟨⟨rfl,rfl,(by decide)⟩,tt⟩,rfl,rfl⟩)
   ·rintro ⟨r,k⟩ hC0
    have hC : (k ≤ h.length) ∧ (r = mask k (ownF h i)) := hC0
    clear hC0
    obtain ⟨hk,hr⟩ := hC
    refine W.to (⟨[(0,.sl (.calls h)),(3,.own 7 o.length),(4,.i ((i : Nat) : Int)),(5,.i r),(6,.i ((k : Nat) : Int))],[(7,⟨3,.row (.ints o)⟩)],[7,999]⟩) rfl ?_
    have hmb := mask_bnd k (ownF h i) (by omega)
    refine W.seq ?_
    refine Kk cok tab41 hnt [] [0,3,4,5,6,17] (⟨[(0,.sl (.calls h)),(3,.own 7 o.length),(4,.i ((i : Nat) : Int)),(5,.i r),(6,.i ((k : Nat) : Int)),(17,.b (decide (((k : Nat) : Int) < (h.length : Int))))],[(7,⟨3,.row (.ints o)⟩)],[7,999]⟩)
     (True ∧ True ∧ True ∧ (True ∧ True ∧ True) ∧ True)
     ⟨tt,tt,tt,⟨tt,tt,tt⟩,tt⟩ ?_
    refine W.ifP (((k : Nat) : Int) < (h.length : Int)) (.b (decide (((k : Nat) : Int) < (h.length : Int)))) (by kernel_rfl) rfl trivial ?_ ?_
    ·intro h17
     refine W.skip (thenQ_normal ?_)
     refine W.seq ?_
     refine W.block ?_
     refine W.KA cok tab41 hnt [] [0,3,4,5,6,41] (⟨[(0,.sl (.calls h)),(3,.own 7 o.length),(4,.i ((i : Nat) : Int)),(5,.i r),(6,.i ((k : Nat) : Int)),(41,.b ((decide (((h.getD k default).proc) = ((h.getD i default).proc))) && (isBefore (h.getD k default) (h.getD i default))))],[(7,⟨3,.row (.ints o)⟩)],[7,999]⟩)
      ((fun (Z1:Bool)=>(True ∧ (True ∧ ((True ∧ (True ∧ ((0 ≤ ((k : Nat) : Int)) ∧ (((k : Nat) : Int) < (h.length : Int))))) ∧ (True ∧ (True ∧ (True ∧ (True ∧ ((True ∧ (True ∧ ((0 ≤ ((i : Nat) : Int)) ∧ (((i : Nat) : Int) < (h.length : Int))))) ∧ (True ∧ (True ∧ ((True ∧ (True ∧ True)) ∧ (True ∧ ((Z1 = true → True) ∧ ((Z1 = true → True) ∧ ((Z1 = true → (((Z1 = true) ∧ True) ∧ (((Z1 = true) ∧ True) ∧ ((0 ≤ ((k : Nat) : Int)) ∧ (((k : Nat) : Int) < (h.length : Int)))))) ∧ ((Z1 = true → ((Z1 = true) ∧ True)) ∧ ((Z1 = true → True) ∧ ((Z1 = true → True) ∧ ((Z1 = true → (((Z1 = true) ∧ True) ∧ (((Z1 = true) ∧ True) ∧ ((0 ≤ ((i : Nat) : Int)) ∧ (((i : Nat) : Int) < (h.length : Int)))))) ∧ ((Z1 = true → ((Z1 = true) ∧ True)) ∧ ((Z1 = true → (True ∧ ((((Z1 = true) ∧ True) ∧ (((Z1 = true) ∧ True) ∧ True)) ∧ True))) ∧ ((True ∧ ((Z1 = true → (Z1 = true) ∧ True) ∧ (Z1 = false → True))) ∧ True))))))))))))))))))))))) (decide (((h.getD k default).proc) = ((h.getD i default).proc)))) (by kernel_rfl) (by kernel_rfl)
      ⟨tt,tt,⟨tt,tt,(by omega),(by omega)⟩,tt,tt,tt,tt,⟨tt,tt,(by omega),(by omega)⟩,tt,tt,⟨tt,tt,tt⟩,tt,(fun _ => trivial),(fun _ => trivial),(fun hG => ⟨⟨hG,tt⟩,⟨hG,tt⟩,(by have hg0 : ((h.getD k default).proc) = ((h.getD i default).proc) := of_decide_eq_true hG; omega),(by have hg0 : ((h.getD k default).proc) = ((h.getD i default).proc) := of_decide_eq_true hG; omega)⟩),(fun hG => ⟨hG,tt⟩),(fun _ => trivial),(fun _ => trivial),(fun hG => ⟨⟨hG,tt⟩,⟨hG,tt⟩,(by have hg0 : ((h.getD k default).proc) = ((h.getD i default).proc) := of_decide_eq_true hG; omega),(by have hg0 : ((h.getD k default).proc) = ((h.getD i default).proc) := of_decide_eq_true hG; omega)⟩),(fun hG => ⟨hG,tt⟩),(fun hG => ⟨tt,⟨⟨hG,tt⟩,⟨hG,tt⟩,tt⟩,tt⟩),⟨tt,(fun hp => ⟨hp,tt⟩),(fun _ => trivial)⟩,tt⟩ ?_
     refine W.if' ((decide (((h.getD k default).proc) = ((h.getD i default).proc))) && (isBefore (h.getD k default) (h.getD i default))) (.b ((decide (((h.getD k default).proc) = ((h.getD i default).proc))) && (isBefore (h.getD k default) (h.getD i default)))) (by kernel_rfl) rfl trivial ?_ ?_
     ·intro h41
      have h41_0 : ((h.getD k default).proc) = ((h.getD i default).proc) := of_decide_eq_true (and_l h41)
      have hpw := power_le (n := (k : Int)) (by omega)
      have hpw0 := power_pos (k : Int)
      refine Lk cok tab41 hnt [] (⟨[(0,.sl (.calls h)),(3,.own 7 o.length),(4,.i ((i : Nat) : Int)),(5,.i (r + (power ((k : Nat) : Int)))),(6,.i ((k : Nat) : Int)),(41,.b ((decide (((h.getD k default).proc) = ((h.getD i default).proc))) && (isBefore (h.getD k default) (h.getD i default)))),(42,.i r),(43,.i ((k : Nat) : Int)),(44,.i (power ((k : Nat) : Int))),(45,.i (r + (power ((k : Nat) : Int))))],[(7,⟨3,.row (.ints o)⟩)],[7,999]⟩)
       (True ∧ True ∧ (True ∧ (True ∧ True) ∧ (((k : Nat) : Int) ≤ 60)) ∧ (True ∧ True ∧ (Fits .i64 (r + (power ((k : Nat) : Int))))) ∧ True ∧ True)
       ⟨tt,tt,⟨tt,⟨tt,tt⟩,(by omega)⟩,⟨tt,tt,(by exact fits_i64 (by omega) (by omega))⟩,tt,tt⟩ ?_
      refine blockQ_normal (thenQ_normal ?_)
      refine Lk cok tab41 hnt [] (⟨[(0,.sl (.calls h)),(3,.own 7 o.length),(4,.i ((i : Nat) : Int)),(5,.i (r + (power ((k : Nat) : Int)))),(6,.i (((k + 1) : Nat) : Int)),(18,.i ((k : Nat) : Int)),(19,.i (((k + 1) : Nat) : Int)),(41,.b ((decide (((h.getD k default).proc) = ((h.getD i default).proc))) && (isBefore (h.getD k default) (h.getD i default)))),(42,.i r),(43,.i ((k : Nat) : Int)),(44,.i (power ((k : Nat) : Int))),(45,.i (r + (power ((k : Nat) : Int))))],[(7,⟨3,.row (.ints o)⟩)],[7,999]⟩)
       (True ∧ (True ∧ True ∧ (Fits .i64 (((k + 1) : Nat) : Int))) ∧ True ∧ True)
       ⟨tt,⟨tt,tt,(by exact fits_i64 (by omega) (by omega))⟩,tt,tt⟩ ?_
      refine thenQ_normal ?_
      refine ⟨((r + (power ((k : Nat) : Int))),(k + 1)),(show ((k + 1) ≤ h.length) ∧ ((r + (power ((k : Nat) : Int))) = mask (k + 1) (ownF h i)) from ⟨(by first | assumption | omega | rfl | (intro _ hjj; omega) | (simp; done) | (simp; omega)),(by first | (rw [hr]; exact (mask_skip (own_fold n41)).symm) | (rw [hr,mask_add (own_fold h41)]; rfl))⟩),(show h.length - (k + 1) < h.length - k from (by first | omega | (simp_all; omega))),?_⟩
      exact Sub.of [] (@cast (((Sd (.calls h)) ∧ (((7 : Nat) = 7) ∧ (o.length = o.length) ∧ ((7 : Nat) ∈ ([7,999] : List Nat))) ∧ (Si ((i : Nat) : Int)) ∧ (Si (r + (power ((k : Nat) : Int)))) ∧ (Si (((k + 1) : Nat) : Int)) ∧ True) ∧ ((((3 : Nat) = 3) ∧ (Sd (.ints o)) ∧ ((7 : Nat) ∈ ([7,999] : List Nat))) ∧ True) ∧ (true = true) ∧ (true = true)) _ (by kernel_rfl) ⟨⟨rfl,⟨rfl,rfl,(by decide)⟩,rfl,rfl,rfl,tt⟩,⟨⟨rfl,rfl,(by decide)⟩,tt⟩,rfl,rfl⟩)
     ·intro n41
      refine W.skip (blockQ_normal (thenQ_normal ?_))
      refine Lk cok tab41 hnt [] (⟨[(0,.sl (.calls h)),(3,.own 7 o.length),(4,.i ((i : Nat) : Int)),(5,.i r),(6,.i (((k + 1) : Nat) : Int)),(18,.i ((k : Nat) : Int)),(19,.i (((k + 1) : Nat) : Int)),(41,.b ((decide (((h.getD k default).proc) = ((h.getD i default).proc))) && (isBefore (h.getD k default) (h.getD i default))))],[(7,⟨3,.row (.ints o)⟩)],[7,999]⟩)
       (True ∧ (True ∧ True ∧ (Fits .i64 (((k + 1) : Nat) : Int))) ∧ True ∧ True)
       ⟨tt,⟨tt,tt,(by exact fits_i64 (by omega) (by omega))⟩,tt,tt⟩ ?_
      refine thenQ_normal ?_
      refine ⟨(r,(k + 1)),(show ((k + 1) ≤ h.length) ∧ (r = mask (k + 1) (ownF h i)) from ⟨(by first | assumption | omega | rfl | (intro _ hjj; omega) | (simp; done) | (simp; omega)),(by first | (rw [hr]; exact (mask_skip (own_fold n41)).symm) | (rw [hr,mask_add (own_fold h41)]; rfl))⟩),(show h.length - (k + 1) < h.length - k from (by first | omega | (simp_all; omega))),?_⟩
      exact Sub.of [] (@cast (((Sd (.calls h)) ∧ (((7 : Nat) = 7) ∧ (o.length = o.length) ∧ ((7 : Nat) ∈ ([7,999] : List Nat))) ∧ (Si ((i : Nat) : Int)) ∧ (Si r) ∧ (Si (((k + 1) : Nat) : Int)) ∧ True) ∧ ((((3 : Nat) = 3) ∧ (Sd (.ints o)) ∧ ((7 : Nat) ∈ ([7,999] : List Nat))) ∧ True) ∧ (true = true) ∧ (true = true)) _ (by kernel_rfl) ⟨⟨rfl,⟨rfl,rfl,(by decide)⟩,rfl,rfl,rfl,tt⟩,⟨⟨rfl,rfl,(by decide)⟩,tt⟩,rfl,rfl⟩)
    ·intro n17
     refine W.exit (thenQ_exit (thenQ_exit (blockQ_hit ?_)))
     refine thenQ_normal ?_
     refine Lk cok tab41 hnt [49] (⟨[(0,.sl (.calls h)),(3,.own 49 (List.length (o ++ ([r])))),(4,.i ((i : Nat) : Int)),(5,.i r),(6,.i ((k : Nat) : Int)),(17,.b (decide (((k : Nat) : Int) < (h.length : Int)))),(46,.own 7 o.length),(47,.i r),(48,.sl (.ints ([r]))),(49,.own 49 (List.length (o ++ ([r]))))],[(49,⟨3,.row (.ints (o ++ ([r])))⟩)],[49,48,7,999]⟩)
      (True ∧ True ∧ (True ∧ True) ∧ ((True ∧ (o.length = o.length)) ∧ True ∧ ((o.length + (List.length ([r]))) * 8 ≤ 140737488355328)) ∧ True ∧ True)
      ⟨tt,tt,⟨tt,tt⟩,⟨⟨tt,rfl⟩,tt,(by (first | omega | (simp only [List.length_set]; done) | (simp only [List.length_append,List.length_cons,List.length_nil,List.length_take,List.length_drop,List.length_set,List.length_replicate,List.length_map] at *; omega) | assumption))⟩,tt,tt⟩ ?_
     refine blockQ_normal (thenQ_normal ?_)
     refine Lk cok tab41 hnt [] (⟨[(0,.sl (.calls h)),(3,.own 49 (List.length (o ++ ([r])))),(4,.i (((i + 1) : Nat) : Int)),(5,.i r),(6,.i ((k : Nat) : Int)),(12,.i ((i : Nat) : Int)),(13,.i (((i + 1) : Nat) : Int)),(17,.b (decide (((k : Nat) : Int) < (h.length : Int)))),(46,.own 7 o.length),(47,.i r),(48,.sl (.ints ([r]))),(49,.own 49 (List.length (o ++ ([r]))))],[(49,⟨3,.row (.ints (o ++ ([r])))⟩)],[49,48,7,999]⟩)
      (True ∧ (True ∧ True ∧ (Fits .i64 (((i + 1) : Nat) : Int))) ∧ True ∧ True)
      ⟨tt,⟨tt,tt,(by exact fits_i64 (by omega) (by omega))⟩,tt,tt⟩ ?_
     refine thenQ_normal ?_
     refine ⟨((o ++ ([r])),(i + 1)),(show ((i + 1) ≤ h.length) ∧ ((o ++ ([r])) = (List.range (i + 1)).map fun j => mask h.length (ownF h j)) from ⟨(by first | assumption | omega | rfl | (intro _ hjj; omega) | (simp; done) | (simp; omega)),(by rw [ho]; exact rows_snoc _ _ _ _ (by rw [hr,show k = h.length by omega]))⟩),(show h.length - (i + 1) < h.length - i from (by first | omega | (simp_all; omega))),?_⟩
     exact Sub.of [(7,49)] (@cast (((Sd (.calls h)) ∧ (((49 : Nat) = 49) ∧ ((List.length (o ++ ([r]))) = (List.length (o ++ ([r])))) ∧ ((7 : Nat) ∈ ([7,999] : List Nat))) ∧ (Si (((i + 1) : Nat) : Int)) ∧ True) ∧ ((((3 : Nat) = 3) ∧ (Sd (.ints (o ++ ([r])))) ∧ ((7 : Nat) ∈ ([7,999] : List Nat))) ∧ True) ∧ (true = true) ∧ (true = true)) _ (by kernel_rfl) ⟨⟨rfl,⟨rfl,rfl,(by decide)⟩,rfl,tt⟩,⟨⟨rfl,rfl,(by decide)⟩,tt⟩,rfl,rfl⟩)
  ·intro n11
   refine W.exit (thenQ_exit (thenQ_exit (blockQ_hit ?_)))
   refine thenQ_normal ?_
   refine Kk cok tab41 hnt [] [2] (⟨[(2,.own 7 o.length)],[(7,⟨3,.row (.ints o)⟩)],[7,999]⟩)
    (True ∧ True ∧ True)
    ⟨tt,tt,tt⟩ ?_
   refine W.ret ?_
   exact endQ_ret (.own 7 o.length) (by kernel_rfl) (@cast ((o.length = o.length) ∧ ((.ints o : Dat) = .ints (rowsOf h.length (ownF h))) ∧ ((7 : Nat) ∉ ([] : List Nat))) _ (by kernel_rfl) ⟨rfl,⟨(congrArg Dat.ints (by rw [ho,show i = h.length by omega]; rfl)),(by decide)⟩⟩)
theorem ent41 : Entr prog 41 := ⟨_,func41,rfl,by decide⟩
end Go.Proofs.Try

set_option linter.unusedSimpArgs false
set_option linter.unusedVariables false
namespace Go.Proofs.Try
open Go.Ab Go.RowKit
def fs44 : FnS := fnS [.s .ints,.o] [.ints,.int] (fun _ (l,n,_) => (.b (hasInt l n),[],True))
abbrev T44 : Tab := lk []
theorem tab44 : TabOK prog T44 := TabOK.nil
set_option maxRecDepth 100000 in
set_option maxHeartbeats 1000000 in
theorem ok44 : FnOK prog 44 fs44 := by
 refine FnOK.mk cok func44 rfl rfl rfl ?_
 rintro fl ⟨(l : List Int),(n : Int),_⟩ hpre F hnt0 _
 have hnt : F.nt = 18 := hnt0.trans ntmps44
 clear hpre
 refine W.to (⟨[(0,.sl (.ints l)),(1,.i n)],[],[999]⟩) rfl ?_
 refine W.lenOf 0 (.ints l) (by kernel_rfl) ?_
 intro hl_l; replace hl_l : List.length l ≤ 9223372036854775807 := hl_l
 refine Kk cok tab44 hnt [] [0,1] (⟨[(0,.sl (.ints l)),(1,.i n)],[],[999]⟩)
  (True ∧ True)
  ⟨tt,tt⟩ ?_
 refine W.seq ?_
 refine Kk cok tab44 hnt [] [0,1,5] (⟨[(0,.sl (.ints l)),(1,.i n),(5,.i (0 : Int))],[],[999]⟩)
  (True ∧ True)
  ⟨tt,tt⟩ ?_
 refine W.block ?_
 refine W.loop (ι := Nat) (fun (i : Nat) => (⟨[(0,.sl (.ints l)),(1,.i n),(5,.i ((i : Nat) : Int))],[],[999]⟩ : St))
  (fun (i : Nat) => (i ≤ l.length) ∧ (∀ j,j < i → decide (l.getD j 0 = n) = false))
  (fun (i : Nat) => (l.length - i : Nat)) (0) ?_ ?_ ?_
 ·exact (show (0 ≤ l.length) ∧ (∀ j,j < 0 → decide (l.getD j 0 = n) = false) from ⟨(by first | assumption | omega | rfl | (intro _ hjj; omega) | (simp; done) | (simp; omega)),(by exact upto_zero)⟩)
 ·exact Sub.of [] (@cast (((Sd (.ints l)) ∧ (Si n) ∧ ((.int .i64 (0 : Int) : Value) = .int .i64 ((0 : Nat) : Int)) ∧ True) ∧ True ∧ (true = true) ∧ (true = true)) _ (by kernel_rfl) ⟨⟨rfl,rfl,(congrArg (Value.int .i64) (by first | rfl | omega | assumption | simp | simp_all)),tt⟩,tt,rfl,rfl⟩)
 ·rintro i hC0
  have hC : (i ≤ l.length) ∧ (∀ j,j < i → decide (l.getD j 0 = n) = false) := hC0
  clear hC0
  obtain ⟨hi,hA⟩ := hC
  refine W.to (⟨[(0,.sl (.ints l)),(1,.i n),(5,.i ((i : Nat) : Int))],[],[999]⟩) rfl ?_
  refine W.seq ?_
  refine Kk cok tab44 hnt [] [0,1,5,9] (⟨[(0,.sl (.ints l)),(1,.i n),(5,.i ((i : Nat) : Int)),(9,.b (decide (((i : Nat) : Int) < (l.length : Int))))],[],[999]⟩)
   (True ∧ True ∧ True ∧ (True ∧ True ∧ True) ∧ True)
   ⟨tt,tt,tt,⟨tt,tt,tt⟩,tt⟩ ?_
  refine W.ifP (((i : Nat) : Int) < (l.length : Int)) (.b (decide (((i : Nat) : Int) < (l.length : Int)))) (by kernel_rfl) rfl trivial ?_ ?_
  ·intro h9
   refine W.skip (thenQ_normal ?_)
   refine W.seq ?_
   refine W.block ?_
   refine Kk cok tab44 hnt [] [0,1,5,17] (⟨[(0,.sl (.ints l)),(1,.i n),(5,.i ((i : Nat) : Int)),(17,.b (decide ((l.getD i 0) = n)))],[],[999]⟩)
    (True ∧ True ∧ (True ∧ True ∧ (0 ≤ ((i : Nat) : Int)) ∧ (((i : Nat) : Int) < (l.length : Int))) ∧ True ∧ True ∧ (True ∧ True ∧ True) ∧ True)
    ⟨tt,tt,⟨tt,tt,(by omega),(by omega)⟩,tt,tt,⟨tt,tt,tt⟩,tt⟩ ?_
   refine W.ifP ((l.getD i 0) = n) (.b (decide ((l.getD i 0) = n))) (by kernel_rfl) rfl trivial ?_ ?_
   ·intro h17
    refine Kk cok tab44 hnt [] [4] (⟨[(4,.b true)],[],[999]⟩)
     (True ∧ True)
     ⟨tt,tt⟩ ?_
    refine W.ret (blockQ_ret (thenQ_ret (thenQ_ret (blockQ_ret (thenQ_ret ?_)))))
    exact endQ_ret (.b true) (by kernel_rfl) (@cast ((.bool true : Value) = .bool (hasInt l n)) _ (by kernel_rfl) (congrArg Value.bool (by unfold hasInt; symm; exact anyN_true (i := i) (by omega) (decide_eq_true h17))))
   ·intro n17
    refine W.skip (blockQ_normal (thenQ_normal ?_))
    refine Lk cok tab44 hnt [] (⟨[(0,.sl (.ints l)),(1,.i n),(5,.i (((i + 1) : Nat) : Int)),(10,.i ((i : Nat) : Int)),(11,.i (((i + 1) : Nat) : Int)),(17,.b (decide ((l.getD i 0) = n)))],[],[999]⟩)
     (True ∧ (True ∧ True ∧ (Fits .i64 (((i + 1) : Nat) : Int))) ∧ True ∧ True)
     ⟨tt,⟨tt,tt,(by exact fits_i64 (by omega) (by omega))⟩,tt,tt⟩ ?_
    refine thenQ_normal ?_
    refine ⟨((i + 1)),(show ((i + 1) ≤ l.length) ∧ (∀ j,j < (i + 1) → decide (l.getD j 0 = n) = false) from ⟨(by first | assumption | omega | rfl | (intro _ hjj; omega) | (simp; done) | (simp; omega)),(by exact upto_succ hA (decide_eq_false n17))⟩),(show l.length - (i + 1) < l.length - i from (by first | omega | (simp_all; omega))),?_⟩
    exact Sub.of [] (@cast (((Sd (.ints l)) ∧ (Si n) ∧ (Si (((i + 1) : Nat) : Int)) ∧ True) ∧ True ∧ (true = true) ∧ (true = true)) _ (by kernel_rfl) ⟨⟨rfl,rfl,rfl,tt⟩,tt,rfl,rfl⟩)
  ·intro n9
   refine W.exit (thenQ_exit (thenQ_exit (blockQ_hit ?_)))
   refine thenQ_normal ?_
   refine Kk cok tab44 hnt [] [4] (⟨[(4,.b false)],[],[999]⟩)
    (True ∧ True)
    ⟨tt,tt⟩ ?_
   refine W.ret ?_
   exact endQ_ret (.b false) (by kernel_rfl) (@cast ((.bool false : Value) = .bool (hasInt l n)) _ (by kernel_rfl) (congrArg Value.bool (by unfold hasInt; symm; exact anyN_false (fun j hj => hA j (by omega)))))
theorem ent44 : Entr prog 44 := ⟨_,func44,rfl,by decide⟩
end Go.Proofs.Try

set_option linter.unusedSimpArgs false
set_option linter.unusedVariables false
namespace Go.Proofs.Try
open Go.Ab Go.RowKit
def fs28 : FnS := fnS [.o,.s .ints,.o] [.str,.ints,.call] (fun _ (name,state,c,_) => (.tup [.sl (.ints ((specStep name state c).1)),.b ((specStep name state c).2)],[],(state.length ≤ 1000000) ∧ (∀ x ∈ state,-1000000000 ≤ x ∧ x ≤ 1000000000) ∧ (-1000000000 ≤ c.arg ∧ c.arg ≤ 1000000000)))
abbrev T28 : Tab := lk [(44,fs44)]
theorem tab28 : TabOK prog T28 := (TabOK.cons ok44 ent44 TabOK.nil)
set_option maxRecDepth 100000 in
set_option maxHeartbeats 4000000 in
theorem ok28 : FnOK prog 28 fs28 := by
 refine FnOK.mk cok func28 rfl rfl rfl ?_
 rintro fl ⟨(name : ByteArray),(state : List Int),(c : CallD),_⟩ hpre F hnt0 _
 have hnt : F.nt = 240 := hnt0.trans ntmps28
 replace hpre : (state.length ≤ 1000000) ∧ (∀ x ∈ state,-1000000000 ≤ x ∧ x ≤ 1000000000) ∧ (-1000000000 ≤ c.arg ∧ c.arg ≤ 1000000000) := hpre
 obtain ⟨hl,hs,ha⟩ := hpre
 refine W.to (⟨[(0,.v (.string name)),(1,.sl (.ints state)),(2,.agg [.i c.proc,.i c.obj,.i c.kind,.i c.arg,.i c.ret,.i c.frm,.i c.to])],[],[999]⟩) rfl ?_
 refine W.lenOf 1 (.ints state) (by kernel_rfl) ?_
 intro hl_state; replace hl_state : List.length state ≤ 9223372036854775807 := hl_state
 refine Kk cok tab28 hnt [] [0,1,5] (⟨[(0,.v (.string name)),(1,.sl (.ints state)),(5,.ptr 5 0)],[(5,⟨46,.fix [.i c.proc,.i c.obj,.i c.kind,.i c.arg,.i c.ret,.i c.frm,.i c.to]⟩)],[5,999]⟩)
  (True ∧ True ∧ True ∧ True)
  ⟨tt,tt,tt,tt⟩ ?_
 refine Kk cok tab28 hnt [] [0,1,5,8] (⟨[(0,.v (.string name)),(1,.sl (.ints state)),(5,.ptr 5 0),(8,.i (state.length : Int))],[(5,⟨46,.fix [.i c.proc,.i c.obj,.i c.kind,.i c.arg,.i c.ret,.i c.frm,.i c.to]⟩)],[5,999]⟩)
  (True ∧ True ∧ True ∧ True)
  ⟨tt,tt,tt,tt⟩ ?_
 refine W.seq ?_
 refine Kk cok tab28 hnt [] [0,1,5,8,14] (⟨[(0,.v (.string name)),(1,.sl (.ints state)),(5,.ptr 5 0),(8,.i (state.length : Int)),(14,.b (decide (c.kind = (0 : Int))))],[(5,⟨46,.fix [.i c.proc,.i c.obj,.i c.kind,.i c.arg,.i c.ret,.i c.frm,.i c.to]⟩)],[5,999]⟩)
  (True ∧ True ∧ (True ∧ True ∧ True) ∧ True)
  ⟨tt,tt,⟨tt,tt,tt⟩,tt⟩ ?_
 refine W.ifP (c.kind = (0 : Int)) (.b (decide (c.kind = (0 : Int)))) (by kernel_rfl) rfl trivial ?_ ?_
 ·intro h14
  refine W.seq ?_
  refine Kk cok tab28 hnt [] [1,5,8,15] (⟨[(1,.sl (.ints state)),(5,.ptr 5 0),(8,.i (state.length : Int)),(15,.v (.string name))],[(5,⟨46,.fix [.i c.proc,.i c.obj,.i c.kind,.i c.arg,.i c.ret,.i c.frm,.i c.to]⟩)],[5,999]⟩)
   (True ∧ True)
   ⟨tt,tt⟩ ?_
  refine W.block ?_
  refine Kk cok tab28 hnt [] [1,5,8,15,16] (⟨[(1,.sl (.ints state)),(5,.ptr 5 0),(8,.i (state.length : Int)),(15,.v (.string name)),(16,.b (eqS name nRegister))],[(5,⟨46,.fix [.i c.proc,.i c.obj,.i c.kind,.i c.arg,.i c.ret,.i c.frm,.i c.to]⟩)],[5,999]⟩)
   ((True ∧ True ∧ True) ∧ True ∧ True)
   ⟨⟨tt,tt,tt⟩,tt,tt⟩ ?_
  refine W.if' (eqS name nRegister) (.b (eqS name nRegister)) (by kernel_rfl) rfl trivial ?_ ?_
  ·intro h16
   refine W.KA cok tab28 hnt [] [6,7] (⟨[(6,.sl (.ints ([c.arg]))),(7,.b (decide (c.ret = (0 : Int))))],[(5,⟨46,.fix [.i c.proc,.i c.obj,.i c.kind,.i c.arg,.i c.ret,.i c.frm,.i c.to]⟩)],[20,5,999]⟩)
    (True ∧ True ∧ (True ∧ True) ∧ True ∧ True ∧ (True ∧ True ∧ True) ∧ True ∧ True ∧ True) (by kernel_rfl) (by kernel_rfl)
    ⟨tt,tt,⟨tt,tt⟩,tt,tt,⟨tt,tt,tt⟩,tt,tt,tt⟩ ?_
   refine W.ret (blockQ_ret (thenQ_ret (thenQ_ret ?_)))
   exact endQ_ret (.tup [.sl (.ints ([c.arg])),.b (decide (c.ret = (0 : Int)))]) (by kernel_rfl) (@cast (((.ints ([c.arg]) : Dat) = .ints ((specStep name state c).1)) ∧ ((.bool (decide (c.ret = (0 : Int))) : Value) = .bool ((specStep name state c).2)) ∧ True) _ (by kernel_rfl) ⟨(congrArg Dat.ints (by simp only [specStep,(decide_eq_true h14),h16,cond_true,cond_false,Bool.and_true,Bool.true_and,Bool.and_false,Bool.false_and,Bool.or_true,Bool.true_or,Bool.or_false,Bool.false_or,Bool.not_true,Bool.not_false])),(congrArg Value.bool (by simp only [specStep,(decide_eq_true h14),h16,cond_true,cond_false,Bool.and_true,Bool.true_and,Bool.and_false,Bool.false_and,Bool.or_true,Bool.true_or,Bool.or_false,Bool.false_or,Bool.not_true,Bool.not_false])),tt⟩)
  ·intro n16
   refine Kk cok tab28 hnt [] [1,5,8,15,24] (⟨[(1,.sl (.ints state)),(5,.ptr 5 0),(8,.i (state.length : Int)),(15,.v (.string name)),(24,.b (eqS name nCounter))],[(5,⟨46,.fix [.i c.proc,.i c.obj,.i c.kind,.i c.arg,.i c.ret,.i c.frm,.i c.to]⟩)],[5,999]⟩)
    ((True ∧ True ∧ True) ∧ True ∧ True)
    ⟨⟨tt,tt,tt⟩,tt,tt⟩ ?_
   refine W.if' (eqS name nCounter) (.b (eqS name nCounter)) (by kernel_rfl) rfl trivial ?_ ?_
   ·intro h24
    refine W.seq ?_
    refine Kk cok tab28 hnt [] [1,5,27] (⟨[(1,.sl (.ints state)),(5,.ptr 5 0),(27,.b (decide ((state.length : Int) = (0 : Int))))],[(5,⟨46,.fix [.i c.proc,.i c.obj,.i c.kind,.i c.arg,.i c.ret,.i c.frm,.i c.to]⟩)],[5,999]⟩)
     (True ∧ (True ∧ True ∧ True) ∧ True)
     ⟨tt,⟨tt,tt,tt⟩,tt⟩ ?_
    refine W.ifP ((state.length : Int) = (0 : Int)) (.b (decide ((state.length : Int) = (0 : Int)))) (by kernel_rfl) rfl trivial ?_ ?_
    ·intro h27
     refine W.KA cok tab28 hnt [] [6,7] (⟨[(6,.sl (.ints ([c.arg]))),(7,.b (decide (c.ret = (0 : Int))))],[(5,⟨46,.fix [.i c.proc,.i c.obj,.i c.kind,.i c.arg,.i c.ret,.i c.frm,.i c.to]⟩)],[30,5,999]⟩)
      (True ∧ True ∧ (True ∧ True) ∧ True ∧ True ∧ (True ∧ True ∧ True) ∧ True ∧ True ∧ True) (by kernel_rfl) (by kernel_rfl)
      ⟨tt,tt,⟨tt,tt⟩,tt,tt,⟨tt,tt,tt⟩,tt,tt,tt⟩ ?_
     refine W.ret (thenQ_ret (blockQ_ret (thenQ_ret (thenQ_ret ?_))))
     exact endQ_ret (.tup [.sl (.ints ([c.arg])),.b (decide (c.ret = (0 : Int)))]) (by kernel_rfl) (@cast (((.ints ([c.arg]) : Dat) = .ints ((specStep name state c).1)) ∧ ((.bool (decide (c.ret = (0 : Int))) : Value) = .bool ((specStep name state c).2)) ∧ True) _ (by kernel_rfl) ⟨(congrArg Dat.ints (by simp only [specStep,(decide_eq_true h14),h24,(decide_eq_true h27),n16,cond_true,cond_false,Bool.and_true,Bool.true_and,Bool.and_false,Bool.false_and,Bool.or_true,Bool.true_or,Bool.or_false,Bool.false_or,Bool.not_true,Bool.not_false])),(congrArg Value.bool (by simp only [specStep,(decide_eq_true h14),h24,(decide_eq_true h27),n16,cond_true,cond_false,Bool.and_true,Bool.true_and,Bool.and_false,Bool.false_and,Bool.or_true,Bool.true_or,Bool.or_false,Bool.false_or,Bool.not_true,Bool.not_false])),tt⟩)
    ·intro n27
     refine W.skip (thenQ_normal ?_)
     have hs0 := hs _ (getD_mem state 0 (show 0 < state.length by omega))
     refine W.KA cok tab28 hnt [] [6,7] (⟨[(6,.sl (.ints ([((state.getD 0 0) + c.arg)]))),(7,.b (decide (c.ret = (0 : Int))))],[(5,⟨46,.fix [.i c.proc,.i c.obj,.i c.kind,.i c.arg,.i c.ret,.i c.frm,.i c.to]⟩)],[40,5,999]⟩)
      (True ∧ (True ∧ True ∧ (0 ≤ (0 : Int)) ∧ ((0 : Int) < (state.length : Int))) ∧ True ∧ True ∧ True ∧ (True ∧ True ∧ (Fits .i64 ((state.getD 0 0) + c.arg))) ∧ (True ∧ True) ∧ True ∧ True ∧ (True ∧ True ∧ True) ∧ True ∧ True ∧ True) (by kernel_rfl) (by kernel_rfl)
      ⟨tt,⟨tt,tt,(by omega),(by omega)⟩,tt,tt,tt,⟨tt,tt,(by exact fits_i64 (by (first | omega | (simp only [List.length_set]; done) | (simp only [List.length_append,List.length_cons,List.length_nil,List.length_take,List.length_drop,List.length_set,List.length_replicate,List.length_map] at *; omega) | assumption)) (by (first | omega | (simp only [List.length_set]; done) | (simp only [List.length_append,List.length_cons,List.length_nil,List.length_take,List.length_drop,List.length_set,List.length_replicate,List.length_map] at *; omega) | assumption)))⟩,⟨tt,tt⟩,tt,tt,⟨tt,tt,tt⟩,tt,tt,tt⟩ ?_
     refine W.ret (blockQ_ret (thenQ_ret (thenQ_ret ?_)))
     exact endQ_ret (.tup [.sl (.ints ([((state.getD 0 0) + c.arg)])),.b (decide (c.ret = (0 : Int)))]) (by kernel_rfl) (@cast (((.ints ([((state.getD 0 0) + c.arg)]) : Dat) = .ints ((specStep name state c).1)) ∧ ((.bool (decide (c.ret = (0 : Int))) : Value) = .bool ((specStep name state c).2)) ∧ True) _ (by kernel_rfl) ⟨(congrArg Dat.ints (by simp only [specStep,(decide_eq_true h14),h24,n16,(decide_eq_false n27),cond_true,cond_false,Bool.and_true,Bool.true_and,Bool.and_false,Bool.false_and,Bool.or_true,Bool.true_or,Bool.or_false,Bool.false_or,Bool.not_true,Bool.not_false])),(congrArg Value.bool (by simp only [specStep,(decide_eq_true h14),h24,n16,(decide_eq_false n27),cond_true,cond_false,Bool.and_true,Bool.true_and,Bool.and_false,Bool.false_and,Bool.or_true,Bool.true_or,Bool.or_false,Bool.false_or,Bool.not_true,Bool.not_false])),tt⟩)
   ·intro n24
    refine Kk cok tab28 hnt [] [1,5,8,15,44] (⟨[(1,.sl (.ints state)),(5,.ptr 5 0),(8,.i (state.length : Int)),(15,.v (.string name)),(44,.b (eqS name nMost))],[(5,⟨46,.fix [.i c.proc,.i c.obj,.i c.kind,.i c.arg,.i c.ret,.i c.frm,.i c.to]⟩)],[5,999]⟩)
     ((True ∧ True ∧ True) ∧ True ∧ True)
     ⟨⟨tt,tt,tt⟩,tt,tt⟩ ?_
    refine W.if' (eqS name nMost) (.b (eqS name nMost)) (by kernel_rfl) rfl trivial ?_ ?_
    ·intro h44
     refine W.seq ?_
     refine W.KA cok tab28 hnt [] [1,5,55] (⟨[(1,.sl (.ints state)),(5,.ptr 5 0),(55,.b ((decide ((0 : Int) < (state.length : Int))) && (decide (c.arg < (state.getD 0 0)))))],[(5,⟨46,.fix [.i c.proc,.i c.obj,.i c.kind,.i c.arg,.i c.ret,.i c.frm,.i c.to]⟩)],[5,999]⟩)
      ((fun (Z1:Bool)=>(True ∧ ((True ∧ (True ∧ True)) ∧ (True ∧ ((Z1 = true → True) ∧ ((Z1 = true → (((Z1 = true) ∧ True) ∧ (True ∧ ((0 ≤ (0 : Int)) ∧ ((0 : Int) < (state.length : Int)))))) ∧ ((Z1 = true → ((Z1 = true) ∧ True)) ∧ ((Z1 = true → True) ∧ ((Z1 = true → ((Z1 = true) ∧ True)) ∧ ((Z1 = true → (((Z1 = true) ∧ True) ∧ (((Z1 = true) ∧ True) ∧ True))) ∧ ((True ∧ ((Z1 = true → (Z1 = true) ∧ True) ∧ (Z1 = false → True))) ∧ True))))))))))) (decide ((0 : Int) < (state.length : Int)))) (by kernel_rfl) (by kernel_rfl)
      ⟨tt,⟨tt,tt,tt⟩,tt,(fun _ => trivial),(fun hG => ⟨⟨hG,tt⟩,tt,(by have hg0 : (0 : Int) < (state.length : Int) := of_decide_eq_true hG; omega),(by have hg0 : (0 : Int) < (state.length : Int) := of_decide_eq_true hG; omega)⟩),(fun hG => ⟨hG,tt⟩),(fun _ => trivial),(fun hG => ⟨hG,tt⟩),(fun hG => ⟨⟨hG,tt⟩,⟨hG,tt⟩,tt⟩),⟨tt,(fun hp => ⟨hp,tt⟩),(fun _ => trivial)⟩,tt⟩ ?_
     refine W.if' ((decide ((0 : Int) < (state.length : Int))) && (decide (c.arg < (state.getD 0 0)))) (.b ((decide ((0 : Int) < (state.length : Int))) && (decide (c.arg < (state.getD 0 0))))) (by kernel_rfl) rfl trivial ?_ ?_
     ·intro h55
      have h55_0 : (0 : Int) < (state.length : Int) := of_decide_eq_true (and_l h55)
      have h55_1 : c.arg < (state.getD 0 0) := of_decide_eq_true (and_r h55)
      refine W.KA cok tab28 hnt [] [6,7] (⟨[(6,.sl (.ints state)),(7,.b (decide (c.ret = (0 : Int))))],[(5,⟨46,.fix [.i c.proc,.i c.obj,.i c.kind,.i c.arg,.i c.ret,.i c.frm,.i c.to]⟩)],[5,999]⟩)
       (True ∧ True ∧ True ∧ (True ∧ True ∧ True) ∧ True ∧ True ∧ True) (by kernel_rfl) (by kernel_rfl)
       ⟨tt,tt,tt,⟨tt,tt,tt⟩,tt,tt,tt⟩ ?_
      refine W.ret (thenQ_ret (blockQ_ret (thenQ_ret (thenQ_ret ?_))))
      exact endQ_ret (.tup [.sl (.ints state),.b (decide (c.ret = (0 : Int)))]) (by kernel_rfl) (@cast (((.ints state : Dat) = .ints ((specStep name state c).1)) ∧ ((.bool (decide (c.ret = (0 : Int))) : Value) = .bool ((specStep name state c).2)) ∧ True) _ (by kernel_rfl) ⟨(congrArg Dat.ints (by simp only [specStep,(decide_eq_true h14),h44,h55,(and_l h55),(and_r h55),n16,n24,cond_true,cond_false,Bool.and_true,Bool.true_and,Bool.and_false,Bool.false_and,Bool.or_true,Bool.true_or,Bool.or_false,Bool.false_or,Bool.not_true,Bool.not_false])),(congrArg Value.bool (by simp only [specStep,(decide_eq_true h14),h44,h55,(and_l h55),(and_r h55),n16,n24,cond_true,cond_false,Bool.and_true,Bool.true_and,Bool.and_false,Bool.false_and,Bool.or_true,Bool.true_or,Bool.or_false,Bool.false_or,Bool.not_true,Bool.not_false])),tt⟩)
     ·intro n55
      refine W.skip (thenQ_normal ?_)
      refine W.KA cok tab28 hnt [] [6,7] (⟨[(6,.sl (.ints ([c.arg]))),(7,.b (decide (c.ret = (0 : Int))))],[(5,⟨46,.fix [.i c.proc,.i c.obj,.i c.kind,.i c.arg,.i c.ret,.i c.frm,.i c.to]⟩)],[62,5,999]⟩)
       (True ∧ True ∧ (True ∧ True) ∧ True ∧ True ∧ (True ∧ True ∧ True) ∧ True ∧ True ∧ True) (by kernel_rfl) (by kernel_rfl)
       ⟨tt,tt,⟨tt,tt⟩,tt,tt,⟨tt,tt,tt⟩,tt,tt,tt⟩ ?_
      refine W.ret (blockQ_ret (thenQ_ret (thenQ_ret ?_)))
      exact endQ_ret (.tup [.sl (.ints ([c.arg])),.b (decide (c.ret = (0 : Int)))]) (by kernel_rfl) (@cast (((.ints ([c.arg]) : Dat) = .ints ((specStep name state c).1)) ∧ ((.bool (decide (c.ret = (0 : Int))) : Value) = .bool ((specStep name state c).2)) ∧ True) _ (by kernel_rfl) ⟨(congrArg Dat.ints (by simp only [specStep,(decide_eq_true h14),h44,n16,n24,n55,cond_true,cond_false,Bool.and_true,Bool.true_and,Bool.and_false,Bool.false_and,Bool.or_true,Bool.true_or,Bool.or_false,Bool.false_or,Bool.not_true,Bool.not_false])),(congrArg Value.bool (by simp only [specStep,(decide_eq_true h14),h44,n16,n24,n55,cond_true,cond_false,Bool.and_true,Bool.true_and,Bool.and_false,Bool.false_and,Bool.or_true,Bool.true_or,Bool.or_false,Bool.false_or,Bool.not_true,Bool.not_false])),tt⟩)
    ·intro n44
     refine Kk cok tab28 hnt [] [1,5,66] (⟨[(1,.sl (.ints state)),(5,.ptr 5 0),(66,.b (eqS name nSet))],[(5,⟨46,.fix [.i c.proc,.i c.obj,.i c.kind,.i c.arg,.i c.ret,.i c.frm,.i c.to]⟩)],[5,999]⟩)
      ((True ∧ True ∧ True) ∧ True ∧ True)
      ⟨⟨tt,tt,tt⟩,tt,tt⟩ ?_
     refine W.if' (eqS name nSet) (.b (eqS name nSet)) (by kernel_rfl) rfl trivial ?_ ?_
     ·intro h66
      refine W.seq ?_
      refine Kk cok tab28 hnt [] [1,5,71] (⟨[(1,.sl (.ints state)),(5,.ptr 5 0),(71,.b (hasInt state c.arg))],[(5,⟨46,.fix [.i c.proc,.i c.obj,.i c.kind,.i c.arg,.i c.ret,.i c.frm,.i c.to]⟩)],[5,999]⟩)
       (True ∧ True ∧ True ∧ (True ∧ (True ∧ True ∧ True) ∧ True) ∧ True)
       ⟨tt,tt,tt,⟨tt,⟨tt,tt,tt⟩,tt⟩,tt⟩ ?_
      refine W.if' (hasInt state c.arg) (.b (hasInt state c.arg)) (by kernel_rfl) rfl trivial ?_ ?_
      ·intro h71
       refine W.KA cok tab28 hnt [] [6,7] (⟨[(6,.sl (.ints state)),(7,.b (decide (c.ret = (0 : Int))))],[(5,⟨46,.fix [.i c.proc,.i c.obj,.i c.kind,.i c.arg,.i c.ret,.i c.frm,.i c.to]⟩)],[5,999]⟩)
        (True ∧ True ∧ True ∧ (True ∧ True ∧ True) ∧ True ∧ True ∧ True) (by kernel_rfl) (by kernel_rfl)
        ⟨tt,tt,tt,⟨tt,tt,tt⟩,tt,tt,tt⟩ ?_
       refine W.ret (thenQ_ret (blockQ_ret (thenQ_ret (thenQ_ret ?_))))
       exact endQ_ret (.tup [.sl (.ints state),.b (decide (c.ret = (0 : Int)))]) (by kernel_rfl) (@cast (((.ints state : Dat) = .ints ((specStep name state c).1)) ∧ ((.bool (decide (c.ret = (0 : Int))) : Value) = .bool ((specStep name state c).2)) ∧ True) _ (by kernel_rfl) ⟨(congrArg Dat.ints (by simp only [specStep,(decide_eq_true h14),h66,h71,n16,n24,n44,cond_true,cond_false,Bool.and_true,Bool.true_and,Bool.and_false,Bool.false_and,Bool.or_true,Bool.true_or,Bool.or_false,Bool.false_or,Bool.not_true,Bool.not_false])),(congrArg Value.bool (by simp only [specStep,(decide_eq_true h14),h66,h71,n16,n24,n44,cond_true,cond_false,Bool.and_true,Bool.true_and,Bool.and_false,Bool.false_and,Bool.or_true,Bool.true_or,Bool.or_false,Bool.false_or,Bool.not_true,Bool.not_false])),tt⟩)
      ·intro n71
       refine W.skip (thenQ_normal ?_)
       refine W.KA cok tab28 hnt [76,78] [6,7] (⟨[(6,.sl (.ints (state ++ ([c.arg])))),(7,.b (decide (c.ret = (1 : Int))))],[(5,⟨46,.fix [.i c.proc,.i c.obj,.i c.kind,.i c.arg,.i c.ret,.i c.frm,.i c.to]⟩)],[82,81,78,76,5,999]⟩)
        (True ∧ True ∧ ((True ∧ ((List.length ([] : List Int)) = (List.length ([] : List Int)))) ∧ True ∧ (((List.length ([] : List Int)) + state.length) * 8 ≤ 140737488355328)) ∧ True ∧ True ∧ (True ∧ True) ∧ ((True ∧ (state.length = state.length)) ∧ True ∧ ((state.length + (List.length ([c.arg]))) * 8 ≤ 140737488355328)) ∧ True ∧ True ∧ (True ∧ True ∧ True) ∧ True ∧ True ∧ True) (by kernel_rfl) (by kernel_rfl)
        ⟨tt,tt,⟨⟨tt,rfl⟩,tt,(by (first | omega | (simp only [List.length_set]; done) | (simp only [List.length_append,List.length_cons,List.length_nil,List.length_take,List.length_drop,List.length_set,List.length_replicate,List.length_map] at *; omega) | assumption))⟩,tt,tt,⟨tt,tt⟩,⟨⟨tt,rfl⟩,tt,(by (first | omega | (simp only [List.length_set]; done) | (simp only [List.length_append,List.length_cons,List.length_nil,List.length_take,List.length_drop,List.length_set,List.length_replicate,List.length_map] at *; omega) | assumption))⟩,tt,tt,⟨tt,tt,tt⟩,tt,tt,tt⟩ ?_
       refine W.ret (blockQ_ret (thenQ_ret (thenQ_ret ?_)))
       exact endQ_ret (.tup [.sl (.ints (state ++ ([c.arg]))),.b (decide (c.ret = (1 : Int)))]) (by kernel_rfl) (@cast (((.ints (state ++ ([c.arg])) : Dat) = .ints ((specStep name state c).1)) ∧ ((.bool (decide (c.ret = (1 : Int))) : Value) = .bool ((specStep name state c).2)) ∧ True) _ (by kernel_rfl) ⟨(congrArg Dat.ints (by simp only [specStep,(decide_eq_true h14),h66,n16,n24,n44,n71,cond_true,cond_false,Bool.and_true,Bool.true_and,Bool.and_false,Bool.false_and,Bool.or_true,Bool.true_or,Bool.or_false,Bool.false_or,Bool.not_true,Bool.not_false])),(congrArg Value.bool (by simp only [specStep,(decide_eq_true h14),h66,n16,n24,n44,n71,cond_true,cond_false,Bool.and_true,Bool.true_and,Bool.and_false,Bool.false_and,Bool.or_true,Bool.true_or,Bool.or_false,Bool.false_or,Bool.not_true,Bool.not_false])),tt⟩)
     ·intro n66
      refine W.skip (blockQ_normal (thenQ_normal ?_))
      refine W.KA cok tab28 hnt [86,88] [6,7] (⟨[(6,.sl (.ints (state ++ ([c.arg])))),(7,.b (decide (c.ret = (0 : Int))))],[(5,⟨46,.fix [.i c.proc,.i c.obj,.i c.kind,.i c.arg,.i c.ret,.i c.frm,.i c.to]⟩)],[92,91,88,86,5,999]⟩)
       (True ∧ True ∧ ((True ∧ ((List.length ([] : List Int)) = (List.length ([] : List Int)))) ∧ True ∧ (((List.length ([] : List Int)) + state.length) * 8 ≤ 140737488355328)) ∧ True ∧ True ∧ (True ∧ True) ∧ ((True ∧ (state.length = state.length)) ∧ True ∧ ((state.length + (List.length ([c.arg]))) * 8 ≤ 140737488355328)) ∧ True ∧ True ∧ (True ∧ True ∧ True) ∧ True ∧ True ∧ True) (by kernel_rfl) (by kernel_rfl)
       ⟨tt,tt,⟨⟨tt,rfl⟩,tt,(by (first | omega | (simp only [List.length_set]; done) | (simp only [List.length_append,List.length_cons,List.length_nil,List.length_take,List.length_drop,List.length_set,List.length_replicate,List.length_map] at *; omega) | assumption))⟩,tt,tt,⟨tt,tt⟩,⟨⟨tt,rfl⟩,tt,(by (first | omega | (simp only [List.length_set]; done) | (simp only [List.length_append,List.length_cons,List.length_nil,List.length_take,List.length_drop,List.length_set,List.length_replicate,List.length_map] at *; omega) | assumption))⟩,tt,tt,⟨tt,tt,tt⟩,tt,tt,tt⟩ ?_
      refine W.ret (thenQ_ret ?_)
      exact endQ_ret (.tup [.sl (.ints (state ++ ([c.arg]))),.b (decide (c.ret = (0 : Int)))]) (by kernel_rfl) (@cast (((.ints (state ++ ([c.arg])) : Dat) = .ints ((specStep name state c).1)) ∧ ((.bool (decide (c.ret = (0 : Int))) : Value) = .bool ((specStep name state c).2)) ∧ True) _ (by kernel_rfl) ⟨(congrArg Dat.ints (by simp only [specStep,(decide_eq_true h14),n16,n24,n44,n66,cond_true,cond_false,Bool.and_true,Bool.true_and,Bool.and_false,Bool.false_and,Bool.or_true,Bool.true_or,Bool.or_false,Bool.false_or,Bool.not_true,Bool.not_false])),(congrArg Value.bool (by simp only [specStep,(decide_eq_true h14),n16,n24,n44,n66,cond_true,cond_false,Bool.and_true,Bool.true_and,Bool.and_false,Bool.false_and,Bool.or_true,Bool.true_or,Bool.or_false,Bool.false_or,Bool.not_true,Bool.not_false])),tt⟩)
 ·intro n14
  refine W.skip (thenQ_normal ?_)
  refine W.seq ?_
  refine Kk cok tab28 hnt [] [0,1,5,8,98] (⟨[(0,.v (.string name)),(1,.sl (.ints state)),(5,.ptr 5 0),(8,.i (state.length : Int)),(98,.b (decide (c.kind = (2 : Int))))],[(5,⟨46,.fix [.i c.proc,.i c.obj,.i c.kind,.i c.arg,.i c.ret,.i c.frm,.i c.to]⟩)],[5,999]⟩)
   (True ∧ True ∧ (True ∧ True ∧ True) ∧ True)
   ⟨tt,tt,⟨tt,tt,tt⟩,tt⟩ ?_
  refine W.ifP (c.kind = (2 : Int)) (.b (decide (c.kind = (2 : Int)))) (by kernel_rfl) rfl trivial ?_ ?_
  ·intro h98
   refine W.seq ?_
   refine Kk cok tab28 hnt [] [1,5,8,99] (⟨[(1,.sl (.ints state)),(5,.ptr 5 0),(8,.i (state.length : Int)),(99,.v (.string name))],[(5,⟨46,.fix [.i c.proc,.i c.obj,.i c.kind,.i c.arg,.i c.ret,.i c.frm,.i c.to]⟩)],[5,999]⟩)
    (True ∧ True)
    ⟨tt,tt⟩ ?_
   refine W.block ?_
   refine Kk cok tab28 hnt [] [1,5,8,99,100] (⟨[(1,.sl (.ints state)),(5,.ptr 5 0),(8,.i (state.length : Int)),(99,.v (.string name)),(100,.b (eqS name nQueue))],[(5,⟨46,.fix [.i c.proc,.i c.obj,.i c.kind,.i c.arg,.i c.ret,.i c.frm,.i c.to]⟩)],[5,999]⟩)
    ((True ∧ True ∧ True) ∧ True ∧ True)
    ⟨⟨tt,tt,tt⟩,tt,tt⟩ ?_
   refine W.if' (eqS name nQueue) (.b (eqS name nQueue)) (by kernel_rfl) rfl trivial ?_ ?_
   ·intro h100
    refine W.seq ?_
    refine Kk cok tab28 hnt [] [1,5,103] (⟨[(1,.sl (.ints state)),(5,.ptr 5 0),(103,.b (decide ((state.length : Int) = (0 : Int))))],[(5,⟨46,.fix [.i c.proc,.i c.obj,.i c.kind,.i c.arg,.i c.ret,.i c.frm,.i c.to]⟩)],[5,999]⟩)
     (True ∧ (True ∧ True ∧ True) ∧ True)
     ⟨tt,⟨tt,tt,tt⟩,tt⟩ ?_
    refine W.ifP ((state.length : Int) = (0 : Int)) (.b (decide ((state.length : Int) = (0 : Int)))) (by kernel_rfl) rfl trivial ?_ ?_
    ·intro h103
     refine W.KA cok tab28 hnt [] [6,7] (⟨[(6,.sl (.ints state)),(7,.b (decide (c.ret = (-1 : Int))))],[(5,⟨46,.fix [.i c.proc,.i c.obj,.i c.kind,.i c.arg,.i c.ret,.i c.frm,.i c.to]⟩)],[5,999]⟩)
      (True ∧ True ∧ True ∧ (True ∧ True ∧ True) ∧ True ∧ True ∧ True) (by kernel_rfl) (by kernel_rfl)
      ⟨tt,tt,tt,⟨tt,tt,tt⟩,tt,tt,tt⟩ ?_
     refine W.ret (thenQ_ret (blockQ_ret (thenQ_ret (thenQ_ret ?_))))
     exact endQ_ret (.tup [.sl (.ints state),.b (decide (c.ret = (-1 : Int)))]) (by kernel_rfl) (@cast (((.ints state : Dat) = .ints ((specStep name state c).1)) ∧ ((.bool (decide (c.ret = (-1 : Int))) : Value) = .bool ((specStep name state c).2)) ∧ True) _ (by kernel_rfl) ⟨(congrArg Dat.ints (by simp only [specStep,(decide_eq_true h98),h100,(decide_eq_true h103),(decide_eq_false n14),cond_true,cond_false,Bool.and_true,Bool.true_and,Bool.and_false,Bool.false_and,Bool.or_true,Bool.true_or,Bool.or_false,Bool.false_or,Bool.not_true,Bool.not_false])),(congrArg Value.bool (by simp only [specStep,(decide_eq_true h98),h100,(decide_eq_true h103),(decide_eq_false n14),cond_true,cond_false,Bool.and_true,Bool.true_and,Bool.and_false,Bool.false_and,Bool.or_true,Bool.true_or,Bool.or_false,Bool.false_or,Bool.not_true,Bool.not_false])),tt⟩)
    ·intro n103
     refine W.skip (thenQ_normal ?_)
     refine W.KA cok tab28 hnt [] [6,7] (⟨[(6,.sl (.ints state)),(7,.b (decide (c.ret = (state.getD 0 0))))],[(5,⟨46,.fix [.i c.proc,.i c.obj,.i c.kind,.i c.arg,.i c.ret,.i c.frm,.i c.to]⟩)],[5,999]⟩)
      (True ∧ True ∧ True ∧ True ∧ (True ∧ True ∧ (0 ≤ (0 : Int)) ∧ ((0 : Int) < (state.length : Int))) ∧ True ∧ (True ∧ True ∧ True) ∧ True ∧ True ∧ True) (by kernel_rfl) (by kernel_rfl)
      ⟨tt,tt,tt,tt,⟨tt,tt,(by omega),(by omega)⟩,tt,⟨tt,tt,tt⟩,tt,tt,tt⟩ ?_
     refine W.ret (blockQ_ret (thenQ_ret (thenQ_ret ?_)))
     exact endQ_ret (.tup [.sl (.ints state),.b (decide (c.ret = (state.getD 0 0)))]) (by kernel_rfl) (@cast (((.ints state : Dat) = .ints ((specStep name state c).1)) ∧ ((.bool (decide (c.ret = (state.getD 0 0))) : Value) = .bool ((specStep name state c).2)) ∧ True) _ (by kernel_rfl) ⟨(congrArg Dat.ints (by simp only [specStep,(decide_eq_true h98),h100,(decide_eq_false n14),(decide_eq_false n103),cond_true,cond_false,Bool.and_true,Bool.true_and,Bool.and_false,Bool.false_and,Bool.or_true,Bool.true_or,Bool.or_false,Bool.false_or,Bool.not_true,Bool.not_false])),(congrArg Value.bool (by simp only [specStep,(decide_eq_true h98),h100,(decide_eq_false n14),(decide_eq_false n103),cond_true,cond_false,Bool.and_true,Bool.true_and,Bool.and_false,Bool.false_and,Bool.or_true,Bool.true_or,Bool.or_false,Bool.false_or,Bool.not_true,Bool.not_false])),tt⟩)
   ·intro n100
    refine Kk cok tab28 hnt [] [1,5,8,99,115] (⟨[(1,.sl (.ints state)),(5,.ptr 5 0),(8,.i (state.length : Int)),(99,.v (.string name)),(115,.b (eqS name nStack))],[(5,⟨46,.fix [.i c.proc,.i c.obj,.i c.kind,.i c.arg,.i c.ret,.i c.frm,.i c.to]⟩)],[5,999]⟩)
     ((True ∧ True ∧ True) ∧ True ∧ True)
     ⟨⟨tt,tt,tt⟩,tt,tt⟩ ?_
    refine W.if' (eqS name nStack) (.b (eqS name nStack)) (by kernel_rfl) rfl trivial ?_ ?_
    ·intro h115
     refine W.seq ?_
     refine Kk cok tab28 hnt [] [1,5,8,118] (⟨[(1,.sl (.ints state)),(5,.ptr 5 0),(8,.i (state.length : Int)),(118,.b (decide ((state.length : Int) = (0 : Int))))],[(5,⟨46,.fix [.i c.proc,.i c.obj,.i c.kind,.i c.arg,.i c.ret,.i c.frm,.i c.to]⟩)],[5,999]⟩)
      (True ∧ (True ∧ True ∧ True) ∧ True)
      ⟨tt,⟨tt,tt,tt⟩,tt⟩ ?_
     refine W.ifP ((state.length : Int) = (0 : Int)) (.b (decide ((state.length : Int) = (0 : Int)))) (by kernel_rfl) rfl trivial ?_ ?_
     ·intro h118
      refine W.KA cok tab28 hnt [] [6,7] (⟨[(6,.sl (.ints state)),(7,.b (decide (c.ret = (-1 : Int))))],[(5,⟨46,.fix [.i c.proc,.i c.obj,.i c.kind,.i c.arg,.i c.ret,.i c.frm,.i c.to]⟩)],[5,999]⟩)
       (True ∧ True ∧ True ∧ (True ∧ True ∧ True) ∧ True ∧ True ∧ True) (by kernel_rfl) (by kernel_rfl)
       ⟨tt,tt,tt,⟨tt,tt,tt⟩,tt,tt,tt⟩ ?_
      refine W.ret (thenQ_ret (blockQ_ret (thenQ_ret (thenQ_ret ?_))))
      exact endQ_ret (.tup [.sl (.ints state),.b (decide (c.ret = (-1 : Int)))]) (by kernel_rfl) (@cast (((.ints state : Dat) = .ints ((specStep name state c).1)) ∧ ((.bool (decide (c.ret = (-1 : Int))) : Value) = .bool ((specStep name state c).2)) ∧ True) _ (by kernel_rfl) ⟨(congrArg Dat.ints (by simp only [specStep,(decide_eq_true h98),h115,(decide_eq_true h118),(decide_eq_false n14),n100,cond_true,cond_false,Bool.and_true,Bool.true_and,Bool.and_false,Bool.false_and,Bool.or_true,Bool.true_or,Bool.or_false,Bool.false_or,Bool.not_true,Bool.not_false])),(congrArg Value.bool (by simp only [specStep,(decide_eq_true h98),h115,(decide_eq_true h118),(decide_eq_false n14),n100,cond_true,cond_false,Bool.and_true,Bool.true_and,Bool.and_false,Bool.false_and,Bool.or_true,Bool.true_or,Bool.or_false,Bool.false_or,Bool.not_true,Bool.not_false])),tt⟩)
     ·intro n118
      refine W.skip (thenQ_normal ?_)
      refine W.KA cok tab28 hnt [] [6,7] (⟨[(6,.sl (.ints state)),(7,.b (decide (c.ret = (state.getD (Int.toNat ((state.length : Int) - (1 : Int))) 0))))],[(5,⟨46,.fix [.i c.proc,.i c.obj,.i c.kind,.i c.arg,.i c.ret,.i c.frm,.i c.to]⟩)],[5,999]⟩)
       (True ∧ True ∧ True ∧ True ∧ True ∧ (True ∧ True ∧ (Fits .i64 ((state.length : Int) - (1 : Int)))) ∧ (True ∧ True ∧ (0 ≤ ((state.length : Int) - (1 : Int))) ∧ (((state.length : Int) - (1 : Int)) < (state.length : Int))) ∧ True ∧ (True ∧ True ∧ True) ∧ True ∧ True ∧ True) (by kernel_rfl) (by kernel_rfl)
       ⟨tt,tt,tt,tt,tt,⟨tt,tt,(by exact fits_i64 (by omega) (by omega))⟩,⟨tt,tt,(by omega),(by omega)⟩,tt,⟨tt,tt,tt⟩,tt,tt,tt⟩ ?_
      refine W.ret (blockQ_ret (thenQ_ret (thenQ_ret ?_)))
      exact endQ_ret (.tup [.sl (.ints state),.b (decide (c.ret = (state.getD (Int.toNat ((state.length : Int) - (1 : Int))) 0)))]) (by kernel_rfl) (@cast (((.ints state : Dat) = .ints ((specStep name state c).1)) ∧ ((.bool (decide (c.ret = (state.getD (Int.toNat ((state.length : Int) - (1 : Int))) 0))) : Value) = .bool ((specStep name state c).2)) ∧ True) _ (by kernel_rfl) ⟨(congrArg Dat.ints (by first | (rw [show Int.toNat (((List.length state : Nat) : Int) - (1 : Int)) = state.length - 1 by omega]; simp only [specStep,(decide_eq_true h98),h115,(decide_eq_false n14),n100,(decide_eq_false n118),cond_true,cond_false,Bool.and_true,Bool.true_and,Bool.and_false,Bool.false_and,Bool.or_true,Bool.true_or,Bool.or_false,Bool.false_or,Bool.not_true,Bool.not_false]; done) | simp only [specStep,(decide_eq_true h98),h115,(decide_eq_false n14),n100,(decide_eq_false n118),cond_true,cond_false,Bool.and_true,Bool.true_and,Bool.and_false,Bool.false_and,Bool.or_true,Bool.true_or,Bool.or_false,Bool.false_or,Bool.not_true,Bool.not_false])),(congrArg Value.bool (by first | (rw [show Int.toNat (((List.length state : Nat) : Int) - (1 : Int)) = state.length - 1 by omega]; simp only [specStep,(decide_eq_true h98),h115,(decide_eq_false n14),n100,(decide_eq_false n118),cond_true,cond_false,Bool.and_true,Bool.true_and,Bool.and_false,Bool.false_and,Bool.or_true,Bool.true_or,Bool.or_false,Bool.false_or,Bool.not_true,Bool.not_false]; done) | simp only [specStep,(decide_eq_true h98),h115,(decide_eq_false n14),n100,(decide_eq_false n118),cond_true,cond_false,Bool.and_true,Bool.true_and,Bool.and_false,Bool.false_and,Bool.or_true,Bool.true_or,Bool.or_false,Bool.false_or,Bool.not_true,Bool.not_false])),tt⟩)
    ·intro n115
     refine Kk cok tab28 hnt [] [1,5,8,132] (⟨[(1,.sl (.ints state)),(5,.ptr 5 0),(8,.i (state.length : Int)),(132,.b (eqS name nSet))],[(5,⟨46,.fix [.i c.proc,.i c.obj,.i c.kind,.i c.arg,.i c.ret,.i c.frm,.i c.to]⟩)],[5,999]⟩)
      ((True ∧ True ∧ True) ∧ True ∧ True)
      ⟨⟨tt,tt,tt⟩,tt,tt⟩ ?_
     refine W.if' (eqS name nSet) (.b (eqS name nSet)) (by kernel_rfl) rfl trivial ?_ ?_
     ·intro h132
      refine W.seq ?_
      refine Kk cok tab28 hnt [] [1,5,137] (⟨[(1,.sl (.ints state)),(5,.ptr 5 0),(137,.b (hasInt state c.arg))],[(5,⟨46,.fix [.i c.proc,.i c.obj,.i c.kind,.i c.arg,.i c.ret,.i c.frm,.i c.to]⟩)],[5,999]⟩)
       (True ∧ True ∧ True ∧ (True ∧ (True ∧ True ∧ True) ∧ True) ∧ True)
       ⟨tt,tt,tt,⟨tt,⟨tt,tt,tt⟩,tt⟩,tt⟩ ?_
      refine W.if' (hasInt state c.arg) (.b (hasInt state c.arg)) (by kernel_rfl) rfl trivial ?_ ?_
      ·intro h137
       refine W.KA cok tab28 hnt [] [6,7] (⟨[(6,.sl (.ints state)),(7,.b (decide (c.ret = (1 : Int))))],[(5,⟨46,.fix [.i c.proc,.i c.obj,.i c.kind,.i c.arg,.i c.ret,.i c.frm,.i c.to]⟩)],[5,999]⟩)
        (True ∧ True ∧ True ∧ (True ∧ True ∧ True) ∧ True ∧ True ∧ True) (by kernel_rfl) (by kernel_rfl)
        ⟨tt,tt,tt,⟨tt,tt,tt⟩,tt,tt,tt⟩ ?_
       refine W.ret (thenQ_ret (blockQ_ret (thenQ_ret (thenQ_ret ?_))))
       exact endQ_ret (.tup [.sl (.ints state),.b (decide (c.ret = (1 : Int)))]) (by kernel_rfl) (@cast (((.ints state : Dat) = .ints ((specStep name state c).1)) ∧ ((.bool (decide (c.ret = (1 : Int))) : Value) = .bool ((specStep name state c).2)) ∧ True) _ (by kernel_rfl) ⟨(congrArg Dat.ints (by simp only [specStep,(decide_eq_true h98),h132,h137,(decide_eq_false n14),n100,n115,cond_true,cond_false,Bool.and_true,Bool.true_and,Bool.and_false,Bool.false_and,Bool.or_true,Bool.true_or,Bool.or_false,Bool.false_or,Bool.not_true,Bool.not_false])),(congrArg Value.bool (by simp only [specStep,(decide_eq_true h98),h132,h137,(decide_eq_false n14),n100,n115,cond_true,cond_false,Bool.and_true,Bool.true_and,Bool.and_false,Bool.false_and,Bool.or_true,Bool.true_or,Bool.or_false,Bool.false_or,Bool.not_true,Bool.not_false])),tt⟩)
      ·intro n137
       refine W.skip (thenQ_normal ?_)
       refine W.KA cok tab28 hnt [] [6,7] (⟨[(6,.sl (.ints state)),(7,.b (decide (c.ret = (0 : Int))))],[(5,⟨46,.fix [.i c.proc,.i c.obj,.i c.kind,.i c.arg,.i c.ret,.i c.frm,.i c.to]⟩)],[5,999]⟩)
        (True ∧ True ∧ True ∧ (True ∧ True ∧ True) ∧ True ∧ True ∧ True) (by kernel_rfl) (by kernel_rfl)
        ⟨tt,tt,tt,⟨tt,tt,tt⟩,tt,tt,tt⟩ ?_
       refine W.ret (blockQ_ret (thenQ_ret (thenQ_ret ?_)))
       exact endQ_ret (.tup [.sl (.ints state),.b (decide (c.ret = (0 : Int)))]) (by kernel_rfl) (@cast (((.ints state : Dat) = .ints ((specStep name state c).1)) ∧ ((.bool (decide (c.ret = (0 : Int))) : Value) = .bool ((specStep name state c).2)) ∧ True) _ (by kernel_rfl) ⟨(congrArg Dat.ints (by simp only [specStep,(decide_eq_true h98),h132,(decide_eq_false n14),n100,n115,n137,cond_true,cond_false,Bool.and_true,Bool.true_and,Bool.and_false,Bool.false_and,Bool.or_true,Bool.true_or,Bool.or_false,Bool.false_or,Bool.not_true,Bool.not_false])),(congrArg Value.bool (by simp only [specStep,(decide_eq_true h98),h132,(decide_eq_false n14),n100,n115,n137,cond_true,cond_false,Bool.and_true,Bool.true_and,Bool.and_false,Bool.false_and,Bool.or_true,Bool.true_or,Bool.or_false,Bool.false_or,Bool.not_true,Bool.not_false])),tt⟩)
     ·intro n132
      refine W.skip (blockQ_normal (thenQ_normal ?_))
      refine W.seq ?_
      refine Kk cok tab28 hnt [] [1,5,147] (⟨[(1,.sl (.ints state)),(5,.ptr 5 0),(147,.b (decide ((state.length : Int) = (0 : Int))))],[(5,⟨46,.fix [.i c.proc,.i c.obj,.i c.kind,.i c.arg,.i c.ret,.i c.frm,.i c.to]⟩)],[5,999]⟩)
       (True ∧ (True ∧ True ∧ True) ∧ True)
       ⟨tt,⟨tt,tt,tt⟩,tt⟩ ?_
      refine W.ifP ((state.length : Int) = (0 : Int)) (.b (decide ((state.length : Int) = (0 : Int)))) (by kernel_rfl) rfl trivial ?_ ?_
      ·intro h147
       refine W.KA cok tab28 hnt [] [6,7] (⟨[(6,.sl (.ints state)),(7,.b (decide (c.ret = (0 : Int))))],[(5,⟨46,.fix [.i c.proc,.i c.obj,.i c.kind,.i c.arg,.i c.ret,.i c.frm,.i c.to]⟩)],[5,999]⟩)
        (True ∧ True ∧ True ∧ (True ∧ True ∧ True) ∧ True ∧ True ∧ True) (by kernel_rfl) (by kernel_rfl)
        ⟨tt,tt,tt,⟨tt,tt,tt⟩,tt,tt,tt⟩ ?_
       refine W.ret (thenQ_ret (thenQ_ret ?_))
       exact endQ_ret (.tup [.sl (.ints state),.b (decide (c.ret = (0 : Int)))]) (by kernel_rfl) (@cast (((.ints state : Dat) = .ints ((specStep name state c).1)) ∧ ((.bool (decide (c.ret = (0 : Int))) : Value) = .bool ((specStep name state c).2)) ∧ True) _ (by kernel_rfl) ⟨(congrArg Dat.ints (by simp only [specStep,(decide_eq_true h98),(decide_eq_true h147),(decide_eq_false n14),n100,n115,n132,cond_true,cond_false,Bool.and_true,Bool.true_and,Bool.and_false,Bool.false_and,Bool.or_true,Bool.true_or,Bool.or_false,Bool.false_or,Bool.not_true,Bool.not_false])),(congrArg Value.bool (by simp only [specStep,(decide_eq_true h98),(decide_eq_true h147),(decide_eq_false n14),n100,n115,n132,cond_true,cond_false,Bool.and_true,Bool.true_and,Bool.and_false,Bool.false_and,Bool.or_true,Bool.true_or,Bool.or_false,Bool.false_or,Bool.not_true,Bool.not_false])),tt⟩)
      ·intro n147
       refine W.skip (thenQ_normal ?_)
       refine W.KA cok tab28 hnt [] [6,7] (⟨[(6,.sl (.ints state)),(7,.b (decide (c.ret = (state.getD 0 0))))],[(5,⟨46,.fix [.i c.proc,.i c.obj,.i c.kind,.i c.arg,.i c.ret,.i c.frm,.i c.to]⟩)],[5,999]⟩)
        (True ∧ True ∧ True ∧ True ∧ (True ∧ True ∧ (0 ≤ (0 : Int)) ∧ ((0 : Int) < (state.length : Int))) ∧ True ∧ (True ∧ True ∧ True) ∧ True ∧ True ∧ True) (by kernel_rfl) (by kernel_rfl)
        ⟨tt,tt,tt,tt,⟨tt,tt,(by omega),(by omega)⟩,tt,⟨tt,tt,tt⟩,tt,tt,tt⟩ ?_
       refine W.ret (thenQ_ret ?_)
       exact endQ_ret (.tup [.sl (.ints state),.b (decide (c.ret = (state.getD 0 0)))]) (by kernel_rfl) (@cast (((.ints state : Dat) = .ints ((specStep name state c).1)) ∧ ((.bool (decide (c.ret = (state.getD 0 0))) : Value) = .bool ((specStep name state c).2)) ∧ True) _ (by kernel_rfl) ⟨(congrArg Dat.ints (by simp only [specStep,(decide_eq_true h98),(decide_eq_false n14),n100,n115,n132,(decide_eq_false n147),cond_true,cond_false,Bool.and_true,Bool.true_and,Bool.and_false,Bool.false_and,Bool.or_true,Bool.true_or,Bool.or_false,Bool.false_or,Bool.not_true,Bool.not_false])),(congrArg Value.bool (by simp only [specStep,(decide_eq_true h98),(decide_eq_false n14),n100,n115,n132,(decide_eq_false n147),cond_true,cond_false,Bool.and_true,Bool.true_and,Bool.and_false,Bool.false_and,Bool.or_true,Bool.true_or,Bool.or_false,Bool.false_or,Bool.not_true,Bool.not_false])),tt⟩)
  ·intro n98
   refine W.skip (thenQ_normal ?_)
   refine W.seq ?_
   refine Kk cok tab28 hnt [] [1,5,8,159] (⟨[(1,.sl (.ints state)),(5,.ptr 5 0),(8,.i (state.length : Int)),(159,.v (.string name))],[(5,⟨46,.fix [.i c.proc,.i c.obj,.i c.kind,.i c.arg,.i c.ret,.i c.frm,.i c.to]⟩)],[5,999]⟩)
    (True ∧ True)
    ⟨tt,tt⟩ ?_
   refine W.block ?_
   refine Kk cok tab28 hnt [] [1,5,8,159,160] (⟨[(1,.sl (.ints state)),(5,.ptr 5 0),(8,.i (state.length : Int)),(159,.v (.string name)),(160,.b (eqS name nQueue))],[(5,⟨46,.fix [.i c.proc,.i c.obj,.i c.kind,.i c.arg,.i c.ret,.i c.frm,.i c.to]⟩)],[5,999]⟩)
    ((True ∧ True ∧ True) ∧ True ∧ True)
    ⟨⟨tt,tt,tt⟩,tt,tt⟩ ?_
   refine W.if' (eqS name nQueue) (.b (eqS name nQueue)) (by kernel_rfl) rfl trivial ?_ ?_
   ·intro h160
    refine W.seq ?_
    refine Kk cok tab28 hnt [] [1,5,163] (⟨[(1,.sl (.ints state)),(5,.ptr 5 0),(163,.b (decide ((state.length : Int) = (0 : Int))))],[(5,⟨46,.fix [.i c.proc,.i c.obj,.i c.kind,.i c.arg,.i c.ret,.i c.frm,.i c.to]⟩)],[5,999]⟩)
     (True ∧ (True ∧ True ∧ True) ∧ True)
     ⟨tt,⟨tt,tt,tt⟩,tt⟩ ?_
    refine W.ifP ((state.length : Int) = (0 : Int)) (.b (decide ((state.length : Int) = (0 : Int)))) (by kernel_rfl) rfl trivial ?_ ?_
    ·intro h163
     refine W.KA cok tab28 hnt [] [6,7] (⟨[(6,.sl (.ints state)),(7,.b (decide (c.ret = (-1 : Int))))],[(5,⟨46,.fix [.i c.proc,.i c.obj,.i c.kind,.i c.arg,.i c.ret,.i c.frm,.i c.to]⟩)],[5,999]⟩)
      (True ∧ True ∧ True ∧ (True ∧ True ∧ True) ∧ True ∧ True ∧ True) (by kernel_rfl) (by kernel_rfl)
      ⟨tt,tt,tt,⟨tt,tt,tt⟩,tt,tt,tt⟩ ?_
     refine W.ret (thenQ_ret (blockQ_ret (thenQ_ret ?_)))
     exact endQ_ret (.tup [.sl (.ints state),.b (decide (c.ret = (-1 : Int)))]) (by kernel_rfl) (@cast (((.ints state : Dat) = .ints ((specStep name state c).1)) ∧ ((.bool (decide (c.ret = (-1 : Int))) : Value) = .bool ((specStep name state c).2)) ∧ True) _ (by kernel_rfl) ⟨(congrArg Dat.ints (by simp only [specStep,h160,(decide_eq_true h163),(decide_eq_false n14),(decide_eq_false n98),cond_true,cond_false,Bool.and_true,Bool.true_and,Bool.and_false,Bool.false_and,Bool.or_true,Bool.true_or,Bool.or_false,Bool.false_or,Bool.not_true,Bool.not_false])),(congrArg Value.bool (by simp only [specStep,h160,(decide_eq_true h163),(decide_eq_false n14),(decide_eq_false n98),cond_true,cond_false,Bool.and_true,Bool.true_and,Bool.and_false,Bool.false_and,Bool.or_true,Bool.true_or,Bool.or_false,Bool.false_or,Bool.not_true,Bool.not_false])),tt⟩)
    ·intro n163
     refine W.skip (thenQ_normal ?_)
     refine W.KA cok tab28 hnt [] [6,7] (⟨[(6,.sl (.ints (List.drop 1 (List.take state.length state)))),(7,.b (decide (c.ret = (state.getD 0 0))))],[(5,⟨46,.fix [.i c.proc,.i c.obj,.i c.kind,.i c.arg,.i c.ret,.i c.frm,.i c.to]⟩)],[5,999]⟩)
      (True ∧ (True ∧ True ∧ True ∧ (0 ≤ (1 : Int)) ∧ ((1 : Int) ≤ (state.length : Int)) ∧ ((state.length : Int) ≤ (state.length : Int))) ∧ True ∧ True ∧ True ∧ (True ∧ True ∧ (0 ≤ (0 : Int)) ∧ ((0 : Int) < (state.length : Int))) ∧ True ∧ (True ∧ True ∧ True) ∧ True ∧ True ∧ True) (by kernel_rfl) (by kernel_rfl)
      ⟨tt,⟨tt,tt,tt,(by omega),(by omega),(by omega)⟩,tt,tt,tt,⟨tt,tt,(by omega),(by omega)⟩,tt,⟨tt,tt,tt⟩,tt,tt,tt⟩ ?_
     refine W.ret (blockQ_ret (thenQ_ret ?_))
     exact endQ_ret (.tup [.sl (.ints (List.drop 1 (List.take state.length state))),.b (decide (c.ret = (state.getD 0 0)))]) (by kernel_rfl) (@cast (((.ints (List.drop 1 (List.take state.length state)) : Dat) = .ints ((specStep name state c).1)) ∧ ((.bool (decide (c.ret = (state.getD 0 0))) : Value) = .bool ((specStep name state c).2)) ∧ True) _ (by kernel_rfl) ⟨(congrArg Dat.ints (by first | (simp only [specStep,h160,(decide_eq_false n14),(decide_eq_false n98),(decide_eq_false n163),cond_true,cond_false,Bool.and_true,Bool.true_and,Bool.and_false,Bool.false_and,Bool.or_true,Bool.true_or,Bool.or_false,Bool.false_or,Bool.not_true,Bool.not_false,List.take_length]; done) | simp only [specStep,h160,(decide_eq_false n14),(decide_eq_false n98),(decide_eq_false n163),cond_true,cond_false,Bool.and_true,Bool.true_and,Bool.and_false,Bool.false_and,Bool.or_true,Bool.true_or,Bool.or_false,Bool.false_or,Bool.not_true,Bool.not_false])),(congrArg Value.bool (by first | (simp only [specStep,h160,(decide_eq_false n14),(decide_eq_false n98),(decide_eq_false n163),cond_true,cond_false,Bool.and_true,Bool.true_and,Bool.and_false,Bool.false_and,Bool.or_true,Bool.true_or,Bool.or_false,Bool.false_or,Bool.not_true,Bool.not_false,List.take_length]; done) | simp only [specStep,h160,(decide_eq_false n14),(decide_eq_false n98),(decide_eq_false n163),cond_true,cond_false,Bool.and_true,Bool.true_and,Bool.and_false,Bool.false_and,Bool.or_true,Bool.true_or,Bool.or_false,Bool.false_or,Bool.not_true,Bool.not_false])),tt⟩)
   ·intro n160
    refine Kk cok tab28 hnt [] [1,5,8,159,176] (⟨[(1,.sl (.ints state)),(5,.ptr 5 0),(8,.i (state.length : Int)),(159,.v (.string name)),(176,.b (eqS name nStack))],[(5,⟨46,.fix [.i c.proc,.i c.obj,.i c.kind,.i c.arg,.i c.ret,.i c.frm,.i c.to]⟩)],[5,999]⟩)
     ((True ∧ True ∧ True) ∧ True ∧ True)
     ⟨⟨tt,tt,tt⟩,tt,tt⟩ ?_
    refine W.if' (eqS name nStack) (.b (eqS name nStack)) (by kernel_rfl) rfl trivial ?_ ?_
    ·intro h176
     refine W.seq ?_
     refine Kk cok tab28 hnt [] [1,5,8,179] (⟨[(1,.sl (.ints state)),(5,.ptr 5 0),(8,.i (state.length : Int)),(179,.b (decide ((state.length : Int) = (0 : Int))))],[(5,⟨46,.fix [.i c.proc,.i c.obj,.i c.kind,.i c.arg,.i c.ret,.i c.frm,.i c.to]⟩)],[5,999]⟩)
      (True ∧ (True ∧ True ∧ True) ∧ True)
      ⟨tt,⟨tt,tt,tt⟩,tt⟩ ?_
     refine W.ifP ((state.length : Int) = (0 : Int)) (.b (decide ((state.length : Int) = (0 : Int)))) (by kernel_rfl) rfl trivial ?_ ?_
     ·intro h179
      refine W.KA cok tab28 hnt [] [6,7] (⟨[(6,.sl (.ints state)),(7,.b (decide (c.ret = (-1 : Int))))],[(5,⟨46,.fix [.i c.proc,.i c.obj,.i c.kind,.i c.arg,.i c.ret,.i c.frm,.i c.to]⟩)],[5,999]⟩)
       (True ∧ True ∧ True ∧ (True ∧ True ∧ True) ∧ True ∧ True ∧ True) (by kernel_rfl) (by kernel_rfl)
       ⟨tt,tt,tt,⟨tt,tt,tt⟩,tt,tt,tt⟩ ?_
      refine W.ret (thenQ_ret (blockQ_ret (thenQ_ret ?_)))
      exact endQ_ret (.tup [.sl (.ints state),.b (decide (c.ret = (-1 : Int)))]) (by kernel_rfl) (@cast (((.ints state : Dat) = .ints ((specStep name state c).1)) ∧ ((.bool (decide (c.ret = (-1 : Int))) : Value) = .bool ((specStep name state c).2)) ∧ True) _ (by kernel_rfl) ⟨(congrArg Dat.ints (by simp only [specStep,h176,(decide_eq_true h179),(decide_eq_false n14),(decide_eq_false n98),n160,cond_true,cond_false,Bool.and_true,Bool.true_and,Bool.and_false,Bool.false_and,Bool.or_true,Bool.true_or,Bool.or_false,Bool.false_or,Bool.not_true,Bool.not_false])),(congrArg Value.bool (by simp only [specStep,h176,(decide_eq_true h179),(decide_eq_false n14),(decide_eq_false n98),n160,cond_true,cond_false,Bool.and_true,Bool.true_and,Bool.and_false,Bool.false_and,Bool.or_true,Bool.true_or,Bool.or_false,Bool.false_or,Bool.not_true,Bool.not_false])),tt⟩)
     ·intro n179
      refine W.skip (thenQ_normal ?_)
      refine W.KA cok tab28 hnt [] [6,7] (⟨[(6,.sl (.ints (List.take (Int.toNat ((state.length : Int) - (1 : Int))) state))),(7,.b (decide (c.ret = (state.getD (Int.toNat ((state.length : Int) - (1 : Int))) 0))))],[(5,⟨46,.fix [.i c.proc,.i c.obj,.i c.kind,.i c.arg,.i c.ret,.i c.frm,.i c.to]⟩)],[5,999]⟩)
       (True ∧ True ∧ (True ∧ True ∧ (Fits .i64 ((state.length : Int) - (1 : Int)))) ∧ (True ∧ True ∧ True ∧ (0 ≤ (0 : Int)) ∧ ((0 : Int) ≤ ((state.length : Int) - (1 : Int))) ∧ (((state.length : Int) - (1 : Int)) ≤ (state.length : Int))) ∧ True ∧ True ∧ True ∧ True ∧ (True ∧ True ∧ (Fits .i64 ((state.length : Int) - (1 : Int)))) ∧ (True ∧ True ∧ (0 ≤ ((state.length : Int) - (1 : Int))) ∧ (((state.length : Int) - (1 : Int)) < (state.length : Int))) ∧ True ∧ (True ∧ True ∧ True) ∧ True ∧ True ∧ True) (by kernel_rfl) (by kernel_rfl)
       ⟨tt,tt,⟨tt,tt,(by exact fits_i64 (by omega) (by omega))⟩,⟨tt,tt,tt,(by omega),(by omega),(by omega)⟩,tt,tt,tt,tt,⟨tt,tt,(by exact fits_i64 (by omega) (by omega))⟩,⟨tt,tt,(by omega),(by omega)⟩,tt,⟨tt,tt,tt⟩,tt,tt,tt⟩ ?_
      refine W.ret (blockQ_ret (thenQ_ret ?_))
      exact endQ_ret (.tup [.sl (.ints (List.take (Int.toNat ((state.length : Int) - (1 : Int))) state)),.b (decide (c.ret = (state.getD (Int.toNat ((state.length : Int) - (1 : Int))) 0)))]) (by kernel_rfl) (@cast (((.ints (List.take (Int.toNat ((state.length : Int) - (1 : Int))) state) : Dat) = .ints ((specStep name state c).1)) ∧ ((.bool (decide (c.ret = (state.getD (Int.toNat ((state.length : Int) - (1 : Int))) 0))) : Value) = .bool ((specStep name state c).2)) ∧ True) _ (by kernel_rfl) ⟨(congrArg Dat.ints (by first | (rw [show Int.toNat (((List.length state : Nat) : Int) - (1 : Int)) = state.length - 1 by omega]; simp only [specStep,h176,(decide_eq_false n14),(decide_eq_false n98),n160,(decide_eq_false n179),cond_true,cond_false,Bool.and_true,Bool.true_and,Bool.and_false,Bool.false_and,Bool.or_true,Bool.true_or,Bool.or_false,Bool.false_or,Bool.not_true,Bool.not_false]; done) | simp only [specStep,h176,(decide_eq_false n14),(decide_eq_false n98),n160,(decide_eq_false n179),cond_true,cond_false,Bool.and_true,Bool.true_and,Bool.and_false,Bool.false_and,Bool.or_true,Bool.true_or,Bool.or_false,Bool.false_or,Bool.not_true,Bool.not_false])),(congrArg Value.bool (by first | (rw [show Int.toNat (((List.length state : Nat) : Int) - (1 : Int)) = state.length - 1 by omega]; simp only [specStep,h176,(decide_eq_false n14),(decide_eq_false n98),n160,(decide_eq_false n179),cond_true,cond_false,Bool.and_true,Bool.true_and,Bool.and_false,Bool.false_and,Bool.or_true,Bool.true_or,Bool.or_false,Bool.false_or,Bool.not_true,Bool.not_false]; done) | simp only [specStep,h176,(decide_eq_false n14),(decide_eq_false n98),n160,(decide_eq_false n179),cond_true,cond_false,Bool.and_true,Bool.true_and,Bool.and_false,Bool.false_and,Bool.or_true,Bool.true_or,Bool.or_false,Bool.false_or,Bool.not_true,Bool.not_false])),tt⟩)
    ·intro n176
     refine Kk cok tab28 hnt [] [1,5,8,196] (⟨[(1,.sl (.ints state)),(5,.ptr 5 0),(8,.i (state.length : Int)),(196,.b (eqS name nSet))],[(5,⟨46,.fix [.i c.proc,.i c.obj,.i c.kind,.i c.arg,.i c.ret,.i c.frm,.i c.to]⟩)],[5,999]⟩)
      ((True ∧ True ∧ True) ∧ True ∧ True)
      ⟨⟨tt,tt,tt⟩,tt,tt⟩ ?_
     refine W.if' (eqS name nSet) (.b (eqS name nSet)) (by kernel_rfl) rfl trivial ?_ ?_
     ·intro h196
      refine W.seq ?_
      refine Kk cok tab28 hnt [] [1,5,8,9] (⟨[(1,.sl (.ints state)),(5,.ptr 5 0),(8,.i (state.length : Int)),(9,.i (0 : Int))],[(5,⟨46,.fix [.i c.proc,.i c.obj,.i c.kind,.i c.arg,.i c.ret,.i c.frm,.i c.to]⟩)],[5,999]⟩)
       (True ∧ True)
       ⟨tt,tt⟩ ?_
      refine W.block ?_
      refine W.loop (ι := Nat) (fun (i : Nat) => (⟨[(1,.sl (.ints state)),(5,.ptr 5 0),(8,.i (state.length : Int)),(9,.i ((i : Nat) : Int))],[(5,⟨46,.fix [.i c.proc,.i c.obj,.i c.kind,.i c.arg,.i c.ret,.i c.frm,.i c.to]⟩)],[5,999]⟩ : St))
       (fun (i : Nat) => (i ≤ state.length) ∧ (∀ j,j < i → ¬ state.getD j 0 = c.arg))
       (fun (i : Nat) => (state.length - i : Nat)) (0) ?_ ?_ ?_
      ·exact (show (0 ≤ state.length) ∧ (∀ j,j < 0 → ¬ state.getD j 0 = c.arg) from ⟨(by first | assumption | omega | rfl | (intro _ hjj; omega) | (simp; done) | (simp; omega)),(by exact upto_zero)⟩)
      ·exact Sub.of [] (@cast (((Sd (.ints state)) ∧ (((5 : Nat) = 5) ∧ ((0 : Nat) = 0) ∧ ((5 : Nat) ∈ ([5,999] : List Nat))) ∧ (Si (state.length : Int)) ∧ ((.int .i64 (0 : Int) : Value) = .int .i64 ((0 : Nat) : Int)) ∧ True) ∧ ((((46 : Nat) = 46) ∧ ((Si c.proc) ∧ (Si c.obj) ∧ (Si c.kind) ∧ (Si c.arg) ∧ (Si c.ret) ∧ (Si c.frm) ∧ (Si c.to) ∧ True) ∧ ((5 : Nat) ∈ ([5,999] : List Nat))) ∧ True) ∧ (true = true) ∧ (true = true)) _ (by kernel_rfl) ⟨⟨rfl,⟨rfl,rfl,(by decide)⟩,rfl,(congrArg (Value.int .i64) (by first | rfl | omega | assumption | simp | simp_all)),tt⟩,⟨⟨rfl,⟨rfl,rfl,rfl,rfl,rfl,rfl,rfl,tt⟩,(by decide)⟩,tt⟩,rfl,rfl⟩)
      ·rintro i hC0
       have hC : (i ≤ state.length) ∧ (∀ j,j < i → ¬ state.getD j 0 = c.arg) := hC0
       clear hC0
       obtain ⟨hi,hA⟩ := hC
       refine W.to (⟨[(1,.sl (.ints state)),(5,.ptr 5 0),(8,.i (state.length : Int)),(9,.i ((i : Nat) : Int))],[(5,⟨46,.fix [.i c.proc,.i c.obj,.i c.kind,.i c.arg,.i c.ret,.i c.frm,.i c.to]⟩)],[5,999]⟩) rfl ?_
       refine W.seq ?_
       refine Kk cok tab28 hnt [] [1,5,8,9,200] (⟨[(1,.sl (.ints state)),(5,.ptr 5 0),(8,.i (state.length : Int)),(9,.i ((i : Nat) : Int)),(200,.b (decide (((i : Nat) : Int) < (state.length : Int))))],[(5,⟨46,.fix [.i c.proc,.i c.obj,.i c.kind,.i c.arg,.i c.ret,.i c.frm,.i c.to]⟩)],[5,999]⟩)
        (True ∧ True ∧ (True ∧ True ∧ True) ∧ True)
        ⟨tt,tt,⟨tt,tt,tt⟩,tt⟩ ?_
       refine W.ifP (((i : Nat) : Int) < (state.length : Int)) (.b (decide (((i : Nat) : Int) < (state.length : Int)))) (by kernel_rfl) rfl trivial ?_ ?_
       ·intro h200
        refine W.skip (thenQ_normal ?_)
        refine W.seq ?_
        refine W.block ?_
        refine W.KA cok tab28 hnt [] [1,5,8,9,209] (⟨[(1,.sl (.ints state)),(5,.ptr 5 0),(8,.i (state.length : Int)),(9,.i ((i : Nat) : Int)),(209,.b (decide ((state.getD i 0) = c.arg)))],[(5,⟨46,.fix [.i c.proc,.i c.obj,.i c.kind,.i c.arg,.i c.ret,.i c.frm,.i c.to]⟩)],[5,999]⟩)
         (True ∧ True ∧ (True ∧ True ∧ (0 ≤ ((i : Nat) : Int)) ∧ (((i : Nat) : Int) < (state.length : Int))) ∧ True ∧ True ∧ True ∧ (True ∧ True ∧ True) ∧ True) (by kernel_rfl) (by kernel_rfl)
         ⟨tt,tt,⟨tt,tt,(by omega),(by omega)⟩,tt,tt,tt,⟨tt,tt,tt⟩,tt⟩ ?_
        refine W.ifP ((state.getD i 0) = c.arg) (.b (decide ((state.getD i 0) = c.arg))) (by kernel_rfl) rfl trivial ?_ ?_
        ·intro h209
         refine W.KA cok tab28 hnt [210,214] [6,7] (⟨[(6,.sl (.ints ((List.take i state) ++ (List.drop (i + 1) (List.take state.length state))))),(7,.b (decide (c.ret = (1 : Int))))],[(5,⟨46,.fix [.i c.proc,.i c.obj,.i c.kind,.i c.arg,.i c.ret,.i c.frm,.i c.to]⟩)],[219,214,210,5,999]⟩)
          (True ∧ True ∧ True ∧ (True ∧ True ∧ True ∧ (0 ≤ (0 : Int)) ∧ ((0 : Int) ≤ ((i : Nat) : Int)) ∧ (((i : Nat) : Int) ≤ (state.length : Int))) ∧ ((True ∧ ((List.length ([] : List Int)) = (List.length ([] : List Int)))) ∧ True ∧ (((List.length ([] : List Int)) + (List.length (List.take i state))) * 8 ≤ 140737488355328)) ∧ True ∧ True ∧ (True ∧ True ∧ (Fits .i64 (((i + 1) : Nat) : Int))) ∧ (True ∧ True ∧ True ∧ (0 ≤ (((i + 1) : Nat) : Int)) ∧ ((((i + 1) : Nat) : Int) ≤ (state.length : Int)) ∧ ((state.length : Int) ≤ (state.length : Int))) ∧ ((True ∧ ((List.length (List.take i state)) = (List.length (List.take i state)))) ∧ True ∧ (((List.length (List.take i state)) + (List.length (List.drop (i + 1) (List.take state.length state)))) * 8 ≤ 140737488355328)) ∧ True ∧ True ∧ (True ∧ True ∧ True) ∧ True ∧ True ∧ True) (by kernel_rfl) (by kernel_rfl)
          ⟨tt,tt,tt,⟨tt,tt,tt,(by omega),(by omega),(by omega)⟩,⟨⟨tt,rfl⟩,tt,(by (first | omega | (simp only [List.length_set]; done) | (simp only [List.length_append,List.length_cons,List.length_nil,List.length_take,List.length_drop,List.length_set,List.length_replicate,List.length_map] at *; omega) | assumption))⟩,tt,tt,⟨tt,tt,(by exact fits_i64 (by omega) (by omega))⟩,⟨tt,tt,tt,(by omega),(by omega),(by omega)⟩,⟨⟨tt,rfl⟩,tt,(by (first | omega | (simp only [List.length_set]; done) | (simp only [List.length_append,List.length_cons,List.length_nil,List.length_take,List.length_drop,List.length_set,List.length_replicate,List.length_map] at *; omega) | assumption))⟩,tt,tt,⟨tt,tt,tt⟩,tt,tt,tt⟩ ?_
         refine W.ret (blockQ_ret (thenQ_ret (thenQ_ret (blockQ_ret (thenQ_ret (blockQ_ret (thenQ_ret ?_)))))))
         exact endQ_ret (.tup [.sl (.ints ((List.take i state) ++ (List.drop (i + 1) (List.take state.length state)))),.b (decide (c.ret = (1 : Int)))]) (by kernel_rfl) (@cast (((.ints ((List.take i state) ++ (List.drop (i + 1) (List.take state.length state))) : Dat) = .ints ((specStep name state c).1)) ∧ ((.bool (decide (c.ret = (1 : Int))) : Value) = .bool ((specStep name state c).2)) ∧ True) _ (by kernel_rfl) ⟨(congrArg Dat.ints (by have hh : hasInt state c.arg = true := anyN_true (i := i) (by omega) (decide_eq_true h209); have he := erase_at state c.arg i (by omega) h209 hA; first | (simp only [specStep,hh,h196,(decide_eq_true h200),(decide_eq_true h209),(decide_eq_false n14),(decide_eq_false n98),n160,n176,cond_true,cond_false,Bool.and_true,Bool.true_and,Bool.and_false,Bool.false_and,Bool.or_true,Bool.true_or,Bool.or_false,Bool.false_or,Bool.not_true,Bool.not_false]; done) | (rw [List.take_length,he]; simp only [specStep,hh,h196,(decide_eq_true h200),(decide_eq_true h209),(decide_eq_false n14),(decide_eq_false n98),n160,n176,cond_true,cond_false,Bool.and_true,Bool.true_and,Bool.and_false,Bool.false_and,Bool.or_true,Bool.true_or,Bool.or_false,Bool.false_or,Bool.not_true,Bool.not_false]))),(congrArg Value.bool (by have hh : hasInt state c.arg = true := anyN_true (i := i) (by omega) (decide_eq_true h209); have he := erase_at state c.arg i (by omega) h209 hA; first | (simp only [specStep,hh,h196,(decide_eq_true h200),(decide_eq_true h209),(decide_eq_false n14),(decide_eq_false n98),n160,n176,cond_true,cond_false,Bool.and_true,Bool.true_and,Bool.and_false,Bool.false_and,Bool.or_true,Bool.true_or,Bool.or_false,Bool.false_or,Bool.not_true,Bool.not_false]; done) | (rw [List.take_length,he]; simp only [specStep,hh,h196,(decide_eq_true h200),(decide_eq_true h209),(decide_eq_false n14),(decide_eq_false n98),n160,n176,cond_true,cond_false,Bool.and_true,Bool.true_and,Bool.and_false,Bool.false_and,Bool.or_true,Bool.true_or,Bool.or_false,Bool.false_or,Bool.not_true,Bool.not_false]))),tt⟩)
        ·intro n209
         refine W.skip (blockQ_normal (thenQ_normal ?_))
         refine Lk cok tab28 hnt [] (⟨[(1,.sl (.ints state)),(5,.ptr 5 0),(8,.i (state.length : Int)),(9,.i (((i + 1) : Nat) : Int)),(201,.i ((i : Nat) : Int)),(202,.i (((i + 1) : Nat) : Int)),(209,.b (decide ((state.getD i 0) = c.arg)))],[(5,⟨46,.fix [.i c.proc,.i c.obj,.i c.kind,.i c.arg,.i c.ret,.i c.frm,.i c.to]⟩)],[5,999]⟩)
          (True ∧ (True ∧ True ∧ (Fits .i64 (((i + 1) : Nat) : Int))) ∧ True ∧ True)
          ⟨tt,⟨tt,tt,(by exact fits_i64 (by omega) (by omega))⟩,tt,tt⟩ ?_
         refine thenQ_normal ?_
         refine ⟨((i + 1)),(show ((i + 1) ≤ state.length) ∧ (∀ j,j < (i + 1) → ¬ state.getD j 0 = c.arg) from ⟨(by first | assumption | omega | rfl | (intro _ hjj; omega) | (simp; done) | (simp; omega)),(by exact upto_succ hA n209)⟩),(show state.length - (i + 1) < state.length - i from (by first | omega | (simp_all; omega))),?_⟩
         exact Sub.of [] (@cast (((Sd (.ints state)) ∧ (((5 : Nat) = 5) ∧ ((0 : Nat) = 0) ∧ ((5 : Nat) ∈ ([5,999] : List Nat))) ∧ (Si (state.length : Int)) ∧ (Si (((i + 1) : Nat) : Int)) ∧ True) ∧ ((((46 : Nat) = 46) ∧ ((Si c.proc) ∧ (Si c.obj) ∧ (Si c.kind) ∧ (Si c.arg) ∧ (Si c.ret) ∧ (Si c.frm) ∧ (Si c.to) ∧ True) ∧ ((5 : Nat) ∈ ([5,999] : List Nat))) ∧ True) ∧ (true = true) ∧ (true = true)) _ (by kernel_rfl) ⟨⟨rfl,⟨rfl,rfl,(by decide)⟩,rfl,rfl,tt⟩,⟨⟨rfl,⟨rfl,rfl,rfl,rfl,rfl,rfl,rfl,tt⟩,(by decide)⟩,tt⟩,rfl,rfl⟩)
       ·intro n200
        refine W.exit (thenQ_exit (thenQ_exit (blockQ_hit ?_)))
        refine thenQ_normal ?_
        refine W.KA cok tab28 hnt [] [6,7] (⟨[(6,.sl (.ints state)),(7,.b (decide (c.ret = (0 : Int))))],[(5,⟨46,.fix [.i c.proc,.i c.obj,.i c.kind,.i c.arg,.i c.ret,.i c.frm,.i c.to]⟩)],[5,999]⟩)
         (True ∧ True ∧ True ∧ (True ∧ True ∧ True) ∧ True ∧ True ∧ True) (by kernel_rfl) (by kernel_rfl)
         ⟨tt,tt,tt,⟨tt,tt,tt⟩,tt,tt,tt⟩ ?_
        refine W.ret (blockQ_ret (thenQ_ret ?_))
        exact endQ_ret (.tup [.sl (.ints state),.b (decide (c.ret = (0 : Int)))]) (by kernel_rfl) (@cast (((.ints state : Dat) = .ints ((specStep name state c).1)) ∧ ((.bool (decide (c.ret = (0 : Int))) : Value) = .bool ((specStep name state c).2)) ∧ True) _ (by kernel_rfl) ⟨(congrArg Dat.ints (by have hh : hasInt state c.arg = false := anyN_false (fun j hj => decide_eq_false (hA j (by omega))); simp only [specStep,hh,h196,(decide_eq_false n14),(decide_eq_false n98),n160,n176,(decide_eq_false n200),cond_true,cond_false,Bool.and_true,Bool.true_and,Bool.and_false,Bool.false_and,Bool.or_true,Bool.true_or,Bool.or_false,Bool.false_or,Bool.not_true,Bool.not_false])),(congrArg Value.bool (by have hh : hasInt state c.arg = false := anyN_false (fun j hj => decide_eq_false (hA j (by omega))); simp only [specStep,hh,h196,(decide_eq_false n14),(decide_eq_false n98),n160,n176,(decide_eq_false n200),cond_true,cond_false,Bool.and_true,Bool.true_and,Bool.and_false,Bool.false_and,Bool.or_true,Bool.true_or,Bool.or_false,Bool.false_or,Bool.not_true,Bool.not_false])),tt⟩)
     ·intro n196
      refine W.skip (blockQ_normal (thenQ_normal ?_))
      refine W.seq ?_
      refine Kk cok tab28 hnt [] [1,5,228] (⟨[(1,.sl (.ints state)),(5,.ptr 5 0),(228,.b (decide ((state.length : Int) = (0 : Int))))],[(5,⟨46,.fix [.i c.proc,.i c.obj,.i c.kind,.i c.arg,.i c.ret,.i c.frm,.i c.to]⟩)],[5,999]⟩)
       (True ∧ (True ∧ True ∧ True) ∧ True)
       ⟨tt,⟨tt,tt,tt⟩,tt⟩ ?_
      refine W.ifP ((state.length : Int) = (0 : Int)) (.b (decide ((state.length : Int) = (0 : Int)))) (by kernel_rfl) rfl trivial ?_ ?_
      ·intro h228
       refine W.KA cok tab28 hnt [] [6,7] (⟨[(6,.sl (.ints ([] : List Int))),(7,.b (decide (c.ret = (0 : Int))))],[(5,⟨46,.fix [.i c.proc,.i c.obj,.i c.kind,.i c.arg,.i c.ret,.i c.frm,.i c.to]⟩)],[229,5,999]⟩)
        (True ∧ True ∧ True ∧ (True ∧ True ∧ True) ∧ True ∧ True ∧ True) (by kernel_rfl) (by kernel_rfl)
        ⟨tt,tt,tt,⟨tt,tt,tt⟩,tt,tt,tt⟩ ?_
       refine W.ret (thenQ_ret ?_)
       exact endQ_ret (.tup [.sl (.ints ([] : List Int)),.b (decide (c.ret = (0 : Int)))]) (by kernel_rfl) (@cast (((.ints ([] : List Int) : Dat) = .ints ((specStep name state c).1)) ∧ ((.bool (decide (c.ret = (0 : Int))) : Value) = .bool ((specStep name state c).2)) ∧ True) _ (by kernel_rfl) ⟨(congrArg Dat.ints (by simp only [specStep,(decide_eq_true h228),(decide_eq_false n14),(decide_eq_false n98),n160,n176,n196,cond_true,cond_false,Bool.and_true,Bool.true_and,Bool.and_false,Bool.false_and,Bool.or_true,Bool.true_or,Bool.or_false,Bool.false_or,Bool.not_true,Bool.not_false])),(congrArg Value.bool (by simp only [specStep,(decide_eq_true h228),(decide_eq_false n14),(decide_eq_false n98),n160,n176,n196,cond_true,cond_false,Bool.and_true,Bool.true_and,Bool.and_false,Bool.false_and,Bool.or_true,Bool.true_or,Bool.or_false,Bool.false_or,Bool.not_true,Bool.not_false])),tt⟩)
      ·intro n228
       refine W.skip (thenQ_normal ?_)
       refine W.KA cok tab28 hnt [] [6,7] (⟨[(6,.sl (.ints ([] : List Int))),(7,.b (decide (c.ret = (state.getD 0 0))))],[(5,⟨46,.fix [.i c.proc,.i c.obj,.i c.kind,.i c.arg,.i c.ret,.i c.frm,.i c.to]⟩)],[233,5,999]⟩)
        (True ∧ True ∧ True ∧ True ∧ (True ∧ True ∧ (0 ≤ (0 : Int)) ∧ ((0 : Int) < (state.length : Int))) ∧ True ∧ (True ∧ True ∧ True) ∧ True ∧ True ∧ True) (by kernel_rfl) (by kernel_rfl)
        ⟨tt,tt,tt,tt,⟨tt,tt,(by omega),(by omega)⟩,tt,⟨tt,tt,tt⟩,tt,tt,tt⟩ ?_
       refine W.ret ?_
       exact endQ_ret (.tup [.sl (.ints ([] : List Int)),.b (decide (c.ret = (state.getD 0 0)))]) (by kernel_rfl) (@cast (((.ints ([] : List Int) : Dat) = .ints ((specStep name state c).1)) ∧ ((.bool (decide (c.ret = (state.getD 0 0))) : Value) = .bool ((specStep name state c).2)) ∧ True) _ (by kernel_rfl) ⟨(congrArg Dat.ints (by simp only [specStep,(decide_eq_false n14),(decide_eq_false n98),n160,n176,n196,(decide_eq_false n228),cond_true,cond_false,Bool.and_true,Bool.true_and,Bool.and_false,Bool.false_and,Bool.or_true,Bool.true_or,Bool.or_false,Bool.false_or,Bool.not_true,Bool.not_false])),(congrArg Value.bool (by simp only [specStep,(decide_eq_false n14),(decide_eq_false n98),n160,n176,n196,(decide_eq_false n228),cond_true,cond_false,Bool.and_true,Bool.true_and,Bool.and_false,Bool.false_and,Bool.or_true,Bool.true_or,Bool.or_false,Bool.false_or,Bool.not_true,Bool.not_false])),tt⟩)
theorem ent28 : Entr prog 28 := ⟨_,func28,rfl,by decide⟩
end Go.Proofs.Try
