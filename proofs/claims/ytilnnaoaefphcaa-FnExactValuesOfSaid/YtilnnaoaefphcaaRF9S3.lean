import Derived.Test.YtilnnaoaefphcaaRF9S0
import Derived.Test.YtilnnaoaefphcaaRF9S2
import Derived.Test.YtilnnaoaefphcaaRF9S1
set_option linter.unusedSimpArgs false
set_option linter.unusedVariables false
namespace Go.Proofs.Try
open Go.Ab Go.RowKit
abbrev T41 : Tab := lk []
theorem tab41 : TabOK prog T41 := TabOK.nil
theorem ent41 : Entr prog 41 := ⟨_,func41,rfl,by decide⟩
set_option maxRecDepth 100000 in
set_option maxHeartbeats 1000000 in
theorem hok41 : ∀ (l : List MarkD) (k : Int),((l.length ≤ 2000000) ∧ (0 ≤ k ∧ k ≤ 1000000000)) → HOK prog 41 [911] [.own 911 l.length,.i k] [(911,⟨50,.row (.marks l)⟩)] [911] (fun r s1 u1 => r = (.i (k + 4 * (l.length : Int))) ∧ s1 = ([(911,⟨50,.row (.marks (markM l k))⟩)]) ∧ u1 = ([911])) := by
 intro l k hpre
 obtain ⟨hn,hk⟩ := hpre
 refine HOK.of cok func41 rfl rfl rfl ?_
 intro F hnt0
 have hnt : F.nt = 43 := hnt0.trans ntmps41
 refine W.to (⟨[(0,.own 911 l.length),(1,.i k)],[(911,⟨50,.row (.marks l)⟩)],[911]⟩) rfl ?_
 refine Kk cok tab41 hnt [] [0,1] (⟨[(0,.own 911 l.length),(1,.i k)],[(911,⟨50,.row (.marks l)⟩)],[911]⟩)
  (True ∧ True)
  ⟨tt,tt⟩ ?_
 refine W.seq ?_
 refine Kk cok tab41 hnt [] [0,1,5] (⟨[(0,.own 911 l.length),(1,.i k),(5,.i (0 : Int))],[(911,⟨50,.row (.marks l)⟩)],[911]⟩)
  (True ∧ True)
  ⟨tt,tt⟩ ?_
 refine W.block ?_
 refine W.loop (ι := Nat × Int × (List MarkD)) (fun (x : Nat × Int × (List MarkD)) => match x with | (i,kk,xs) => (⟨[(0,.own 911 l.length),(1,.i kk),(5,.i ((i : Nat) : Int))],[(911,⟨50,.row (.marks xs)⟩)],[911]⟩ : St))
  (fun (x : Nat × Int × (List MarkD)) => match x with | (i,kk,xs) => (i ≤ l.length) ∧ (xs = markMUp l k i) ∧ (kk = k + 4 * ((i : Nat) : Int)))
  (fun (x : Nat × Int × (List MarkD)) => match x with | (i,kk,xs) => (l.length - i : Nat)) (0,k,l) ?_ ?_ ?_
 ·exact (show (0 ≤ l.length) ∧ (l = markMUp l k 0) ∧ (k = k + 4 * ((0 : Nat) : Int)) from ⟨(by first | assumption | omega | rfl | (intro _ hjj; omega) | (simp; done) | (simp; omega)),(by rfl),(by first | assumption | omega | rfl | (intro _ hjj; omega) | (simp; done) | (simp; omega))⟩)
 ·exact Sub.of [] (@cast (((((911 : Nat) = 911) ∧ (l.length = l.length) ∧ ((911 : Nat) ∈ ([911] : List Nat))) ∧ (Si k) ∧ ((.int .i64 (0 : Int) : Value) = .int .i64 ((0 : Nat) : Int)) ∧ True) ∧ ((((50 : Nat) = 50) ∧ (Sd (.marks l)) ∧ ((911 : Nat) ∈ ([911] : List Nat))) ∧ True) ∧ (true = true) ∧ (true = true)) _ (by kernel_rfl) ⟨⟨⟨rfl,rfl,(by decide)⟩,rfl,(congrArg (Value.int .i64) (by first | rfl | omega | assumption | simp | simp_all)),tt⟩,⟨⟨rfl,rfl,(by decide)⟩,tt⟩,rfl,rfl⟩)
 ·rintro ⟨i,kk,xs⟩ hC0
  have hC : (i ≤ l.length) ∧ (xs = markMUp l k i) ∧ (kk = k + 4 * ((i : Nat) : Int)) := hC0
  clear hC0
  obtain ⟨hi,hx,hk2⟩ := hC
  refine W.to (⟨[(0,.own 911 l.length),(1,.i kk),(5,.i ((i : Nat) : Int))],[(911,⟨50,.row (.marks xs)⟩)],[911]⟩) rfl ?_
  have hxl : xs.length = l.length := by rw [hx]; exact markMUp_len l k i
  refine W.seq ?_
  refine Kk cok tab41 hnt [] [0,1,5,9] (⟨[(0,.own 911 l.length),(1,.i kk),(5,.i ((i : Nat) : Int)),(9,.b (decide (((i : Nat) : Int) < (l.length : Int))))],[(911,⟨50,.row (.marks xs)⟩)],[911]⟩)
   (True ∧ True ∧ True ∧ (True ∧ True ∧ True) ∧ True)
   ⟨tt,tt,tt,⟨tt,tt,tt⟩,tt⟩ ?_
  refine W.ifP (((i : Nat) : Int) < (l.length : Int)) (.b (decide (((i : Nat) : Int) < (l.length : Int)))) (by kernel_rfl) rfl trivial ?_ ?_
  ·intro h9
   refine W.skip (thenQ_normal ?_)
   refine W.seq ?_
   refine W.block ?_
   refine Kk cok tab41 hnt [] [0,1,5] (⟨[(0,.own 911 l.length),(1,.i kk),(5,.i ((i : Nat) : Int))],[(911,⟨50,.row (.marks (List.set xs i ({ xs.getD i default with value := kk })))⟩)],[911]⟩)
    (True ∧ True ∧ True ∧ (True ∧ True ∧ (0 ≤ ((i : Nat) : Int)) ∧ (((i : Nat) : Int) < (l.length : Int))) ∧ True ∧ (True ∧ True ∧ (i < xs.length)) ∧ True)
    ⟨tt,tt,tt,⟨tt,tt,(by omega),(by omega)⟩,tt,⟨tt,tt,(by omega)⟩,tt⟩ ?_
   refine Kk cok tab41 hnt [] [0,1,5] (⟨[(0,.own 911 l.length),(1,.i (kk + (1 : Int))),(5,.i ((i : Nat) : Int))],[(911,⟨50,.row (.marks (List.set xs i ({ xs.getD i default with value := kk })))⟩)],[911]⟩)
    (True ∧ (True ∧ True ∧ (Fits .i64 (kk + (1 : Int)))) ∧ True ∧ True)
    ⟨tt,⟨tt,tt,(by exact fits_i64 (by omega) (by omega))⟩,tt,tt⟩ ?_
   refine Kk cok tab41 hnt [] [0,1,5] (⟨[(0,.own 911 l.length),(1,.i (kk + (1 : Int))),(5,.i ((i : Nat) : Int))],[(911,⟨50,.row (.marks (List.set (List.set xs i ({ xs.getD i default with value := kk })) i ({ List.getD (List.set xs i ({ xs.getD i default with value := kk })) i default with proc := (kk + (1 : Int)) })))⟩)],[911]⟩)
    (True ∧ True ∧ True ∧ (True ∧ True ∧ (0 ≤ ((i : Nat) : Int)) ∧ (((i : Nat) : Int) < (l.length : Int))) ∧ True ∧ (True ∧ True ∧ (i < (List.length (List.set xs i ({ xs.getD i default with value := kk }))))) ∧ True)
    ⟨tt,tt,tt,⟨tt,tt,(by omega),(by omega)⟩,tt,⟨tt,tt,(by (first | omega | (simp only [List.length_set]; done) | (simp only [List.length_append,List.length_cons,List.length_nil,List.length_take,List.length_drop,List.length_set,List.length_replicate,List.length_map] at *; omega) | assumption))⟩,tt⟩ ?_
   refine Kk cok tab41 hnt [] [0,1,5] (⟨[(0,.own 911 l.length),(1,.i ((kk + (1 : Int)) + (1 : Int))),(5,.i ((i : Nat) : Int))],[(911,⟨50,.row (.marks (List.set (List.set xs i ({ xs.getD i default with value := kk })) i ({ List.getD (List.set xs i ({ xs.getD i default with value := kk })) i default with proc := (kk + (1 : Int)) })))⟩)],[911]⟩)
    (True ∧ (True ∧ True ∧ (Fits .i64 ((kk + (1 : Int)) + (1 : Int)))) ∧ True ∧ True)
    ⟨tt,⟨tt,tt,(by exact fits_i64 (by omega) (by omega))⟩,tt,tt⟩ ?_
   refine Kk cok tab41 hnt [] [0,1,5] (⟨[(0,.own 911 l.length),(1,.i ((kk + (1 : Int)) + (1 : Int))),(5,.i ((i : Nat) : Int))],[(911,⟨50,.row (.marks (List.set (List.set (List.set xs i ({ xs.getD i default with value := kk })) i ({ List.getD (List.set xs i ({ xs.getD i default with value := kk })) i default with proc := (kk + (1 : Int)) })) i ({ List.getD (List.set (List.set xs i ({ xs.getD i default with value := kk })) i ({ List.getD (List.set xs i ({ xs.getD i default with value := kk })) i default with proc := (kk + (1 : Int)) })) i default with number := ((kk + (1 : Int)) + (1 : Int)) })))⟩)],[911]⟩)
    (True ∧ True ∧ True ∧ (True ∧ True ∧ (0 ≤ ((i : Nat) : Int)) ∧ (((i : Nat) : Int) < (l.length : Int))) ∧ True ∧ (True ∧ True ∧ (i < (List.length (List.set (List.set xs i ({ xs.getD i default with value := kk })) i ({ List.getD (List.set xs i ({ xs.getD i default with value := kk })) i default with proc := (kk + (1 : Int)) }))))) ∧ True)
    ⟨tt,tt,tt,⟨tt,tt,(by omega),(by omega)⟩,tt,⟨tt,tt,(by (first | omega | (simp only [List.length_set]; done) | (simp only [List.length_append,List.length_cons,List.length_nil,List.length_take,List.length_drop,List.length_set,List.length_replicate,List.length_map] at *; omega) | assumption))⟩,tt⟩ ?_
   refine Kk cok tab41 hnt [] [0,1,5] (⟨[(0,.own 911 l.length),(1,.i (((kk + (1 : Int)) + (1 : Int)) + (1 : Int))),(5,.i ((i : Nat) : Int))],[(911,⟨50,.row (.marks (List.set (List.set (List.set xs i ({ xs.getD i default with value := kk })) i ({ List.getD (List.set xs i ({ xs.getD i default with value := kk })) i default with proc := (kk + (1 : Int)) })) i ({ List.getD (List.set (List.set xs i ({ xs.getD i default with value := kk })) i ({ List.getD (List.set xs i ({ xs.getD i default with value := kk })) i default with proc := (kk + (1 : Int)) })) i default with number := ((kk + (1 : Int)) + (1 : Int)) })))⟩)],[911]⟩)
    (True ∧ (True ∧ True ∧ (Fits .i64 (((kk + (1 : Int)) + (1 : Int)) + (1 : Int)))) ∧ True ∧ True)
    ⟨tt,⟨tt,tt,(by exact fits_i64 (by omega) (by omega))⟩,tt,tt⟩ ?_
   refine Kk cok tab41 hnt [] [0,1,5] (⟨[(0,.own 911 l.length),(1,.i (((kk + (1 : Int)) + (1 : Int)) + (1 : Int))),(5,.i ((i : Nat) : Int))],[(911,⟨50,.row (.marks (List.set (List.set (List.set (List.set xs i ({ xs.getD i default with value := kk })) i ({ List.getD (List.set xs i ({ xs.getD i default with value := kk })) i default with proc := (kk + (1 : Int)) })) i ({ List.getD (List.set (List.set xs i ({ xs.getD i default with value := kk })) i ({ List.getD (List.set xs i ({ xs.getD i default with value := kk })) i default with proc := (kk + (1 : Int)) })) i default with number := ((kk + (1 : Int)) + (1 : Int)) })) i ({ List.getD (List.set (List.set (List.set xs i ({ xs.getD i default with value := kk })) i ({ List.getD (List.set xs i ({ xs.getD i default with value := kk })) i default with proc := (kk + (1 : Int)) })) i ({ List.getD (List.set (List.set xs i ({ xs.getD i default with value := kk })) i ({ List.getD (List.set xs i ({ xs.getD i default with value := kk })) i default with proc := (kk + (1 : Int)) })) i default with number := ((kk + (1 : Int)) + (1 : Int)) })) i default with gone := (decide ((Int.tmod (((kk + (1 : Int)) + (1 : Int)) + (1 : Int)) (3 : Int)) = (0 : Int))) })))⟩)],[911]⟩)
    (True ∧ True ∧ True ∧ (True ∧ True ∧ ((3 : Int) ≠ 0)) ∧ (True ∧ True ∧ True) ∧ (True ∧ True ∧ (0 ≤ ((i : Nat) : Int)) ∧ (((i : Nat) : Int) < (l.length : Int))) ∧ True ∧ (True ∧ True ∧ (i < (List.length (List.set (List.set (List.set xs i ({ xs.getD i default with value := kk })) i ({ List.getD (List.set xs i ({ xs.getD i default with value := kk })) i default with proc := (kk + (1 : Int)) })) i ({ List.getD (List.set (List.set xs i ({ xs.getD i default with value := kk })) i ({ List.getD (List.set xs i ({ xs.getD i default with value := kk })) i default with proc := (kk + (1 : Int)) })) i default with number := ((kk + (1 : Int)) + (1 : Int)) }))))) ∧ True)
    ⟨tt,tt,tt,⟨tt,tt,(by decide)⟩,⟨tt,tt,tt⟩,⟨tt,tt,(by omega),(by omega)⟩,tt,⟨tt,tt,(by (first | omega | (simp only [List.length_set]; done) | (simp only [List.length_append,List.length_cons,List.length_nil,List.length_take,List.length_drop,List.length_set,List.length_replicate,List.length_map] at *; omega) | assumption))⟩,tt⟩ ?_
   refine Lk cok tab41 hnt [] (⟨[(0,.own 911 l.length),(1,.i ((((kk + (1 : Int)) + (1 : Int)) + (1 : Int)) + (1 : Int))),(5,.i ((i : Nat) : Int)),(40,.i (((kk + (1 : Int)) + (1 : Int)) + (1 : Int))),(41,.i ((((kk + (1 : Int)) + (1 : Int)) + (1 : Int)) + (1 : Int)))],[(911,⟨50,.row (.marks (List.set (List.set (List.set (List.set xs i ({ xs.getD i default with value := kk })) i ({ List.getD (List.set xs i ({ xs.getD i default with value := kk })) i default with proc := (kk + (1 : Int)) })) i ({ List.getD (List.set (List.set xs i ({ xs.getD i default with value := kk })) i ({ List.getD (List.set xs i ({ xs.getD i default with value := kk })) i default with proc := (kk + (1 : Int)) })) i default with number := ((kk + (1 : Int)) + (1 : Int)) })) i ({ List.getD (List.set (List.set (List.set xs i ({ xs.getD i default with value := kk })) i ({ List.getD (List.set xs i ({ xs.getD i default with value := kk })) i default with proc := (kk + (1 : Int)) })) i ({ List.getD (List.set (List.set xs i ({ xs.getD i default with value := kk })) i ({ List.getD (List.set xs i ({ xs.getD i default with value := kk })) i default with proc := (kk + (1 : Int)) })) i default with number := ((kk + (1 : Int)) + (1 : Int)) })) i default with gone := (decide ((Int.tmod (((kk + (1 : Int)) + (1 : Int)) + (1 : Int)) (3 : Int)) = (0 : Int))) })))⟩)],[911]⟩)
    (True ∧ (True ∧ True ∧ (Fits .i64 ((((kk + (1 : Int)) + (1 : Int)) + (1 : Int)) + (1 : Int)))) ∧ True ∧ True)
    ⟨tt,⟨tt,tt,(by exact fits_i64 (by omega) (by omega))⟩,tt,tt⟩ ?_
   refine blockQ_normal (thenQ_normal ?_)
   refine Lk cok tab41 hnt [] (⟨[(0,.own 911 l.length),(1,.i ((((kk + (1 : Int)) + (1 : Int)) + (1 : Int)) + (1 : Int))),(5,.i (((i + 1) : Nat) : Int)),(10,.i ((i : Nat) : Int)),(11,.i (((i + 1) : Nat) : Int)),(40,.i (((kk + (1 : Int)) + (1 : Int)) + (1 : Int))),(41,.i ((((kk + (1 : Int)) + (1 : Int)) + (1 : Int)) + (1 : Int)))],[(911,⟨50,.row (.marks (List.set (List.set (List.set (List.set xs i ({ xs.getD i default with value := kk })) i ({ List.getD (List.set xs i ({ xs.getD i default with value := kk })) i default with proc := (kk + (1 : Int)) })) i ({ List.getD (List.set (List.set xs i ({ xs.getD i default with value := kk })) i ({ List.getD (List.set xs i ({ xs.getD i default with value := kk })) i default with proc := (kk + (1 : Int)) })) i default with number := ((kk + (1 : Int)) + (1 : Int)) })) i ({ List.getD (List.set (List.set (List.set xs i ({ xs.getD i default with value := kk })) i ({ List.getD (List.set xs i ({ xs.getD i default with value := kk })) i default with proc := (kk + (1 : Int)) })) i ({ List.getD (List.set (List.set xs i ({ xs.getD i default with value := kk })) i ({ List.getD (List.set xs i ({ xs.getD i default with value := kk })) i default with proc := (kk + (1 : Int)) })) i default with number := ((kk + (1 : Int)) + (1 : Int)) })) i default with gone := (decide ((Int.tmod (((kk + (1 : Int)) + (1 : Int)) + (1 : Int)) (3 : Int)) = (0 : Int))) })))⟩)],[911]⟩)
    (True ∧ (True ∧ True ∧ (Fits .i64 (((i + 1) : Nat) : Int))) ∧ True ∧ True)
    ⟨tt,⟨tt,tt,(by exact fits_i64 (by omega) (by omega))⟩,tt,tt⟩ ?_
   refine thenQ_normal ?_
   refine ⟨((i + 1),((((kk + (1 : Int)) + (1 : Int)) + (1 : Int)) + (1 : Int)),(List.set (List.set (List.set (List.set xs i ({ xs.getD i default with value := kk })) i ({ List.getD (List.set xs i ({ xs.getD i default with value := kk })) i default with proc := (kk + (1 : Int)) })) i ({ List.getD (List.set (List.set xs i ({ xs.getD i default with value := kk })) i ({ List.getD (List.set xs i ({ xs.getD i default with value := kk })) i default with proc := (kk + (1 : Int)) })) i default with number := ((kk + (1 : Int)) + (1 : Int)) })) i ({ List.getD (List.set (List.set (List.set xs i ({ xs.getD i default with value := kk })) i ({ List.getD (List.set xs i ({ xs.getD i default with value := kk })) i default with proc := (kk + (1 : Int)) })) i ({ List.getD (List.set (List.set xs i ({ xs.getD i default with value := kk })) i ({ List.getD (List.set xs i ({ xs.getD i default with value := kk })) i default with proc := (kk + (1 : Int)) })) i default with number := ((kk + (1 : Int)) + (1 : Int)) })) i default with gone := (decide ((Int.tmod (((kk + (1 : Int)) + (1 : Int)) + (1 : Int)) (3 : Int)) = (0 : Int))) }))),(show ((i + 1) ≤ l.length) ∧ ((List.set (List.set (List.set (List.set xs i ({ xs.getD i default with value := kk })) i ({ List.getD (List.set xs i ({ xs.getD i default with value := kk })) i default with proc := (kk + (1 : Int)) })) i ({ List.getD (List.set (List.set xs i ({ xs.getD i default with value := kk })) i ({ List.getD (List.set xs i ({ xs.getD i default with value := kk })) i default with proc := (kk + (1 : Int)) })) i default with number := ((kk + (1 : Int)) + (1 : Int)) })) i ({ List.getD (List.set (List.set (List.set xs i ({ xs.getD i default with value := kk })) i ({ List.getD (List.set xs i ({ xs.getD i default with value := kk })) i default with proc := (kk + (1 : Int)) })) i ({ List.getD (List.set (List.set xs i ({ xs.getD i default with value := kk })) i ({ List.getD (List.set xs i ({ xs.getD i default with value := kk })) i default with proc := (kk + (1 : Int)) })) i default with number := ((kk + (1 : Int)) + (1 : Int)) })) i default with gone := (decide ((Int.tmod (((kk + (1 : Int)) + (1 : Int)) + (1 : Int)) (3 : Int)) = (0 : Int))) })) = markMUp l k (i + 1)) ∧ (((((kk + (1 : Int)) + (1 : Int)) + (1 : Int)) + (1 : Int)) = k + 4 * (((i + 1) : Nat) : Int)) from ⟨(by first | assumption | omega | rfl | (intro _ hjj; omega) | (simp; done) | (simp; omega)),(by exact (set4 (by omega) _ _ _ _).trans (markM_step hx (by omega) hk2)),(by first | assumption | omega | rfl | (intro _ hjj; omega) | (simp; done) | (simp; omega))⟩),(show l.length - (i + 1) < l.length - i from (by first | omega | (simp_all; omega))),?_⟩
   exact Sub.of [] (@cast (((((911 : Nat) = 911) ∧ (l.length = l.length) ∧ ((911 : Nat) ∈ ([911] : List Nat))) ∧ (Si ((((kk + (1 : Int)) + (1 : Int)) + (1 : Int)) + (1 : Int))) ∧ (Si (((i + 1) : Nat) : Int)) ∧ True) ∧ ((((50 : Nat) = 50) ∧ (Sd (.marks (List.set (List.set (List.set (List.set xs i ({ xs.getD i default with value := kk })) i ({ List.getD (List.set xs i ({ xs.getD i default with value := kk })) i default with proc := (kk + (1 : Int)) })) i ({ List.getD (List.set (List.set xs i ({ xs.getD i default with value := kk })) i ({ List.getD (List.set xs i ({ xs.getD i default with value := kk })) i default with proc := (kk + (1 : Int)) })) i default with number := ((kk + (1 : Int)) + (1 : Int)) })) i ({ List.getD (List.set (List.set (List.set xs i ({ xs.getD i default with value := kk })) i ({ List.getD (List.set xs i ({ xs.getD i default with value := kk })) i default with proc := (kk + (1 : Int)) })) i ({ List.getD (List.set (List.set xs i ({ xs.getD i default with value := kk })) i ({ List.getD (List.set xs i ({ xs.getD i default with value := kk })) i default with proc := (kk + (1 : Int)) })) i default with number := ((kk + (1 : Int)) + (1 : Int)) })) i default with gone := (decide ((Int.tmod (((kk + (1 : Int)) + (1 : Int)) + (1 : Int)) (3 : Int)) = (0 : Int))) })))) ∧ ((911 : Nat) ∈ ([911] : List Nat))) ∧ True) ∧ (true = true) ∧ (true = true)) _ (by kernel_rfl) ⟨⟨⟨rfl,rfl,(by decide)⟩,rfl,rfl,tt⟩,⟨⟨rfl,rfl,(by decide)⟩,tt⟩,rfl,rfl⟩)
  ·intro n9
   refine W.exit (thenQ_exit (thenQ_exit (blockQ_hit ?_)))
   refine thenQ_normal ?_
   refine Kk cok tab41 hnt [] [4] (⟨[(4,.i kk)],[(911,⟨50,.row (.marks xs)⟩)],[911]⟩)
    (True ∧ True ∧ True)
    ⟨tt,tt,tt⟩ ?_
   refine W.ret ?_
   exact endH_ret (.i (k + 4 * (l.length : Int))) [(911,⟨50,.row (.marks (markM l k))⟩)] [911] ⟨rfl,rfl,rfl⟩ [(911,911)] (.i kk) (by kernel_rfl) (@cast (((.int .i64 kk : Value) = .int .i64 (k + 4 * (l.length : Int))) ∧ ((((50 : Nat) = 50) ∧ ((.marks xs : Dat) = .marks (markM l k)) ∧ ((911 : Nat) ∈ ([911] : List Nat))) ∧ True) ∧ (true = true) ∧ (true = true)) _ (by kernel_rfl) ⟨(congrArg (Value.int .i64) (by first | exact markM_all hx hi (by assumption) | omega)),⟨⟨rfl,(congrArg Dat.marks (by first | exact markM_all hx hi (by assumption) | omega)),(by decide)⟩,tt⟩,rfl,rfl⟩)
end Go.Proofs.Try

set_option linter.unusedSimpArgs false
set_option linter.unusedVariables false
namespace Go.Proofs.Try
open Go.Ab Go.RowKit
abbrev T15 : Tab := lk []
theorem tab15 : TabOK prog T15 := TabOK.nil
theorem ent15 : Entr prog 15 := ⟨_,func15,rfl,by decide⟩
set_option maxRecDepth 100000 in
set_option maxHeartbeats 1000000 in
theorem hok15 : ∀ (cu : List Int) (cd : List Int) (cv : Int) (ct : Int) (cp : Int) (cm : List MarkD) (k : Int),((((List.length cu ≤ 1048576 ∧ List.length cd ≤ 1048576 ∧ List.length cm ≤ 1048576) ∧ 0 ≤ k ∧ k ≤ 100000000))) → HOK prog 15 [911,912,913] [.agg [.own 911 cu.length,.own 912 cd.length,.i cv,.i ct,.i cp,.own 913 cm.length],.i k] [(911,⟨3,.row (.ints cu)⟩),(912,⟨3,.row (.ints cd)⟩),(913,⟨50,.row (.marks cm)⟩)] [911,912,913] (fun r s1 u1 => r = (.i (k + ((List.length cu : Nat) : Int) + ((List.length cd : Nat) : Int) + 4 * ((List.length cm : Nat) : Int))) ∧ s1 = ([(911,⟨3,.row (.ints (markI cu.length k))⟩),(912,⟨3,.row (.ints (markI cd.length (k + ((List.length cu : Nat) : Int))))⟩),(913,⟨50,.row (.marks (markM cm (k + ((List.length cu : Nat) : Int) + ((List.length cd : Nat) : Int))))⟩)]) ∧ u1 = ([911,912,913])) := by
 intro cu cd cv ct cp cm k hpre
 have hs := hpre
 refine HOK.of cok func15 rfl rfl rfl ?_
 intro F hnt0
 have hnt : F.nt = 18 := hnt0.trans ntmps15
 refine W.to (⟨[(0,.agg [.own 911 cu.length,.own 912 cd.length,.i cv,.i ct,.i cp,.own 913 cm.length]),(1,.i k)],[(911,⟨3,.row (.ints cu)⟩),(912,⟨3,.row (.ints cd)⟩),(913,⟨50,.row (.marks cm)⟩)],[911,912,913]⟩) rfl ?_
 refine Kk cok tab15 hnt [] [1,2] (⟨[(1,.i k),(2,.ptr 2 0)],[(2,⟨29,.fix [.own 911 cu.length,.own 912 cd.length,.i cv,.i ct,.i cp,.own 913 cm.length]⟩),(911,⟨3,.row (.ints cu)⟩),(912,⟨3,.row (.ints cd)⟩),(913,⟨50,.row (.marks cm)⟩)],[2,911,912,913]⟩)
  (True ∧ True ∧ True)
  ⟨tt,tt,tt⟩ ?_
 refine W.seq (W.wi ?_)
 refine WI.runT cok tab15 hnt [] 3 3 (⟨[(1,.i k),(2,.ptr 2 0),(5,.ptr 2 0),(6,.own 911 cu.length),(7,.i k)],[(2,⟨29,.fix [.own 911 cu.length,.own 912 cd.length,.i cv,.i ct,.i cp,.own 913 cm.length]⟩),(911,⟨3,.row (.ints cu)⟩),(912,⟨3,.row (.ints cd)⟩),(913,⟨50,.row (.marks cm)⟩)],[2,911,912,913]⟩)
  (True ∧ True ∧ True ∧ True) (by kernel_rfl) rfl
  ⟨tt,tt,tt,tt⟩ ?_
 refine WI.callH _ [.own 911 cu.length,.i k] [] (.fn 30 []) _ _ [(911,911)] (hok30 cu k ⟨(by omega),(by omega)⟩) ent30 hnt rfl rfl (wanted_none rfl) (by kernel_rfl) (by kernel_rfl) trivial (by kernel_rfl) (by kernel_rfl) (by kernel_rfl) (@cast (((some ⟨3,.row (.ints cu)⟩ : Option LB) = some ⟨3,.row (.ints cu)⟩) ∧ (true = true) ∧ (True)) _ (by kernel_rfl) ⟨rfl,rfl,tt⟩) (by kernel_rfl) rfl ?_
 rintro r s1 u1 ⟨rfl,rfl,rfl⟩
 refine ⟨[(911,911)],by kernel_rfl,WI.to (⟨[(1,.i k),(2,.ptr 2 0),(5,.ptr 2 0),(6,.own 911 cu.length),(7,.i k),(8,.i (k + (cu.length : Int)))],[(2,⟨29,.fix [.own 911 cu.length,.own 912 cd.length,.i cv,.i ct,.i cp,.own 913 cm.length]⟩),(911,⟨3,.row (.ints (markI cu.length k))⟩),(912,⟨3,.row (.ints cd)⟩),(913,⟨50,.row (.marks cm)⟩)],[2,911,912,913]⟩) 4 (by kernel_rfl) rfl ?_⟩
 refine WI.runT cok tab15 hnt [] 1 5 (⟨[(1,.i (k + (cu.length : Int))),(2,.ptr 2 0),(5,.ptr 2 0),(6,.own 911 cu.length),(7,.i k),(8,.i (k + (cu.length : Int)))],[(2,⟨29,.fix [.own 911 cu.length,.own 912 cd.length,.i cv,.i ct,.i cp,.own 913 cm.length]⟩),(911,⟨3,.row (.ints (markI cu.length k))⟩),(912,⟨3,.row (.ints cd)⟩),(913,⟨50,.row (.marks cm)⟩)],[2,911,912,913]⟩)
  (True ∧ True) (by kernel_rfl) rfl
  ⟨tt,tt⟩ ?_
 refine WI.nil rfl (thenQ_normal ?_)
 refine W.keepE [1,2] [(1,.i (k + (cu.length : Int))),(2,.ptr 2 0)] (by kernel_rfl) ?_
 refine W.to (⟨[(1,.i (k + (cu.length : Int))),(2,.ptr 2 0)],[(2,⟨29,.fix [.own 911 cu.length,.own 912 cd.length,.i cv,.i ct,.i cp,.own 913 cm.length]⟩),(911,⟨3,.row (.ints (markI cu.length k))⟩),(912,⟨3,.row (.ints cd)⟩),(913,⟨50,.row (.marks cm)⟩)],[2,911,912,913]⟩) rfl ?_
 refine W.seq (W.wi ?_)
 refine WI.runT cok tab15 hnt [] 3 3 (⟨[(1,.i (k + (cu.length : Int))),(2,.ptr 2 0),(9,.ptr 2 1),(10,.own 912 cd.length),(11,.i (k + (cu.length : Int)))],[(2,⟨29,.fix [.own 911 cu.length,.own 912 cd.length,.i cv,.i ct,.i cp,.own 913 cm.length]⟩),(911,⟨3,.row (.ints (markI cu.length k))⟩),(912,⟨3,.row (.ints cd)⟩),(913,⟨50,.row (.marks cm)⟩)],[2,911,912,913]⟩)
  (True ∧ True ∧ True ∧ True) (by kernel_rfl) rfl
  ⟨tt,tt,tt,tt⟩ ?_
 refine WI.callH _ [.own 912 cd.length,.i (k + (cu.length : Int))] [] (.fn 30 []) _ _ [(911,912)] (hok30 cd (k + (cu.length : Int)) ⟨(by omega),(by omega)⟩) ent30 hnt rfl rfl (wanted_none rfl) (by kernel_rfl) (by kernel_rfl) trivial (by kernel_rfl) (by kernel_rfl) (by kernel_rfl) (@cast (((some ⟨3,.row (.ints cd)⟩ : Option LB) = some ⟨3,.row (.ints cd)⟩) ∧ (true = true) ∧ (True)) _ (by kernel_rfl) ⟨rfl,rfl,tt⟩) (by kernel_rfl) rfl ?_
 rintro r s1 u1 ⟨rfl,rfl,rfl⟩
 refine ⟨[(911,912)],by kernel_rfl,WI.to (⟨[(1,.i (k + (cu.length : Int))),(2,.ptr 2 0),(9,.ptr 2 1),(10,.own 912 cd.length),(11,.i (k + (cu.length : Int))),(12,.i ((k + (cu.length : Int)) + (cd.length : Int)))],[(2,⟨29,.fix [.own 911 cu.length,.own 912 cd.length,.i cv,.i ct,.i cp,.own 913 cm.length]⟩),(911,⟨3,.row (.ints (markI cu.length k))⟩),(912,⟨3,.row (.ints (markI cd.length (k + (cu.length : Int))))⟩),(913,⟨50,.row (.marks cm)⟩)],[2,911,912,913]⟩) 4 (by kernel_rfl) rfl ?_⟩
 refine WI.runT cok tab15 hnt [] 1 5 (⟨[(1,.i ((k + (cu.length : Int)) + (cd.length : Int))),(2,.ptr 2 0),(9,.ptr 2 1),(10,.own 912 cd.length),(11,.i (k + (cu.length : Int))),(12,.i ((k + (cu.length : Int)) + (cd.length : Int)))],[(2,⟨29,.fix [.own 911 cu.length,.own 912 cd.length,.i cv,.i ct,.i cp,.own 913 cm.length]⟩),(911,⟨3,.row (.ints (markI cu.length k))⟩),(912,⟨3,.row (.ints (markI cd.length (k + (cu.length : Int))))⟩),(913,⟨50,.row (.marks cm)⟩)],[2,911,912,913]⟩)
  (True ∧ True) (by kernel_rfl) rfl
  ⟨tt,tt⟩ ?_
 refine WI.nil rfl (thenQ_normal ?_)
 refine W.keepE [1,2] [(1,.i ((k + (cu.length : Int)) + (cd.length : Int))),(2,.ptr 2 0)] (by kernel_rfl) ?_
 refine W.to (⟨[(1,.i ((k + (cu.length : Int)) + (cd.length : Int))),(2,.ptr 2 0)],[(2,⟨29,.fix [.own 911 cu.length,.own 912 cd.length,.i cv,.i ct,.i cp,.own 913 cm.length]⟩),(911,⟨3,.row (.ints (markI cu.length k))⟩),(912,⟨3,.row (.ints (markI cd.length (k + (cu.length : Int))))⟩),(913,⟨50,.row (.marks cm)⟩)],[2,911,912,913]⟩) rfl ?_
 refine W.seq (W.wi ?_)
 refine WI.runT cok tab15 hnt [] 3 3 (⟨[(1,.i ((k + (cu.length : Int)) + (cd.length : Int))),(2,.ptr 2 0),(13,.ptr 2 5),(14,.own 913 cm.length),(15,.i ((k + (cu.length : Int)) + (cd.length : Int)))],[(2,⟨29,.fix [.own 911 cu.length,.own 912 cd.length,.i cv,.i ct,.i cp,.own 913 cm.length]⟩),(911,⟨3,.row (.ints (markI cu.length k))⟩),(912,⟨3,.row (.ints (markI cd.length (k + (cu.length : Int))))⟩),(913,⟨50,.row (.marks cm)⟩)],[2,911,912,913]⟩)
  (True ∧ True ∧ True ∧ True) (by kernel_rfl) rfl
  ⟨tt,tt,tt,tt⟩ ?_
 refine WI.callH _ [.own 913 cm.length,.i ((k + (cu.length : Int)) + (cd.length : Int))] [] (.fn 41 []) _ _ [(911,913)] (hok41 cm ((k + (cu.length : Int)) + (cd.length : Int)) ⟨(by omega),(by omega)⟩) ent41 hnt rfl rfl (wanted_none rfl) (by kernel_rfl) (by kernel_rfl) trivial (by kernel_rfl) (by kernel_rfl) (by kernel_rfl) (@cast (((some ⟨50,.row (.marks cm)⟩ : Option LB) = some ⟨50,.row (.marks cm)⟩) ∧ (true = true) ∧ (True)) _ (by kernel_rfl) ⟨rfl,rfl,tt⟩) (by kernel_rfl) rfl ?_
 rintro r s1 u1 ⟨rfl,rfl,rfl⟩
 refine ⟨[(911,913)],by kernel_rfl,WI.to (⟨[(1,.i ((k + (cu.length : Int)) + (cd.length : Int))),(2,.ptr 2 0),(13,.ptr 2 5),(14,.own 913 cm.length),(15,.i ((k + (cu.length : Int)) + (cd.length : Int))),(16,.i (((k + (cu.length : Int)) + (cd.length : Int)) + 4 * (cm.length : Int)))],[(2,⟨29,.fix [.own 911 cu.length,.own 912 cd.length,.i cv,.i ct,.i cp,.own 913 cm.length]⟩),(911,⟨3,.row (.ints (markI cu.length k))⟩),(912,⟨3,.row (.ints (markI cd.length (k + (cu.length : Int))))⟩),(913,⟨50,.row (.marks (markM cm ((k + (cu.length : Int)) + (cd.length : Int))))⟩)],[2,911,912,913]⟩) 4 (by kernel_rfl) rfl ?_⟩
 refine WI.runT cok tab15 hnt [] 1 5 (⟨[(1,.i (((k + (cu.length : Int)) + (cd.length : Int)) + 4 * (cm.length : Int))),(2,.ptr 2 0),(13,.ptr 2 5),(14,.own 913 cm.length),(15,.i ((k + (cu.length : Int)) + (cd.length : Int))),(16,.i (((k + (cu.length : Int)) + (cd.length : Int)) + 4 * (cm.length : Int)))],[(2,⟨29,.fix [.own 911 cu.length,.own 912 cd.length,.i cv,.i ct,.i cp,.own 913 cm.length]⟩),(911,⟨3,.row (.ints (markI cu.length k))⟩),(912,⟨3,.row (.ints (markI cd.length (k + (cu.length : Int))))⟩),(913,⟨50,.row (.marks (markM cm ((k + (cu.length : Int)) + (cd.length : Int))))⟩)],[2,911,912,913]⟩)
  (True ∧ True) (by kernel_rfl) rfl
  ⟨tt,tt⟩ ?_
 refine WI.nil rfl (thenQ_normal ?_)
 refine W.keepE [1] [(1,.i (((k + (cu.length : Int)) + (cd.length : Int)) + 4 * (cm.length : Int)))] (by kernel_rfl) ?_
 refine W.to (⟨[(1,.i (((k + (cu.length : Int)) + (cd.length : Int)) + 4 * (cm.length : Int)))],[(2,⟨29,.fix [.own 911 cu.length,.own 912 cd.length,.i cv,.i ct,.i cp,.own 913 cm.length]⟩),(911,⟨3,.row (.ints (markI cu.length k))⟩),(912,⟨3,.row (.ints (markI cd.length (k + (cu.length : Int))))⟩),(913,⟨50,.row (.marks (markM cm ((k + (cu.length : Int)) + (cd.length : Int))))⟩)],[2,911,912,913]⟩) rfl ?_
 refine Kk cok tab15 hnt [] [4] (⟨[(4,.i (((k + (cu.length : Int)) + (cd.length : Int)) + 4 * (cm.length : Int)))],[(2,⟨29,.fix [.own 911 cu.length,.own 912 cd.length,.i cv,.i ct,.i cp,.own 913 cm.length]⟩),(911,⟨3,.row (.ints (markI cu.length k))⟩),(912,⟨3,.row (.ints (markI cd.length (k + (cu.length : Int))))⟩),(913,⟨50,.row (.marks (markM cm ((k + (cu.length : Int)) + (cd.length : Int))))⟩)],[2,911,912,913]⟩)
  (True ∧ True ∧ True)
  ⟨tt,tt,tt⟩ ?_
 refine W.ret ?_
 exact endH_ret (.i (k + ((List.length cu : Nat) : Int) + ((List.length cd : Nat) : Int) + 4 * ((List.length cm : Nat) : Int))) [(911,⟨3,.row (.ints (markI cu.length k))⟩),(912,⟨3,.row (.ints (markI cd.length (k + ((List.length cu : Nat) : Int))))⟩),(913,⟨50,.row (.marks (markM cm (k + ((List.length cu : Nat) : Int) + ((List.length cd : Nat) : Int))))⟩)] [911,912,913] ⟨rfl,rfl,rfl⟩ [(911,911),(912,912),(913,913)] (.i (((k + (cu.length : Int)) + (cd.length : Int)) + 4 * (cm.length : Int))) (by kernel_rfl) (@cast (((.int .i64 (((k + (cu.length : Int)) + (cd.length : Int)) + 4 * (cm.length : Int)) : Value) = .int .i64 (k + ((List.length cu : Nat) : Int) + ((List.length cd : Nat) : Int) + 4 * ((List.length cm : Nat) : Int))) ∧ ((((3 : Nat) = 3) ∧ ((.ints (markI cu.length k) : Dat) = .ints (markI cu.length k)) ∧ ((911 : Nat) ∈ ([911,912,913] : List Nat))) ∧ (((3 : Nat) = 3) ∧ ((.ints (markI cd.length (k + (cu.length : Int))) : Dat) = .ints (markI cd.length (k + ((List.length cu : Nat) : Int)))) ∧ ((912 : Nat) ∈ ([911,912,913] : List Nat))) ∧ (((50 : Nat) = 50) ∧ ((.marks (markM cm ((k + (cu.length : Int)) + (cd.length : Int))) : Dat) = .marks (markM cm (k + ((List.length cu : Nat) : Int) + ((List.length cd : Nat) : Int)))) ∧ ((913 : Nat) ∈ ([911,912,913] : List Nat))) ∧ True) ∧ (true = true) ∧ (true = true)) _ (by kernel_rfl) ⟨(congrArg (Value.int .i64) (by first | rfl | omega)),⟨⟨rfl,(congrArg Dat.ints (by first | rfl | omega)),(by decide)⟩,⟨rfl,(congrArg Dat.ints (by first | rfl | omega)),(by decide)⟩,⟨rfl,(congrArg Dat.marks (by first | rfl | omega)),(by decide)⟩,tt⟩,rfl,rfl⟩)
end Go.Proofs.Try

set_option linter.unusedSimpArgs false
set_option linter.unusedVariables false
namespace Go.Proofs.Try
open Go.Ab Go.RowKit
def fs9 : FnS := fnS [.a [some .ints,some .ints,none,none,none,some .marks]] [.copy] (fun _ (c,_) => (.b true,[],True))
abbrev T9 : Tab := lk [(10,fs10),(12,fs12),(14,fs14),(27,fs27),(28,fs28),(29,fs29),(31,fs31)]
theorem tab9 : TabOK prog T9 := (TabOK.cons ok10 ent10 (TabOK.cons ok12 ent12 (TabOK.cons ok14 ent14 (TabOK.cons ok27 ent27 (TabOK.cons ok28 ent28 (TabOK.cons ok29 ent29 (TabOK.cons ok31 ent31 TabOK.nil)))))))
set_option maxRecDepth 100000 in
set_option maxHeartbeats 1000000 in
theorem ok9 : FnOK prog 9 fs9 := by
 refine FnOK.mk cok func9 rfl rfl rfl ?_
 rintro fl ⟨(c : CopyD),_⟩ hpre F hnt0 _
 have hnt : F.nt = 69 := hnt0.trans ntmps9
 clear hpre
 refine W.to (⟨[(0,.agg (cC c))],[],[999]⟩) rfl ?_
 refine W.lenA 0 0 (cC c) (.ints c.up) (by kernel_rfl) (by kernel_rfl) ?_
 intro hl_c_up; replace hl_c_up : List.length c.up ≤ 9223372036854775807 := hl_c_up
 refine W.lenA 0 1 (cC c) (.ints c.down) (by kernel_rfl) (by kernel_rfl) ?_
 intro hl_c_down; replace hl_c_down : List.length c.down ≤ 9223372036854775807 := hl_c_down
 refine W.lenA 0 5 (cC c) (.marks c.marks) (by kernel_rfl) (by kernel_rfl) ?_
 intro hl_c_marks; replace hl_c_marks : List.length c.marks ≤ 9223372036854775807 := hl_c_marks
 refine Kk cok tab9 hnt [] [1] (⟨[(1,.ptr 1 0)],[(1,⟨25,.fix (cC c)⟩)],[1,999]⟩)
  (True ∧ True ∧ True)
  ⟨tt,tt,tt⟩ ?_
 refine Kk cok tab9 hnt [] [1,3] (⟨[(1,.ptr 1 0),(3,.i (1048576 : Int))],[(1,⟨25,.fix (cC c)⟩)],[1,999]⟩)
  (True ∧ True)
  ⟨tt,tt⟩ ?_
 refine Kk cok tab9 hnt [] [1,3] (⟨[(1,.ptr 1 0),(3,.i (szCp c (1048576 : Int)))],[(1,⟨25,.fix (cC c)⟩)],[1,999]⟩)
  (True ∧ True ∧ (True ∧ ((True ∧ True ∧ True ∧ True ∧ True ∧ True ∧ True ∧ True) ∧ True ∧ True) ∧ 0 ≤ (1048576 : Int) ∧ (1048576 : Int) ≤ 1048576) ∧ True ∧ True)
  ⟨tt,tt,⟨tt,⟨⟨tt,tt,tt,tt,tt,tt,tt,tt⟩,tt,tt⟩,(by omega)⟩,tt,tt⟩ ?_
 refine W.seq ?_
 refine Kk cok tab9 hnt [] [1,15] (⟨[(1,.ptr 1 0),(15,.b (decide ((szCp c (1048576 : Int)) < (0 : Int))))],[(1,⟨25,.fix (cC c)⟩)],[1,999]⟩)
  (True ∧ (True ∧ True ∧ True) ∧ True)
  ⟨tt,⟨tt,tt,tt⟩,tt⟩ ?_
 refine W.ifP ((szCp c (1048576 : Int)) < (0 : Int)) (.b (decide ((szCp c (1048576 : Int)) < (0 : Int)))) (by kernel_rfl) rfl trivial ?_ ?_
 ·intro h15
  refine Kk cok tab9 hnt [] [2] (⟨[(2,.b true)],[(1,⟨25,.fix (cC c)⟩)],[1,999]⟩)
   (True ∧ True)
   ⟨tt,tt⟩ ?_
  refine W.ret (thenQ_ret ?_)
  exact endQ_ret (.b true) (by kernel_rfl) (@cast (Sv (.bool true)) _ (by kernel_rfl) rfl)
 ·intro n15
  have hz0 := szCp_ok n15
  have hsm := values_sm c
  refine W.skip (thenQ_normal ?_)
  refine Kk cok tab9 hnt [] [1,4] (⟨[(1,.ptr 1 0),(4,.sl (.ints (valuesC c)))],[(1,⟨25,.fix (cC c)⟩)],[1,999]⟩)
   (True ∧ (True ∧ ((True ∧ True ∧ True ∧ True ∧ True ∧ True ∧ True ∧ True) ∧ True) ∧ c.up.length ≤ 1048576 ∧ c.down.length ≤ 1048576 ∧ c.marks.length ≤ 1048576) ∧ (True ∧ ((True ∧ True ∧ True ∧ True ∧ True ∧ True ∧ True ∧ True) ∧ True) ∧ True) ∧ True ∧ True)
   ⟨tt,⟨tt,⟨⟨tt,tt,tt,tt,tt,tt,tt,tt⟩,tt⟩,(by omega)⟩,⟨tt,⟨⟨tt,tt,tt,tt,tt,tt,tt,tt⟩,tt⟩,tt⟩,tt,tt⟩ ?_
  refine Kk cok tab9 hnt [20] [1,4,5] (⟨[(1,.ptr 1 0),(4,.sl (.ints (valuesC c))),(5,.ptr 5 0)],[(1,⟨25,.fix (cC c)⟩),(5,⟨29,.fix [.own 20 (List.length c.up),.own 1020 (List.length c.down),.i c.value,.i c.time,.i c.proc,.own 2020 (List.length c.marks)]⟩),(20,⟨3,.row (.ints c.up)⟩),(1020,⟨3,.row (.ints c.down)⟩),(2020,⟨50,.row (.marks c.marks)⟩)],[5,2020,1020,20,1,999]⟩)
   (True ∧ (True ∧ ((True ∧ True ∧ True ∧ True ∧ True ∧ True ∧ True ∧ True) ∧ True) ∧ c.up.length ≤ 1048576 ∧ c.down.length ≤ 1048576 ∧ c.marks.length ≤ 1048576) ∧ True ∧ (True ∧ True) ∧ True)
   ⟨tt,⟨tt,⟨⟨tt,tt,tt,tt,tt,tt,tt,tt⟩,tt⟩,(by omega)⟩,tt,⟨tt,tt⟩,tt⟩ ?_
  refine Kk cok tab9 hnt [22] [1,4,5,6] (⟨[(1,.ptr 1 0),(4,.sl (.ints (valuesC c))),(5,.ptr 5 0),(6,.own 22 (List.length (valuesC c)))],[(1,⟨25,.fix (cC c)⟩),(5,⟨29,.fix [.own 20 (List.length c.up),.own 1020 (List.length c.down),.i c.value,.i c.time,.i c.proc,.own 2020 (List.length c.marks)]⟩),(20,⟨3,.row (.ints c.up)⟩),(22,⟨3,.row (.ints (valuesC c))⟩),(1020,⟨3,.row (.ints c.down)⟩),(2020,⟨50,.row (.marks c.marks)⟩)],[22,5,2020,1020,20,1,999]⟩)
   (True ∧ (True ∧ ((True ∧ (True ∧ ((List.length c.up) = (List.length c.up))) ∧ (True ∧ ((List.length c.down) = (List.length c.down))) ∧ True ∧ True ∧ True ∧ (True ∧ ((List.length c.marks) = (List.length c.marks))) ∧ True) ∧ True) ∧ True) ∧ True ∧ True)
   ⟨tt,⟨tt,⟨⟨tt,⟨tt,rfl⟩,⟨tt,rfl⟩,tt,tt,tt,⟨tt,rfl⟩,tt⟩,tt⟩,tt⟩,tt,tt⟩ ?_
  refine W.seq ?_
  refine Kk cok tab9 hnt [] [1,4,5,6,26] (⟨[(1,.ptr 1 0),(4,.sl (.ints (valuesC c))),(5,.ptr 5 0),(6,.own 22 (List.length (valuesC c))),(26,.b (!(decide ((valuesC c) = (valuesC c)))))],[(1,⟨25,.fix (cC c)⟩),(5,⟨29,.fix [.own 20 (List.length c.up),.own 1020 (List.length c.down),.i c.value,.i c.time,.i c.proc,.own 2020 (List.length c.marks)]⟩),(20,⟨3,.row (.ints c.up)⟩),(22,⟨3,.row (.ints (valuesC c))⟩),(1020,⟨3,.row (.ints c.down)⟩),(2020,⟨50,.row (.marks c.marks)⟩)],[22,5,2020,1020,20,1,999]⟩)
   (True ∧ True ∧ (True ∧ ((True ∧ ((List.length (valuesC c)) = (List.length (valuesC c)))) ∧ True ∧ True) ∧ True) ∧ True ∧ True)
   ⟨tt,tt,⟨tt,⟨⟨tt,rfl⟩,tt,tt⟩,tt⟩,tt,tt⟩ ?_
  refine W.if' (!(decide ((valuesC c) = (valuesC c)))) (.b (!(decide ((valuesC c) = (valuesC c))))) (by kernel_rfl) rfl trivial ?_ ?_
  ·intro h26
   refine Kk cok tab9 hnt [] [2] (⟨[(2,.b false)],[(1,⟨25,.fix (cC c)⟩),(5,⟨29,.fix [.own 20 (List.length c.up),.own 1020 (List.length c.down),.i c.value,.i c.time,.i c.proc,.own 2020 (List.length c.marks)]⟩),(20,⟨3,.row (.ints c.up)⟩),(22,⟨3,.row (.ints (valuesC c))⟩),(1020,⟨3,.row (.ints c.down)⟩),(2020,⟨50,.row (.marks c.marks)⟩)],[22,5,2020,1020,20,1,999]⟩)
    (True ∧ True)
    ⟨tt,tt⟩ ?_
   refine W.ret (thenQ_ret ?_)
   exact endQ_ret (.b false) (by kernel_rfl) (@cast ((.bool false : Value) = .bool true) _ (by kernel_rfl) (congrArg Value.bool (by exfalso; simp [same_refl] at h26)))
  ·intro n26
   refine W.skip (thenQ_normal ?_)
   refine W.seq ?_
   refine W.KA cok tab9 hnt [] [1,4,5,6,31] (⟨[(1,.ptr 1 0),(4,.sl (.ints (valuesC c))),(5,.ptr 5 0),(6,.own 22 (List.length (valuesC c))),(31,.b (!(sameC c c)))],[(1,⟨25,.fix (cC c)⟩),(5,⟨29,.fix [.own 20 (List.length c.up),.own 1020 (List.length c.down),.i c.value,.i c.time,.i c.proc,.own 2020 (List.length c.marks)]⟩),(20,⟨3,.row (.ints c.up)⟩),(22,⟨3,.row (.ints (valuesC c))⟩),(1020,⟨3,.row (.ints c.down)⟩),(2020,⟨50,.row (.marks c.marks)⟩)],[22,5,2020,1020,20,1,999]⟩)
    (True ∧ True ∧ (True ∧ ((True ∧ True ∧ True ∧ True ∧ True ∧ True ∧ True ∧ True) ∧ True) ∧ c.up.length ≤ 1048576 ∧ c.down.length ≤ 1048576 ∧ c.marks.length ≤ 1048576) ∧ (True ∧ ((True ∧ (True ∧ ((List.length c.up) = (List.length c.up))) ∧ (True ∧ ((List.length c.down) = (List.length c.down))) ∧ True ∧ True ∧ True ∧ (True ∧ ((List.length c.marks) = (List.length c.marks))) ∧ True) ∧ (True ∧ True ∧ True ∧ True ∧ True ∧ True ∧ True ∧ True) ∧ True) ∧ True) ∧ True ∧ True) (by kernel_rfl) (by kernel_rfl)
    ⟨tt,tt,⟨tt,⟨⟨tt,tt,tt,tt,tt,tt,tt,tt⟩,tt⟩,(by omega)⟩,⟨tt,⟨⟨tt,⟨tt,rfl⟩,⟨tt,rfl⟩,tt,tt,tt,⟨tt,rfl⟩,tt⟩,⟨tt,tt,tt,tt,tt,tt,tt,tt⟩,tt⟩,tt⟩,tt,tt⟩ ?_
   refine W.if' (!(sameC c c)) (.b (!(sameC c c))) (by kernel_rfl) rfl trivial ?_ ?_
   ·intro h31
    refine Kk cok tab9 hnt [] [2] (⟨[(2,.b false)],[(1,⟨25,.fix (cC c)⟩),(5,⟨29,.fix [.own 20 (List.length c.up),.own 1020 (List.length c.down),.i c.value,.i c.time,.i c.proc,.own 2020 (List.length c.marks)]⟩),(20,⟨3,.row (.ints c.up)⟩),(22,⟨3,.row (.ints (valuesC c))⟩),(1020,⟨3,.row (.ints c.down)⟩),(2020,⟨50,.row (.marks c.marks)⟩)],[22,5,2020,1020,20,1,999]⟩)
     (True ∧ True)
     ⟨tt,tt⟩ ?_
    refine W.ret (thenQ_ret ?_)
    exact endQ_ret (.b false) (by kernel_rfl) (@cast ((.bool false : Value) = .bool true) _ (by kernel_rfl) (congrArg Value.bool (by exfalso; simp [same_refl] at h31)))
   ·intro n31
    refine W.skip (thenQ_normal ?_)
    refine Kk cok tab9 hnt [] [1,4,5,6,7] (⟨[(1,.ptr 1 0),(4,.sl (.ints (valuesC c))),(5,.ptr 5 0),(6,.own 22 (List.length (valuesC c))),(7,.i (1 : Int))],[(1,⟨25,.fix (cC c)⟩),(5,⟨29,.fix [.own 20 (List.length c.up),.own 1020 (List.length c.down),.i c.value,.i c.time,.i c.proc,.own 2020 (List.length c.marks)]⟩),(20,⟨3,.row (.ints c.up)⟩),(22,⟨3,.row (.ints (valuesC c))⟩),(1020,⟨3,.row (.ints c.down)⟩),(2020,⟨50,.row (.marks c.marks)⟩)],[22,5,2020,1020,20,1,999]⟩)
     (True ∧ True)
     ⟨tt,tt⟩ ?_
    refine W.seq (W.wi ?_)
    refine WI.runT cok tab9 hnt [] 2 2 (⟨[(1,.ptr 1 0),(4,.sl (.ints (valuesC c))),(5,.ptr 5 0),(6,.own 22 (List.length (valuesC c))),(7,.i (1 : Int)),(32,.agg [.own 20 (List.length c.up),.own 1020 (List.length c.down),.i c.value,.i c.time,.i c.proc,.own 2020 (List.length c.marks)]),(33,.i (1 : Int))],[(1,⟨25,.fix (cC c)⟩),(5,⟨29,.fix [.own 20 (List.length c.up),.own 1020 (List.length c.down),.i c.value,.i c.time,.i c.proc,.own 2020 (List.length c.marks)]⟩),(20,⟨3,.row (.ints c.up)⟩),(22,⟨3,.row (.ints (valuesC c))⟩),(1020,⟨3,.row (.ints c.down)⟩),(2020,⟨50,.row (.marks c.marks)⟩)],[22,5,2020,1020,20,1,999]⟩)
     (True ∧ True ∧ True) (by kernel_rfl) rfl
     ⟨tt,tt,tt⟩ ?_
    refine WI.callH _ [.agg [.own 20 (List.length c.up),.own 1020 (List.length c.down),.i c.value,.i c.time,.i c.proc,.own 2020 (List.length c.marks)],.i (1 : Int)] [] (.fn 15 []) _ _ [(911,20),(912,1020),(913,2020)] (hok15 c.up c.down c.value c.time c.proc c.marks (1 : Int) (by omega)) ent15 hnt rfl rfl (wanted_none rfl) (by kernel_rfl) (by kernel_rfl) trivial (by kernel_rfl) (by kernel_rfl) (by kernel_rfl) (@cast (((some ⟨3,.row (.ints c.up)⟩ : Option LB) = some ⟨3,.row (.ints c.up)⟩) ∧ (true = true) ∧ ((some ⟨3,.row (.ints c.down)⟩ : Option LB) = some ⟨3,.row (.ints c.down)⟩) ∧ (true = true) ∧ ((some ⟨50,.row (.marks c.marks)⟩ : Option LB) = some ⟨50,.row (.marks c.marks)⟩) ∧ (true = true) ∧ (True)) _ (by kernel_rfl) ⟨rfl,rfl,rfl,rfl,rfl,rfl,tt⟩) (by kernel_rfl) rfl ?_
    rintro r s1 u1 ⟨rfl,rfl,rfl⟩
    refine ⟨[(911,20),(912,1020),(913,2020)],by kernel_rfl,WI.to (⟨[(1,.ptr 1 0),(4,.sl (.ints (valuesC c))),(5,.ptr 5 0),(6,.own 22 (List.length (valuesC c))),(7,.i (1 : Int)),(32,.agg [.own 20 (List.length c.up),.own 1020 (List.length c.down),.i c.value,.i c.time,.i c.proc,.own 2020 (List.length c.marks)]),(33,.i (1 : Int)),(34,.i ((1 : Int) + ((List.length c.up : Nat) : Int) + ((List.length c.down : Nat) : Int) + 4 * ((List.length c.marks : Nat) : Int)))],[(1,⟨25,.fix (cC c)⟩),(5,⟨29,.fix [.own 20 (List.length c.up),.own 1020 (List.length c.down),.i c.value,.i c.time,.i c.proc,.own 2020 (List.length c.marks)]⟩),(20,⟨3,.row (.ints (markI (List.length c.up) (1 : Int)))⟩),(22,⟨3,.row (.ints (valuesC c))⟩),(1020,⟨3,.row (.ints (markI (List.length c.down) ((1 : Int) + ((List.length c.up : Nat) : Int))))⟩),(2020,⟨50,.row (.marks (markM c.marks ((1 : Int) + ((List.length c.up : Nat) : Int) + ((List.length c.down : Nat) : Int))))⟩)],[22,5,2020,1020,20,1,999]⟩) 3 (by kernel_rfl) rfl ?_⟩
    refine WI.runT cok tab9 hnt [] 1 4 (⟨[(1,.ptr 1 0),(4,.sl (.ints (valuesC c))),(5,.ptr 5 0),(6,.own 22 (List.length (valuesC c))),(7,.i ((1 : Int) + ((List.length c.up : Nat) : Int) + ((List.length c.down : Nat) : Int) + 4 * ((List.length c.marks : Nat) : Int))),(32,.agg [.own 20 (List.length c.up),.own 1020 (List.length c.down),.i c.value,.i c.time,.i c.proc,.own 2020 (List.length c.marks)]),(33,.i (1 : Int)),(34,.i ((1 : Int) + ((List.length c.up : Nat) : Int) + ((List.length c.down : Nat) : Int) + 4 * ((List.length c.marks : Nat) : Int)))],[(1,⟨25,.fix (cC c)⟩),(5,⟨29,.fix [.own 20 (List.length c.up),.own 1020 (List.length c.down),.i c.value,.i c.time,.i c.proc,.own 2020 (List.length c.marks)]⟩),(20,⟨3,.row (.ints (markI (List.length c.up) (1 : Int)))⟩),(22,⟨3,.row (.ints (valuesC c))⟩),(1020,⟨3,.row (.ints (markI (List.length c.down) ((1 : Int) + ((List.length c.up : Nat) : Int))))⟩),(2020,⟨50,.row (.marks (markM c.marks ((1 : Int) + ((List.length c.up : Nat) : Int) + ((List.length c.down : Nat) : Int))))⟩)],[22,5,2020,1020,20,1,999]⟩)
     (True ∧ True) (by kernel_rfl) rfl
     ⟨tt,tt⟩ ?_
    refine WI.nil rfl (thenQ_normal ?_)
    refine W.keepE [1,4,6,7] [(1,.ptr 1 0),(4,.sl (.ints (valuesC c))),(6,.own 22 (List.length (valuesC c))),(7,.i ((1 : Int) + ((List.length c.up : Nat) : Int) + ((List.length c.down : Nat) : Int) + 4 * ((List.length c.marks : Nat) : Int)))] (by kernel_rfl) ?_
    refine W.to (⟨[(1,.ptr 1 0),(4,.sl (.ints (valuesC c))),(6,.own 22 (List.length (valuesC c))),(7,.i ((1 : Int) + ((List.length c.up : Nat) : Int) + ((List.length c.down : Nat) : Int) + 4 * ((List.length c.marks : Nat) : Int)))],[(1,⟨25,.fix (cC c)⟩),(5,⟨29,.fix [.own 20 (List.length c.up),.own 1020 (List.length c.down),.i c.value,.i c.time,.i c.proc,.own 2020 (List.length c.marks)]⟩),(20,⟨3,.row (.ints (markI (List.length c.up) (1 : Int)))⟩),(22,⟨3,.row (.ints (valuesC c))⟩),(1020,⟨3,.row (.ints (markI (List.length c.down) ((1 : Int) + ((List.length c.up : Nat) : Int))))⟩),(2020,⟨50,.row (.marks (markM c.marks ((1 : Int) + ((List.length c.up : Nat) : Int) + ((List.length c.down : Nat) : Int))))⟩)],[22,5,2020,1020,20,1,999]⟩) rfl ?_
    refine W.seq ?_
    refine Kk cok tab9 hnt [] [1,4,6,42] (⟨[(1,.ptr 1 0),(4,.sl (.ints (valuesC c))),(6,.own 22 (List.length (valuesC c))),(42,.b ((decide (((1 : Int) + ((List.length c.up : Nat) : Int) + ((List.length c.down : Nat) : Int) + 4 * ((List.length c.marks : Nat) : Int)) < (0 : Int))) || (!(decide ((valuesC c) = (valuesC c))))))],[(1,⟨25,.fix (cC c)⟩),(5,⟨29,.fix [.own 20 (List.length c.up),.own 1020 (List.length c.down),.i c.value,.i c.time,.i c.proc,.own 2020 (List.length c.marks)]⟩),(20,⟨3,.row (.ints (markI (List.length c.up) (1 : Int)))⟩),(22,⟨3,.row (.ints (valuesC c))⟩),(1020,⟨3,.row (.ints (markI (List.length c.down) ((1 : Int) + ((List.length c.up : Nat) : Int))))⟩),(2020,⟨50,.row (.marks (markM c.marks ((1 : Int) + ((List.length c.up : Nat) : Int) + ((List.length c.down : Nat) : Int))))⟩)],[22,5,2020,1020,20,1,999]⟩)
     ((fun (Z1:Bool)=>(True ∧ ((True ∧ (True ∧ True)) ∧ (True ∧ (((!Z1) = true → True) ∧ (((!Z1) = true → True) ∧ (((!Z1) = true → (True ∧ ((((((!Z1) = true) ∧ True) ∧ ((List.length (valuesC c)) = (List.length (valuesC c)))) ∧ ((((!Z1) = true) ∧ True) ∧ True)) ∧ True))) ∧ (((!Z1) = true → (((!Z1) = true) ∧ True)) ∧ ((True ∧ ((Z1 = true → True) ∧ (Z1 = false → ((!Z1) = true) ∧ True))) ∧ True))))))))) (decide (((1 : Int) + ((List.length c.up : Nat) : Int) + ((List.length c.down : Nat) : Int) + 4 * ((List.length c.marks : Nat) : Int)) < (0 : Int))))
     ⟨tt,⟨tt,tt,tt⟩,tt,(fun _ => trivial),(fun _ => trivial),(fun hG => ⟨tt,⟨⟨⟨hG,tt⟩,rfl⟩,⟨hG,tt⟩,tt⟩,tt⟩),(fun hG => ⟨hG,tt⟩),⟨tt,(fun _ => trivial),(fun hp => ⟨(not_t hp),tt⟩)⟩,tt⟩ ?_
    refine W.if' ((decide (((1 : Int) + ((List.length c.up : Nat) : Int) + ((List.length c.down : Nat) : Int) + 4 * ((List.length c.marks : Nat) : Int)) < (0 : Int))) || (!(decide ((valuesC c) = (valuesC c))))) (.b ((decide (((1 : Int) + ((List.length c.up : Nat) : Int) + ((List.length c.down : Nat) : Int) + 4 * ((List.length c.marks : Nat) : Int)) < (0 : Int))) || (!(decide ((valuesC c) = (valuesC c)))))) (by kernel_rfl) rfl trivial ?_ ?_
    ·intro h42
     refine Kk cok tab9 hnt [] [2] (⟨[(2,.b false)],[(1,⟨25,.fix (cC c)⟩),(5,⟨29,.fix [.own 20 (List.length c.up),.own 1020 (List.length c.down),.i c.value,.i c.time,.i c.proc,.own 2020 (List.length c.marks)]⟩),(20,⟨3,.row (.ints (markI (List.length c.up) (1 : Int)))⟩),(22,⟨3,.row (.ints (valuesC c))⟩),(1020,⟨3,.row (.ints (markI (List.length c.down) ((1 : Int) + ((List.length c.up : Nat) : Int))))⟩),(2020,⟨50,.row (.marks (markM c.marks ((1 : Int) + ((List.length c.up : Nat) : Int) + ((List.length c.down : Nat) : Int))))⟩)],[22,5,2020,1020,20,1,999]⟩)
      (True ∧ True)
      ⟨tt,tt⟩ ?_
     refine W.ret (thenQ_ret ?_)
     exact endQ_ret (.b false) (by kernel_rfl) (@cast ((.bool false : Value) = .bool true) _ (by kernel_rfl) (congrArg Value.bool (by exfalso; simp [same_refl] at h42; omega)))
    ·intro n42
     have n42_0 : ¬ (((1 : Int) + ((List.length c.up : Nat) : Int) + ((List.length c.down : Nat) : Int) + 4 * ((List.length c.marks : Nat) : Int)) < (0 : Int)) := of_decide_eq_false (or_l n42)
     refine W.skip (thenQ_normal ?_)
     refine Kk cok tab9 hnt [] [1,4,6,8] (⟨[(1,.ptr 1 0),(4,.sl (.ints (valuesC c))),(6,.own 22 (List.length (valuesC c))),(8,.i (1 : Int))],[(1,⟨25,.fix (cC c)⟩),(5,⟨29,.fix [.own 20 (List.length c.up),.own 1020 (List.length c.down),.i c.value,.i c.time,.i c.proc,.own 2020 (List.length c.marks)]⟩),(20,⟨3,.row (.ints (markI (List.length c.up) (1 : Int)))⟩),(22,⟨3,.row (.ints (valuesC c))⟩),(1020,⟨3,.row (.ints (markI (List.length c.down) ((1 : Int) + ((List.length c.up : Nat) : Int))))⟩),(2020,⟨50,.row (.marks (markM c.marks ((1 : Int) + ((List.length c.up : Nat) : Int) + ((List.length c.down : Nat) : Int))))⟩)],[22,5,2020,1020,20,1,999]⟩)
      (True ∧ True)
      ⟨tt,tt⟩ ?_
     refine W.seq (W.wi ?_)
     refine WI.runT cok tab9 hnt [] 2 2 (⟨[(1,.ptr 1 0),(4,.sl (.ints (valuesC c))),(6,.own 22 (List.length (valuesC c))),(8,.i (1 : Int)),(43,.own 22 (List.length (valuesC c))),(44,.i (1 : Int))],[(1,⟨25,.fix (cC c)⟩),(5,⟨29,.fix [.own 20 (List.length c.up),.own 1020 (List.length c.down),.i c.value,.i c.time,.i c.proc,.own 2020 (List.length c.marks)]⟩),(20,⟨3,.row (.ints (markI (List.length c.up) (1 : Int)))⟩),(22,⟨3,.row (.ints (valuesC c))⟩),(1020,⟨3,.row (.ints (markI (List.length c.down) ((1 : Int) + ((List.length c.up : Nat) : Int))))⟩),(2020,⟨50,.row (.marks (markM c.marks ((1 : Int) + ((List.length c.up : Nat) : Int) + ((List.length c.down : Nat) : Int))))⟩)],[22,5,2020,1020,20,1,999]⟩)
      (True ∧ True ∧ True) (by kernel_rfl) rfl
      ⟨tt,tt,tt⟩ ?_
     refine WI.callH _ [.own 22 (List.length (valuesC c)),.i (1 : Int)] [] (.fn 30 []) _ _ [(911,22)] (hok30 (valuesC c) (1 : Int) ⟨(by omega),(by omega)⟩) ent30 hnt rfl rfl (wanted_none rfl) (by kernel_rfl) (by kernel_rfl) trivial (by kernel_rfl) (by kernel_rfl) (by kernel_rfl) (@cast (((some ⟨3,.row (.ints (valuesC c))⟩ : Option LB) = some ⟨3,.row (.ints (valuesC c))⟩) ∧ (true = true) ∧ (True)) _ (by kernel_rfl) ⟨rfl,rfl,tt⟩) (by kernel_rfl) rfl ?_
     rintro r s1 u1 ⟨rfl,rfl,rfl⟩
     refine ⟨[(911,22)],by kernel_rfl,WI.to (⟨[(1,.ptr 1 0),(4,.sl (.ints (valuesC c))),(6,.own 22 (List.length (valuesC c))),(8,.i (1 : Int)),(43,.own 22 (List.length (valuesC c))),(44,.i (1 : Int)),(45,.i ((1 : Int) + (((valuesC c).length : Nat) : Int)))],[(1,⟨25,.fix (cC c)⟩),(5,⟨29,.fix [.own 20 (List.length c.up),.own 1020 (List.length c.down),.i c.value,.i c.time,.i c.proc,.own 2020 (List.length c.marks)]⟩),(20,⟨3,.row (.ints (markI (List.length c.up) (1 : Int)))⟩),(22,⟨3,.row (.ints (markI (valuesC c).length (1 : Int)))⟩),(1020,⟨3,.row (.ints (markI (List.length c.down) ((1 : Int) + ((List.length c.up : Nat) : Int))))⟩),(2020,⟨50,.row (.marks (markM c.marks ((1 : Int) + ((List.length c.up : Nat) : Int) + ((List.length c.down : Nat) : Int))))⟩)],[22,5,2020,1020,20,1,999]⟩) 3 (by kernel_rfl) rfl ?_⟩
     refine WI.runT cok tab9 hnt [] 1 4 (⟨[(1,.ptr 1 0),(4,.sl (.ints (valuesC c))),(6,.own 22 (List.length (valuesC c))),(8,.i ((1 : Int) + (((valuesC c).length : Nat) : Int))),(43,.own 22 (List.length (valuesC c))),(44,.i (1 : Int)),(45,.i ((1 : Int) + (((valuesC c).length : Nat) : Int)))],[(1,⟨25,.fix (cC c)⟩),(5,⟨29,.fix [.own 20 (List.length c.up),.own 1020 (List.length c.down),.i c.value,.i c.time,.i c.proc,.own 2020 (List.length c.marks)]⟩),(20,⟨3,.row (.ints (markI (List.length c.up) (1 : Int)))⟩),(22,⟨3,.row (.ints (markI (valuesC c).length (1 : Int)))⟩),(1020,⟨3,.row (.ints (markI (List.length c.down) ((1 : Int) + ((List.length c.up : Nat) : Int))))⟩),(2020,⟨50,.row (.marks (markM c.marks ((1 : Int) + ((List.length c.up : Nat) : Int) + ((List.length c.down : Nat) : Int))))⟩)],[22,5,2020,1020,20,1,999]⟩)
      (True ∧ True) (by kernel_rfl) rfl
      ⟨tt,tt⟩ ?_
     refine WI.nil rfl (thenQ_normal ?_)
     refine W.keepE [1,4,6,8] [(1,.ptr 1 0),(4,.sl (.ints (valuesC c))),(6,.own 22 (List.length (valuesC c))),(8,.i ((1 : Int) + (((valuesC c).length : Nat) : Int)))] (by kernel_rfl) ?_
     refine W.to (⟨[(1,.ptr 1 0),(4,.sl (.ints (valuesC c))),(6,.own 22 (List.length (valuesC c))),(8,.i ((1 : Int) + (((valuesC c).length : Nat) : Int)))],[(1,⟨25,.fix (cC c)⟩),(5,⟨29,.fix [.own 20 (List.length c.up),.own 1020 (List.length c.down),.i c.value,.i c.time,.i c.proc,.own 2020 (List.length c.marks)]⟩),(20,⟨3,.row (.ints (markI (List.length c.up) (1 : Int)))⟩),(22,⟨3,.row (.ints (markI (valuesC c).length (1 : Int)))⟩),(1020,⟨3,.row (.ints (markI (List.length c.down) ((1 : Int) + ((List.length c.up : Nat) : Int))))⟩),(2020,⟨50,.row (.marks (markM c.marks ((1 : Int) + ((List.length c.up : Nat) : Int) + ((List.length c.down : Nat) : Int))))⟩)],[22,5,2020,1020,20,1,999]⟩) rfl ?_
     refine Kk cok tab9 hnt [] [1,4,6,8,9] (⟨[(1,.ptr 1 0),(4,.sl (.ints (valuesC c))),(6,.own 22 (List.length (valuesC c))),(8,.i ((1 : Int) + (((valuesC c).length : Nat) : Int))),(9,.i (1 : Int))],[(1,⟨25,.fix (cC c)⟩),(5,⟨29,.fix [.own 20 (List.length c.up),.own 1020 (List.length c.down),.i c.value,.i c.time,.i c.proc,.own 2020 (List.length c.marks)]⟩),(20,⟨3,.row (.ints (markI (List.length c.up) (1 : Int)))⟩),(22,⟨3,.row (.ints (markI (valuesC c).length (1 : Int)))⟩),(1020,⟨3,.row (.ints (markI (List.length c.down) ((1 : Int) + ((List.length c.up : Nat) : Int))))⟩),(2020,⟨50,.row (.marks (markM c.marks ((1 : Int) + ((List.length c.up : Nat) : Int) + ((List.length c.down : Nat) : Int))))⟩)],[22,5,2020,1020,20,1,999]⟩)
      (True ∧ True)
      ⟨tt,tt⟩ ?_
     refine Kk cok tab9 hnt [] [1,4,6,8,9] (⟨[(1,.ptr 1 0),(4,.sl (.ints (valuesC c))),(6,.own 22 (List.length (valuesC c))),(8,.i ((1 : Int) + (((valuesC c).length : Nat) : Int))),(9,.i (heldI (markI (valuesC c).length (1 : Int)) (1 : Int)))],[(1,⟨25,.fix (cC c)⟩),(5,⟨29,.fix [.own 20 (List.length c.up),.own 1020 (List.length c.down),.i c.value,.i c.time,.i c.proc,.own 2020 (List.length c.marks)]⟩),(20,⟨3,.row (.ints (markI (List.length c.up) (1 : Int)))⟩),(22,⟨3,.row (.ints (markI (valuesC c).length (1 : Int)))⟩),(1020,⟨3,.row (.ints (markI (List.length c.down) ((1 : Int) + ((List.length c.up : Nat) : Int))))⟩),(2020,⟨50,.row (.marks (markM c.marks ((1 : Int) + ((List.length c.up : Nat) : Int) + ((List.length c.down : Nat) : Int))))⟩)],[22,5,2020,1020,20,1,999]⟩)
      (True ∧ True ∧ (True ∧ ((True ∧ ((List.length (valuesC c)) = (List.length (markI (valuesC c).length (1 : Int))))) ∧ True ∧ True) ∧ ((markI (valuesC c).length (1 : Int)).length ≤ 2000000) ∧ 0 ≤ (1 : Int) ∧ (1 : Int) ≤ 1000000000) ∧ True ∧ True)
      ⟨tt,tt,⟨tt,⟨⟨tt,(by (try simp only [markI_len,markM_len]); first | done | omega)⟩,tt,tt⟩,(by (try simp only [markI_len,markM_len]); first | done | omega),(by omega)⟩,tt,tt⟩ ?_
     refine W.seq ?_
     refine Kk cok tab9 hnt [] [1,4,6,8,9,50] (⟨[(1,.ptr 1 0),(4,.sl (.ints (valuesC c))),(6,.own 22 (List.length (valuesC c))),(8,.i ((1 : Int) + (((valuesC c).length : Nat) : Int))),(9,.i (heldI (markI (valuesC c).length (1 : Int)) (1 : Int))),(50,.b (decide ((heldI (markI (valuesC c).length (1 : Int)) (1 : Int)) < (0 : Int))))],[(1,⟨25,.fix (cC c)⟩),(5,⟨29,.fix [.own 20 (List.length c.up),.own 1020 (List.length c.down),.i c.value,.i c.time,.i c.proc,.own 2020 (List.length c.marks)]⟩),(20,⟨3,.row (.ints (markI (List.length c.up) (1 : Int)))⟩),(22,⟨3,.row (.ints (markI (valuesC c).length (1 : Int)))⟩),(1020,⟨3,.row (.ints (markI (List.length c.down) ((1 : Int) + ((List.length c.up : Nat) : Int))))⟩),(2020,⟨50,.row (.marks (markM c.marks ((1 : Int) + ((List.length c.up : Nat) : Int) + ((List.length c.down : Nat) : Int))))⟩)],[22,5,2020,1020,20,1,999]⟩)
      (True ∧ (True ∧ True ∧ True) ∧ True)
      ⟨tt,⟨tt,tt,tt⟩,tt⟩ ?_
     refine W.ifP ((heldI (markI (valuesC c).length (1 : Int)) (1 : Int)) < (0 : Int)) (.b (decide ((heldI (markI (valuesC c).length (1 : Int)) (1 : Int)) < (0 : Int)))) (by kernel_rfl) rfl trivial ?_ ?_
     ·intro h50
      refine Kk cok tab9 hnt [] [2] (⟨[(2,.b false)],[(1,⟨25,.fix (cC c)⟩),(5,⟨29,.fix [.own 20 (List.length c.up),.own 1020 (List.length c.down),.i c.value,.i c.time,.i c.proc,.own 2020 (List.length c.marks)]⟩),(20,⟨3,.row (.ints (markI (List.length c.up) (1 : Int)))⟩),(22,⟨3,.row (.ints (markI (valuesC c).length (1 : Int)))⟩),(1020,⟨3,.row (.ints (markI (List.length c.down) ((1 : Int) + ((List.length c.up : Nat) : Int))))⟩),(2020,⟨50,.row (.marks (markM c.marks ((1 : Int) + ((List.length c.up : Nat) : Int) + ((List.length c.down : Nat) : Int))))⟩)],[22,5,2020,1020,20,1,999]⟩)
       (True ∧ True)
       ⟨tt,tt⟩ ?_
      refine W.ret (thenQ_ret ?_)
      exact endQ_ret (.b false) (by kernel_rfl) (@cast ((.bool false : Value) = .bool true) _ (by kernel_rfl) (congrArg Value.bool (by exfalso; rw [heldI_mark] at h50; omega)))
     ·intro n50
      refine W.skip (thenQ_normal ?_)
      refine W.seq ?_
      refine Kk cok tab9 hnt [] [1,4,6,8,53] (⟨[(1,.ptr 1 0),(4,.sl (.ints (valuesC c))),(6,.own 22 (List.length (valuesC c))),(8,.i ((1 : Int) + (((valuesC c).length : Nat) : Int))),(53,.b (decide ((heldI (markI (valuesC c).length (1 : Int)) (1 : Int)) ≠ ((1 : Int) + (((valuesC c).length : Nat) : Int)))))],[(1,⟨25,.fix (cC c)⟩),(5,⟨29,.fix [.own 20 (List.length c.up),.own 1020 (List.length c.down),.i c.value,.i c.time,.i c.proc,.own 2020 (List.length c.marks)]⟩),(20,⟨3,.row (.ints (markI (List.length c.up) (1 : Int)))⟩),(22,⟨3,.row (.ints (markI (valuesC c).length (1 : Int)))⟩),(1020,⟨3,.row (.ints (markI (List.length c.down) ((1 : Int) + ((List.length c.up : Nat) : Int))))⟩),(2020,⟨50,.row (.marks (markM c.marks ((1 : Int) + ((List.length c.up : Nat) : Int) + ((List.length c.down : Nat) : Int))))⟩)],[22,5,2020,1020,20,1,999]⟩)
       (True ∧ True ∧ (True ∧ True ∧ True) ∧ True)
       ⟨tt,tt,⟨tt,tt,tt⟩,tt⟩ ?_
      refine W.ifP ((heldI (markI (valuesC c).length (1 : Int)) (1 : Int)) ≠ ((1 : Int) + (((valuesC c).length : Nat) : Int))) (.b (decide ((heldI (markI (valuesC c).length (1 : Int)) (1 : Int)) ≠ ((1 : Int) + (((valuesC c).length : Nat) : Int))))) (by kernel_rfl) rfl trivial ?_ ?_
      ·intro h53
       refine Kk cok tab9 hnt [] [2] (⟨[(2,.b false)],[(1,⟨25,.fix (cC c)⟩),(5,⟨29,.fix [.own 20 (List.length c.up),.own 1020 (List.length c.down),.i c.value,.i c.time,.i c.proc,.own 2020 (List.length c.marks)]⟩),(20,⟨3,.row (.ints (markI (List.length c.up) (1 : Int)))⟩),(22,⟨3,.row (.ints (markI (valuesC c).length (1 : Int)))⟩),(1020,⟨3,.row (.ints (markI (List.length c.down) ((1 : Int) + ((List.length c.up : Nat) : Int))))⟩),(2020,⟨50,.row (.marks (markM c.marks ((1 : Int) + ((List.length c.up : Nat) : Int) + ((List.length c.down : Nat) : Int))))⟩)],[22,5,2020,1020,20,1,999]⟩)
        (True ∧ True)
        ⟨tt,tt⟩ ?_
       refine W.ret (thenQ_ret ?_)
       exact endQ_ret (.b false) (by kernel_rfl) (@cast ((.bool false : Value) = .bool true) _ (by kernel_rfl) (congrArg Value.bool (by exfalso; rw [heldI_mark] at h53; omega)))
      ·intro n53
       refine W.skip (thenQ_normal ?_)
       refine Kk cok tab9 hnt [] [4,6,8,10] (⟨[(4,.sl (.ints (valuesC c))),(6,.own 22 (List.length (valuesC c))),(8,.i ((1 : Int) + (((valuesC c).length : Nat) : Int))),(10,.sl (.ints (valuesC c)))],[(1,⟨25,.fix (cC c)⟩),(5,⟨29,.fix [.own 20 (List.length c.up),.own 1020 (List.length c.down),.i c.value,.i c.time,.i c.proc,.own 2020 (List.length c.marks)]⟩),(20,⟨3,.row (.ints (markI (List.length c.up) (1 : Int)))⟩),(22,⟨3,.row (.ints (markI (valuesC c).length (1 : Int)))⟩),(1020,⟨3,.row (.ints (markI (List.length c.down) ((1 : Int) + ((List.length c.up : Nat) : Int))))⟩),(2020,⟨50,.row (.marks (markM c.marks ((1 : Int) + ((List.length c.up : Nat) : Int) + ((List.length c.down : Nat) : Int))))⟩)],[56,22,5,2020,1020,20,1,999]⟩)
        (True ∧ (True ∧ ((True ∧ True ∧ True ∧ True ∧ True ∧ True ∧ True ∧ True) ∧ True) ∧ c.up.length ≤ 1048576 ∧ c.down.length ≤ 1048576 ∧ c.marks.length ≤ 1048576) ∧ ((True ∧ ((True ∧ True ∧ True ∧ True ∧ True ∧ True ∧ True ∧ True) ∧ True) ∧ True) ∧ ((List.length (valuesC c)) = (List.length (valuesC c)))) ∧ True ∧ True)
        ⟨tt,⟨tt,⟨⟨tt,tt,tt,tt,tt,tt,tt,tt⟩,tt⟩,(by omega)⟩,⟨⟨tt,⟨⟨tt,tt,tt,tt,tt,tt,tt,tt⟩,tt⟩,tt⟩,rfl⟩,tt,tt⟩ ?_
       refine W.seq ?_
       refine Kk cok tab9 hnt [] [6,8,60] (⟨[(6,.own 22 (List.length (valuesC c))),(8,.i ((1 : Int) + (((valuesC c).length : Nat) : Int))),(60,.b (!(decide ((valuesC c) = (valuesC c)))))],[(1,⟨25,.fix (cC c)⟩),(5,⟨29,.fix [.own 20 (List.length c.up),.own 1020 (List.length c.down),.i c.value,.i c.time,.i c.proc,.own 2020 (List.length c.marks)]⟩),(20,⟨3,.row (.ints (markI (List.length c.up) (1 : Int)))⟩),(22,⟨3,.row (.ints (markI (valuesC c).length (1 : Int)))⟩),(1020,⟨3,.row (.ints (markI (List.length c.down) ((1 : Int) + ((List.length c.up : Nat) : Int))))⟩),(2020,⟨50,.row (.marks (markM c.marks ((1 : Int) + ((List.length c.up : Nat) : Int) + ((List.length c.down : Nat) : Int))))⟩)],[56,22,5,2020,1020,20,1,999]⟩)
        (True ∧ True ∧ (True ∧ (True ∧ True ∧ True) ∧ True) ∧ True ∧ True)
        ⟨tt,tt,⟨tt,⟨tt,tt,tt⟩,tt⟩,tt,tt⟩ ?_
       refine W.if' (!(decide ((valuesC c) = (valuesC c)))) (.b (!(decide ((valuesC c) = (valuesC c))))) (by kernel_rfl) rfl trivial ?_ ?_
       ·intro h60
        refine Kk cok tab9 hnt [] [2] (⟨[(2,.b false)],[(1,⟨25,.fix (cC c)⟩),(5,⟨29,.fix [.own 20 (List.length c.up),.own 1020 (List.length c.down),.i c.value,.i c.time,.i c.proc,.own 2020 (List.length c.marks)]⟩),(20,⟨3,.row (.ints (markI (List.length c.up) (1 : Int)))⟩),(22,⟨3,.row (.ints (markI (valuesC c).length (1 : Int)))⟩),(1020,⟨3,.row (.ints (markI (List.length c.down) ((1 : Int) + ((List.length c.up : Nat) : Int))))⟩),(2020,⟨50,.row (.marks (markM c.marks ((1 : Int) + ((List.length c.up : Nat) : Int) + ((List.length c.down : Nat) : Int))))⟩)],[56,22,5,2020,1020,20,1,999]⟩)
         (True ∧ True)
         ⟨tt,tt⟩ ?_
        refine W.ret (thenQ_ret ?_)
        exact endQ_ret (.b false) (by kernel_rfl) (@cast ((.bool false : Value) = .bool true) _ (by kernel_rfl) (congrArg Value.bool (by exfalso; simp [same_refl] at h60)))
       ·intro n60
        refine W.skip (thenQ_normal ?_)
        refine Kk cok tab9 hnt [] [6,8,9] (⟨[(6,.own 22 (List.length (valuesC c))),(8,.i ((1 : Int) + (((valuesC c).length : Nat) : Int))),(9,.i (1 : Int))],[(1,⟨25,.fix (cC c)⟩),(5,⟨29,.fix [.own 20 (List.length c.up),.own 1020 (List.length c.down),.i c.value,.i c.time,.i c.proc,.own 2020 (List.length c.marks)]⟩),(20,⟨3,.row (.ints (markI (List.length c.up) (1 : Int)))⟩),(22,⟨3,.row (.ints (markI (valuesC c).length (1 : Int)))⟩),(1020,⟨3,.row (.ints (markI (List.length c.down) ((1 : Int) + ((List.length c.up : Nat) : Int))))⟩),(2020,⟨50,.row (.marks (markM c.marks ((1 : Int) + ((List.length c.up : Nat) : Int) + ((List.length c.down : Nat) : Int))))⟩)],[56,22,5,2020,1020,20,1,999]⟩)
         (True ∧ True)
         ⟨tt,tt⟩ ?_
        refine Kk cok tab9 hnt [] [8,9] (⟨[(8,.i ((1 : Int) + (((valuesC c).length : Nat) : Int))),(9,.i (heldI (markI (valuesC c).length (1 : Int)) (1 : Int)))],[(1,⟨25,.fix (cC c)⟩),(5,⟨29,.fix [.own 20 (List.length c.up),.own 1020 (List.length c.down),.i c.value,.i c.time,.i c.proc,.own 2020 (List.length c.marks)]⟩),(20,⟨3,.row (.ints (markI (List.length c.up) (1 : Int)))⟩),(22,⟨3,.row (.ints (markI (valuesC c).length (1 : Int)))⟩),(1020,⟨3,.row (.ints (markI (List.length c.down) ((1 : Int) + ((List.length c.up : Nat) : Int))))⟩),(2020,⟨50,.row (.marks (markM c.marks ((1 : Int) + ((List.length c.up : Nat) : Int) + ((List.length c.down : Nat) : Int))))⟩)],[56,22,5,2020,1020,20,1,999]⟩)
         (True ∧ True ∧ (True ∧ ((True ∧ ((List.length (valuesC c)) = (List.length (markI (valuesC c).length (1 : Int))))) ∧ True ∧ True) ∧ ((markI (valuesC c).length (1 : Int)).length ≤ 2000000) ∧ 0 ≤ (1 : Int) ∧ (1 : Int) ≤ 1000000000) ∧ True ∧ True)
         ⟨tt,tt,⟨tt,⟨⟨tt,(by (try simp only [markI_len,markM_len]); first | done | omega)⟩,tt,tt⟩,(by (try simp only [markI_len,markM_len]); first | done | omega),(by omega)⟩,tt,tt⟩ ?_
        refine W.seq ?_
        refine Kk cok tab9 hnt [] [8,9,65] (⟨[(8,.i ((1 : Int) + (((valuesC c).length : Nat) : Int))),(9,.i (heldI (markI (valuesC c).length (1 : Int)) (1 : Int))),(65,.b (decide ((heldI (markI (valuesC c).length (1 : Int)) (1 : Int)) < (0 : Int))))],[(1,⟨25,.fix (cC c)⟩),(5,⟨29,.fix [.own 20 (List.length c.up),.own 1020 (List.length c.down),.i c.value,.i c.time,.i c.proc,.own 2020 (List.length c.marks)]⟩),(20,⟨3,.row (.ints (markI (List.length c.up) (1 : Int)))⟩),(22,⟨3,.row (.ints (markI (valuesC c).length (1 : Int)))⟩),(1020,⟨3,.row (.ints (markI (List.length c.down) ((1 : Int) + ((List.length c.up : Nat) : Int))))⟩),(2020,⟨50,.row (.marks (markM c.marks ((1 : Int) + ((List.length c.up : Nat) : Int) + ((List.length c.down : Nat) : Int))))⟩)],[56,22,5,2020,1020,20,1,999]⟩)
         (True ∧ (True ∧ True ∧ True) ∧ True)
         ⟨tt,⟨tt,tt,tt⟩,tt⟩ ?_
        refine W.ifP ((heldI (markI (valuesC c).length (1 : Int)) (1 : Int)) < (0 : Int)) (.b (decide ((heldI (markI (valuesC c).length (1 : Int)) (1 : Int)) < (0 : Int)))) (by kernel_rfl) rfl trivial ?_ ?_
        ·intro h65
         refine Kk cok tab9 hnt [] [2] (⟨[(2,.b false)],[(1,⟨25,.fix (cC c)⟩),(5,⟨29,.fix [.own 20 (List.length c.up),.own 1020 (List.length c.down),.i c.value,.i c.time,.i c.proc,.own 2020 (List.length c.marks)]⟩),(20,⟨3,.row (.ints (markI (List.length c.up) (1 : Int)))⟩),(22,⟨3,.row (.ints (markI (valuesC c).length (1 : Int)))⟩),(1020,⟨3,.row (.ints (markI (List.length c.down) ((1 : Int) + ((List.length c.up : Nat) : Int))))⟩),(2020,⟨50,.row (.marks (markM c.marks ((1 : Int) + ((List.length c.up : Nat) : Int) + ((List.length c.down : Nat) : Int))))⟩)],[56,22,5,2020,1020,20,1,999]⟩)
          (True ∧ True)
          ⟨tt,tt⟩ ?_
         refine W.ret (thenQ_ret ?_)
         exact endQ_ret (.b false) (by kernel_rfl) (@cast ((.bool false : Value) = .bool true) _ (by kernel_rfl) (congrArg Value.bool (by exfalso; rw [heldI_mark] at h65; omega)))
        ·intro n65
         refine W.skip (thenQ_normal ?_)
         refine W.seq ?_
         refine Kk cok tab9 hnt [] [68] (⟨[(68,.b (decide ((heldI (markI (valuesC c).length (1 : Int)) (1 : Int)) ≠ ((1 : Int) + (((valuesC c).length : Nat) : Int)))))],[(1,⟨25,.fix (cC c)⟩),(5,⟨29,.fix [.own 20 (List.length c.up),.own 1020 (List.length c.down),.i c.value,.i c.time,.i c.proc,.own 2020 (List.length c.marks)]⟩),(20,⟨3,.row (.ints (markI (List.length c.up) (1 : Int)))⟩),(22,⟨3,.row (.ints (markI (valuesC c).length (1 : Int)))⟩),(1020,⟨3,.row (.ints (markI (List.length c.down) ((1 : Int) + ((List.length c.up : Nat) : Int))))⟩),(2020,⟨50,.row (.marks (markM c.marks ((1 : Int) + ((List.length c.up : Nat) : Int) + ((List.length c.down : Nat) : Int))))⟩)],[56,22,5,2020,1020,20,1,999]⟩)
          (True ∧ True ∧ (True ∧ True ∧ True) ∧ True)
          ⟨tt,tt,⟨tt,tt,tt⟩,tt⟩ ?_
         refine W.ifP ((heldI (markI (valuesC c).length (1 : Int)) (1 : Int)) ≠ ((1 : Int) + (((valuesC c).length : Nat) : Int))) (.b (decide ((heldI (markI (valuesC c).length (1 : Int)) (1 : Int)) ≠ ((1 : Int) + (((valuesC c).length : Nat) : Int))))) (by kernel_rfl) rfl trivial ?_ ?_
         ·intro h68
          refine Kk cok tab9 hnt [] [2] (⟨[(2,.b false)],[(1,⟨25,.fix (cC c)⟩),(5,⟨29,.fix [.own 20 (List.length c.up),.own 1020 (List.length c.down),.i c.value,.i c.time,.i c.proc,.own 2020 (List.length c.marks)]⟩),(20,⟨3,.row (.ints (markI (List.length c.up) (1 : Int)))⟩),(22,⟨3,.row (.ints (markI (valuesC c).length (1 : Int)))⟩),(1020,⟨3,.row (.ints (markI (List.length c.down) ((1 : Int) + ((List.length c.up : Nat) : Int))))⟩),(2020,⟨50,.row (.marks (markM c.marks ((1 : Int) + ((List.length c.up : Nat) : Int) + ((List.length c.down : Nat) : Int))))⟩)],[56,22,5,2020,1020,20,1,999]⟩)
           (True ∧ True)
           ⟨tt,tt⟩ ?_
          refine W.ret (thenQ_ret ?_)
          exact endQ_ret (.b false) (by kernel_rfl) (@cast ((.bool false : Value) = .bool true) _ (by kernel_rfl) (congrArg Value.bool (by exfalso; rw [heldI_mark] at h68; omega)))
         ·intro n68
          refine W.skip (thenQ_normal ?_)
          refine Kk cok tab9 hnt [] [2] (⟨[(2,.b true)],[(1,⟨25,.fix (cC c)⟩),(5,⟨29,.fix [.own 20 (List.length c.up),.own 1020 (List.length c.down),.i c.value,.i c.time,.i c.proc,.own 2020 (List.length c.marks)]⟩),(20,⟨3,.row (.ints (markI (List.length c.up) (1 : Int)))⟩),(22,⟨3,.row (.ints (markI (valuesC c).length (1 : Int)))⟩),(1020,⟨3,.row (.ints (markI (List.length c.down) ((1 : Int) + ((List.length c.up : Nat) : Int))))⟩),(2020,⟨50,.row (.marks (markM c.marks ((1 : Int) + ((List.length c.up : Nat) : Int) + ((List.length c.down : Nat) : Int))))⟩)],[56,22,5,2020,1020,20,1,999]⟩)
           (True ∧ True)
           ⟨tt,tt⟩ ?_
          refine W.ret ?_
          exact endQ_ret (.b true) (by kernel_rfl) (@cast (Sv (.bool true)) _ (by kernel_rfl) rfl)
end Go.Proofs.Try
