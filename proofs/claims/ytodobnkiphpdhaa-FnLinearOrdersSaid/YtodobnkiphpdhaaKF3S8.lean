import Derived.Test.YtodobnkiphpdhaaKF3S0
import Derived.Test.YtodobnkiphpdhaaKF3S3
import Derived.Test.YtodobnkiphpdhaaKF3S1
import Derived.Test.YtodobnkiphpdhaaKF3S2
import Derived.Test.YtodobnkiphpdhaaKF3S7
import Derived.Test.YtodobnkiphpdhaaKF3S4
set_option linter.unusedSimpArgs false
set_option linter.unusedVariables false
namespace Go.Proofs.Try
open Go.Ab Go.RowKit
def fs30 : FnS := fnS [.o,.s .calls,.s .ints] [.str,.calls,.ints] (fun _ (s,h,o,_) => (.tup [.agg [.sl (.ints (List.getD ((playedR s h o).1) 0 [])),.sl (.ints (List.getD ((playedR s h o).1) 1 []))],.b ((playedR s h o).2)],[],(isObject s = true) ∧ (validHistory h = true) ∧ (inH h o) ∧ (o.length ≤ 6)))
abbrev T30 : Tab := lk [(55,fs55)]
theorem tab30 : TabOK prog T30 := (TabOK.cons ok55 ent55 TabOK.nil)
set_option maxRecDepth 100000 in
set_option maxHeartbeats 1000000 in
theorem ok30 : FnOK prog 30 fs30 := by
 refine FnOK.mk cok func30 rfl rfl rfl ?_
 rintro fl ⟨(s : ByteArray),(h : List CallD),(o : List Int),_⟩ hpre F hnt0 _
 have hnt : F.nt = 53 := hnt0.trans ntmps30
 replace hpre : (isObject s = true) ∧ (validHistory h = true) ∧ (inH h o) ∧ (o.length ≤ 6) := hpre
 obtain ⟨hs,hv,ho,h6⟩ := hpre
 refine W.to (⟨[(0,.v (.string s)),(1,.sl (.calls h)),(2,.sl (.ints o))],[],[999]⟩) rfl ?_
 refine W.lenOf 1 (.calls h) (by kernel_rfl) ?_
 intro hl_h; replace hl_h : List.length h ≤ 9223372036854775807 := hl_h
 refine W.lenOf 2 (.ints o) (by kernel_rfl) ?_
 intro hl_o; replace hl_o : List.length o ≤ 9223372036854775807 := hl_o
 refine W.K cok tab30 hnt [] [0,1,2,6] (⟨[(0,.v (.string s)),(1,.sl (.calls h)),(2,.sl (.ints o)),(6,.ptr 6 0)],[(6,⟨50,.row (.intss ([[],[]] : List (List Int)))⟩)],[6,999]⟩)
  (True ∧ True ∧ True) (by kernel_rfl)
  ⟨tt,tt,tt⟩ ?_
 refine W.K cok tab30 hnt [] [0,1,2,6,8] (⟨[(0,.v (.string s)),(1,.sl (.calls h)),(2,.sl (.ints o)),(6,.ptr 6 0),(8,.ptr 8 0)],[(6,⟨50,.row (.intss ([[],[]] : List (List Int)))⟩),(8,⟨50,.row (.intss ([([] : List Int),([] : List Int)]))⟩)],[8,6,999]⟩)
  (True ∧ True ∧ (True ∧ True ∧ ((List.length ([[],[]] : List (List Int))) = 2)) ∧ True) (by kernel_rfl)
  ⟨tt,tt,⟨tt,tt,(by first | exact hsl | rfl | (rw [List.length_set]; exact hsl))⟩,tt⟩ ?_
 refine W.seq ?_
 refine W.K cok tab30 hnt [] [0,1,6,8,14,15,16] (⟨[(0,.v (.string s)),(1,.sl (.calls h)),(6,.ptr 6 0),(8,.ptr 8 0),(14,.sl (.ints o)),(15,.i (o.length : Int)),(16,.i (0 : Int))],[(6,⟨50,.row (.intss ([[],[]] : List (List Int)))⟩),(8,⟨50,.row (.intss ([([] : List Int),([] : List Int)]))⟩)],[8,6,999]⟩)
  (True ∧ True ∧ True ∧ True) (by kernel_rfl)
  ⟨tt,tt,tt,tt⟩ ?_
 refine W.block ?_
 refine W.loop (ι := Nat × (List (List Int))) (fun (x : Nat × (List (List Int))) => match x with | (i,ss) => (⟨[(0,.v (.string s)),(1,.sl (.calls h)),(6,.ptr 6 0),(8,.ptr 8 0),(14,.sl (.ints o)),(15,.i (o.length : Int)),(16,.i ((i : Nat) : Int))],[(6,⟨50,.row (.intss ([[],[]] : List (List Int)))⟩),(8,⟨50,.row (.intss ss)⟩)],[6,8,999]⟩ : St))
  (fun (x : Nat × (List (List Int))) => match x with | (i,ss) => (i ≤ o.length) ∧ (ss = sts s h o i) ∧ (∀ j,j < i → okAt s h o j = true))
  (fun (x : Nat × (List (List Int))) => match x with | (i,ss) => (o.length - i : Nat)) (0,([([] : List Int),([] : List Int)])) ?_ ?_ ?_
 ·exact (show (0 ≤ o.length) ∧ (([([] : List Int),([] : List Int)]) = sts s h o 0) ∧ (∀ j,j < 0 → okAt s h o j = true) from ⟨(by first | assumption | omega | rfl | (intro _ hjj; omega) | (simp; done) | (simp; omega)),(by rfl),(by exact upto_zero)⟩)
 ·exact Sub.of [] (@cast (((((.string s) : Value) = (.string s)) ∧ (((.calls h : Dat) = .calls h) ∧ ((((6 : Nat) = 6) ∧ (((0 : Nat) = 0) ∧ ((6 : Nat) ∈ ([6,8,999] : List Nat)))) ∧ ((((8 : Nat) = 8) ∧ (((0 : Nat) = 0) ∧ ((8 : Nat) ∈ ([6,8,999] : List Nat)))) ∧ (((.ints o : Dat) = .ints o) ∧ (((.int .i64 (o.length : Int) : Value) = .int .i64 (o.length : Int)) ∧ (((.int .i64 (0 : Int) : Value) = .int .i64 ((0 : Nat) : Int)) ∧ True))))))) ∧ (((((50 : Nat) = 50) ∧ (((.intss ([[],[]] : List (List Int)) : Dat) = .intss ([[],[]] : List (List Int))) ∧ ((6 : Nat) ∈ ([6,8,999] : List Nat)))) ∧ ((((50 : Nat) = 50) ∧ (((.intss ([([] : List Int),([] : List Int)]) : Dat) = .intss ([([] : List Int),([] : List Int)])) ∧ ((8 : Nat) ∈ ([6,8,999] : List Nat)))) ∧ True)) ∧ ((true = true) ∧ (true = true)))) _ (by kernel_rfl) ⟨⟨rfl,rfl,⟨rfl,rfl,(by decide)⟩,⟨rfl,rfl,(by decide)⟩,rfl,rfl,(congrArg (Value.int .i64) (by first | rfl | omega | assumption | simp | simp_all)),tt⟩,⟨⟨rfl,rfl,(by decide)⟩,⟨rfl,rfl,(by decide)⟩,tt⟩,rfl,rfl⟩)
 ·rintro ⟨i,ss⟩ hC0
  have hC : (i ≤ o.length) ∧ (ss = sts s h o i) ∧ (∀ j,j < i → okAt s h o j = true) := hC0
  clear hC0
  obtain ⟨hi,hss,hA⟩ := hC
  refine W.to (⟨[(0,.v (.string s)),(1,.sl (.calls h)),(6,.ptr 6 0),(8,.ptr 8 0),(14,.sl (.ints o)),(15,.i (o.length : Int)),(16,.i ((i : Nat) : Int))],[(6,⟨50,.row (.intss ([[],[]] : List (List Int)))⟩),(8,⟨50,.row (.intss ss)⟩)],[6,8,999]⟩) rfl ?_
  have hsl : ss.length = 2 := by rw [hss]; exact sts_len s h o i
  have hri := ho i
  have hcl := fun hi => isCall_iff.1 (ord_call hv ho (i := i) hi)
  unfold ordAt callAt at hcl
  have hst := fun hi => sts_step hs hv ho (i := i) hi (by omega)
  unfold ordAt callAt at hst
  refine W.K cok tab30 hnt [] [0,1,6,8,14,15,16,17] (⟨[(0,.v (.string s)),(1,.sl (.calls h)),(6,.ptr 6 0),(8,.ptr 8 0),(14,.sl (.ints o)),(15,.i (o.length : Int)),(16,.i ((i : Nat) : Int)),(17,.b (decide (((i : Nat) : Int) < (o.length : Int))))],[(6,⟨50,.row (.intss ([[],[]] : List (List Int)))⟩),(8,⟨50,.row (.intss ss)⟩)],[6,8,999]⟩)
   ((True ∧ True ∧ True) ∧ True) (by kernel_rfl)
   ⟨⟨tt,tt,tt⟩,tt⟩ ?_
  refine W.seq ?_
  refine W.ifP (((i : Nat) : Int) < (o.length : Int)) (.b (decide (((i : Nat) : Int) < (o.length : Int)))) (by kernel_rfl) rfl trivial ?_ ?_
  ·intro h17
   refine W.skip (thenQ_normal ?_)
   refine W.seq ?_
   refine W.block ?_
   refine W.K cok tab30 hnt [] [0,1,6,8,10,14,15,16] (⟨[(0,.v (.string s)),(1,.sl (.calls h)),(6,.ptr 6 0),(8,.ptr 8 0),(10,.i (o.getD i 0)),(14,.sl (.ints o)),(15,.i (o.length : Int)),(16,.i ((i : Nat) : Int))],[(6,⟨50,.row (.intss ([[],[]] : List (List Int)))⟩),(8,⟨50,.row (.intss ss)⟩)],[6,8,999]⟩)
    ((True ∧ True ∧ (0 ≤ ((i : Nat) : Int)) ∧ (((i : Nat) : Int) < (o.length : Int))) ∧ True ∧ True ∧ True) (by kernel_rfl)
    ⟨⟨tt,tt,(by omega),(by have hh := hcl (by omega); omega)⟩,tt,tt,tt⟩ ?_
   refine W.KA cok tab30 hnt [] [0,1,6,8,10,11,12,14,15,16] (⟨[(0,.v (.string s)),(1,.sl (.calls h)),(6,.ptr 6 0),(8,.ptr 8 0),(10,.i (o.getD i 0)),(11,.sl (.ints ((iStep s (ss.getD (Int.toNat ((h.getD (Int.toNat (o.getD i 0)) default).obj)) []) (h.getD (Int.toNat (o.getD i 0)) default)).1))),(12,.i ((iStep s (ss.getD (Int.toNat ((h.getD (Int.toNat (o.getD i 0)) default).obj)) []) (h.getD (Int.toNat (o.getD i 0)) default)).2)),(14,.sl (.ints o)),(15,.i (o.length : Int)),(16,.i ((i : Nat) : Int))],[(6,⟨50,.row (.intss ([[],[]] : List (List Int)))⟩),(8,⟨50,.row (.intss ss)⟩)],[6,8,999]⟩)
    (True ∧ True ∧ True ∧ (True ∧ True ∧ (0 ≤ (o.getD i 0)) ∧ ((o.getD i 0) < (h.length : Int))) ∧ True ∧ True ∧ (True ∧ True ∧ (0 ≤ ((h.getD (Int.toNat (o.getD i 0)) default).obj)) ∧ (((h.getD (Int.toNat (o.getD i 0)) default).obj) < 2)) ∧ (True ∧ ((Int.toNat ((h.getD (Int.toNat (o.getD i 0)) default).obj)) < ss.length)) ∧ True ∧ True ∧ (True ∧ True ∧ (0 ≤ (o.getD i 0)) ∧ ((o.getD i 0) < (h.length : Int))) ∧ True ∧ (True ∧ (True ∧ True ∧ True ∧ True) ∧ (∀ j,j < (ss.getD (Int.toNat ((h.getD (Int.toNat (o.getD i 0)) default).obj)) []).length → 0 ≤ (ss.getD (Int.toNat ((h.getD (Int.toNat (o.getD i 0)) default).obj)) []).getD j 0 ∧ (ss.getD (Int.toNat ((h.getD (Int.toNat (o.getD i 0)) default).obj)) []).getD j 0 ≤ 20) ∧ (0 ≤ (h.getD (Int.toNat (o.getD i 0)) default).arg ∧ (h.getD (Int.toNat (o.getD i 0)) default).arg ≤ 3) ∧ ((ss.getD (Int.toNat ((h.getD (Int.toNat (o.getD i 0)) default).obj)) []).length ≤ 20)) ∧ True ∧ True ∧ True ∧ True ∧ True ∧ True) (by kernel_rfl) (by kernel_rfl)
    ⟨tt,tt,tt,⟨tt,tt,(by (first | omega | (simp only [List.length_append,List.length_cons,List.length_nil,List.length_take,List.length_drop,List.length_set,List.length_replicate,List.length_map] at *; omega) | assumption)),(by have hh := hcl (by omega); omega)⟩,tt,tt,⟨tt,tt,(by have hh := hcl (by omega); omega),(by have hh := hcl (by omega); omega)⟩,⟨tt,(by have hh := hcl (by omega); omega)⟩,tt,tt,⟨tt,tt,(by (first | omega | (simp only [List.length_append,List.length_cons,List.length_nil,List.length_take,List.length_drop,List.length_set,List.length_replicate,List.length_map] at *; omega) | assumption)),(by have hh := hcl (by omega); omega)⟩,tt,⟨tt,⟨tt,tt,tt,tt⟩,(by have hh := (sts_at hs hv ho (i := i) (by omega) (by omega)).2.2; unfold ordAt callAt at hh; rw [hss]; intro j hj; have := hh _ (getD_mem _ 0 hj); omega),(by have hh := hcl (by omega); omega),(by have hh := (sts_at hs hv ho (i := i) (by omega) (by omega)).2.1; unfold ordAt callAt at hh; rw [hss]; omega)⟩,tt,tt,tt,tt,tt,tt⟩ ?_
   refine W.seq ?_
   refine W.K cok tab30 hnt [] [0,1,6,8,10,11,14,15,16,42] (⟨[(0,.v (.string s)),(1,.sl (.calls h)),(6,.ptr 6 0),(8,.ptr 8 0),(10,.i (o.getD i 0)),(11,.sl (.ints ((iStep s (ss.getD (Int.toNat ((h.getD (Int.toNat (o.getD i 0)) default).obj)) []) (h.getD (Int.toNat (o.getD i 0)) default)).1))),(14,.sl (.ints o)),(15,.i (o.length : Int)),(16,.i ((i : Nat) : Int)),(42,.b (decide (((iStep s (ss.getD (Int.toNat ((h.getD (Int.toNat (o.getD i 0)) default).obj)) []) (h.getD (Int.toNat (o.getD i 0)) default)).2) ≠ ((h.getD (Int.toNat (o.getD i 0)) default).ret))))],[(6,⟨50,.row (.intss ([[],[]] : List (List Int)))⟩),(8,⟨50,.row (.intss ss)⟩)],[6,8,999]⟩)
    (True ∧ True ∧ True ∧ (True ∧ True ∧ (0 ≤ (o.getD i 0)) ∧ ((o.getD i 0) < (h.length : Int))) ∧ True ∧ True ∧ (True ∧ True ∧ True) ∧ True) (by kernel_rfl)
    ⟨tt,tt,tt,⟨tt,tt,(by (first | omega | (simp only [List.length_append,List.length_cons,List.length_nil,List.length_take,List.length_drop,List.length_set,List.length_replicate,List.length_map] at *; omega) | assumption)),(by have hh := hcl (by omega); omega)⟩,tt,tt,⟨tt,tt,tt⟩,tt⟩ ?_
   refine W.ifP (((iStep s (ss.getD (Int.toNat ((h.getD (Int.toNat (o.getD i 0)) default).obj)) []) (h.getD (Int.toNat (o.getD i 0)) default)).2) ≠ ((h.getD (Int.toNat (o.getD i 0)) default).ret)) (.b (decide (((iStep s (ss.getD (Int.toNat ((h.getD (Int.toNat (o.getD i 0)) default).obj)) []) (h.getD (Int.toNat (o.getD i 0)) default)).2) ≠ ((h.getD (Int.toNat (o.getD i 0)) default).ret)))) (by kernel_rfl) rfl trivial ?_ ?_
   ·intro h42
    refine W.K cok tab30 hnt [] [6,7] (⟨[(6,.ptr 6 0),(7,.b false)],[(6,⟨50,.row (.intss ([ss.getD 0 [],ss.getD 1 []]))⟩),(8,⟨50,.row (.intss ss)⟩)],[6,8,999]⟩)
     ((True ∧ (ss.length = 2)) ∧ (True ∧ True ∧ ((List.length ([[],[]] : List (List Int))) = 2)) ∧ True ∧ True) (by kernel_rfl)
     ⟨⟨tt,(by first | exact hsl | rfl | (rw [List.length_set]; exact hsl))⟩,⟨tt,tt,(by first | exact hsl | rfl | (rw [List.length_set]; exact hsl))⟩,tt,tt⟩ ?_
    refine W.ret (thenQ_ret (blockQ_ret (thenQ_ret (thenQ_ret (blockQ_ret (thenQ_ret ?_))))))
    exact endQ_ret (.tup [.agg [.sl (.ints (List.getD ([ss.getD 0 [],ss.getD 1 []]) 0 [])),.sl (.ints (List.getD ([ss.getD 0 [],ss.getD 1 []]) 1 []))],.b false]) (by kernel_rfl) (@cast ((((.ints (List.getD ([ss.getD 0 [],ss.getD 1 []]) 0 []) : Dat) = .ints (List.getD ((playedR s h o).1) 0 [])) ∧ (((.ints (List.getD ([ss.getD 0 [],ss.getD 1 []]) 1 []) : Dat) = .ints (List.getD ((playedR s h o).1) 1 [])) ∧ True)) ∧ (((.bool false : Value) = .bool ((playedR s h o).2)) ∧ True)) _ (by kernel_rfl) ⟨⟨(congrArg Dat.ints (by rw [played_no (i := i) (by omega) (fun j hj => hA j hj) (by have h9 := (hst (by omega)).2; rw [hss] at h42; rw [← h9]; exact decide_eq_false (by omega))] <;> (subst hss; rfl))),(congrArg Dat.ints (by rw [played_no (i := i) (by omega) (fun j hj => hA j hj) (by have h9 := (hst (by omega)).2; rw [hss] at h42; rw [← h9]; exact decide_eq_false (by omega))] <;> (subst hss; rfl))),tt⟩,(congrArg Value.bool (by rw [played_no (i := i) (by omega) (fun j hj => hA j hj) (by have h9 := (hst (by omega)).2; rw [hss] at h42; rw [← h9]; exact decide_eq_false (by omega))] <;> (subst hss; rfl))),tt⟩)
   ·intro n42
    refine W.skip (thenQ_normal ?_)
    refine W.L cok tab30 hnt [] (⟨[(0,.v (.string s)),(1,.sl (.calls h)),(6,.ptr 6 0),(8,.ptr 8 0),(10,.i (o.getD i 0)),(11,.sl (.ints ((iStep s (ss.getD (Int.toNat ((h.getD (Int.toNat (o.getD i 0)) default).obj)) []) (h.getD (Int.toNat (o.getD i 0)) default)).1))),(14,.sl (.ints o)),(15,.i (o.length : Int)),(16,.i ((i : Nat) : Int)),(42,.b (decide (((iStep s (ss.getD (Int.toNat ((h.getD (Int.toNat (o.getD i 0)) default).obj)) []) (h.getD (Int.toNat (o.getD i 0)) default)).2) ≠ ((h.getD (Int.toNat (o.getD i 0)) default).ret)))),(44,.sl (.calls h)),(45,.i (o.getD i 0)),(46,.ep [.i ((h.getD (Int.toNat (o.getD i 0)) default).proc),.i ((h.getD (Int.toNat (o.getD i 0)) default).obj),.i ((h.getD (Int.toNat (o.getD i 0)) default).kind),.i ((h.getD (Int.toNat (o.getD i 0)) default).arg),.i ((h.getD (Int.toNat (o.getD i 0)) default).ret),.i ((h.getD (Int.toNat (o.getD i 0)) default).frm),.i ((h.getD (Int.toNat (o.getD i 0)) default).to)]),(47,.ep [.i ((h.getD (Int.toNat (o.getD i 0)) default).obj),.i ((h.getD (Int.toNat (o.getD i 0)) default).kind),.i ((h.getD (Int.toNat (o.getD i 0)) default).arg),.i ((h.getD (Int.toNat (o.getD i 0)) default).ret),.i ((h.getD (Int.toNat (o.getD i 0)) default).frm),.i ((h.getD (Int.toNat (o.getD i 0)) default).to)]),(48,.i ((h.getD (Int.toNat (o.getD i 0)) default).obj)),(49,.sl (.ints ((iStep s (ss.getD (Int.toNat ((h.getD (Int.toNat (o.getD i 0)) default).obj)) []) (h.getD (Int.toNat (o.getD i 0)) default)).1))),(50,.pel 8 1 (Int.toNat ((h.getD (Int.toNat (o.getD i 0)) default).obj)) 0)],[(6,⟨50,.row (.intss ([[],[]] : List (List Int)))⟩),(8,⟨50,.row (.intss (List.set ss (Int.toNat ((h.getD (Int.toNat (o.getD i 0)) default).obj)) ((iStep s (ss.getD (Int.toNat ((h.getD (Int.toNat (o.getD i 0)) default).obj)) []) (h.getD (Int.toNat (o.getD i 0)) default)).1)))⟩)],[6,8,999]⟩)
     (True ∧ True ∧ (True ∧ True ∧ (0 ≤ (o.getD i 0)) ∧ ((o.getD i 0) < (h.length : Int))) ∧ True ∧ True ∧ True ∧ (True ∧ True ∧ (0 ≤ ((h.getD (Int.toNat (o.getD i 0)) default).obj)) ∧ (((h.getD (Int.toNat (o.getD i 0)) default).obj) < 2)) ∧ (True ∧ True ∧ ((Int.toNat ((h.getD (Int.toNat (o.getD i 0)) default).obj)) < ss.length)) ∧ True) (by kernel_rfl)
     ⟨tt,tt,⟨tt,tt,(by (first | omega | (simp only [List.length_append,List.length_cons,List.length_nil,List.length_take,List.length_drop,List.length_set,List.length_replicate,List.length_map] at *; omega) | assumption)),(by have hh := hcl (by omega); omega)⟩,tt,tt,tt,⟨tt,tt,(by have hh := hcl (by omega); omega),(by have hh := hcl (by omega); omega)⟩,⟨tt,tt,(by have hh := hcl (by omega); omega)⟩,tt⟩ ?_
    refine blockQ_normal (thenQ_normal ?_)
    refine W.L cok tab30 hnt [] (⟨[(0,.v (.string s)),(1,.sl (.calls h)),(6,.ptr 6 0),(8,.ptr 8 0),(10,.i (o.getD i 0)),(11,.sl (.ints ((iStep s (ss.getD (Int.toNat ((h.getD (Int.toNat (o.getD i 0)) default).obj)) []) (h.getD (Int.toNat (o.getD i 0)) default)).1))),(14,.sl (.ints o)),(15,.i (o.length : Int)),(16,.i (((i + 1) : Nat) : Int)),(42,.b (decide (((iStep s (ss.getD (Int.toNat ((h.getD (Int.toNat (o.getD i 0)) default).obj)) []) (h.getD (Int.toNat (o.getD i 0)) default)).2) ≠ ((h.getD (Int.toNat (o.getD i 0)) default).ret)))),(44,.sl (.calls h)),(45,.i (o.getD i 0)),(46,.ep [.i ((h.getD (Int.toNat (o.getD i 0)) default).proc),.i ((h.getD (Int.toNat (o.getD i 0)) default).obj),.i ((h.getD (Int.toNat (o.getD i 0)) default).kind),.i ((h.getD (Int.toNat (o.getD i 0)) default).arg),.i ((h.getD (Int.toNat (o.getD i 0)) default).ret),.i ((h.getD (Int.toNat (o.getD i 0)) default).frm),.i ((h.getD (Int.toNat (o.getD i 0)) default).to)]),(47,.ep [.i ((h.getD (Int.toNat (o.getD i 0)) default).obj),.i ((h.getD (Int.toNat (o.getD i 0)) default).kind),.i ((h.getD (Int.toNat (o.getD i 0)) default).arg),.i ((h.getD (Int.toNat (o.getD i 0)) default).ret),.i ((h.getD (Int.toNat (o.getD i 0)) default).frm),.i ((h.getD (Int.toNat (o.getD i 0)) default).to)]),(48,.i ((h.getD (Int.toNat (o.getD i 0)) default).obj)),(49,.sl (.ints ((iStep s (ss.getD (Int.toNat ((h.getD (Int.toNat (o.getD i 0)) default).obj)) []) (h.getD (Int.toNat (o.getD i 0)) default)).1))),(50,.pel 8 1 (Int.toNat ((h.getD (Int.toNat (o.getD i 0)) default).obj)) 0),(51,.i (((i + 1) : Nat) : Int))],[(6,⟨50,.row (.intss ([[],[]] : List (List Int)))⟩),(8,⟨50,.row (.intss (List.set ss (Int.toNat ((h.getD (Int.toNat (o.getD i 0)) default).obj)) ((iStep s (ss.getD (Int.toNat ((h.getD (Int.toNat (o.getD i 0)) default).obj)) []) (h.getD (Int.toNat (o.getD i 0)) default)).1)))⟩)],[6,8,999]⟩)
     ((True ∧ True ∧ (Fits .i64 (((i + 1) : Nat) : Int))) ∧ True ∧ True) (by kernel_rfl)
     ⟨⟨tt,tt,(by exact fits_i64 (by omega) (by omega))⟩,tt,tt⟩ ?_
    refine thenQ_normal ?_
    refine ⟨((i + 1),(List.set ss (Int.toNat ((h.getD (Int.toNat (o.getD i 0)) default).obj)) ((iStep s (ss.getD (Int.toNat ((h.getD (Int.toNat (o.getD i 0)) default).obj)) []) (h.getD (Int.toNat (o.getD i 0)) default)).1))),(show ((i + 1) ≤ o.length) ∧ ((List.set ss (Int.toNat ((h.getD (Int.toNat (o.getD i 0)) default).obj)) ((iStep s (ss.getD (Int.toNat ((h.getD (Int.toNat (o.getD i 0)) default).obj)) []) (h.getD (Int.toNat (o.getD i 0)) default)).1)) = sts s h o (i + 1)) ∧ (∀ j,j < (i + 1) → okAt s h o j = true) from ⟨(by first | assumption | omega | rfl | (intro _ hjj; omega) | (simp; done) | (simp; omega)),(by rw [hss,(hst (by omega)).1]; rfl),(by exact upto_succ hA (by have h9 := (hst (by omega)).2; rw [hss] at n42; rw [← h9]; exact decide_eq_true (by omega)))⟩),(show o.length - (i + 1) < o.length - i from (by first | omega | (simp_all; omega))),?_⟩
    exact Sub.of [] (@cast (((((.string s) : Value) = (.string s)) ∧ (((.calls h : Dat) = .calls h) ∧ ((((6 : Nat) = 6) ∧ (((0 : Nat) = 0) ∧ ((6 : Nat) ∈ ([6,8,999] : List Nat)))) ∧ ((((8 : Nat) = 8) ∧ (((0 : Nat) = 0) ∧ ((8 : Nat) ∈ ([6,8,999] : List Nat)))) ∧ (((.ints o : Dat) = .ints o) ∧ (((.int .i64 (o.length : Int) : Value) = .int .i64 (o.length : Int)) ∧ (((.int .i64 (((i + 1) : Nat) : Int) : Value) = .int .i64 (((i + 1) : Nat) : Int)) ∧ True))))))) ∧ (((((50 : Nat) = 50) ∧ (((.intss ([[],[]] : List (List Int)) : Dat) = .intss ([[],[]] : List (List Int))) ∧ ((6 : Nat) ∈ ([6,8,999] : List Nat)))) ∧ ((((50 : Nat) = 50) ∧ (((.intss (List.set ss (Int.toNat ((h.getD (Int.toNat (o.getD i 0)) default).obj)) ((iStep s (ss.getD (Int.toNat ((h.getD (Int.toNat (o.getD i 0)) default).obj)) []) (h.getD (Int.toNat (o.getD i 0)) default)).1)) : Dat) = .intss (List.set ss (Int.toNat ((h.getD (Int.toNat (o.getD i 0)) default).obj)) ((iStep s (ss.getD (Int.toNat ((h.getD (Int.toNat (o.getD i 0)) default).obj)) []) (h.getD (Int.toNat (o.getD i 0)) default)).1))) ∧ ((8 : Nat) ∈ ([6,8,999] : List Nat)))) ∧ True)) ∧ ((true = true) ∧ (true = true)))) _ (by kernel_rfl) ⟨⟨rfl,rfl,⟨rfl,rfl,(by decide)⟩,⟨rfl,rfl,(by decide)⟩,rfl,rfl,rfl,tt⟩,⟨⟨rfl,rfl,(by decide)⟩,⟨rfl,rfl,(by decide)⟩,tt⟩,rfl,rfl⟩)
  ·intro n17
   refine W.exit (thenQ_exit (thenQ_exit (blockQ_hit ?_)))
   refine thenQ_normal ?_
   refine W.K cok tab30 hnt [] [6,7] (⟨[(6,.ptr 6 0),(7,.b true)],[(6,⟨50,.row (.intss ([ss.getD 0 [],ss.getD 1 []]))⟩),(8,⟨50,.row (.intss ss)⟩)],[6,8,999]⟩)
    ((True ∧ (ss.length = 2)) ∧ (True ∧ True ∧ ((List.length ([[],[]] : List (List Int))) = 2)) ∧ True ∧ True) (by kernel_rfl)
    ⟨⟨tt,(by first | exact hsl | rfl | (rw [List.length_set]; exact hsl))⟩,⟨tt,tt,(by first | exact hsl | rfl | (rw [List.length_set]; exact hsl))⟩,tt,tt⟩ ?_
   refine W.ret ?_
   exact endQ_ret (.tup [.agg [.sl (.ints (List.getD ([ss.getD 0 [],ss.getD 1 []]) 0 [])),.sl (.ints (List.getD ([ss.getD 0 [],ss.getD 1 []]) 1 []))],.b true]) (by kernel_rfl) (@cast ((((.ints (List.getD ([ss.getD 0 [],ss.getD 1 []]) 0 []) : Dat) = .ints (List.getD ((playedR s h o).1) 0 [])) ∧ (((.ints (List.getD ([ss.getD 0 [],ss.getD 1 []]) 1 []) : Dat) = .ints (List.getD ((playedR s h o).1) 1 [])) ∧ True)) ∧ (((.bool true : Value) = .bool ((playedR s h o).2)) ∧ True)) _ (by kernel_rfl) ⟨⟨(congrArg Dat.ints (by rw [played_yes (fun j hj => hA j (by omega))] <;> (subst hss; rw [show i = o.length by omega]; rfl))),(congrArg Dat.ints (by rw [played_yes (fun j hj => hA j (by omega))] <;> (subst hss; rw [show i = o.length by omega]; rfl))),tt⟩,(congrArg Value.bool (by rw [played_yes (fun j hj => hA j (by omega))] <;> (subst hss; rw [show i = o.length by omega]; rfl))),tt⟩)
theorem ent30 : Entr prog 30 := ⟨_,func30,rfl,by decide⟩
end Go.Proofs.Try

set_option linter.unusedSimpArgs false
set_option linter.unusedVariables false
namespace Go.Proofs.Try
open Go.Ab Go.RowKit
def fs10 : FnS := fnS [.o,.s .calls,.s .ints] [.str,.calls,.ints] (fun _ (s,h,o,_) => (.b (rightB s h o),[],True))
abbrev T10 : Tab := lk [(22,fs22),(23,fs23),(29,fs29),(30,fs30)]
theorem tab10 : TabOK prog T10 := (TabOK.cons ok22 ent22 (TabOK.cons ok23 ent23 (TabOK.cons ok29 ent29 (TabOK.cons ok30 ent30 TabOK.nil))))
set_option maxRecDepth 100000 in
set_option maxHeartbeats 1000000 in
theorem ok10 : FnOK prog 10 fs10 := by
 refine FnOK.mk cok func10 rfl rfl rfl ?_
 rintro fl ⟨(s : ByteArray),(h : List CallD),(o : List Int),_⟩ hpre F hnt0 _
 have hnt : F.nt = 32 := hnt0.trans ntmps10
 clear hpre
 refine W.to (⟨[(0,.v (.string s)),(1,.sl (.calls h)),(2,.sl (.ints o))],[],[999]⟩) rfl ?_
 refine W.lenOf 1 (.calls h) (by kernel_rfl) ?_
 intro hl_h; replace hl_h : List.length h ≤ 9223372036854775807 := hl_h
 refine W.lenOf 2 (.ints o) (by kernel_rfl) ?_
 intro hl_o; replace hl_o : List.length o ≤ 9223372036854775807 := hl_o
 refine W.K cok tab10 hnt [] [0,1,2] (⟨[(0,.v (.string s)),(1,.sl (.calls h)),(2,.sl (.ints o))],[],[999]⟩)
  (True ∧ True) (by kernel_rfl)
  ⟨tt,tt⟩ ?_
 refine W.seq ?_
 refine W.K cok tab10 hnt [] [0,1,2,23] (⟨[(0,.v (.string s)),(1,.sl (.calls h)),(2,.sl (.ints o)),(23,.b (((!(isObject s)) || (!(validHistory h))) || (!(isOrd o (h.length : Int)))))],[],[999]⟩)
  (True ∧ (True ∧ (True ∧ True) ∧ True) ∧ True ∧ True ∧ ((!(!(isObject s))) = true → True) ∧ ((!(!(isObject s))) = true → (True ∧ ((((!(!(isObject s))) = true) ∧ True) ∧ True) ∧ True)) ∧ ((!(!(isObject s))) = true → (((!(!(isObject s))) = true) ∧ True)) ∧ (True ∧ ((!(isObject s)) = true → True) ∧ ((!(isObject s)) = false → ((!(!(isObject s))) = true) ∧ True)) ∧ True ∧ ((!((!(isObject s)) || (!(validHistory h)))) = true → True) ∧ ((!((!(isObject s)) || (!(validHistory h)))) = true → True) ∧ ((!((!(isObject s)) || (!(validHistory h)))) = true → (((!((!(isObject s)) || (!(validHistory h)))) = true) ∧ True)) ∧ ((!((!(isObject s)) || (!(validHistory h)))) = true → (True ∧ ((((!((!(isObject s)) || (!(validHistory h)))) = true) ∧ True) ∧ (((!((!(isObject s)) || (!(validHistory h)))) = true) ∧ True) ∧ True) ∧ 0 ≤ (h.length : Int) ∧ (h.length : Int) ≤ 9223372036854775807)) ∧ ((!((!(isObject s)) || (!(validHistory h)))) = true → (((!((!(isObject s)) || (!(validHistory h)))) = true) ∧ True)) ∧ (True ∧ (((!(isObject s)) || (!(validHistory h))) = true → True) ∧ (((!(isObject s)) || (!(validHistory h))) = false → ((!((!(isObject s)) || (!(validHistory h)))) = true) ∧ True)) ∧ True) (by kernel_rfl)
  ⟨tt,⟨tt,⟨tt,tt⟩,tt⟩,tt,tt,(fun _ => trivial),(fun hG => ⟨tt,⟨⟨hG,tt⟩,tt⟩,tt⟩),(fun hG => ⟨hG,tt⟩),⟨tt,(fun _ => trivial),(fun hp => ⟨(not_t hp),tt⟩)⟩,tt,(fun _ => trivial),(fun _ => trivial),(fun hG => ⟨hG,tt⟩),(fun hG => ⟨tt,⟨⟨hG,tt⟩,⟨hG,tt⟩,tt⟩,(by omega)⟩),(fun hG => ⟨hG,tt⟩),⟨tt,(fun _ => trivial),(fun hp => ⟨(not_t hp),tt⟩)⟩,tt⟩ ?_
 refine W.if' (((!(isObject s)) || (!(validHistory h))) || (!(isOrd o (h.length : Int)))) (.b (((!(isObject s)) || (!(validHistory h))) || (!(isOrd o (h.length : Int))))) (by kernel_rfl) rfl trivial ?_ ?_
 ·intro h23
  refine W.K cok tab10 hnt [] [6] (⟨[(6,.b false)],[],[999]⟩)
   (True ∧ True) (by kernel_rfl)
   ⟨tt,tt⟩ ?_
  refine W.ret (thenQ_ret ?_)
  exact endQ_ret (.b false) (by kernel_rfl) (@cast ((.bool false : Value) = .bool (rightB s h o)) _ (by kernel_rfl) (congrArg Value.bool (by exact (right_no h23).symm)))
 ·intro n23
  refine W.skip (thenQ_normal ?_)
  refine W.K cok tab10 hnt [] [8] (⟨[(8,.b ((playedR s h o).2))],[(7,⟨50,.row (.intss ([List.getD ((playedR s h o).1) 0 [],List.getD ((playedR s h o).1) 1 []]))⟩)],[7,999]⟩)
   (True ∧ True ∧ True ∧ (True ∧ (True ∧ True ∧ True ∧ True) ∧ (isObject s = true) ∧ (validHistory h = true) ∧ (inH h o) ∧ (o.length ≤ 6)) ∧ True ∧ True ∧ True ∧ True ∧ (True ∧ True ∧ ((List.length ([[],[]] : List (List Int))) = 2)) ∧ True ∧ True) (by kernel_rfl)
   ⟨tt,tt,tt,⟨tt,⟨tt,tt,tt,tt⟩,(by exact not_g (or_l (or_l n23))),(by exact not_g (or_r (or_l n23))),(by exact ord_inH (not_g (or_r n23))),(by have h1 := (isOrd_len (not_g (or_r n23))); have h2 := (valid_iff.1 (not_g (or_r (or_l n23)))).1; omega)⟩,tt,tt,tt,tt,⟨tt,tt,(by first | rfl | assumption | omega)⟩,tt,tt⟩ ?_
  refine W.K cok tab10 hnt [] [6] (⟨[(6,.b ((playedR s h o).2))],[(7,⟨50,.row (.intss ([List.getD ((playedR s h o).1) 0 [],List.getD ((playedR s h o).1) 1 []]))⟩)],[7,999]⟩)
   (True ∧ True ∧ True) (by kernel_rfl)
   ⟨tt,tt,tt⟩ ?_
  refine W.ret ?_
  exact endQ_ret (.b ((playedR s h o).2)) (by kernel_rfl) (@cast ((.bool ((playedR s h o).2) : Value) = .bool (rightB s h o)) _ (by kernel_rfl) (congrArg Value.bool (by exact (right_played (not_g (or_l (or_l n23))) (not_g (or_r (or_l n23))) (not_g (or_r n23))))))
theorem ent10 : Entr prog 10 := ⟨_,func10,rfl,by decide⟩
end Go.Proofs.Try

set_option linter.unusedSimpArgs false
set_option linter.unusedVariables false
namespace Go.Proofs.Try
open Go.Ab Go.RowKit
def fs56 : FnS := fnS [.o,.o,.o] [.int,.int,(.ep .calls)] (fun _ (i,k,h,_) => (.b (ownF h i.toNat k.toNat),[],(0 ≤ i ∧ i < h.length) ∧ (0 ≤ k ∧ k < h.length)))
abbrev T56 : Tab := lk [(46,fs46)]
theorem tab56 : TabOK prog T56 := (TabOK.cons ok46 ent46 TabOK.nil)
set_option maxRecDepth 100000 in
set_option maxHeartbeats 1000000 in
theorem ok56 : FnOK prog 56 fs56 := by
 refine FnOK.mk cok func56 rfl rfl rfl ?_
 rintro fl ⟨(i : Int),(k : Int),(h : List CallD),_⟩ hpre F hnt0 _
 have hnt : F.nt = 28 := hnt0.trans ntmps56
 replace hpre : (0 ≤ i ∧ i < h.length) ∧ (0 ≤ k ∧ k < h.length) := hpre
 obtain ⟨hi,hk⟩ := hpre
 refine W.to (⟨[(0,.i i),(1,.i k),(2,.ep [.sl (.calls h)])],[],[999]⟩) rfl ?_
 refine W.K cok tab56 hnt [] [0,1,2] (⟨[(0,.i i),(1,.i k),(2,.ep [.sl (.calls h)])],[],[999]⟩)
  (True ∧ True) (by kernel_rfl)
  ⟨tt,tt⟩ ?_
 refine W.KA cok tab56 hnt [] [5] (⟨[(5,.b ((decide (((h.getD (Int.toNat i) default).proc) = ((h.getD (Int.toNat k) default).proc))) && (isBefore (h.getD (Int.toNat k) default) (h.getD (Int.toNat i) default))))],[],[999]⟩)
  (True ∧ True ∧ (True ∧ True ∧ (0 ≤ i) ∧ (i < (h.length : Int))) ∧ True ∧ True ∧ True ∧ True ∧ (True ∧ True ∧ (0 ≤ k) ∧ (k < (h.length : Int))) ∧ True ∧ True ∧ (True ∧ True ∧ True) ∧ True ∧ ((decide (((h.getD (Int.toNat i) default).proc) = ((h.getD (Int.toNat k) default).proc))) = true → True) ∧ ((decide (((h.getD (Int.toNat i) default).proc) = ((h.getD (Int.toNat k) default).proc))) = true → True) ∧ ((decide (((h.getD (Int.toNat i) default).proc) = ((h.getD (Int.toNat k) default).proc))) = true → ((((decide (((h.getD (Int.toNat i) default).proc) = ((h.getD (Int.toNat k) default).proc))) = true) ∧ True) ∧ (((decide (((h.getD (Int.toNat i) default).proc) = ((h.getD (Int.toNat k) default).proc))) = true) ∧ True) ∧ (0 ≤ k) ∧ (k < (h.length : Int)))) ∧ ((decide (((h.getD (Int.toNat i) default).proc) = ((h.getD (Int.toNat k) default).proc))) = true → (((decide (((h.getD (Int.toNat i) default).proc) = ((h.getD (Int.toNat k) default).proc))) = true) ∧ True)) ∧ ((decide (((h.getD (Int.toNat i) default).proc) = ((h.getD (Int.toNat k) default).proc))) = true → True) ∧ ((decide (((h.getD (Int.toNat i) default).proc) = ((h.getD (Int.toNat k) default).proc))) = true → True) ∧ ((decide (((h.getD (Int.toNat i) default).proc) = ((h.getD (Int.toNat k) default).proc))) = true → ((((decide (((h.getD (Int.toNat i) default).proc) = ((h.getD (Int.toNat k) default).proc))) = true) ∧ True) ∧ (((decide (((h.getD (Int.toNat i) default).proc) = ((h.getD (Int.toNat k) default).proc))) = true) ∧ True) ∧ (0 ≤ i) ∧ (i < (h.length : Int)))) ∧ ((decide (((h.getD (Int.toNat i) default).proc) = ((h.getD (Int.toNat k) default).proc))) = true → (((decide (((h.getD (Int.toNat i) default).proc) = ((h.getD (Int.toNat k) default).proc))) = true) ∧ True)) ∧ ((decide (((h.getD (Int.toNat i) default).proc) = ((h.getD (Int.toNat k) default).proc))) = true → (True ∧ ((((decide (((h.getD (Int.toNat i) default).proc) = ((h.getD (Int.toNat k) default).proc))) = true) ∧ True) ∧ (((decide (((h.getD (Int.toNat i) default).proc) = ((h.getD (Int.toNat k) default).proc))) = true) ∧ True) ∧ True) ∧ True)) ∧ (True ∧ ((decide (((h.getD (Int.toNat i) default).proc) = ((h.getD (Int.toNat k) default).proc))) = true → ((decide (((h.getD (Int.toNat i) default).proc) = ((h.getD (Int.toNat k) default).proc))) = true) ∧ True) ∧ ((decide (((h.getD (Int.toNat i) default).proc) = ((h.getD (Int.toNat k) default).proc))) = false → True)) ∧ True ∧ True) (by kernel_rfl) (by kernel_rfl)
  ⟨tt,tt,⟨tt,tt,(by omega),(by omega)⟩,tt,tt,tt,tt,⟨tt,tt,(by omega),(by omega)⟩,tt,tt,⟨tt,tt,tt⟩,tt,(fun _ => trivial),(fun _ => trivial),(fun hG => ⟨⟨hG,tt⟩,⟨hG,tt⟩,(by have hg0 : ((h.getD (Int.toNat i) default).proc) = ((h.getD (Int.toNat k) default).proc) := of_decide_eq_true hG; omega),(by have hg0 : ((h.getD (Int.toNat i) default).proc) = ((h.getD (Int.toNat k) default).proc) := of_decide_eq_true hG; omega)⟩),(fun hG => ⟨hG,tt⟩),(fun _ => trivial),(fun _ => trivial),(fun hG => ⟨⟨hG,tt⟩,⟨hG,tt⟩,(by have hg0 : ((h.getD (Int.toNat i) default).proc) = ((h.getD (Int.toNat k) default).proc) := of_decide_eq_true hG; omega),(by have hg0 : ((h.getD (Int.toNat i) default).proc) = ((h.getD (Int.toNat k) default).proc) := of_decide_eq_true hG; omega)⟩),(fun hG => ⟨hG,tt⟩),(fun hG => ⟨tt,⟨⟨hG,tt⟩,⟨hG,tt⟩,tt⟩,tt⟩),⟨tt,(fun hp => ⟨hp,tt⟩),(fun _ => trivial)⟩,tt,tt⟩ ?_
 refine W.ret ?_
 exact endQ_ret (.b ((decide (((h.getD (Int.toNat i) default).proc) = ((h.getD (Int.toNat k) default).proc))) && (isBefore (h.getD (Int.toNat k) default) (h.getD (Int.toNat i) default)))) (by kernel_rfl) (@cast ((.bool ((decide (((h.getD (Int.toNat i) default).proc) = ((h.getD (Int.toNat k) default).proc))) && (isBefore (h.getD (Int.toNat k) default) (h.getD (Int.toNat i) default))) : Value) = .bool (ownF h i.toNat k.toNat)) _ (by kernel_rfl) (congrArg Value.bool (by first | rfl | simp_all)))
theorem ent56 : Entr prog 56 := ⟨_,func56,rfl,by decide⟩
end Go.Proofs.Try

set_option linter.unusedSimpArgs false
set_option linter.unusedVariables false
namespace Go.Proofs.Try
open Go.Ab Go.RowKit
def fs44OwnAhead : FnS := fnS [.o,.o] [.int,(.fn1 56 (.ep .calls))] (fun _ (n,h,_) => (.sl (.ints (rowsOf n.toNat (ownF h))),[],(0 ≤ n ∧ n ≤ 60 ∧ n = h.length)))
abbrev T44OwnAhead : Tab := lk [(56,fs56)]
theorem tab44OwnAhead : TabOK prog T44OwnAhead := (TabOK.cons ok56 ent56 TabOK.nil)
set_option maxRecDepth 100000 in
set_option maxHeartbeats 1000000 in
theorem ok44OwnAhead : FnOK prog 44 fs44OwnAhead := by
 refine FnOK.mk cok func44 rfl rfl rfl ?_
 rintro fl ⟨(n : Int),(h : List CallD),_⟩ hpre F hnt0 _
 have hnt : F.nt = 35 := hnt0.trans ntmps44
 replace hpre : (0 ≤ n ∧ n ≤ 60 ∧ n = h.length) := hpre
 have hn := hpre
 refine W.to (⟨[(0,.i n),(1,.fn 56 [.ep [.sl (.calls h)]])],[],[999]⟩) rfl ?_
 refine W.K cok tab44OwnAhead hnt [] [0,1] (⟨[(0,.i n),(1,.fn 56 [.ep [.sl (.calls h)]])],[],[999]⟩)
  (True ∧ True) (by kernel_rfl)
  ⟨tt,tt⟩ ?_
 refine W.K cok tab44OwnAhead hnt [9] [0,1,5] (⟨[(0,.i n),(1,.fn 56 [.ep [.sl (.calls h)]]),(5,.own 9 (List.length (List.replicate (Int.toNat n) (0 : Int))))],[(9,⟨3,.row (.ints (List.replicate (Int.toNat n) (0 : Int)))⟩)],[9,999]⟩)
  (True ∧ (True ∧ True ∧ (n = n) ∧ (0 ≤ n) ∧ (n * 8 ≤ 281474976710656)) ∧ True ∧ True) (by kernel_rfl)
  ⟨tt,⟨tt,tt,rfl,(by omega),(by omega)⟩,tt,tt⟩ ?_
 refine W.seq ?_
 refine W.K cok tab44OwnAhead hnt [] [0,1,5,11,12] (⟨[(0,.i n),(1,.fn 56 [.ep [.sl (.calls h)]]),(5,.own 9 (List.length (List.replicate (Int.toNat n) (0 : Int)))),(11,.i (((List.length (List.replicate (Int.toNat n) (0 : Int))) : Nat) : Int)),(12,.i (0 : Int))],[(9,⟨3,.row (.ints (List.replicate (Int.toNat n) (0 : Int)))⟩)],[9,999]⟩)
  (True ∧ True ∧ True ∧ True) (by kernel_rfl)
  ⟨tt,tt,tt,tt⟩ ?_
 refine W.block ?_
 refine W.loop (ι := Nat × (List Int)) (fun (x : Nat × (List Int)) => match x with | (i,o) => (⟨[(0,.i n),(1,.fn 56 [.ep [.sl (.calls h)]]),(5,.own 9 o.length),(11,.i (((List.length (List.replicate (Int.toNat n) (0 : Int))) : Nat) : Int)),(12,.i ((i : Nat) : Int))],[(9,⟨3,.row (.ints o)⟩)],[9,999]⟩ : St))
  (fun (x : Nat × (List Int)) => match x with | (i,o) => (i ≤ n.toNat) ∧ (o = partRows n.toNat (ownF h) i 0))
  (fun (x : Nat × (List Int)) => match x with | (i,o) => (n.toNat - i : Nat)) (0,(List.replicate (Int.toNat n) (0 : Int))) ?_ ?_ ?_
 ·exact (show (0 ≤ n.toNat) ∧ ((List.replicate (Int.toNat n) (0 : Int)) = partRows n.toNat (ownF h) 0 0) from ⟨(by first | assumption | omega | rfl | (intro _ hjj; omega) | (simp; done) | (simp; omega)),(by exact partRows_zero _ _)⟩)
 ·exact Sub.of [] (@cast ((((.int .i64 n : Value) = .int .i64 n) ∧ ((((56 : Nat) = 56) ∧ ((((.ep [.sl (.calls h)] : AV) = .ep [.sl (.calls h)]) ∧ (([] : List Nat) = [])) ∧ True)) ∧ ((((9 : Nat) = 9) ∧ (((List.length (List.replicate (Int.toNat n) (0 : Int))) = (List.length (List.replicate (Int.toNat n) (0 : Int)))) ∧ ((9 : Nat) ∈ ([9,999] : List Nat)))) ∧ (((.int .i64 (((List.length (List.replicate (Int.toNat n) (0 : Int))) : Nat) : Int) : Value) = .int .i64 (((List.length (List.replicate (Int.toNat n) (0 : Int))) : Nat) : Int)) ∧ (((.int .i64 (0 : Int) : Value) = .int .i64 ((0 : Nat) : Int)) ∧ True))))) ∧ (((((3 : Nat) = 3) ∧ (((.ints (List.replicate (Int.toNat n) (0 : Int)) : Dat) = .ints (List.replicate (Int.toNat n) (0 : Int))) ∧ ((9 : Nat) ∈ ([9,999] : List Nat)))) ∧ True) ∧ ((true = true) ∧ (true = true)))) _ (by kernel_rfl) ⟨⟨rfl,⟨rfl,⟨rfl,rfl⟩,tt⟩,⟨rfl,rfl,(by decide)⟩,rfl,(congrArg (Value.int .i64) (by first | rfl | omega | assumption | simp | simp_all)),tt⟩,⟨⟨rfl,rfl,(by decide)⟩,tt⟩,rfl,rfl⟩)
 ·rintro ⟨i,o⟩ hC0
  have hC : (i ≤ n.toNat) ∧ (o = partRows n.toNat (ownF h) i 0) := hC0
  clear hC0
  obtain ⟨hi,ho⟩ := hC
  refine W.to (⟨[(0,.i n),(1,.fn 56 [.ep [.sl (.calls h)]]),(5,.own 9 o.length),(11,.i (((List.length (List.replicate (Int.toNat n) (0 : Int))) : Nat) : Int)),(12,.i ((i : Nat) : Int))],[(9,⟨3,.row (.ints o)⟩)],[9,999]⟩) rfl ?_
  have hol : o.length = n.toNat := by rw [ho]; exact partRows_len _ _ _ _
  refine W.K cok tab44OwnAhead hnt [] [0,1,5,11,12,13] (⟨[(0,.i n),(1,.fn 56 [.ep [.sl (.calls h)]]),(5,.own 9 o.length),(11,.i (((List.length (List.replicate (Int.toNat n) (0 : Int))) : Nat) : Int)),(12,.i ((i : Nat) : Int)),(13,.b (decide (((i : Nat) : Int) < (((List.length (List.replicate (Int.toNat n) (0 : Int))) : Nat) : Int))))],[(9,⟨3,.row (.ints o)⟩)],[9,999]⟩)
   ((True ∧ True ∧ True) ∧ True) (by kernel_rfl)
   ⟨⟨tt,tt,tt⟩,tt⟩ ?_
  refine W.seq ?_
  refine W.ifP (((i : Nat) : Int) < (((List.length (List.replicate (Int.toNat n) (0 : Int))) : Nat) : Int)) (.b (decide (((i : Nat) : Int) < (((List.length (List.replicate (Int.toNat n) (0 : Int))) : Nat) : Int)))) (by kernel_rfl) rfl trivial ?_ ?_
  ·intro h13
   have h13' := h13
   simp only [List.length_append,List.length_cons,List.length_nil,List.length_take,List.length_drop,List.length_set,List.length_replicate,List.length_map] at h13'
   refine W.skip (thenQ_normal ?_)
   refine W.seq ?_
   refine W.block ?_
   refine W.K cok tab44OwnAhead hnt [] [0,1,5,6,11,12] (⟨[(0,.i n),(1,.fn 56 [.ep [.sl (.calls h)]]),(5,.own 9 o.length),(6,.i ((i : Nat) : Int)),(11,.i (((List.length (List.replicate (Int.toNat n) (0 : Int))) : Nat) : Int)),(12,.i ((i : Nat) : Int))],[(9,⟨3,.row (.ints o)⟩)],[9,999]⟩)
    (True ∧ True ∧ True) (by kernel_rfl)
    ⟨tt,tt,tt⟩ ?_
   refine W.K cok tab44OwnAhead hnt [] [0,1,5,6,11,12,15,16] (⟨[(0,.i n),(1,.fn 56 [.ep [.sl (.calls h)]]),(5,.own 9 o.length),(6,.i ((i : Nat) : Int)),(11,.i (((List.length (List.replicate (Int.toNat n) (0 : Int))) : Nat) : Int)),(12,.i ((i : Nat) : Int)),(15,.i n),(16,.i (0 : Int))],[(9,⟨3,.row (.ints o)⟩)],[9,999]⟩)
    (True ∧ True ∧ True) (by kernel_rfl)
    ⟨tt,tt,tt⟩ ?_
   refine W.block ?_
   refine W.loop (ι := Nat × (List Int)) (fun (x : Nat × (List Int)) => match x with | (k,x) => (⟨[(0,.i n),(1,.fn 56 [.ep [.sl (.calls h)]]),(5,.own 9 o.length),(6,.i ((i : Nat) : Int)),(11,.i (((List.length (List.replicate (Int.toNat n) (0 : Int))) : Nat) : Int)),(12,.i ((i : Nat) : Int)),(15,.i n),(16,.i ((k : Nat) : Int))],[(9,⟨3,.row (.ints x)⟩)],[9,999]⟩ : St))
    (fun (x : Nat × (List Int)) => match x with | (k,x) => (k ≤ n.toNat) ∧ (x = partRows n.toNat (ownF h) i k))
    (fun (x : Nat × (List Int)) => match x with | (k,x) => (n.toNat - k : Nat)) (0,o) ?_ ?_ ?_
   ·exact (show (0 ≤ n.toNat) ∧ (o = partRows n.toNat (ownF h) i 0) from ⟨(by first | assumption | omega | rfl | (intro _ hjj; omega) | (simp; done) | (simp; omega)),(by exact ho)⟩)
   ·exact Sub.of [] (@cast ((((.int .i64 n : Value) = .int .i64 n) ∧ ((((56 : Nat) = 56) ∧ ((((.ep [.sl (.calls h)] : AV) = .ep [.sl (.calls h)]) ∧ (([] : List Nat) = [])) ∧ True)) ∧ ((((9 : Nat) = 9) ∧ ((o.length = o.length) ∧ ((9 : Nat) ∈ ([9,999] : List Nat)))) ∧ (((.int .i64 ((i : Nat) : Int) : Value) = .int .i64 ((i : Nat) : Int)) ∧ (((.int .i64 (((List.length (List.replicate (Int.toNat n) (0 : Int))) : Nat) : Int) : Value) = .int .i64 (((List.length (List.replicate (Int.toNat n) (0 : Int))) : Nat) : Int)) ∧ (((.int .i64 ((i : Nat) : Int) : Value) = .int .i64 ((i : Nat) : Int)) ∧ (((.int .i64 n : Value) = .int .i64 n) ∧ (((.int .i64 (0 : Int) : Value) = .int .i64 ((0 : Nat) : Int)) ∧ True)))))))) ∧ (((((3 : Nat) = 3) ∧ (((.ints o : Dat) = .ints o) ∧ ((9 : Nat) ∈ ([9,999] : List Nat)))) ∧ True) ∧ ((true = true) ∧ (true = true)))) _ (by kernel_rfl) ⟨⟨rfl,⟨rfl,⟨rfl,rfl⟩,tt⟩,⟨rfl,rfl,(by decide)⟩,rfl,rfl,rfl,rfl,(congrArg (Value.int .i64) (by first | rfl | omega | assumption | simp | simp_all)),tt⟩,⟨⟨rfl,rfl,(by decide)⟩,tt⟩,rfl,rfl⟩)
   ·rintro ⟨k,x⟩ hC0
    have hC : (k ≤ n.toNat) ∧ (x = partRows n.toNat (ownF h) i k) := hC0
    clear hC0
    obtain ⟨hk,hx⟩ := hC
    refine W.to (⟨[(0,.i n),(1,.fn 56 [.ep [.sl (.calls h)]]),(5,.own 9 o.length),(6,.i ((i : Nat) : Int)),(11,.i (((List.length (List.replicate (Int.toNat n) (0 : Int))) : Nat) : Int)),(12,.i ((i : Nat) : Int)),(15,.i n),(16,.i ((k : Nat) : Int))],[(9,⟨3,.row (.ints x)⟩)],[9,999]⟩) rfl ?_
    have hxl : x.length = n.toNat := by rw [hx]; exact partRows_len _ _ _ _
    refine W.K cok tab44OwnAhead hnt [] [0,1,5,6,11,12,15,16,17] (⟨[(0,.i n),(1,.fn 56 [.ep [.sl (.calls h)]]),(5,.own 9 o.length),(6,.i ((i : Nat) : Int)),(11,.i (((List.length (List.replicate (Int.toNat n) (0 : Int))) : Nat) : Int)),(12,.i ((i : Nat) : Int)),(15,.i n),(16,.i ((k : Nat) : Int)),(17,.b (decide (((k : Nat) : Int) < n)))],[(9,⟨3,.row (.ints x)⟩)],[9,999]⟩)
     ((True ∧ True ∧ True) ∧ True) (by kernel_rfl)
     ⟨⟨tt,tt,tt⟩,tt⟩ ?_
    refine W.seq ?_
    refine W.ifP (((k : Nat) : Int) < n) (.b (decide (((k : Nat) : Int) < n))) (by kernel_rfl) rfl trivial ?_ ?_
    ·intro h17
     refine W.skip (thenQ_normal ?_)
     refine W.seq ?_
     refine W.block ?_
     refine W.K cok tab44OwnAhead hnt [] [0,1,5,6,7,11,12,15,16] (⟨[(0,.i n),(1,.fn 56 [.ep [.sl (.calls h)]]),(5,.own 9 o.length),(6,.i ((i : Nat) : Int)),(7,.i ((k : Nat) : Int)),(11,.i (((List.length (List.replicate (Int.toNat n) (0 : Int))) : Nat) : Int)),(12,.i ((i : Nat) : Int)),(15,.i n),(16,.i ((k : Nat) : Int))],[(9,⟨3,.row (.ints x)⟩)],[9,999]⟩)
      (True ∧ True ∧ True) (by kernel_rfl)
      ⟨tt,tt,tt⟩ ?_
     refine W.K cok tab44OwnAhead hnt [] [0,1,5,6,7,11,12,15,16,22] (⟨[(0,.i n),(1,.fn 56 [.ep [.sl (.calls h)]]),(5,.own 9 o.length),(6,.i ((i : Nat) : Int)),(7,.i ((k : Nat) : Int)),(11,.i (((List.length (List.replicate (Int.toNat n) (0 : Int))) : Nat) : Int)),(12,.i ((i : Nat) : Int)),(15,.i n),(16,.i ((k : Nat) : Int)),(22,.b (ownF h ((i : Nat) : Int).toNat ((k : Nat) : Int).toNat))],[(9,⟨3,.row (.ints x)⟩)],[9,999]⟩)
      (True ∧ True ∧ True ∧ (True ∧ (True ∧ True ∧ True ∧ True) ∧ (0 ≤ ((i : Nat) : Int) ∧ ((i : Nat) : Int) < h.length) ∧ 0 ≤ ((k : Nat) : Int) ∧ ((k : Nat) : Int) < h.length) ∧ True) (by kernel_rfl)
      ⟨tt,tt,tt,⟨tt,⟨tt,tt,tt,tt⟩,(by omega),(by omega)⟩,tt⟩ ?_
     refine W.if' (ownF h ((i : Nat) : Int).toNat ((k : Nat) : Int).toNat) (.b (ownF h ((i : Nat) : Int).toNat ((k : Nat) : Int).toNat)) (by kernel_rfl) rfl trivial ?_ ?_
     ·intro h22
      refine W.L cok tab44OwnAhead hnt [] (⟨[(0,.i n),(1,.fn 56 [.ep [.sl (.calls h)]]),(5,.own 9 o.length),(6,.i ((i : Nat) : Int)),(7,.i ((k : Nat) : Int)),(11,.i (((List.length (List.replicate (Int.toNat n) (0 : Int))) : Nat) : Int)),(12,.i ((i : Nat) : Int)),(15,.i n),(16,.i ((k : Nat) : Int)),(22,.b (ownF h ((i : Nat) : Int).toNat ((k : Nat) : Int).toNat)),(23,.own 9 o.length),(24,.i ((i : Nat) : Int)),(25,.pel 9 1 i 0),(26,.i (x.getD i 0)),(27,.i ((k : Nat) : Int)),(28,.v (.int .u64 ((k : Nat) : Int))),(29,.i (shlI .i64 (1 : Int) ((k : Nat) : Int))),(30,.i (bitsI .or .i64 (x.getD i 0) (shlI .i64 (1 : Int) ((k : Nat) : Int)))),(31,.pel 9 1 i 0)],[(9,⟨3,.row (.ints (List.set x i (bitsI .or .i64 (x.getD i 0) (shlI .i64 (1 : Int) ((k : Nat) : Int)))))⟩)],[9,999]⟩)
       (True ∧ True ∧ (True ∧ True ∧ (0 ≤ ((i : Nat) : Int)) ∧ (((i : Nat) : Int) < (o.length : Int))) ∧ (True ∧ (i < x.length)) ∧ True ∧ (True ∧ (Fits .u64 ((k : Nat) : Int))) ∧ (True ∧ True ∧ (0 ≤ ((k : Nat) : Int)) ∧ (Fits .i64 (shlI .i64 (1 : Int) ((k : Nat) : Int)))) ∧ (True ∧ True ∧ True) ∧ (True ∧ True ∧ (0 ≤ ((i : Nat) : Int)) ∧ (((i : Nat) : Int) < (o.length : Int))) ∧ (True ∧ True ∧ (i < x.length)) ∧ True) (by kernel_rfl)
       ⟨tt,tt,⟨tt,tt,(by omega),(by omega)⟩,⟨tt,(by omega)⟩,tt,⟨tt,(by exact fits_u64 (by omega) (by omega))⟩,⟨tt,tt,(by omega),(by exact fits_shl (by omega))⟩,⟨tt,tt,tt⟩,⟨tt,tt,(by omega),(by omega)⟩,⟨tt,tt,(by omega)⟩,tt⟩ ?_
      refine blockQ_normal (thenQ_normal ?_)
      refine W.L cok tab44OwnAhead hnt [] (⟨[(0,.i n),(1,.fn 56 [.ep [.sl (.calls h)]]),(5,.own 9 o.length),(6,.i ((i : Nat) : Int)),(7,.i ((k : Nat) : Int)),(11,.i (((List.length (List.replicate (Int.toNat n) (0 : Int))) : Nat) : Int)),(12,.i ((i : Nat) : Int)),(15,.i n),(16,.i (((k + 1) : Nat) : Int)),(22,.b (ownF h ((i : Nat) : Int).toNat ((k : Nat) : Int).toNat)),(23,.own 9 o.length),(24,.i ((i : Nat) : Int)),(25,.pel 9 1 i 0),(26,.i (x.getD i 0)),(27,.i ((k : Nat) : Int)),(28,.v (.int .u64 ((k : Nat) : Int))),(29,.i (shlI .i64 (1 : Int) ((k : Nat) : Int))),(30,.i (bitsI .or .i64 (x.getD i 0) (shlI .i64 (1 : Int) ((k : Nat) : Int)))),(31,.pel 9 1 i 0),(32,.i (((k + 1) : Nat) : Int))],[(9,⟨3,.row (.ints (List.set x i (bitsI .or .i64 (x.getD i 0) (shlI .i64 (1 : Int) ((k : Nat) : Int)))))⟩)],[9,999]⟩)
       ((True ∧ True ∧ (Fits .i64 (((k + 1) : Nat) : Int))) ∧ True ∧ True) (by kernel_rfl)
       ⟨⟨tt,tt,(by exact fits_i64 (by omega) (by omega))⟩,tt,tt⟩ ?_
      refine thenQ_normal ?_
      refine ⟨((k + 1),(List.set x i (bitsI .or .i64 (x.getD i 0) (shlI .i64 (1 : Int) ((k : Nat) : Int))))),(show ((k + 1) ≤ n.toNat) ∧ ((List.set x i (bitsI .or .i64 (x.getD i 0) (shlI .i64 (1 : Int) ((k : Nat) : Int)))) = partRows n.toNat (ownF h) i (k + 1)) from ⟨(by first | assumption | omega | rfl | (intro _ hjj; omega) | (simp; done) | (simp; omega)),(by first | (rw [hx]; exact partRows_skip n22) | (rw [hx]; exact partRows_set (by omega) (by rw [partRows_get _ (by omega)]; exact mask_or _ (by omega) h22)))⟩),(show n.toNat - (k + 1) < n.toNat - k from (by first | omega | (simp_all; omega))),?_⟩
      exact Sub.of [] (@cast ((((.int .i64 n : Value) = .int .i64 n) ∧ ((((56 : Nat) = 56) ∧ ((((.ep [.sl (.calls h)] : AV) = .ep [.sl (.calls h)]) ∧ (([] : List Nat) = [])) ∧ True)) ∧ ((((9 : Nat) = 9) ∧ ((o.length = o.length) ∧ ((9 : Nat) ∈ ([9,999] : List Nat)))) ∧ (((.int .i64 ((i : Nat) : Int) : Value) = .int .i64 ((i : Nat) : Int)) ∧ (((.int .i64 (((List.length (List.replicate (Int.toNat n) (0 : Int))) : Nat) : Int) : Value) = .int .i64 (((List.length (List.replicate (Int.toNat n) (0 : Int))) : Nat) : Int)) ∧ (((.int .i64 ((i : Nat) : Int) : Value) = .int .i64 ((i : Nat) : Int)) ∧ (((.int .i64 n : Value) = .int .i64 n) ∧ (((.int .i64 (((k + 1) : Nat) : Int) : Value) = .int .i64 (((k + 1) : Nat) : Int)) ∧ True)))))))) ∧ (((((3 : Nat) = 3) ∧ (((.ints (List.set x i (bitsI .or .i64 (x.getD i 0) (shlI .i64 (1 : Int) ((k : Nat) : Int)))) : Dat) = .ints (List.set x i (bitsI .or .i64 (x.getD i 0) (shlI .i64 (1 : Int) ((k : Nat) : Int))))) ∧ ((9 : Nat) ∈ ([9,999] : List Nat)))) ∧ True) ∧ ((true = true) ∧ (true = true)))) _ (by kernel_rfl) ⟨⟨rfl,⟨rfl,⟨rfl,rfl⟩,tt⟩,⟨rfl,rfl,(by decide)⟩,rfl,rfl,rfl,rfl,rfl,tt⟩,⟨⟨rfl,rfl,(by decide)⟩,tt⟩,rfl,rfl⟩)
     ·intro n22
      refine W.skip (blockQ_normal (thenQ_normal ?_))
      refine W.L cok tab44OwnAhead hnt [] (⟨[(0,.i n),(1,.fn 56 [.ep [.sl (.calls h)]]),(5,.own 9 o.length),(6,.i ((i : Nat) : Int)),(7,.i ((k : Nat) : Int)),(11,.i (((List.length (List.replicate (Int.toNat n) (0 : Int))) : Nat) : Int)),(12,.i ((i : Nat) : Int)),(15,.i n),(16,.i (((k + 1) : Nat) : Int)),(22,.b (ownF h ((i : Nat) : Int).toNat ((k : Nat) : Int).toNat)),(32,.i (((k + 1) : Nat) : Int))],[(9,⟨3,.row (.ints x)⟩)],[9,999]⟩)
       ((True ∧ True ∧ (Fits .i64 (((k + 1) : Nat) : Int))) ∧ True ∧ True) (by kernel_rfl)
       ⟨⟨tt,tt,(by exact fits_i64 (by omega) (by omega))⟩,tt,tt⟩ ?_
      refine thenQ_normal ?_
      refine ⟨((k + 1),x),(show ((k + 1) ≤ n.toNat) ∧ (x = partRows n.toNat (ownF h) i (k + 1)) from ⟨(by first | assumption | omega | rfl | (intro _ hjj; omega) | (simp; done) | (simp; omega)),(by first | (rw [hx]; exact partRows_skip n22) | (rw [hx]; exact partRows_set (by omega) (by rw [partRows_get _ (by omega)]; exact mask_or _ (by omega) h22)))⟩),(show n.toNat - (k + 1) < n.toNat - k from (by first | omega | (simp_all; omega))),?_⟩
      exact Sub.of [] (@cast ((((.int .i64 n : Value) = .int .i64 n) ∧ ((((56 : Nat) = 56) ∧ ((((.ep [.sl (.calls h)] : AV) = .ep [.sl (.calls h)]) ∧ (([] : List Nat) = [])) ∧ True)) ∧ ((((9 : Nat) = 9) ∧ ((o.length = o.length) ∧ ((9 : Nat) ∈ ([9,999] : List Nat)))) ∧ (((.int .i64 ((i : Nat) : Int) : Value) = .int .i64 ((i : Nat) : Int)) ∧ (((.int .i64 (((List.length (List.replicate (Int.toNat n) (0 : Int))) : Nat) : Int) : Value) = .int .i64 (((List.length (List.replicate (Int.toNat n) (0 : Int))) : Nat) : Int)) ∧ (((.int .i64 ((i : Nat) : Int) : Value) = .int .i64 ((i : Nat) : Int)) ∧ (((.int .i64 n : Value) = .int .i64 n) ∧ (((.int .i64 (((k + 1) : Nat) : Int) : Value) = .int .i64 (((k + 1) : Nat) : Int)) ∧ True)))))))) ∧ (((((3 : Nat) = 3) ∧ (((.ints x : Dat) = .ints x) ∧ ((9 : Nat) ∈ ([9,999] : List Nat)))) ∧ True) ∧ ((true = true) ∧ (true = true)))) _ (by kernel_rfl) ⟨⟨rfl,⟨rfl,⟨rfl,rfl⟩,tt⟩,⟨rfl,rfl,(by decide)⟩,rfl,rfl,rfl,rfl,rfl,tt⟩,⟨⟨rfl,rfl,(by decide)⟩,tt⟩,rfl,rfl⟩)
    ·intro n17
     refine W.exit (thenQ_exit (thenQ_exit (blockQ_hit ?_)))
     refine blockQ_normal (thenQ_normal ?_)
     refine W.L cok tab44OwnAhead hnt [] (⟨[(0,.i n),(1,.fn 56 [.ep [.sl (.calls h)]]),(5,.own 9 o.length),(6,.i ((i : Nat) : Int)),(11,.i (((List.length (List.replicate (Int.toNat n) (0 : Int))) : Nat) : Int)),(12,.i (((i + 1) : Nat) : Int)),(15,.i n),(16,.i ((k : Nat) : Int)),(17,.b (decide (((k : Nat) : Int) < n))),(33,.i (((i + 1) : Nat) : Int))],[(9,⟨3,.row (.ints x)⟩)],[9,999]⟩)
      ((True ∧ True ∧ (Fits .i64 (((i + 1) : Nat) : Int))) ∧ True ∧ True) (by kernel_rfl)
      ⟨⟨tt,tt,(by exact fits_i64 (by omega) (by omega))⟩,tt,tt⟩ ?_
     refine thenQ_normal ?_
     refine ⟨((i + 1),x),(show ((i + 1) ≤ n.toNat) ∧ (x = partRows n.toNat (ownF h) (i + 1) 0) from ⟨(by first | assumption | omega | rfl | (intro _ hjj; omega) | (simp; done) | (simp; omega)),(by rw [hx,← partRows_next]; congr 1; omega)⟩),(show n.toNat - (i + 1) < n.toNat - i from (by first | omega | (simp_all; omega))),?_⟩
     exact Sub.of [] (@cast ((((.int .i64 n : Value) = .int .i64 n) ∧ ((((56 : Nat) = 56) ∧ ((((.ep [.sl (.calls h)] : AV) = .ep [.sl (.calls h)]) ∧ (([] : List Nat) = [])) ∧ True)) ∧ ((((9 : Nat) = 9) ∧ ((o.length = x.length) ∧ ((9 : Nat) ∈ ([9,999] : List Nat)))) ∧ (((.int .i64 (((List.length (List.replicate (Int.toNat n) (0 : Int))) : Nat) : Int) : Value) = .int .i64 (((List.length (List.replicate (Int.toNat n) (0 : Int))) : Nat) : Int)) ∧ (((.int .i64 (((i + 1) : Nat) : Int) : Value) = .int .i64 (((i + 1) : Nat) : Int)) ∧ True))))) ∧ (((((3 : Nat) = 3) ∧ (((.ints x : Dat) = .ints x) ∧ ((9 : Nat) ∈ ([9,999] : List Nat)))) ∧ True) ∧ ((true = true) ∧ (true = true)))) _ (by kernel_rfl) ⟨⟨rfl,⟨rfl,⟨rfl,rfl⟩,tt⟩,⟨rfl,(by first | rfl | omega | assumption | (symm; assumption) | simp | simp_all),(by decide)⟩,rfl,rfl,tt⟩,⟨⟨rfl,rfl,(by decide)⟩,tt⟩,rfl,rfl⟩)
  ·intro n13
   have n13' := n13
   simp only [List.length_append,List.length_cons,List.length_nil,List.length_take,List.length_drop,List.length_set,List.length_replicate,List.length_map] at n13'
   refine W.exit (thenQ_exit (thenQ_exit (blockQ_hit ?_)))
   refine thenQ_normal ?_
   refine W.K cok tab44OwnAhead hnt [] [4] (⟨[(4,.own 9 o.length)],[(9,⟨3,.row (.ints o)⟩)],[9,999]⟩)
    (True ∧ True ∧ True) (by kernel_rfl)
    ⟨tt,tt,tt⟩ ?_
   refine W.subS [] (⟨[(4,.sl (.ints o))],[],[999]⟩) (@cast ((((o.length = o.length) ∧ (((.ints o : Dat) = .ints o) ∧ ((9 : Nat) ∉ ([] : List Nat)))) ∧ True) ∧ (True ∧ ((true = true) ∧ (true = true)))) _ (by kernel_rfl) ⟨⟨⟨rfl,rfl,(by decide)⟩,tt⟩,tt,rfl,rfl⟩) ?_
   refine W.ret ?_
   exact endQ_ret (.sl (.ints o)) (by kernel_rfl) (@cast ((.ints o : Dat) = .ints (rowsOf n.toNat (ownF h))) _ (by kernel_rfl) (congrArg Dat.ints (by rw [ho,← partRows_end]; congr 1; omega)))
theorem ent44OwnAhead : Entr prog 44 := ⟨_,func44,rfl,by decide⟩
end Go.Proofs.Try

set_option linter.unusedSimpArgs false
set_option linter.unusedVariables false
namespace Go.Proofs.Try
open Go.Ab Go.RowKit
def fs31 : FnS := fnS [.s .calls] [.calls] (fun _ (h,_) => (.sl (.ints (ownAhead h)),[],True))
abbrev T31 : Tab := lk [(23,fs23),(44,fs44OwnAhead)]
theorem tab31 : TabOK prog T31 := (TabOK.cons ok23 ent23 (TabOK.cons ok44OwnAhead ent44OwnAhead TabOK.nil))
set_option maxRecDepth 100000 in
set_option maxHeartbeats 1000000 in
theorem ok31 : FnOK prog 31 fs31 := by
 refine FnOK.mk cok func31 rfl rfl rfl ?_
 rintro fl ⟨(h : List CallD),_⟩ hpre F hnt0 _
 have hnt : F.nt = 10 := hnt0.trans ntmps31
 clear hpre
 refine W.to (⟨[(0,.sl (.calls h))],[],[999]⟩) rfl ?_
 refine W.lenOf 0 (.calls h) (by kernel_rfl) ?_
 intro hl_h; replace hl_h : List.length h ≤ 9223372036854775807 := hl_h
 refine W.K cok tab31 hnt [] [1] (⟨[(1,.ptr 1 0)],[(1,⟨23,.fix [.sl (.calls h)]⟩)],[1,999]⟩)
  (True ∧ True ∧ True) (by kernel_rfl)
  ⟨tt,tt,tt⟩ ?_
 refine W.subS [] (⟨[(1,.ep [.sl (.calls h)])],[],[999]⟩) (@cast ((((([.sl (.calls h)] : List AV) = [.sl (.calls h)]) ∧ ((([] : List Nat) = []) ∧ ((1 : Nat) ∉ ([] : List Nat)))) ∧ True) ∧ (True ∧ ((true = true) ∧ (true = true)))) _ (by kernel_rfl) ⟨⟨⟨rfl,rfl,(by decide)⟩,tt⟩,tt,rfl,rfl⟩) ?_
 refine W.seq ?_
 refine W.K cok tab31 hnt [] [1,5] (⟨[(1,.ep [.sl (.calls h)]),(5,.b (!(validHistory h)))],[],[999]⟩)
  (True ∧ (True ∧ (True ∧ True) ∧ True) ∧ True ∧ True) (by kernel_rfl)
  ⟨tt,⟨tt,⟨tt,tt⟩,tt⟩,tt,tt⟩ ?_
 refine W.if' (!(validHistory h)) (.b (!(validHistory h))) (by kernel_rfl) rfl trivial ?_ ?_
 ·intro h5
  refine W.K cok tab31 hnt [] [2] (⟨[(2,.v (.slice none 0 0))],[],[999]⟩)
   (True ∧ True) (by kernel_rfl)
   ⟨tt,tt⟩ ?_
  refine W.ret (thenQ_ret ?_)
  exact endQ_ret (.v (.slice none 0 0)) (by kernel_rfl) (@cast (((Value.slice none 0 0 : Value) = .slice none 0 0) ∧ ((Dat.ints (ownAhead h)).len = 0)) _ (by kernel_rfl) ⟨rfl,(by show List.length (ownAhead h) = 0; unfold ownAhead; rw [not_f h5]; rfl)⟩)
 ·intro n5
  refine W.skip (thenQ_normal ?_)
  refine W.K cok tab31 hnt [] [2] (⟨[(2,.sl (.ints (rowsOf (h.length : Int).toNat (ownF h))))],[],[999]⟩)
   (True ∧ True ∧ True ∧ (True ∧ (True ∧ True ∧ True) ∧ 0 ≤ (h.length : Int) ∧ (h.length : Int) ≤ 60 ∧ (h.length : Int) = h.length) ∧ True ∧ True) (by kernel_rfl)
   ⟨tt,tt,tt,⟨tt,⟨tt,tt,tt⟩,(by have hv := (valid_iff.1 (not_g n5)).1; omega)⟩,tt,tt⟩ ?_
  refine W.ret ?_
  exact endQ_ret (.sl (.ints (rowsOf (h.length : Int).toNat (ownF h)))) (by kernel_rfl) (@cast ((.ints (rowsOf (h.length : Int).toNat (ownF h)) : Dat) = .ints (ownAhead h)) _ (by kernel_rfl) (congrArg Dat.ints (by unfold ownAhead; rw [not_g n5]; rfl)))
theorem ent31 : Entr prog 31 := ⟨_,func31,rfl,by decide⟩
end Go.Proofs.Try

set_option linter.unusedSimpArgs false
set_option linter.unusedVariables false
namespace Go.Proofs.Try
open Go.Ab Go.RowKit
def fs12 : FnS := fnS [.o,.s .calls] [.str,.calls] (fun _ (s,h,_) => (.sl (.intss (ordersBy s h (ownF h))),[],True))
abbrev T12 : Tab := lk [(22,fs22),(23,fs23),(24,fs24),(31,fs31)]
theorem tab12 : TabOK prog T12 := (TabOK.cons ok22 ent22 (TabOK.cons ok23 ent23 (TabOK.cons ok24 ent24 (TabOK.cons ok31 ent31 TabOK.nil))))
set_option maxRecDepth 100000 in
set_option maxHeartbeats 1000000 in
theorem ok12 : FnOK prog 12 fs12 := by
 refine FnOK.mk cok func12 rfl rfl rfl ?_
 rintro fl ⟨(s : ByteArray),(h : List CallD),_⟩ hpre F hnt0 _
 have hnt : F.nt = 18 := hnt0.trans ntmps12
 clear hpre
 refine W.to (⟨[(0,.v (.string s)),(1,.sl (.calls h))],[],[999]⟩) rfl ?_
 refine W.lenOf 1 (.calls h) (by kernel_rfl) ?_
 intro hl_h; replace hl_h : List.length h ≤ 9223372036854775807 := hl_h
 refine W.K cok tab12 hnt [] [0,1] (⟨[(0,.v (.string s)),(1,.sl (.calls h))],[],[999]⟩)
  (True ∧ True) (by kernel_rfl)
  ⟨tt,tt⟩ ?_
 refine W.seq ?_
 refine W.K cok tab12 hnt [] [0,1,12] (⟨[(0,.v (.string s)),(1,.sl (.calls h)),(12,.b ((!(isObject s)) || (!(validHistory h))))],[],[999]⟩)
  (True ∧ (True ∧ (True ∧ True) ∧ True) ∧ True ∧ True ∧ ((!(!(isObject s))) = true → True) ∧ ((!(!(isObject s))) = true → (True ∧ ((((!(!(isObject s))) = true) ∧ True) ∧ True) ∧ True)) ∧ ((!(!(isObject s))) = true → (((!(!(isObject s))) = true) ∧ True)) ∧ (True ∧ ((!(isObject s)) = true → True) ∧ ((!(isObject s)) = false → ((!(!(isObject s))) = true) ∧ True)) ∧ True) (by kernel_rfl)
  ⟨tt,⟨tt,⟨tt,tt⟩,tt⟩,tt,tt,(fun _ => trivial),(fun hG => ⟨tt,⟨⟨hG,tt⟩,tt⟩,tt⟩),(fun hG => ⟨hG,tt⟩),⟨tt,(fun _ => trivial),(fun hp => ⟨(not_t hp),tt⟩)⟩,tt⟩ ?_
 refine W.if' ((!(isObject s)) || (!(validHistory h))) (.b ((!(isObject s)) || (!(validHistory h)))) (by kernel_rfl) rfl trivial ?_ ?_
 ·intro h12
  refine W.K cok tab12 hnt [] [4] (⟨[(4,.v (.slice none 0 0))],[],[999]⟩)
   (True ∧ True) (by kernel_rfl)
   ⟨tt,tt⟩ ?_
  refine W.ret (thenQ_ret ?_)
  exact endQ_ret (.v (.slice none 0 0)) (by kernel_rfl) (@cast (((Value.slice none 0 0 : Value) = .slice none 0 0) ∧ ((Dat.intss (ordersBy s h (ownF h))).len = 0)) _ (by kernel_rfl) ⟨rfl,(by show List.length (ordersBy s h (ownF h)) = 0; first | exact (by_no' h12).symm | (rw [by_no' h12]; rfl))⟩)
 ·intro n12
  refine W.skip (thenQ_normal ?_)
  refine W.K cok tab12 hnt [] [4] (⟨[(4,.sl (.intss (ordersF s h (bitF (ownAhead h)) h.length [])))],[],[999]⟩)
   (True ∧ True ∧ True ∧ (True ∧ (True ∧ True) ∧ True) ∧ (True ∧ (True ∧ True ∧ True ∧ True) ∧ (isObject s = true) ∧ (validHistory h = true) ∧ ((ownAhead h) = rowsOf h.length (bitF (ownAhead h)))) ∧ True ∧ True) (by kernel_rfl)
   ⟨tt,tt,tt,⟨tt,⟨tt,tt⟩,tt⟩,⟨tt,⟨tt,tt,tt,tt⟩,(by exact and_l (by_yes' n12)),(by exact and_r (by_yes' n12)),(by exact own_rows (and_r (by_yes' n12)))⟩,tt,tt⟩ ?_
  refine W.ret ?_
  exact endQ_ret (.sl (.intss (ordersF s h (bitF (ownAhead h)) h.length []))) (by kernel_rfl) (@cast ((.intss (ordersF s h (bitF (ownAhead h)) h.length []) : Dat) = .intss (ordersBy s h (ownF h))) _ (by kernel_rfl) (congrArg Dat.intss (by exact by_val (by_yes' n12) (own_eq (and_r (by_yes' n12))))))
theorem ent12 : Entr prog 12 := ⟨_,func12,rfl,by decide⟩
end Go.Proofs.Try

set_option linter.unusedSimpArgs false
set_option linter.unusedVariables false
namespace Go.Proofs.Try
open Go.Ab Go.RowKit
def fs11 : FnS := fnS [.s .intss,.s .intss] [.intss,.intss] (fun _ (a,b,_) => (.b (amongB a b),[],True))
abbrev T11 : Tab := lk [(16,fs16)]
theorem tab11 : TabOK prog T11 := (TabOK.cons ok16 ent16 TabOK.nil)
set_option maxRecDepth 100000 in
set_option maxHeartbeats 1000000 in
theorem ok11 : FnOK prog 11 fs11 := by
 refine FnOK.mk cok func11 rfl rfl rfl ?_
 rintro fl ⟨(a : List (List Int)),(b : List (List Int)),_⟩ hpre F hnt0 _
 have hnt : F.nt = 34 := hnt0.trans ntmps11
 clear hpre
 refine W.to (⟨[(0,.sl (.intss a)),(1,.sl (.intss b))],[],[999]⟩) rfl ?_
 refine W.lenOf 0 (.intss a) (by kernel_rfl) ?_
 intro hl_a; replace hl_a : List.length a ≤ 9223372036854775807 := hl_a
 refine W.lenOf 1 (.intss b) (by kernel_rfl) ?_
 intro hl_b; replace hl_b : List.length b ≤ 9223372036854775807 := hl_b
 refine W.K cok tab11 hnt [] [0,1] (⟨[(0,.sl (.intss a)),(1,.sl (.intss b))],[],[999]⟩)
  (True ∧ True) (by kernel_rfl)
  ⟨tt,tt⟩ ?_
 refine W.seq ?_
 refine W.K cok tab11 hnt [] [0,1,5] (⟨[(0,.sl (.intss a)),(1,.sl (.intss b)),(5,.i (0 : Int))],[],[999]⟩)
  (True ∧ True) (by kernel_rfl)
  ⟨tt,tt⟩ ?_
 refine W.block ?_
 refine W.loop (ι := Nat) (fun (i : Nat) => (⟨[(0,.sl (.intss a)),(1,.sl (.intss b)),(5,.i ((i : Nat) : Int))],[],[999]⟩ : St))
  (fun (i : Nat) => (i ≤ a.length) ∧ (∀ j,j < i → metUp a b j b.length = true))
  (fun (i : Nat) => (a.length - i : Nat)) (0) ?_ ?_ ?_
 ·exact (show (0 ≤ a.length) ∧ (∀ j,j < 0 → metUp a b j b.length = true) from ⟨(by first | assumption | omega | rfl | (intro _ hjj; omega) | (simp; done) | (simp; omega)),(by exact upto_zero)⟩)
 ·exact Sub.of [] (@cast ((((.intss a : Dat) = .intss a) ∧ (((.intss b : Dat) = .intss b) ∧ (((.int .i64 (0 : Int) : Value) = .int .i64 ((0 : Nat) : Int)) ∧ True))) ∧ (True ∧ ((true = true) ∧ (true = true)))) _ (by kernel_rfl) ⟨⟨rfl,rfl,(congrArg (Value.int .i64) (by first | rfl | omega | assumption | simp | simp_all)),tt⟩,tt,rfl,rfl⟩)
 ·rintro i hC0
  have hC : (i ≤ a.length) ∧ (∀ j,j < i → metUp a b j b.length = true) := hC0
  clear hC0
  obtain ⟨hi,hA⟩ := hC
  refine W.to (⟨[(0,.sl (.intss a)),(1,.sl (.intss b)),(5,.i ((i : Nat) : Int))],[],[999]⟩) rfl ?_
  refine W.seq ?_
  refine W.K cok tab11 hnt [] [0,1,5,11] (⟨[(0,.sl (.intss a)),(1,.sl (.intss b)),(5,.i ((i : Nat) : Int)),(11,.b (decide (((i : Nat) : Int) < (a.length : Int))))],[],[999]⟩)
   (True ∧ True ∧ True ∧ (True ∧ True ∧ True) ∧ True) (by kernel_rfl)
   ⟨tt,tt,tt,⟨tt,tt,tt⟩,tt⟩ ?_
  refine W.ifP (((i : Nat) : Int) < (a.length : Int)) (.b (decide (((i : Nat) : Int) < (a.length : Int)))) (by kernel_rfl) rfl trivial ?_ ?_
  ·intro h11
   refine W.skip (thenQ_normal ?_)
   refine W.seq ?_
   refine W.block ?_
   refine W.K cok tab11 hnt [] [0,1,5,6] (⟨[(0,.sl (.intss a)),(1,.sl (.intss b)),(5,.i ((i : Nat) : Int)),(6,.b false)],[],[999]⟩)
    (True ∧ True) (by kernel_rfl)
    ⟨tt,tt⟩ ?_
   refine W.seq ?_
   refine W.K cok tab11 hnt [] [0,1,5,6,7] (⟨[(0,.sl (.intss a)),(1,.sl (.intss b)),(5,.i ((i : Nat) : Int)),(6,.b false),(7,.i (0 : Int))],[],[999]⟩)
    (True ∧ True) (by kernel_rfl)
    ⟨tt,tt⟩ ?_
   refine W.block ?_
   refine W.loop (ι := Bool × Nat) (fun (x : Bool × Nat) => match x with | (m,k) => (⟨[(0,.sl (.intss a)),(1,.sl (.intss b)),(5,.i ((i : Nat) : Int)),(6,.b m),(7,.i ((k : Nat) : Int))],[],[999]⟩ : St))
    (fun (x : Bool × Nat) => match x with | (m,k) => (k ≤ b.length) ∧ (m = metUp a b i k))
    (fun (x : Bool × Nat) => match x with | (m,k) => (b.length - k : Nat)) (false,0) ?_ ?_ ?_
   ·exact (show (0 ≤ b.length) ∧ (false = metUp a b i 0) from ⟨(by first | assumption | omega | rfl | (intro _ hjj; omega) | (simp; done) | (simp; omega)),(by rfl)⟩)
   ·exact Sub.of [] (@cast ((((.intss a : Dat) = .intss a) ∧ (((.intss b : Dat) = .intss b) ∧ (((.int .i64 ((i : Nat) : Int) : Value) = .int .i64 ((i : Nat) : Int)) ∧ (((.bool false : Value) = .bool false) ∧ (((.int .i64 (0 : Int) : Value) = .int .i64 ((0 : Nat) : Int)) ∧ True))))) ∧ (True ∧ ((true = true) ∧ (true = true)))) _ (by kernel_rfl) ⟨⟨rfl,rfl,rfl,rfl,(congrArg (Value.int .i64) (by first | rfl | omega | assumption | simp | simp_all)),tt⟩,tt,rfl,rfl⟩)
   ·rintro ⟨m,k⟩ hC0
    have hC : (k ≤ b.length) ∧ (m = metUp a b i k) := hC0
    clear hC0
    obtain ⟨hk,hm⟩ := hC
    refine W.to (⟨[(0,.sl (.intss a)),(1,.sl (.intss b)),(5,.i ((i : Nat) : Int)),(6,.b m),(7,.i ((k : Nat) : Int))],[],[999]⟩) rfl ?_
    refine W.seq ?_
    refine W.K cok tab11 hnt [] [0,1,5,6,7,17] (⟨[(0,.sl (.intss a)),(1,.sl (.intss b)),(5,.i ((i : Nat) : Int)),(6,.b m),(7,.i ((k : Nat) : Int)),(17,.b (decide (((k : Nat) : Int) < (b.length : Int))))],[],[999]⟩)
     (True ∧ True ∧ True ∧ (True ∧ True ∧ True) ∧ True) (by kernel_rfl)
     ⟨tt,tt,tt,⟨tt,tt,tt⟩,tt⟩ ?_
    refine W.ifP (((k : Nat) : Int) < (b.length : Int)) (.b (decide (((k : Nat) : Int) < (b.length : Int)))) (by kernel_rfl) rfl trivial ?_ ?_
    ·intro h17
     refine W.skip (thenQ_normal ?_)
     refine W.seq ?_
     refine W.block ?_
     refine W.LA cok tab11 hnt [] (⟨[(0,.sl (.intss a)),(1,.sl (.intss b)),(5,.i ((i : Nat) : Int)),(6,.b (m || (decide ((a.getD i []) = (b.getD k []))))),(7,.i ((k : Nat) : Int)),(17,.b (decide (((k : Nat) : Int) < (b.length : Int)))),(20,.b m),(21,.b m),(22,.g (!m) (.sl (.intss a))),(23,.g (!m) (.i ((i : Nat) : Int))),(24,.g (!m) (.ep [.sl (.ints (a.getD i []))])),(25,.g (!m) (.sl (.ints (a.getD i [])))),(26,.g (!m) (.sl (.intss b))),(27,.g (!m) (.i ((k : Nat) : Int))),(28,.g (!m) (.ep [.sl (.ints (b.getD k []))])),(29,.g (!m) (.sl (.ints (b.getD k [])))),(30,.g (!m) (.b (decide ((a.getD i []) = (b.getD k []))))),(31,.b (m || (decide ((a.getD i []) = (b.getD k [])))))],[],[999]⟩)
      (True ∧ True ∧ ((!m) = true → True) ∧ ((!m) = true → True) ∧ ((!m) = true → ((((!m) = true) ∧ True) ∧ (((!m) = true) ∧ True) ∧ (0 ≤ ((i : Nat) : Int)) ∧ (((i : Nat) : Int) < (a.length : Int)))) ∧ ((!m) = true → (((!m) = true) ∧ True)) ∧ ((!m) = true → True) ∧ ((!m) = true → True) ∧ ((!m) = true → ((((!m) = true) ∧ True) ∧ (((!m) = true) ∧ True) ∧ (0 ≤ ((k : Nat) : Int)) ∧ (((k : Nat) : Int) < (b.length : Int)))) ∧ ((!m) = true → (((!m) = true) ∧ True)) ∧ ((!m) = true → (True ∧ ((((!m) = true) ∧ True) ∧ (((!m) = true) ∧ True) ∧ True) ∧ True)) ∧ (True ∧ (m = true → True) ∧ (m = false → ((!m) = true) ∧ True)) ∧ True ∧ True) (by kernel_rfl) (by kernel_rfl)
      ⟨tt,tt,(fun _ => trivial),(fun _ => trivial),(fun hG => ⟨⟨hG,tt⟩,⟨hG,tt⟩,(by omega),(by omega)⟩),(fun hG => ⟨hG,tt⟩),(fun _ => trivial),(fun _ => trivial),(fun hG => ⟨⟨hG,tt⟩,⟨hG,tt⟩,(by omega),(by omega)⟩),(fun hG => ⟨hG,tt⟩),(fun hG => ⟨tt,⟨⟨hG,tt⟩,⟨hG,tt⟩,tt⟩,tt⟩),⟨tt,(fun _ => trivial),(fun hp => ⟨(not_t hp),tt⟩)⟩,tt,tt⟩ ?_
     refine blockQ_normal (thenQ_normal ?_)
     refine W.L cok tab11 hnt [] (⟨[(0,.sl (.intss a)),(1,.sl (.intss b)),(5,.i ((i : Nat) : Int)),(6,.b (m || (decide ((a.getD i []) = (b.getD k []))))),(7,.i (((k + 1) : Nat) : Int)),(17,.b (decide (((k : Nat) : Int) < (b.length : Int)))),(18,.i ((k : Nat) : Int)),(19,.i (((k + 1) : Nat) : Int)),(20,.b m),(21,.b m),(22,.g (!m) (.sl (.intss a))),(23,.g (!m) (.i ((i : Nat) : Int))),(24,.g (!m) (.ep [.sl (.ints (a.getD i []))])),(25,.g (!m) (.sl (.ints (a.getD i [])))),(26,.g (!m) (.sl (.intss b))),(27,.g (!m) (.i ((k : Nat) : Int))),(28,.g (!m) (.ep [.sl (.ints (b.getD k []))])),(29,.g (!m) (.sl (.ints (b.getD k [])))),(30,.g (!m) (.b (decide ((a.getD i []) = (b.getD k []))))),(31,.b (m || (decide ((a.getD i []) = (b.getD k [])))))],[],[999]⟩)
      (True ∧ (True ∧ True ∧ (Fits .i64 (((k + 1) : Nat) : Int))) ∧ True ∧ True) (by kernel_rfl)
      ⟨tt,⟨tt,tt,(by exact fits_i64 (by omega) (by omega))⟩,tt,tt⟩ ?_
     refine thenQ_normal ?_
     refine ⟨((m || (decide ((a.getD i []) = (b.getD k [])))),(k + 1)),(show ((k + 1) ≤ b.length) ∧ ((m || (decide ((a.getD i []) = (b.getD k [])))) = metUp a b i (k + 1)) from ⟨(by first | assumption | omega | rfl | (intro _ hjj; omega) | (simp; done) | (simp; omega)),(by first | exact met_succ hm | exact met_succ' hm)⟩),(show b.length - (k + 1) < b.length - k from (by first | omega | (simp_all; omega))),?_⟩
     exact Sub.of [] (@cast ((((.intss a : Dat) = .intss a) ∧ (((.intss b : Dat) = .intss b) ∧ (((.int .i64 ((i : Nat) : Int) : Value) = .int .i64 ((i : Nat) : Int)) ∧ (((.bool (m || (decide ((a.getD i []) = (b.getD k [])))) : Value) = .bool (m || (decide ((a.getD i []) = (b.getD k []))))) ∧ (((.int .i64 (((k + 1) : Nat) : Int) : Value) = .int .i64 (((k + 1) : Nat) : Int)) ∧ True))))) ∧ (True ∧ ((true = true) ∧ (true = true)))) _ (by kernel_rfl) ⟨⟨rfl,rfl,rfl,rfl,rfl,tt⟩,tt,rfl,rfl⟩)
    ·intro n17
     refine W.exit (thenQ_exit (thenQ_exit (blockQ_hit ?_)))
     refine thenQ_normal ?_
     refine W.K cok tab11 hnt [] [0,1,5,33] (⟨[(0,.sl (.intss a)),(1,.sl (.intss b)),(5,.i ((i : Nat) : Int)),(33,.b (!m))],[],[999]⟩)
      (True ∧ True ∧ True) (by kernel_rfl)
      ⟨tt,tt,tt⟩ ?_
     refine W.if' (!m) (.b (!m)) (by kernel_rfl) rfl trivial ?_ ?_
     ·intro h33
      refine W.K cok tab11 hnt [] [4] (⟨[(4,.b false)],[],[999]⟩)
       (True ∧ True) (by kernel_rfl)
       ⟨tt,tt⟩ ?_
      refine W.ret (blockQ_ret (thenQ_ret (thenQ_ret (blockQ_ret (thenQ_ret ?_)))))
      exact endQ_ret (.b false) (by kernel_rfl) (@cast ((.bool false : Value) = .bool (amongB a b)) _ (by kernel_rfl) (congrArg Value.bool (by exact (allN_false (i := i) (by omega) (by show metUp a b i b.length = false; rw [show b.length = k by omega,← hm]; exact not_f h33)).symm)))
     ·intro n33
      refine W.skip (blockQ_normal (thenQ_normal ?_))
      refine W.L cok tab11 hnt [] (⟨[(0,.sl (.intss a)),(1,.sl (.intss b)),(5,.i (((i + 1) : Nat) : Int)),(12,.i ((i : Nat) : Int)),(13,.i (((i + 1) : Nat) : Int)),(33,.b (!m))],[],[999]⟩)
       (True ∧ (True ∧ True ∧ (Fits .i64 (((i + 1) : Nat) : Int))) ∧ True ∧ True) (by kernel_rfl)
       ⟨tt,⟨tt,tt,(by exact fits_i64 (by omega) (by omega))⟩,tt,tt⟩ ?_
      refine thenQ_normal ?_
      refine ⟨((i + 1)),(show ((i + 1) ≤ a.length) ∧ (∀ j,j < (i + 1) → metUp a b j b.length = true) from ⟨(by first | assumption | omega | rfl | (intro _ hjj; omega) | (simp; done) | (simp; omega)),(by exact upto_succ hA (by rw [show b.length = k by omega,← hm]; exact not_g n33))⟩),(show a.length - (i + 1) < a.length - i from (by first | omega | (simp_all; omega))),?_⟩
      exact Sub.of [] (@cast ((((.intss a : Dat) = .intss a) ∧ (((.intss b : Dat) = .intss b) ∧ (((.int .i64 (((i + 1) : Nat) : Int) : Value) = .int .i64 (((i + 1) : Nat) : Int)) ∧ True))) ∧ (True ∧ ((true = true) ∧ (true = true)))) _ (by kernel_rfl) ⟨⟨rfl,rfl,rfl,tt⟩,tt,rfl,rfl⟩)
  ·intro n11
   refine W.exit (thenQ_exit (thenQ_exit (blockQ_hit ?_)))
   refine thenQ_normal ?_
   refine W.K cok tab11 hnt [] [4] (⟨[(4,.b true)],[],[999]⟩)
    (True ∧ True) (by kernel_rfl)
    ⟨tt,tt⟩ ?_
   refine W.ret ?_
   exact endQ_ret (.b true) (by kernel_rfl) (@cast ((.bool true : Value) = .bool (amongB a b)) _ (by kernel_rfl) (congrArg Value.bool (by exact (allN_true (fun j hj => hA j (by omega))).symm)))
theorem ent11 : Entr prog 11 := ⟨_,func11,rfl,by decide⟩
end Go.Proofs.Try

set_option linter.unusedSimpArgs false
set_option linter.unusedVariables false
namespace Go.Proofs.Try
open Go.Ab Go.RowKit
def pre21 : List AV → List AV → Prop := preP [.bytes] [] (fun (code,_) _ => True)
def rel21 : RelS := relP [.bytes] [] (ι := (List UInt8)) (fun (code,_) _ l => True) (fun (code,_) _ l => (.ptr 0 0,[⟨59,.fix [.sl (.bytes l),.i (0 : Int)]⟩],[]))
abbrev T21 : Tab := lk []
theorem tab21 : TabOK prog T21 := TabOK.nil
set_option maxRecDepth 100000 in
set_option maxHeartbeats 1000000 in
theorem rok21 : RelOK prog 21 none [.s .bytes] pre21 rel21 := by
 refine RelOK.mk cok func21 rfl rfl rfl ?_
 rintro ⟨(code : List UInt8),_⟩ _ hpre F hnt0
 have hnt : F.nt = 11 := hnt0.trans ntmps21
 clear hpre
 refine W.to (⟨[(0,.sl (.bytes code))],[],[998,999]⟩) rfl ?_
 refine W.K cok tab21 hnt [] [0] (⟨[(0,.sl (.bytes code))],[],[998,999]⟩)
  (True ∧ True) (by kernel_rfl)
  ⟨tt,tt⟩ ?_
 refine W.seq ?_
 refine W.K cok tab21 hnt [] [0,5] (⟨[(0,.sl (.bytes code)),(5,.b (decide ((2000 : Int) < (code.length : Int))))],[],[998,999]⟩)
  (True ∧ True ∧ (True ∧ True ∧ True) ∧ True) (by kernel_rfl)
  ⟨tt,tt,⟨tt,tt,tt⟩,tt⟩ ?_
 refine W.ifP ((2000 : Int) < (code.length : Int)) (.b (decide ((2000 : Int) < (code.length : Int)))) (by kernel_rfl) rfl trivial ?_ ?_
 ·intro h5
  refine W.L cok tab21 hnt [] (⟨[(0,.sl (.bytes (List.take 2000 code))),(5,.b (decide ((2000 : Int) < (code.length : Int)))),(6,.sl (.bytes code)),(7,.sl (.bytes (List.take 2000 code)))],[],[998,999]⟩)
   (True ∧ (True ∧ True ∧ True ∧ (0 ≤ (0 : Int)) ∧ ((0 : Int) ≤ (2000 : Int)) ∧ ((2000 : Int) ≤ (code.length : Int))) ∧ True ∧ True) (by kernel_rfl)
   ⟨tt,⟨tt,tt,tt,(by omega),(by omega),(by omega)⟩,tt,tt⟩ ?_
  refine thenQ_normal ?_
  refine W.K cok tab21 hnt [] [2] (⟨[(2,.ptr 10 0)],[(10,⟨59,.fix [.sl (.bytes (List.take 2000 code)),.i (0 : Int)]⟩)],[10,998,999]⟩)
   (True ∧ (True ∧ True) ∧ True ∧ True ∧ True) (by kernel_rfl)
   ⟨tt,⟨tt,tt⟩,tt,tt,tt⟩ ?_
  refine W.ret ?_
  exact endP_ret ((List.take 2000 code)) (show True from trivial) [(0,10)] (.ptr 10 0) (by kernel_rfl) (@cast ((((10 : Nat) = 10) ∧ (((0 : Nat) = 0) ∧ ((0 : Nat) ∈ ([0] : List Nat)))) ∧ (((((59 : Nat) = 59) ∧ ((((.bytes (List.take 2000 code) : Dat) = .bytes (List.take 2000 code)) ∧ (((.int .i64 (0 : Int) : Value) = .int .i64 (0 : Int)) ∧ True)) ∧ ((0 : Nat) ∈ ([0] : List Nat)))) ∧ True) ∧ ((true = true) ∧ (((([] : List Nat) = []) ∧ True) ∧ (false = true → (10 : Nat) = 998))))) _ (by kernel_rfl) ⟨⟨rfl,rfl,(by decide)⟩,⟨⟨rfl,⟨rfl,rfl,tt⟩,(by decide)⟩,tt⟩,rfl,⟨rfl,tt⟩,(fun h => by cases h)⟩)
 ·intro n5
  refine W.skip (thenQ_normal ?_)
  refine W.K cok tab21 hnt [] [2] (⟨[(2,.ptr 10 0)],[(10,⟨59,.fix [.sl (.bytes code),.i (0 : Int)]⟩)],[10,998,999]⟩)
   (True ∧ (True ∧ True) ∧ True ∧ True ∧ True) (by kernel_rfl)
   ⟨tt,⟨tt,tt⟩,tt,tt,tt⟩ ?_
  refine W.ret ?_
  exact endP_ret (code) (show True from trivial) [(0,10)] (.ptr 10 0) (by kernel_rfl) (@cast ((((10 : Nat) = 10) ∧ (((0 : Nat) = 0) ∧ ((0 : Nat) ∈ ([0] : List Nat)))) ∧ (((((59 : Nat) = 59) ∧ ((((.bytes code : Dat) = .bytes code) ∧ (((.int .i64 (0 : Int) : Value) = .int .i64 (0 : Int)) ∧ True)) ∧ ((0 : Nat) ∈ ([0] : List Nat)))) ∧ True) ∧ ((true = true) ∧ (((([] : List Nat) = []) ∧ True) ∧ (false = true → (10 : Nat) = 998))))) _ (by kernel_rfl) ⟨⟨rfl,rfl,(by decide)⟩,⟨⟨rfl,⟨rfl,rfl,tt⟩,(by decide)⟩,tt⟩,rfl,⟨rfl,tt⟩,(fun h => by cases h)⟩)
theorem ent21 : Entr prog 21 := ⟨_,func21,rfl,by decide⟩
end Go.Proofs.Try
