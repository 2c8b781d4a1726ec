import Derived.Test.YtggcajkjoaichaaIF7S0
import Derived.Test.YtggcajkjoaichaaIF7S3
import Derived.Test.YtggcajkjoaichaaIF7S1
import Derived.Test.YtggcajkjoaichaaIF7S6
set_option linter.unusedSimpArgs false
set_option linter.unusedVariables false
namespace Go.Proofs.Try
open Go.Ab Go.RowKit
def fs41 : FnS := fnS [.o,.s .calls,.s .ints] [.str,.calls,.ints] (fun _ (s,h,o,_) => (.tup [.agg [.sl (.ints (List.getD ((playedR s h o).1) 0 [])),.sl (.ints (List.getD ((playedR s h o).1) 1 []))],.b ((playedR s h o).2)],[],(isObject s = true) ∧ (validHistory h = true) ∧ (inH h o) ∧ (o.length ≤ 6)))
abbrev T41 : Tab := lk [(53,fs53)]
theorem tab41 : TabOK prog T41 := (TabOK.cons ok53 ent53 TabOK.nil)
set_option maxRecDepth 100000 in
set_option maxHeartbeats 1000000 in
theorem ok41 : FnOK prog 41 fs41 := by
 refine FnOK.mk cok func41 rfl rfl rfl ?_
 rintro fl ⟨(s : ByteArray),(h : List CallD),(o : List Int),_⟩ hpre F hnt0 _
 have hnt : F.nt = 53 := hnt0.trans ntmps41
 replace hpre : (isObject s = true) ∧ (validHistory h = true) ∧ (inH h o) ∧ (o.length ≤ 6) := hpre
 obtain ⟨hs,hv,ho,h6⟩ := hpre
 refine W.to (⟨[(0,.v (.string s)),(1,.sl (.calls h)),(2,.sl (.ints o))],[],[999]⟩) rfl ?_
 refine W.lenOf 1 (.calls h) (by kernel_rfl) ?_
 intro hl_h; replace hl_h : List.length h ≤ 9223372036854775807 := hl_h
 refine W.lenOf 2 (.ints o) (by kernel_rfl) ?_
 intro hl_o; replace hl_o : List.length o ≤ 9223372036854775807 := hl_o
 refine W.K cok tab41 hnt [] [0,1,2,6] (⟨[(0,.v (.string s)),(1,.sl (.calls h)),(2,.sl (.ints o)),(6,.ptr 6 0)],[(6,⟨53,.row (.intss ([[],[]] : List (List Int)))⟩)],[6,999]⟩)
  (True ∧ True ∧ True) (by kernel_rfl)
  ⟨tt,tt,tt⟩ ?_
 refine W.K cok tab41 hnt [] [0,1,2,6,8] (⟨[(0,.v (.string s)),(1,.sl (.calls h)),(2,.sl (.ints o)),(6,.ptr 6 0),(8,.ptr 8 0)],[(6,⟨53,.row (.intss ([[],[]] : List (List Int)))⟩),(8,⟨53,.row (.intss ([([] : List Int),([] : List Int)]))⟩)],[8,6,999]⟩)
  (True ∧ True ∧ (True ∧ True ∧ ((List.length ([[],[]] : List (List Int))) = 2)) ∧ True) (by kernel_rfl)
  ⟨tt,tt,⟨tt,tt,(by first | exact hsl | rfl | (rw [List.length_set]; exact hsl))⟩,tt⟩ ?_
 refine W.seq ?_
 refine W.K cok tab41 hnt [] [0,1,6,8,14,15,16] (⟨[(0,.v (.string s)),(1,.sl (.calls h)),(6,.ptr 6 0),(8,.ptr 8 0),(14,.sl (.ints o)),(15,.i (o.length : Int)),(16,.i (0 : Int))],[(6,⟨53,.row (.intss ([[],[]] : List (List Int)))⟩),(8,⟨53,.row (.intss ([([] : List Int),([] : List Int)]))⟩)],[8,6,999]⟩)
  (True ∧ True ∧ True ∧ True) (by kernel_rfl)
  ⟨tt,tt,tt,tt⟩ ?_
 refine W.block ?_
 refine W.loop (ι := Nat × (List (List Int))) (fun (x : Nat × (List (List Int))) => match x with | (i,ss) => (⟨[(0,.v (.string s)),(1,.sl (.calls h)),(6,.ptr 6 0),(8,.ptr 8 0),(14,.sl (.ints o)),(15,.i (o.length : Int)),(16,.i ((i : Nat) : Int))],[(6,⟨53,.row (.intss ([[],[]] : List (List Int)))⟩),(8,⟨53,.row (.intss ss)⟩)],[6,8,999]⟩ : St))
  (fun (x : Nat × (List (List Int))) => match x with | (i,ss) => (i ≤ o.length) ∧ (ss = sts s h o i) ∧ (∀ j,j < i → okAt s h o j = true))
  (fun (x : Nat × (List (List Int))) => match x with | (i,ss) => (o.length - i : Nat)) (0,([([] : List Int),([] : List Int)])) ?_ ?_ ?_
 ·exact (show (0 ≤ o.length) ∧ (([([] : List Int),([] : List Int)]) = sts s h o 0) ∧ (∀ j,j < 0 → okAt s h o j = true) from ⟨(by first | assumption | omega | rfl | (intro _ hjj; omega) | (simp; done) | (simp; omega)),(by rfl),(by exact upto_zero)⟩)
 ·exact Sub.of [] (@cast (((((.string s) : Value) = (.string s)) ∧ (((.calls h : Dat) = .calls h) ∧ ((((6 : Nat) = 6) ∧ (((0 : Nat) = 0) ∧ ((6 : Nat) ∈ ([6,8,999] : List Nat)))) ∧ ((((8 : Nat) = 8) ∧ (((0 : Nat) = 0) ∧ ((8 : Nat) ∈ ([6,8,999] : List Nat)))) ∧ (((.ints o : Dat) = .ints o) ∧ (((.int .i64 (o.length : Int) : Value) = .int .i64 (o.length : Int)) ∧ (((.int .i64 (0 : Int) : Value) = .int .i64 ((0 : Nat) : Int)) ∧ True))))))) ∧ (((((53 : Nat) = 53) ∧ (((.intss ([[],[]] : List (List Int)) : Dat) = .intss ([[],[]] : List (List Int))) ∧ ((6 : Nat) ∈ ([6,8,999] : List Nat)))) ∧ ((((53 : Nat) = 53) ∧ (((.intss ([([] : List Int),([] : List Int)]) : Dat) = .intss ([([] : List Int),([] : List Int)])) ∧ ((8 : Nat) ∈ ([6,8,999] : List Nat)))) ∧ True)) ∧ ((true = true) ∧ (true = true)))) _ (by kernel_rfl) ⟨⟨rfl,rfl,⟨rfl,rfl,(by decide)⟩,⟨rfl,rfl,(by decide)⟩,rfl,rfl,(congrArg (Value.int .i64) (by first | rfl | omega | assumption | simp | simp_all)),tt⟩,⟨⟨rfl,rfl,(by decide)⟩,⟨rfl,rfl,(by decide)⟩,tt⟩,rfl,rfl⟩)
 ·rintro ⟨i,ss⟩ hC0
  have hC : (i ≤ o.length) ∧ (ss = sts s h o i) ∧ (∀ j,j < i → okAt s h o j = true) := hC0
  clear hC0
  obtain ⟨hi,hss,hA⟩ := hC
  refine W.to (⟨[(0,.v (.string s)),(1,.sl (.calls h)),(6,.ptr 6 0),(8,.ptr 8 0),(14,.sl (.ints o)),(15,.i (o.length : Int)),(16,.i ((i : Nat) : Int))],[(6,⟨53,.row (.intss ([[],[]] : List (List Int)))⟩),(8,⟨53,.row (.intss ss)⟩)],[6,8,999]⟩) rfl ?_
  have hsl : ss.length = 2 := by rw [hss]; exact sts_len s h o i
  have hri := ho i
  have hcl := fun hi => isCall_iff.1 (ord_call hv ho (i := i) hi)
  unfold ordAt callAt at hcl
  have hst := fun hi => sts_step hs hv ho (i := i) hi (by omega)
  unfold ordAt callAt at hst
  refine W.K cok tab41 hnt [] [0,1,6,8,14,15,16,17] (⟨[(0,.v (.string s)),(1,.sl (.calls h)),(6,.ptr 6 0),(8,.ptr 8 0),(14,.sl (.ints o)),(15,.i (o.length : Int)),(16,.i ((i : Nat) : Int)),(17,.b (decide (((i : Nat) : Int) < (o.length : Int))))],[(6,⟨53,.row (.intss ([[],[]] : List (List Int)))⟩),(8,⟨53,.row (.intss ss)⟩)],[6,8,999]⟩)
   ((True ∧ True ∧ True) ∧ True) (by kernel_rfl)
   ⟨⟨tt,tt,tt⟩,tt⟩ ?_
  refine W.seq ?_
  refine W.ifP (((i : Nat) : Int) < (o.length : Int)) (.b (decide (((i : Nat) : Int) < (o.length : Int)))) (by kernel_rfl) rfl trivial ?_ ?_
  ·intro h17
   refine W.skip (thenQ_normal ?_)
   refine W.seq ?_
   refine W.block ?_
   refine W.K cok tab41 hnt [] [0,1,6,8,10,14,15,16] (⟨[(0,.v (.string s)),(1,.sl (.calls h)),(6,.ptr 6 0),(8,.ptr 8 0),(10,.i (o.getD i 0)),(14,.sl (.ints o)),(15,.i (o.length : Int)),(16,.i ((i : Nat) : Int))],[(6,⟨53,.row (.intss ([[],[]] : List (List Int)))⟩),(8,⟨53,.row (.intss ss)⟩)],[6,8,999]⟩)
    ((True ∧ True ∧ (0 ≤ ((i : Nat) : Int)) ∧ (((i : Nat) : Int) < (o.length : Int))) ∧ True ∧ True ∧ True) (by kernel_rfl)
    ⟨⟨tt,tt,(by omega),(by have hh := hcl (by omega); omega)⟩,tt,tt,tt⟩ ?_
   refine W.KA cok tab41 hnt [] [0,1,6,8,10,11,12,14,15,16] (⟨[(0,.v (.string s)),(1,.sl (.calls h)),(6,.ptr 6 0),(8,.ptr 8 0),(10,.i (o.getD i 0)),(11,.sl (.ints ((iStep s (ss.getD (Int.toNat ((h.getD (Int.toNat (o.getD i 0)) default).obj)) []) (h.getD (Int.toNat (o.getD i 0)) default)).1))),(12,.i ((iStep s (ss.getD (Int.toNat ((h.getD (Int.toNat (o.getD i 0)) default).obj)) []) (h.getD (Int.toNat (o.getD i 0)) default)).2)),(14,.sl (.ints o)),(15,.i (o.length : Int)),(16,.i ((i : Nat) : Int))],[(6,⟨53,.row (.intss ([[],[]] : List (List Int)))⟩),(8,⟨53,.row (.intss ss)⟩)],[6,8,999]⟩)
    (True ∧ True ∧ True ∧ (True ∧ True ∧ (0 ≤ (o.getD i 0)) ∧ ((o.getD i 0) < (h.length : Int))) ∧ True ∧ True ∧ (True ∧ True ∧ (0 ≤ ((h.getD (Int.toNat (o.getD i 0)) default).obj)) ∧ (((h.getD (Int.toNat (o.getD i 0)) default).obj) < 2)) ∧ (True ∧ ((Int.toNat ((h.getD (Int.toNat (o.getD i 0)) default).obj)) < ss.length)) ∧ True ∧ True ∧ (True ∧ True ∧ (0 ≤ (o.getD i 0)) ∧ ((o.getD i 0) < (h.length : Int))) ∧ True ∧ (True ∧ (True ∧ True ∧ True ∧ True) ∧ (∀ j,j < (ss.getD (Int.toNat ((h.getD (Int.toNat (o.getD i 0)) default).obj)) []).length → 0 ≤ (ss.getD (Int.toNat ((h.getD (Int.toNat (o.getD i 0)) default).obj)) []).getD j 0 ∧ (ss.getD (Int.toNat ((h.getD (Int.toNat (o.getD i 0)) default).obj)) []).getD j 0 ≤ 20) ∧ (0 ≤ (h.getD (Int.toNat (o.getD i 0)) default).arg ∧ (h.getD (Int.toNat (o.getD i 0)) default).arg ≤ 3) ∧ ((ss.getD (Int.toNat ((h.getD (Int.toNat (o.getD i 0)) default).obj)) []).length ≤ 20)) ∧ True ∧ True ∧ True ∧ True ∧ True ∧ True) (by kernel_rfl) (by kernel_rfl)
    ⟨tt,tt,tt,⟨tt,tt,(by (first | omega | (simp only [List.length_append,List.length_cons,List.length_nil,List.length_take,List.length_drop,List.length_set,List.length_replicate,List.length_map] at *; omega) | assumption)),(by have hh := hcl (by omega); omega)⟩,tt,tt,⟨tt,tt,(by have hh := hcl (by omega); omega),(by have hh := hcl (by omega); omega)⟩,⟨tt,(by have hh := hcl (by omega); omega)⟩,tt,tt,⟨tt,tt,(by (first | omega | (simp only [List.length_append,List.length_cons,List.length_nil,List.length_take,List.length_drop,List.length_set,List.length_replicate,List.length_map] at *; omega) | assumption)),(by have hh := hcl (by omega); omega)⟩,tt,⟨tt,⟨tt,tt,tt,tt⟩,(by have hh := (sts_at hs hv ho (i := i) (by omega) (by omega)).2.2; unfold ordAt callAt at hh; rw [hss]; intro j hj; have := hh _ (getD_mem _ 0 hj); omega),(by have hh := hcl (by omega); omega),(by have hh := (sts_at hs hv ho (i := i) (by omega) (by omega)).2.1; unfold ordAt callAt at hh; rw [hss]; omega)⟩,tt,tt,tt,tt,tt,tt⟩ ?_
   refine W.seq ?_
   refine W.K cok tab41 hnt [] [0,1,6,8,10,11,14,15,16,42] (⟨[(0,.v (.string s)),(1,.sl (.calls h)),(6,.ptr 6 0),(8,.ptr 8 0),(10,.i (o.getD i 0)),(11,.sl (.ints ((iStep s (ss.getD (Int.toNat ((h.getD (Int.toNat (o.getD i 0)) default).obj)) []) (h.getD (Int.toNat (o.getD i 0)) default)).1))),(14,.sl (.ints o)),(15,.i (o.length : Int)),(16,.i ((i : Nat) : Int)),(42,.b (decide (((iStep s (ss.getD (Int.toNat ((h.getD (Int.toNat (o.getD i 0)) default).obj)) []) (h.getD (Int.toNat (o.getD i 0)) default)).2) ≠ ((h.getD (Int.toNat (o.getD i 0)) default).ret))))],[(6,⟨53,.row (.intss ([[],[]] : List (List Int)))⟩),(8,⟨53,.row (.intss ss)⟩)],[6,8,999]⟩)
    (True ∧ True ∧ True ∧ (True ∧ True ∧ (0 ≤ (o.getD i 0)) ∧ ((o.getD i 0) < (h.length : Int))) ∧ True ∧ True ∧ (True ∧ True ∧ True) ∧ True) (by kernel_rfl)
    ⟨tt,tt,tt,⟨tt,tt,(by (first | omega | (simp only [List.length_append,List.length_cons,List.length_nil,List.length_take,List.length_drop,List.length_set,List.length_replicate,List.length_map] at *; omega) | assumption)),(by have hh := hcl (by omega); omega)⟩,tt,tt,⟨tt,tt,tt⟩,tt⟩ ?_
   refine W.ifP (((iStep s (ss.getD (Int.toNat ((h.getD (Int.toNat (o.getD i 0)) default).obj)) []) (h.getD (Int.toNat (o.getD i 0)) default)).2) ≠ ((h.getD (Int.toNat (o.getD i 0)) default).ret)) (.b (decide (((iStep s (ss.getD (Int.toNat ((h.getD (Int.toNat (o.getD i 0)) default).obj)) []) (h.getD (Int.toNat (o.getD i 0)) default)).2) ≠ ((h.getD (Int.toNat (o.getD i 0)) default).ret)))) (by kernel_rfl) rfl trivial ?_ ?_
   ·intro h42
    refine W.K cok tab41 hnt [] [6,7] (⟨[(6,.ptr 6 0),(7,.b false)],[(6,⟨53,.row (.intss ([ss.getD 0 [],ss.getD 1 []]))⟩),(8,⟨53,.row (.intss ss)⟩)],[6,8,999]⟩)
     ((True ∧ (ss.length = 2)) ∧ (True ∧ True ∧ ((List.length ([[],[]] : List (List Int))) = 2)) ∧ True ∧ True) (by kernel_rfl)
     ⟨⟨tt,(by first | exact hsl | rfl | (rw [List.length_set]; exact hsl))⟩,⟨tt,tt,(by first | exact hsl | rfl | (rw [List.length_set]; exact hsl))⟩,tt,tt⟩ ?_
    refine W.ret (thenQ_ret (blockQ_ret (thenQ_ret (thenQ_ret (blockQ_ret (thenQ_ret ?_))))))
    exact endQ_ret (.tup [.agg [.sl (.ints (List.getD ([ss.getD 0 [],ss.getD 1 []]) 0 [])),.sl (.ints (List.getD ([ss.getD 0 [],ss.getD 1 []]) 1 []))],.b false]) (by kernel_rfl) (@cast ((((.ints (List.getD ([ss.getD 0 [],ss.getD 1 []]) 0 []) : Dat) = .ints (List.getD ((playedR s h o).1) 0 [])) ∧ (((.ints (List.getD ([ss.getD 0 [],ss.getD 1 []]) 1 []) : Dat) = .ints (List.getD ((playedR s h o).1) 1 [])) ∧ True)) ∧ (((.bool false : Value) = .bool ((playedR s h o).2)) ∧ True)) _ (by kernel_rfl) ⟨⟨(congrArg Dat.ints (by rw [played_no (i := i) (by omega) (fun j hj => hA j hj) (by have h9 := (hst (by omega)).2; rw [hss] at h42; rw [← h9]; exact decide_eq_false (by omega))] <;> (subst hss; rfl))),(congrArg Dat.ints (by rw [played_no (i := i) (by omega) (fun j hj => hA j hj) (by have h9 := (hst (by omega)).2; rw [hss] at h42; rw [← h9]; exact decide_eq_false (by omega))] <;> (subst hss; rfl))),tt⟩,(congrArg Value.bool (by rw [played_no (i := i) (by omega) (fun j hj => hA j hj) (by have h9 := (hst (by omega)).2; rw [hss] at h42; rw [← h9]; exact decide_eq_false (by omega))] <;> (subst hss; rfl))),tt⟩)
   ·intro n42
    refine W.skip (thenQ_normal ?_)
    refine W.L cok tab41 hnt [] (⟨[(0,.v (.string s)),(1,.sl (.calls h)),(6,.ptr 6 0),(8,.ptr 8 0),(10,.i (o.getD i 0)),(11,.sl (.ints ((iStep s (ss.getD (Int.toNat ((h.getD (Int.toNat (o.getD i 0)) default).obj)) []) (h.getD (Int.toNat (o.getD i 0)) default)).1))),(14,.sl (.ints o)),(15,.i (o.length : Int)),(16,.i ((i : Nat) : Int)),(42,.b (decide (((iStep s (ss.getD (Int.toNat ((h.getD (Int.toNat (o.getD i 0)) default).obj)) []) (h.getD (Int.toNat (o.getD i 0)) default)).2) ≠ ((h.getD (Int.toNat (o.getD i 0)) default).ret)))),(44,.sl (.calls h)),(45,.i (o.getD i 0)),(46,.ep [.i ((h.getD (Int.toNat (o.getD i 0)) default).proc),.i ((h.getD (Int.toNat (o.getD i 0)) default).obj),.i ((h.getD (Int.toNat (o.getD i 0)) default).kind),.i ((h.getD (Int.toNat (o.getD i 0)) default).arg),.i ((h.getD (Int.toNat (o.getD i 0)) default).ret),.i ((h.getD (Int.toNat (o.getD i 0)) default).frm),.i ((h.getD (Int.toNat (o.getD i 0)) default).to)]),(47,.ep [.i ((h.getD (Int.toNat (o.getD i 0)) default).obj),.i ((h.getD (Int.toNat (o.getD i 0)) default).kind),.i ((h.getD (Int.toNat (o.getD i 0)) default).arg),.i ((h.getD (Int.toNat (o.getD i 0)) default).ret),.i ((h.getD (Int.toNat (o.getD i 0)) default).frm),.i ((h.getD (Int.toNat (o.getD i 0)) default).to)]),(48,.i ((h.getD (Int.toNat (o.getD i 0)) default).obj)),(49,.sl (.ints ((iStep s (ss.getD (Int.toNat ((h.getD (Int.toNat (o.getD i 0)) default).obj)) []) (h.getD (Int.toNat (o.getD i 0)) default)).1))),(50,.pel 8 1 (Int.toNat ((h.getD (Int.toNat (o.getD i 0)) default).obj)) 0)],[(6,⟨53,.row (.intss ([[],[]] : List (List Int)))⟩),(8,⟨53,.row (.intss (List.set ss (Int.toNat ((h.getD (Int.toNat (o.getD i 0)) default).obj)) ((iStep s (ss.getD (Int.toNat ((h.getD (Int.toNat (o.getD i 0)) default).obj)) []) (h.getD (Int.toNat (o.getD i 0)) default)).1)))⟩)],[6,8,999]⟩)
     (True ∧ True ∧ (True ∧ True ∧ (0 ≤ (o.getD i 0)) ∧ ((o.getD i 0) < (h.length : Int))) ∧ True ∧ True ∧ True ∧ (True ∧ True ∧ (0 ≤ ((h.getD (Int.toNat (o.getD i 0)) default).obj)) ∧ (((h.getD (Int.toNat (o.getD i 0)) default).obj) < 2)) ∧ (True ∧ True ∧ ((Int.toNat ((h.getD (Int.toNat (o.getD i 0)) default).obj)) < ss.length)) ∧ True) (by kernel_rfl)
     ⟨tt,tt,⟨tt,tt,(by (first | omega | (simp only [List.length_append,List.length_cons,List.length_nil,List.length_take,List.length_drop,List.length_set,List.length_replicate,List.length_map] at *; omega) | assumption)),(by have hh := hcl (by omega); omega)⟩,tt,tt,tt,⟨tt,tt,(by have hh := hcl (by omega); omega),(by have hh := hcl (by omega); omega)⟩,⟨tt,tt,(by have hh := hcl (by omega); omega)⟩,tt⟩ ?_
    refine blockQ_normal (thenQ_normal ?_)
    refine W.L cok tab41 hnt [] (⟨[(0,.v (.string s)),(1,.sl (.calls h)),(6,.ptr 6 0),(8,.ptr 8 0),(10,.i (o.getD i 0)),(11,.sl (.ints ((iStep s (ss.getD (Int.toNat ((h.getD (Int.toNat (o.getD i 0)) default).obj)) []) (h.getD (Int.toNat (o.getD i 0)) default)).1))),(14,.sl (.ints o)),(15,.i (o.length : Int)),(16,.i (((i + 1) : Nat) : Int)),(42,.b (decide (((iStep s (ss.getD (Int.toNat ((h.getD (Int.toNat (o.getD i 0)) default).obj)) []) (h.getD (Int.toNat (o.getD i 0)) default)).2) ≠ ((h.getD (Int.toNat (o.getD i 0)) default).ret)))),(44,.sl (.calls h)),(45,.i (o.getD i 0)),(46,.ep [.i ((h.getD (Int.toNat (o.getD i 0)) default).proc),.i ((h.getD (Int.toNat (o.getD i 0)) default).obj),.i ((h.getD (Int.toNat (o.getD i 0)) default).kind),.i ((h.getD (Int.toNat (o.getD i 0)) default).arg),.i ((h.getD (Int.toNat (o.getD i 0)) default).ret),.i ((h.getD (Int.toNat (o.getD i 0)) default).frm),.i ((h.getD (Int.toNat (o.getD i 0)) default).to)]),(47,.ep [.i ((h.getD (Int.toNat (o.getD i 0)) default).obj),.i ((h.getD (Int.toNat (o.getD i 0)) default).kind),.i ((h.getD (Int.toNat (o.getD i 0)) default).arg),.i ((h.getD (Int.toNat (o.getD i 0)) default).ret),.i ((h.getD (Int.toNat (o.getD i 0)) default).frm),.i ((h.getD (Int.toNat (o.getD i 0)) default).to)]),(48,.i ((h.getD (Int.toNat (o.getD i 0)) default).obj)),(49,.sl (.ints ((iStep s (ss.getD (Int.toNat ((h.getD (Int.toNat (o.getD i 0)) default).obj)) []) (h.getD (Int.toNat (o.getD i 0)) default)).1))),(50,.pel 8 1 (Int.toNat ((h.getD (Int.toNat (o.getD i 0)) default).obj)) 0),(51,.i (((i + 1) : Nat) : Int))],[(6,⟨53,.row (.intss ([[],[]] : List (List Int)))⟩),(8,⟨53,.row (.intss (List.set ss (Int.toNat ((h.getD (Int.toNat (o.getD i 0)) default).obj)) ((iStep s (ss.getD (Int.toNat ((h.getD (Int.toNat (o.getD i 0)) default).obj)) []) (h.getD (Int.toNat (o.getD i 0)) default)).1)))⟩)],[6,8,999]⟩)
     ((True ∧ True ∧ (Fits .i64 (((i + 1) : Nat) : Int))) ∧ True ∧ True) (by kernel_rfl)
     ⟨⟨tt,tt,(by exact fits_i64 (by omega) (by omega))⟩,tt,tt⟩ ?_
    refine thenQ_normal ?_
    refine ⟨((i + 1),(List.set ss (Int.toNat ((h.getD (Int.toNat (o.getD i 0)) default).obj)) ((iStep s (ss.getD (Int.toNat ((h.getD (Int.toNat (o.getD i 0)) default).obj)) []) (h.getD (Int.toNat (o.getD i 0)) default)).1))),(show ((i + 1) ≤ o.length) ∧ ((List.set ss (Int.toNat ((h.getD (Int.toNat (o.getD i 0)) default).obj)) ((iStep s (ss.getD (Int.toNat ((h.getD (Int.toNat (o.getD i 0)) default).obj)) []) (h.getD (Int.toNat (o.getD i 0)) default)).1)) = sts s h o (i + 1)) ∧ (∀ j,j < (i + 1) → okAt s h o j = true) from ⟨(by first | assumption | omega | rfl | (intro _ hjj; omega) | (simp; done) | (simp; omega)),(by rw [hss,(hst (by omega)).1]; rfl),(by exact upto_succ hA (by have h9 := (hst (by omega)).2; rw [hss] at n42; rw [← h9]; exact decide_eq_true (by omega)))⟩),(show o.length - (i + 1) < o.length - i from (by first | omega | (simp_all; omega))),?_⟩
    exact Sub.of [] (@cast (((((.string s) : Value) = (.string s)) ∧ (((.calls h : Dat) = .calls h) ∧ ((((6 : Nat) = 6) ∧ (((0 : Nat) = 0) ∧ ((6 : Nat) ∈ ([6,8,999] : List Nat)))) ∧ ((((8 : Nat) = 8) ∧ (((0 : Nat) = 0) ∧ ((8 : Nat) ∈ ([6,8,999] : List Nat)))) ∧ (((.ints o : Dat) = .ints o) ∧ (((.int .i64 (o.length : Int) : Value) = .int .i64 (o.length : Int)) ∧ (((.int .i64 (((i + 1) : Nat) : Int) : Value) = .int .i64 (((i + 1) : Nat) : Int)) ∧ True))))))) ∧ (((((53 : Nat) = 53) ∧ (((.intss ([[],[]] : List (List Int)) : Dat) = .intss ([[],[]] : List (List Int))) ∧ ((6 : Nat) ∈ ([6,8,999] : List Nat)))) ∧ ((((53 : Nat) = 53) ∧ (((.intss (List.set ss (Int.toNat ((h.getD (Int.toNat (o.getD i 0)) default).obj)) ((iStep s (ss.getD (Int.toNat ((h.getD (Int.toNat (o.getD i 0)) default).obj)) []) (h.getD (Int.toNat (o.getD i 0)) default)).1)) : Dat) = .intss (List.set ss (Int.toNat ((h.getD (Int.toNat (o.getD i 0)) default).obj)) ((iStep s (ss.getD (Int.toNat ((h.getD (Int.toNat (o.getD i 0)) default).obj)) []) (h.getD (Int.toNat (o.getD i 0)) default)).1))) ∧ ((8 : Nat) ∈ ([6,8,999] : List Nat)))) ∧ True)) ∧ ((true = true) ∧ (true = true)))) _ (by kernel_rfl) ⟨⟨rfl,rfl,⟨rfl,rfl,(by decide)⟩,⟨rfl,rfl,(by decide)⟩,rfl,rfl,rfl,tt⟩,⟨⟨rfl,rfl,(by decide)⟩,⟨rfl,rfl,(by decide)⟩,tt⟩,rfl,rfl⟩)
  ·intro n17
   refine W.exit (thenQ_exit (thenQ_exit (blockQ_hit ?_)))
   refine thenQ_normal ?_
   refine W.K cok tab41 hnt [] [6,7] (⟨[(6,.ptr 6 0),(7,.b true)],[(6,⟨53,.row (.intss ([ss.getD 0 [],ss.getD 1 []]))⟩),(8,⟨53,.row (.intss ss)⟩)],[6,8,999]⟩)
    ((True ∧ (ss.length = 2)) ∧ (True ∧ True ∧ ((List.length ([[],[]] : List (List Int))) = 2)) ∧ True ∧ True) (by kernel_rfl)
    ⟨⟨tt,(by first | exact hsl | rfl | (rw [List.length_set]; exact hsl))⟩,⟨tt,tt,(by first | exact hsl | rfl | (rw [List.length_set]; exact hsl))⟩,tt,tt⟩ ?_
   refine W.ret ?_
   exact endQ_ret (.tup [.agg [.sl (.ints (List.getD ([ss.getD 0 [],ss.getD 1 []]) 0 [])),.sl (.ints (List.getD ([ss.getD 0 [],ss.getD 1 []]) 1 []))],.b true]) (by kernel_rfl) (@cast ((((.ints (List.getD ([ss.getD 0 [],ss.getD 1 []]) 0 []) : Dat) = .ints (List.getD ((playedR s h o).1) 0 [])) ∧ (((.ints (List.getD ([ss.getD 0 [],ss.getD 1 []]) 1 []) : Dat) = .ints (List.getD ((playedR s h o).1) 1 [])) ∧ True)) ∧ (((.bool true : Value) = .bool ((playedR s h o).2)) ∧ True)) _ (by kernel_rfl) ⟨⟨(congrArg Dat.ints (by rw [played_yes (fun j hj => hA j (by omega))] <;> (subst hss; rw [show i = o.length by omega]; rfl))),(congrArg Dat.ints (by rw [played_yes (fun j hj => hA j (by omega))] <;> (subst hss; rw [show i = o.length by omega]; rfl))),tt⟩,(congrArg Value.bool (by rw [played_yes (fun j hj => hA j (by omega))] <;> (subst hss; rw [show i = o.length by omega]; rfl))),tt⟩)
theorem ent41 : Entr prog 41 := ⟨_,func41,rfl,by decide⟩
end Go.Proofs.Try

set_option linter.unusedSimpArgs false
set_option linter.unusedVariables false
namespace Go.Proofs.Try
open Go.Ab Go.RowKit
def fs10 : FnS := fnS [.o,.s .calls,.s .ints] [.str,.calls,.ints] (fun _ (s,h,o,_) => (.b (rightB s h o),[],True))
abbrev T10 : Tab := lk [(12,fs12),(39,fs39),(40,fs40),(41,fs41)]
theorem tab10 : TabOK prog T10 := (TabOK.cons ok12 ent12 (TabOK.cons ok39 ent39 (TabOK.cons ok40 ent40 (TabOK.cons ok41 ent41 TabOK.nil))))
set_option maxRecDepth 100000 in
set_option maxHeartbeats 1000000 in
theorem ok10 : FnOK prog 10 fs10 := by
 refine FnOK.mk cok func10 rfl rfl rfl ?_
 rintro fl ⟨(s : ByteArray),(h : List CallD),(o : List Int),_⟩ hpre F hnt0 _
 have hnt : F.nt = 32 := hnt0.trans ntmps10
 clear hpre
 refine W.to (⟨[(0,.v (.string s)),(1,.sl (.calls h)),(2,.sl (.ints o))],[],[999]⟩) rfl ?_
 refine W.lenOf 1 (.calls h) (by kernel_rfl) ?_
 intro hl_h; replace hl_h : List.length h ≤ 9223372036854775807 := hl_h
 refine W.lenOf 2 (.ints o) (by kernel_rfl) ?_
 intro hl_o; replace hl_o : List.length o ≤ 9223372036854775807 := hl_o
 refine W.K cok tab10 hnt [] [0,1,2] (⟨[(0,.v (.string s)),(1,.sl (.calls h)),(2,.sl (.ints o))],[],[999]⟩)
  (True ∧ True) (by kernel_rfl)
  ⟨tt,tt⟩ ?_
 refine W.seq ?_
 refine W.K cok tab10 hnt [] [0,1,2,23] (⟨[(0,.v (.string s)),(1,.sl (.calls h)),(2,.sl (.ints o)),(23,.b (((!(isObject s)) || (!(validHistory h))) || (!(isOrd o (h.length : Int)))))],[],[999]⟩)
  (True ∧ (True ∧ (True ∧ True) ∧ True) ∧ True ∧ True ∧ ((!(!(isObject s))) = true → True) ∧ ((!(!(isObject s))) = true → (True ∧ ((((!(!(isObject s))) = true) ∧ True) ∧ True) ∧ True)) ∧ ((!(!(isObject s))) = true → (((!(!(isObject s))) = true) ∧ True)) ∧ (True ∧ ((!(isObject s)) = true → True) ∧ ((!(isObject s)) = false → ((!(!(isObject s))) = true) ∧ True)) ∧ True ∧ ((!((!(isObject s)) || (!(validHistory h)))) = true → True) ∧ ((!((!(isObject s)) || (!(validHistory h)))) = true → True) ∧ ((!((!(isObject s)) || (!(validHistory h)))) = true → (((!((!(isObject s)) || (!(validHistory h)))) = true) ∧ True)) ∧ ((!((!(isObject s)) || (!(validHistory h)))) = true → (True ∧ ((((!((!(isObject s)) || (!(validHistory h)))) = true) ∧ True) ∧ (((!((!(isObject s)) || (!(validHistory h)))) = true) ∧ True) ∧ True) ∧ 0 ≤ (h.length : Int) ∧ (h.length : Int) ≤ 9223372036854775807)) ∧ ((!((!(isObject s)) || (!(validHistory h)))) = true → (((!((!(isObject s)) || (!(validHistory h)))) = true) ∧ True)) ∧ (True ∧ (((!(isObject s)) || (!(validHistory h))) = true → True) ∧ (((!(isObject s)) || (!(validHistory h))) = false → ((!((!(isObject s)) || (!(validHistory h)))) = true) ∧ True)) ∧ True) (by kernel_rfl)
  ⟨tt,⟨tt,⟨tt,tt⟩,tt⟩,tt,tt,(fun _ => trivial),(fun hG => ⟨tt,⟨⟨hG,tt⟩,tt⟩,tt⟩),(fun hG => ⟨hG,tt⟩),⟨tt,(fun _ => trivial),(fun hp => ⟨(not_t hp),tt⟩)⟩,tt,(fun _ => trivial),(fun _ => trivial),(fun hG => ⟨hG,tt⟩),(fun hG => ⟨tt,⟨⟨hG,tt⟩,⟨hG,tt⟩,tt⟩,(by omega)⟩),(fun hG => ⟨hG,tt⟩),⟨tt,(fun _ => trivial),(fun hp => ⟨(not_t hp),tt⟩)⟩,tt⟩ ?_
 refine W.if' (((!(isObject s)) || (!(validHistory h))) || (!(isOrd o (h.length : Int)))) (.b (((!(isObject s)) || (!(validHistory h))) || (!(isOrd o (h.length : Int))))) (by kernel_rfl) rfl trivial ?_ ?_
 ·intro h23
  refine W.K cok tab10 hnt [] [6] (⟨[(6,.b false)],[],[999]⟩)
   (True ∧ True) (by kernel_rfl)
   ⟨tt,tt⟩ ?_
  refine W.ret (thenQ_ret ?_)
  exact endQ_ret (.b false) (by kernel_rfl) (@cast ((.bool false : Value) = .bool (rightB s h o)) _ (by kernel_rfl) (congrArg Value.bool (by exact (right_no h23).symm)))
 ·intro n23
  refine W.skip (thenQ_normal ?_)
  refine W.K cok tab10 hnt [] [8] (⟨[(8,.b ((playedR s h o).2))],[(7,⟨53,.row (.intss ([List.getD ((playedR s h o).1) 0 [],List.getD ((playedR s h o).1) 1 []]))⟩)],[7,999]⟩)
   (True ∧ True ∧ True ∧ (True ∧ (True ∧ True ∧ True ∧ True) ∧ (isObject s = true) ∧ (validHistory h = true) ∧ (inH h o) ∧ (o.length ≤ 6)) ∧ True ∧ True ∧ True ∧ True ∧ (True ∧ True ∧ ((List.length ([[],[]] : List (List Int))) = 2)) ∧ True ∧ True) (by kernel_rfl)
   ⟨tt,tt,tt,⟨tt,⟨tt,tt,tt,tt⟩,(by exact not_g (or_l (or_l n23))),(by exact not_g (or_r (or_l n23))),(by exact ord_inH (not_g (or_r n23))),(by have h1 := (isOrd_len (not_g (or_r n23))); have h2 := (valid_iff.1 (not_g (or_r (or_l n23)))).1; omega)⟩,tt,tt,tt,tt,⟨tt,tt,(by first | rfl | assumption | omega)⟩,tt,tt⟩ ?_
  refine W.K cok tab10 hnt [] [6] (⟨[(6,.b ((playedR s h o).2))],[(7,⟨53,.row (.intss ([List.getD ((playedR s h o).1) 0 [],List.getD ((playedR s h o).1) 1 []]))⟩)],[7,999]⟩)
   (True ∧ True ∧ True) (by kernel_rfl)
   ⟨tt,tt,tt⟩ ?_
  refine W.ret ?_
  exact endQ_ret (.b ((playedR s h o).2)) (by kernel_rfl) (@cast ((.bool ((playedR s h o).2) : Value) = .bool (rightB s h o)) _ (by kernel_rfl) (congrArg Value.bool (by exact (right_played (not_g (or_l (or_l n23))) (not_g (or_r (or_l n23))) (not_g (or_r n23))))))
theorem ent10 : Entr prog 10 := ⟨_,func10,rfl,by decide⟩
end Go.Proofs.Try

set_option linter.unusedSimpArgs false
set_option linter.unusedVariables false
namespace Go.Proofs.Try
open Go.Ab Go.RowKit
def pre36 : List AV → List AV → Prop := preP [.bytes] [] (fun (code,_) _ => True)
def rel36 : RelS := relP [.bytes] [] (ι := (List UInt8)) (fun (code,_) _ l => True) (fun (code,_) _ l => (.ptr 0 0,[⟨69,.fix [.sl (.bytes l),.i (0 : Int)]⟩],[]))
abbrev T36 : Tab := lk []
theorem tab36 : TabOK prog T36 := TabOK.nil
set_option maxRecDepth 100000 in
set_option maxHeartbeats 1000000 in
theorem rok36 : RelOK prog 36 none [.s .bytes] pre36 rel36 := by
 refine RelOK.mk cok func36 rfl rfl rfl ?_
 rintro ⟨(code : List UInt8),_⟩ _ hpre F hnt0
 have hnt : F.nt = 11 := hnt0.trans ntmps36
 clear hpre
 refine W.to (⟨[(0,.sl (.bytes code))],[],[998,999]⟩) rfl ?_
 refine W.K cok tab36 hnt [] [0] (⟨[(0,.sl (.bytes code))],[],[998,999]⟩)
  (True ∧ True) (by kernel_rfl)
  ⟨tt,tt⟩ ?_
 refine W.seq ?_
 refine W.K cok tab36 hnt [] [0,5] (⟨[(0,.sl (.bytes code)),(5,.b (decide ((2000 : Int) < (code.length : Int))))],[],[998,999]⟩)
  (True ∧ True ∧ (True ∧ True ∧ True) ∧ True) (by kernel_rfl)
  ⟨tt,tt,⟨tt,tt,tt⟩,tt⟩ ?_
 refine W.ifP ((2000 : Int) < (code.length : Int)) (.b (decide ((2000 : Int) < (code.length : Int)))) (by kernel_rfl) rfl trivial ?_ ?_
 ·intro h5
  refine W.L cok tab36 hnt [] (⟨[(0,.sl (.bytes (List.take 2000 code))),(5,.b (decide ((2000 : Int) < (code.length : Int)))),(6,.sl (.bytes code)),(7,.sl (.bytes (List.take 2000 code)))],[],[998,999]⟩)
   (True ∧ (True ∧ True ∧ True ∧ (0 ≤ (0 : Int)) ∧ ((0 : Int) ≤ (2000 : Int)) ∧ ((2000 : Int) ≤ (code.length : Int))) ∧ True ∧ True) (by kernel_rfl)
   ⟨tt,⟨tt,tt,tt,(by omega),(by omega),(by omega)⟩,tt,tt⟩ ?_
  refine thenQ_normal ?_
  refine W.K cok tab36 hnt [] [2] (⟨[(2,.ptr 10 0)],[(10,⟨69,.fix [.sl (.bytes (List.take 2000 code)),.i (0 : Int)]⟩)],[10,998,999]⟩)
   (True ∧ (True ∧ True) ∧ True ∧ True ∧ True) (by kernel_rfl)
   ⟨tt,⟨tt,tt⟩,tt,tt,tt⟩ ?_
  refine W.ret ?_
  exact endP_ret ((List.take 2000 code)) (show True from trivial) [(0,10)] (.ptr 10 0) (by kernel_rfl) (@cast ((((10 : Nat) = 10) ∧ (((0 : Nat) = 0) ∧ ((0 : Nat) ∈ ([0] : List Nat)))) ∧ (((((69 : Nat) = 69) ∧ ((((.bytes (List.take 2000 code) : Dat) = .bytes (List.take 2000 code)) ∧ (((.int .i64 (0 : Int) : Value) = .int .i64 (0 : Int)) ∧ True)) ∧ ((0 : Nat) ∈ ([0] : List Nat)))) ∧ True) ∧ ((true = true) ∧ (((([] : List Nat) = []) ∧ True) ∧ (false = true → (10 : Nat) = 998))))) _ (by kernel_rfl) ⟨⟨rfl,rfl,(by decide)⟩,⟨⟨rfl,⟨rfl,rfl,tt⟩,(by decide)⟩,tt⟩,rfl,⟨rfl,tt⟩,(fun h => by cases h)⟩)
 ·intro n5
  refine W.skip (thenQ_normal ?_)
  refine W.K cok tab36 hnt [] [2] (⟨[(2,.ptr 10 0)],[(10,⟨69,.fix [.sl (.bytes code),.i (0 : Int)]⟩)],[10,998,999]⟩)
   (True ∧ (True ∧ True) ∧ True ∧ True ∧ True) (by kernel_rfl)
   ⟨tt,⟨tt,tt⟩,tt,tt,tt⟩ ?_
  refine W.ret ?_
  exact endP_ret (code) (show True from trivial) [(0,10)] (.ptr 10 0) (by kernel_rfl) (@cast ((((10 : Nat) = 10) ∧ (((0 : Nat) = 0) ∧ ((0 : Nat) ∈ ([0] : List Nat)))) ∧ (((((69 : Nat) = 69) ∧ ((((.bytes code : Dat) = .bytes code) ∧ (((.int .i64 (0 : Int) : Value) = .int .i64 (0 : Int)) ∧ True)) ∧ ((0 : Nat) ∈ ([0] : List Nat)))) ∧ True) ∧ ((true = true) ∧ (((([] : List Nat) = []) ∧ True) ∧ (false = true → (10 : Nat) = 998))))) _ (by kernel_rfl) ⟨⟨rfl,rfl,(by decide)⟩,⟨⟨rfl,⟨rfl,rfl,tt⟩,(by decide)⟩,tt⟩,rfl,⟨rfl,tt⟩,(fun h => by cases h)⟩)
theorem ent36 : Entr prog 36 := ⟨_,func36,rfl,by decide⟩
end Go.Proofs.Try

set_option linter.unusedSimpArgs false
set_option linter.unusedVariables false
namespace Go.Proofs.Try
open Go.Ab Go.RowKit
def pre68 : List AV → List AV → Prop := preP [.int] [.bytes,.int] (fun (n,_) (l,p,_) => (0 ≤ p ∧ p ≤ 1000000))
def rel68 : RelS := relP [.int] [.bytes,.int] (ι := Int × Int) (fun (n,_) (l,p,_) (v,q) => (0 ≤ v ∧ v < max n 1) ∧ (q = p + 1)) (fun (n,_) (l,p,_) (v,q) => (.i v,[],[.sl (.bytes l),.i q]))
abbrev T68 : Tab := lk []
theorem tab68 : TabOK prog T68 := TabOK.nil
set_option maxRecDepth 100000 in
set_option maxHeartbeats 1000000 in
theorem rok68 : RelOK prog 68 (some 69) [.o] pre68 rel68 := by
 refine RelOK.mk cok func68 rfl rfl rfl ?_
 rintro ⟨(n : Int),_⟩ ⟨(l : List UInt8),(p : Int),_⟩ hpre F hnt0
 have hnt : F.nt = 99 := hnt0.trans ntmps68
 replace hpre : (0 ≤ p ∧ p ≤ 1000000) := hpre
 have hp := hpre
 refine W.to (⟨[(0,.ptr 998 0),(1,.i n)],[(998,⟨69,.fix [.sl (.bytes l),.i p]⟩)],[998,999]⟩) rfl ?_
 have hu : ∀ i : Nat,((UInt8.toNat (l.getD i default) : Nat) : Int) ≤ 255 := fun i => by have := (l.getD i default).toNat_lt; omega
 refine W.K cok tab68 hnt [] [0,1] (⟨[(0,.ptr 998 0),(1,.i n)],[(998,⟨69,.fix [.sl (.bytes l),.i p]⟩)],[998,999]⟩)
  (True ∧ True) (by kernel_rfl)
  ⟨tt,tt⟩ ?_
 refine W.K cok tab68 hnt [] [0,1] (⟨[(0,.ptr 998 0),(1,.i n)],[(998,⟨69,.fix [.sl (.bytes l),.i (p + (1 : Int))]⟩)],[998,999]⟩)
  (True ∧ True ∧ True ∧ True ∧ True ∧ (True ∧ True ∧ (Fits .i64 (p + (1 : Int)))) ∧ True ∧ True ∧ (True ∧ True) ∧ True) (by kernel_rfl)
  ⟨tt,tt,tt,tt,tt,⟨tt,tt,(by exact fits_i64 (by omega) (by omega))⟩,tt,tt,⟨tt,tt⟩,tt⟩ ?_
 refine W.seq ?_
 refine W.K cok tab68 hnt [] [0,1,24] (⟨[(0,.ptr 998 0),(1,.i n),(24,.b ((decide (n < (1 : Int))) || (decide ((l.length : Int) = (0 : Int)))))],[(998,⟨69,.fix [.sl (.bytes l),.i (p + (1 : Int))]⟩)],[998,999]⟩)
  (True ∧ (True ∧ True ∧ True) ∧ True ∧ ((!(decide (n < (1 : Int)))) = true → True) ∧ ((!(decide (n < (1 : Int)))) = true → (((!(decide (n < (1 : Int)))) = true) ∧ True)) ∧ ((!(decide (n < (1 : Int)))) = true → (((!(decide (n < (1 : Int)))) = true) ∧ True)) ∧ ((!(decide (n < (1 : Int)))) = true → (((!(decide (n < (1 : Int)))) = true) ∧ True)) ∧ ((!(decide (n < (1 : Int)))) = true → (((!(decide (n < (1 : Int)))) = true) ∧ True)) ∧ ((!(decide (n < (1 : Int)))) = true → ((((!(decide (n < (1 : Int)))) = true) ∧ True) ∧ True ∧ True)) ∧ (True ∧ ((decide (n < (1 : Int))) = true → True) ∧ ((decide (n < (1 : Int))) = false → ((!(decide (n < (1 : Int)))) = true) ∧ True)) ∧ True) (by kernel_rfl)
  ⟨tt,⟨tt,tt,tt⟩,tt,(fun _ => trivial),(fun hG => ⟨hG,tt⟩),(fun hG => ⟨hG,tt⟩),(fun hG => ⟨hG,tt⟩),(fun hG => ⟨hG,tt⟩),(fun hG => ⟨⟨hG,tt⟩,tt,tt⟩),⟨tt,(fun _ => trivial),(fun hp => ⟨(not_t hp),tt⟩)⟩,tt⟩ ?_
 refine W.if' ((decide (n < (1 : Int))) || (decide ((l.length : Int) = (0 : Int)))) (.b ((decide (n < (1 : Int))) || (decide ((l.length : Int) = (0 : Int))))) (by kernel_rfl) rfl trivial ?_ ?_
 ·intro h24
  refine W.K cok tab68 hnt [] [4] (⟨[(4,.i (0 : Int))],[(998,⟨69,.fix [.sl (.bytes l),.i (p + (1 : Int))]⟩)],[998,999]⟩)
   (True ∧ True) (by kernel_rfl)
   ⟨tt,tt⟩ ?_
  refine W.ret (thenQ_ret ?_)
  exact endP_ret ((0 : Int),(p + (1 : Int))) (show (0 ≤ (0 : Int) ∧ (0 : Int) < max n 1) ∧ ((p + (1 : Int)) = p + 1) from ⟨(by omega),(by first | assumption | omega | rfl | (simp; done) | (simp; omega))⟩) [(0,998)] (.i (0 : Int)) (by kernel_rfl) (@cast (((.int .i64 (0 : Int) : Value) = .int .i64 (0 : Int)) ∧ (((((69 : Nat) = 69) ∧ ((((.bytes l : Dat) = .bytes l) ∧ (((.int .i64 (p + (1 : Int)) : Value) = .int .i64 (p + (1 : Int))) ∧ True)) ∧ ((0 : Nat) ∈ ([0] : List Nat)))) ∧ True) ∧ ((true = true) ∧ (((([] : List Nat) = []) ∧ True) ∧ (true = true → (998 : Nat) = 998))))) _ (by kernel_rfl) ⟨rfl,⟨⟨rfl,⟨rfl,rfl,tt⟩,(by decide)⟩,tt⟩,rfl,⟨rfl,tt⟩,(fun _ => rfl)⟩)
 ·intro n24
  have n24_0 : ¬ (n < (1 : Int)) := of_decide_eq_false (or_l n24)
  have n24_1 : ¬ ((l.length : Int) = (0 : Int)) := of_decide_eq_false (or_r n24)
  refine W.skip (thenQ_normal ?_)
  refine W.K cok tab68 hnt [] [0,1,5] (⟨[(0,.ptr 998 0),(1,.i n),(5,.i ((p + (1 : Int)) - (1 : Int)))],[(998,⟨69,.fix [.sl (.bytes l),.i (p + (1 : Int))]⟩)],[998,999]⟩)
   (True ∧ True ∧ True ∧ True ∧ (True ∧ True ∧ (Fits .i64 ((p + (1 : Int)) - (1 : Int)))) ∧ True ∧ True) (by kernel_rfl)
   ⟨tt,tt,tt,tt,⟨tt,tt,(by exact fits_i64 (by omega) (by omega))⟩,tt,tt⟩ ?_
  refine W.seq ?_
  refine W.K cok tab68 hnt [] [0,1,5,36] (⟨[(0,.ptr 998 0),(1,.i n),(5,.i ((p + (1 : Int)) - (1 : Int))),(36,.b (decide (((p + (1 : Int)) - (1 : Int)) < (l.length : Int))))],[(998,⟨69,.fix [.sl (.bytes l),.i (p + (1 : Int))]⟩)],[998,999]⟩)
   (True ∧ True ∧ True ∧ True ∧ True ∧ True ∧ (True ∧ True ∧ True) ∧ True) (by kernel_rfl)
   ⟨tt,tt,tt,tt,tt,tt,⟨tt,tt,tt⟩,tt⟩ ?_
  refine W.ifP (((p + (1 : Int)) - (1 : Int)) < (l.length : Int)) (.b (decide (((p + (1 : Int)) - (1 : Int)) < (l.length : Int)))) (by kernel_rfl) rfl trivial ?_ ?_
  ·intro h36
   have hu1 := hu (Int.toNat (p + 1 - 1))
   refine W.K cok tab68 hnt [] [4] (⟨[(4,.i (Int.tmod (((UInt8.toNat (l.getD (Int.toNat ((p + (1 : Int)) - (1 : Int))) default)) : Nat) : Int) n))],[(998,⟨69,.fix [.sl (.bytes l),.i (p + (1 : Int))]⟩)],[998,999]⟩)
    (True ∧ True ∧ True ∧ True ∧ True ∧ (True ∧ True ∧ (0 ≤ ((p + (1 : Int)) - (1 : Int))) ∧ (((p + (1 : Int)) - (1 : Int)) < (l.length : Int))) ∧ True ∧ (True ∧ (Fits .i64 (((UInt8.toNat (l.getD (Int.toNat ((p + (1 : Int)) - (1 : Int))) default)) : Nat) : Int))) ∧ True ∧ (True ∧ True ∧ (n ≠ 0)) ∧ True ∧ True) (by kernel_rfl)
    ⟨tt,tt,tt,tt,tt,⟨tt,tt,(by omega),(by omega)⟩,tt,⟨tt,(by exact fits_i64 (by (first | omega | (simp only [List.length_append,List.length_cons,List.length_nil,List.length_take,List.length_drop,List.length_set,List.length_replicate,List.length_map] at *; omega) | assumption)) (by (first | omega | (simp only [List.length_append,List.length_cons,List.length_nil,List.length_take,List.length_drop,List.length_set,List.length_replicate,List.length_map] at *; omega) | assumption)))⟩,tt,⟨tt,tt,(by omega)⟩,tt,tt⟩ ?_
   refine W.ret (thenQ_ret ?_)
   exact endP_ret ((Int.tmod (((UInt8.toNat (l.getD (Int.toNat ((p + (1 : Int)) - (1 : Int))) default)) : Nat) : Int) n),(p + (1 : Int))) (show (0 ≤ (Int.tmod (((UInt8.toNat (l.getD (Int.toNat ((p + (1 : Int)) - (1 : Int))) default)) : Nat) : Int) n) ∧ (Int.tmod (((UInt8.toNat (l.getD (Int.toNat ((p + (1 : Int)) - (1 : Int))) default)) : Nat) : Int) n) < max n 1) ∧ ((p + (1 : Int)) = p + 1) from ⟨(by exact ⟨Int.tmod_nonneg _ (by omega),by have := Int.tmod_lt_of_pos ((UInt8.toNat (l.getD (Int.toNat (p + 1 - 1)) default) : Nat) : Int) (show 0 < n by omega); omega⟩),(by first | assumption | omega | rfl | (simp; done) | (simp; omega))⟩) [(0,998)] (.i (Int.tmod (((UInt8.toNat (l.getD (Int.toNat ((p + (1 : Int)) - (1 : Int))) default)) : Nat) : Int) n)) (by kernel_rfl) (@cast (((.int .i64 (Int.tmod (((UInt8.toNat (l.getD (Int.toNat ((p + (1 : Int)) - (1 : Int))) default)) : Nat) : Int) n) : Value) = .int .i64 (Int.tmod (((UInt8.toNat (l.getD (Int.toNat ((p + (1 : Int)) - (1 : Int))) default)) : Nat) : Int) n)) ∧ (((((69 : Nat) = 69) ∧ ((((.bytes l : Dat) = .bytes l) ∧ (((.int .i64 (p + (1 : Int)) : Value) = .int .i64 (p + (1 : Int))) ∧ True)) ∧ ((0 : Nat) ∈ ([0] : List Nat)))) ∧ True) ∧ ((true = true) ∧ (((([] : List Nat) = []) ∧ True) ∧ (true = true → (998 : Nat) = 998))))) _ (by kernel_rfl) ⟨rfl,⟨⟨rfl,⟨rfl,rfl,tt⟩,(by decide)⟩,tt⟩,rfl,⟨rfl,tt⟩,(fun _ => rfl)⟩)
  ·intro n36
   refine W.skip (thenQ_normal ?_)
   have hl0 : 0 < (List.length l : Int) := by omega
   have hm1 := Int.tmod_lt_of_pos (p + 1 - 1) hl0
   have hm2 := Int.tmod_nonneg (List.length l : Int) (show 0 ≤ p + 1 - 1 by omega)
   have hm3 := Int.tmod_lt_of_pos ((p + 1 - 1) * 7 + 3) hl0
   have hm4 := Int.tmod_nonneg (List.length l : Int) (show 0 ≤ (p + 1 - 1) * 7 + 3 by omega)
   have hd1 : 0 ≤ Int.tdiv (p + 1 - 1) (List.length l : Int) := Int.tdiv_nonneg (by omega) (by omega)
   have hd2 : Int.tdiv (p + 1 - 1) (List.length l : Int) ≤ p + 1 - 1 := Int.tdiv_le_self _ (by omega)
   have hu2 := hu (Int.toNat (Int.tmod (p + 1 - 1) (List.length l : Int)))
   have hu3 := hu (Int.toNat (Int.tmod ((p + 1 - 1) * 7 + 3) (List.length l : Int)))
   refine W.KA cok tab68 hnt [] [1,6] (⟨[(1,.i n),(6,.i (((((((UInt8.toNat (l.getD (Int.toNat (Int.tmod ((p + (1 : Int)) - (1 : Int)) (l.length : Int))) default)) : Nat) : Int) * (131 : Int)) + ((((UInt8.toNat (l.getD (Int.toNat (Int.tmod ((((p + (1 : Int)) - (1 : Int)) * (7 : Int)) + (3 : Int)) (l.length : Int))) default)) : Nat) : Int) * (1117 : Int))) + (((p + (1 : Int)) - (1 : Int)) * (29 : Int))) + ((Int.tdiv ((p + (1 : Int)) - (1 : Int)) (l.length : Int)) * (53 : Int))))],[(998,⟨69,.fix [.sl (.bytes l),.i (p + (1 : Int))]⟩)],[998,999]⟩)
    (True ∧ True ∧ True ∧ True ∧ True ∧ True ∧ True ∧ True ∧ True ∧ True ∧ (True ∧ True ∧ ((l.length : Int) ≠ 0)) ∧ (True ∧ True ∧ (0 ≤ (Int.tmod ((p + (1 : Int)) - (1 : Int)) (l.length : Int))) ∧ ((Int.tmod ((p + (1 : Int)) - (1 : Int)) (l.length : Int)) < (l.length : Int))) ∧ True ∧ (True ∧ (Fits .i64 (((UInt8.toNat (l.getD (Int.toNat (Int.tmod ((p + (1 : Int)) - (1 : Int)) (l.length : Int))) default)) : Nat) : Int))) ∧ (True ∧ True ∧ (Fits .i64 ((((UInt8.toNat (l.getD (Int.toNat (Int.tmod ((p + (1 : Int)) - (1 : Int)) (l.length : Int))) default)) : Nat) : Int) * (131 : Int)))) ∧ True ∧ True ∧ True ∧ True ∧ True ∧ (True ∧ True ∧ (Fits .i64 (((p + (1 : Int)) - (1 : Int)) * (7 : Int)))) ∧ (True ∧ True ∧ (Fits .i64 ((((p + (1 : Int)) - (1 : Int)) * (7 : Int)) + (3 : Int)))) ∧ True ∧ True ∧ True ∧ True ∧ True ∧ (True ∧ True ∧ ((l.length : Int) ≠ 0)) ∧ (True ∧ True ∧ (0 ≤ (Int.tmod ((((p + (1 : Int)) - (1 : Int)) * (7 : Int)) + (3 : Int)) (l.length : Int))) ∧ ((Int.tmod ((((p + (1 : Int)) - (1 : Int)) * (7 : Int)) + (3 : Int)) (l.length : Int)) < (l.length : Int))) ∧ True ∧ (True ∧ (Fits .i64 (((UInt8.toNat (l.getD (Int.toNat (Int.tmod ((((p + (1 : Int)) - (1 : Int)) * (7 : Int)) + (3 : Int)) (l.length : Int))) default)) : Nat) : Int))) ∧ (True ∧ True ∧ (Fits .i64 ((((UInt8.toNat (l.getD (Int.toNat (Int.tmod ((((p + (1 : Int)) - (1 : Int)) * (7 : Int)) + (3 : Int)) (l.length : Int))) default)) : Nat) : Int) * (1117 : Int)))) ∧ (True ∧ True ∧ (Fits .i64 (((((UInt8.toNat (l.getD (Int.toNat (Int.tmod ((p + (1 : Int)) - (1 : Int)) (l.length : Int))) default)) : Nat) : Int) * (131 : Int)) + ((((UInt8.toNat (l.getD (Int.toNat (Int.tmod ((((p + (1 : Int)) - (1 : Int)) * (7 : Int)) + (3 : Int)) (l.length : Int))) default)) : Nat) : Int) * (1117 : Int))))) ∧ True ∧ (True ∧ True ∧ (Fits .i64 (((p + (1 : Int)) - (1 : Int)) * (29 : Int)))) ∧ (True ∧ True ∧ (Fits .i64 ((((((UInt8.toNat (l.getD (Int.toNat (Int.tmod ((p + (1 : Int)) - (1 : Int)) (l.length : Int))) default)) : Nat) : Int) * (131 : Int)) + ((((UInt8.toNat (l.getD (Int.toNat (Int.tmod ((((p + (1 : Int)) - (1 : Int)) * (7 : Int)) + (3 : Int)) (l.length : Int))) default)) : Nat) : Int) * (1117 : Int))) + (((p + (1 : Int)) - (1 : Int)) * (29 : Int))))) ∧ True ∧ True ∧ True ∧ True ∧ True ∧ True ∧ (True ∧ True ∧ ((l.length : Int) ≠ 0) ∧ (Fits .i64 (Int.tdiv ((p + (1 : Int)) - (1 : Int)) (l.length : Int)))) ∧ (True ∧ True ∧ (Fits .i64 ((Int.tdiv ((p + (1 : Int)) - (1 : Int)) (l.length : Int)) * (53 : Int)))) ∧ (True ∧ True ∧ (Fits .i64 (((((((UInt8.toNat (l.getD (Int.toNat (Int.tmod ((p + (1 : Int)) - (1 : Int)) (l.length : Int))) default)) : Nat) : Int) * (131 : Int)) + ((((UInt8.toNat (l.getD (Int.toNat (Int.tmod ((((p + (1 : Int)) - (1 : Int)) * (7 : Int)) + (3 : Int)) (l.length : Int))) default)) : Nat) : Int) * (1117 : Int))) + (((p + (1 : Int)) - (1 : Int)) * (29 : Int))) + ((Int.tdiv ((p + (1 : Int)) - (1 : Int)) (l.length : Int)) * (53 : Int))))) ∧ True ∧ True) (by kernel_rfl) (by kernel_rfl)
    ⟨tt,tt,tt,tt,tt,tt,tt,tt,tt,tt,⟨tt,tt,(by omega)⟩,⟨tt,tt,(by omega),(by omega)⟩,tt,⟨tt,(by exact fits_i64 (by (first | omega | (simp only [List.length_append,List.length_cons,List.length_nil,List.length_take,List.length_drop,List.length_set,List.length_replicate,List.length_map] at *; omega) | assumption)) (by (first | omega | (simp only [List.length_append,List.length_cons,List.length_nil,List.length_take,List.length_drop,List.length_set,List.length_replicate,List.length_map] at *; omega) | assumption)))⟩,⟨tt,tt,(by exact fits_i64 (by (first | omega | (simp only [List.length_append,List.length_cons,List.length_nil,List.length_take,List.length_drop,List.length_set,List.length_replicate,List.length_map] at *; omega) | assumption)) (by (first | omega | (simp only [List.length_append,List.length_cons,List.length_nil,List.length_take,List.length_drop,List.length_set,List.length_replicate,List.length_map] at *; omega) | assumption)))⟩,tt,tt,tt,tt,tt,⟨tt,tt,(by exact fits_i64 (by omega) (by omega))⟩,⟨tt,tt,(by exact fits_i64 (by omega) (by omega))⟩,tt,tt,tt,tt,tt,⟨tt,tt,(by omega)⟩,⟨tt,tt,(by omega),(by omega)⟩,tt,⟨tt,(by exact fits_i64 (by (first | omega | (simp only [List.length_append,List.length_cons,List.length_nil,List.length_take,List.length_drop,List.length_set,List.length_replicate,List.length_map] at *; omega) | assumption)) (by (first | omega | (simp only [List.length_append,List.length_cons,List.length_nil,List.length_take,List.length_drop,List.length_set,List.length_replicate,List.length_map] at *; omega) | assumption)))⟩,⟨tt,tt,(by exact fits_i64 (by (first | omega | (simp only [List.length_append,List.length_cons,List.length_nil,List.length_take,List.length_drop,List.length_set,List.length_replicate,List.length_map] at *; omega) | assumption)) (by (first | omega | (simp only [List.length_append,List.length_cons,List.length_nil,List.length_take,List.length_drop,List.length_set,List.length_replicate,List.length_map] at *; omega) | assumption)))⟩,⟨tt,tt,(by exact fits_i64 (by (first | omega | (simp only [List.length_append,List.length_cons,List.length_nil,List.length_take,List.length_drop,List.length_set,List.length_replicate,List.length_map] at *; omega) | assumption)) (by (first | omega | (simp only [List.length_append,List.length_cons,List.length_nil,List.length_take,List.length_drop,List.length_set,List.length_replicate,List.length_map] at *; omega) | assumption)))⟩,tt,⟨tt,tt,(by exact fits_i64 (by omega) (by omega))⟩,⟨tt,tt,(by exact fits_i64 (by (first | omega | (simp only [List.length_append,List.length_cons,List.length_nil,List.length_take,List.length_drop,List.length_set,List.length_replicate,List.length_map] at *; omega) | assumption)) (by (first | omega | (simp only [List.length_append,List.length_cons,List.length_nil,List.length_take,List.length_drop,List.length_set,List.length_replicate,List.length_map] at *; omega) | assumption)))⟩,tt,tt,tt,tt,tt,tt,⟨tt,tt,(by omega),(by exact fits_i64 (by omega) (by omega))⟩,⟨tt,tt,(by exact fits_i64 (by omega) (by omega))⟩,⟨tt,tt,(by exact fits_i64 (by (first | omega | (simp only [List.length_append,List.length_cons,List.length_nil,List.length_take,List.length_drop,List.length_set,List.length_replicate,List.length_map] at *; omega) | assumption)) (by (first | omega | (simp only [List.length_append,List.length_cons,List.length_nil,List.length_take,List.length_drop,List.length_set,List.length_replicate,List.length_map] at *; omega) | assumption)))⟩,tt,tt⟩ ?_
   refine W.K cok tab68 hnt [] [1,6] (⟨[(1,.i n),(6,.i (bitsI .xor .i64 (((((((UInt8.toNat (l.getD (Int.toNat (Int.tmod ((p + (1 : Int)) - (1 : Int)) (l.length : Int))) default)) : Nat) : Int) * (131 : Int)) + ((((UInt8.toNat (l.getD (Int.toNat (Int.tmod ((((p + (1 : Int)) - (1 : Int)) * (7 : Int)) + (3 : Int)) (l.length : Int))) default)) : Nat) : Int) * (1117 : Int))) + (((p + (1 : Int)) - (1 : Int)) * (29 : Int))) + ((Int.tdiv ((p + (1 : Int)) - (1 : Int)) (l.length : Int)) * (53 : Int))) (Int.tdiv (((((((UInt8.toNat (l.getD (Int.toNat (Int.tmod ((p + (1 : Int)) - (1 : Int)) (l.length : Int))) default)) : Nat) : Int) * (131 : Int)) + ((((UInt8.toNat (l.getD (Int.toNat (Int.tmod ((((p + (1 : Int)) - (1 : Int)) * (7 : Int)) + (3 : Int)) (l.length : Int))) default)) : Nat) : Int) * (1117 : Int))) + (((p + (1 : Int)) - (1 : Int)) * (29 : Int))) + ((Int.tdiv ((p + (1 : Int)) - (1 : Int)) (l.length : Int)) * (53 : Int))) (64 : Int))))],[(998,⟨69,.fix [.sl (.bytes l),.i (p + (1 : Int))]⟩)],[998,999]⟩)
    (True ∧ True ∧ (True ∧ True ∧ ((64 : Int) ≠ 0) ∧ (Fits .i64 (Int.tdiv (((((((UInt8.toNat (l.getD (Int.toNat (Int.tmod ((p + (1 : Int)) - (1 : Int)) (l.length : Int))) default)) : Nat) : Int) * (131 : Int)) + ((((UInt8.toNat (l.getD (Int.toNat (Int.tmod ((((p + (1 : Int)) - (1 : Int)) * (7 : Int)) + (3 : Int)) (l.length : Int))) default)) : Nat) : Int) * (1117 : Int))) + (((p + (1 : Int)) - (1 : Int)) * (29 : Int))) + ((Int.tdiv ((p + (1 : Int)) - (1 : Int)) (l.length : Int)) * (53 : Int))) (64 : Int)))) ∧ (True ∧ True ∧ True) ∧ True ∧ True) (by kernel_rfl)
    ⟨tt,tt,⟨tt,tt,(by decide),(by exact fits_i64 (Int.le_trans (by omega) (Int.tdiv_nonneg (by omega) (by omega))) (Int.le_trans (Int.tdiv_le_self _ (by omega)) (by omega)))⟩,⟨tt,tt,tt⟩,tt,tt⟩ ?_
   refine W.K cok tab68 hnt [] [4] (⟨[(4,.i (Int.tmod (bitsI .xor .i64 (((((((UInt8.toNat (l.getD (Int.toNat (Int.tmod ((p + (1 : Int)) - (1 : Int)) (l.length : Int))) default)) : Nat) : Int) * (131 : Int)) + ((((UInt8.toNat (l.getD (Int.toNat (Int.tmod ((((p + (1 : Int)) - (1 : Int)) * (7 : Int)) + (3 : Int)) (l.length : Int))) default)) : Nat) : Int) * (1117 : Int))) + (((p + (1 : Int)) - (1 : Int)) * (29 : Int))) + ((Int.tdiv ((p + (1 : Int)) - (1 : Int)) (l.length : Int)) * (53 : Int))) (Int.tdiv (((((((UInt8.toNat (l.getD (Int.toNat (Int.tmod ((p + (1 : Int)) - (1 : Int)) (l.length : Int))) default)) : Nat) : Int) * (131 : Int)) + ((((UInt8.toNat (l.getD (Int.toNat (Int.tmod ((((p + (1 : Int)) - (1 : Int)) * (7 : Int)) + (3 : Int)) (l.length : Int))) default)) : Nat) : Int) * (1117 : Int))) + (((p + (1 : Int)) - (1 : Int)) * (29 : Int))) + ((Int.tdiv ((p + (1 : Int)) - (1 : Int)) (l.length : Int)) * (53 : Int))) (64 : Int))) n))],[(998,⟨69,.fix [.sl (.bytes l),.i (p + (1 : Int))]⟩)],[998,999]⟩)
    (True ∧ True ∧ (True ∧ True ∧ (n ≠ 0)) ∧ True ∧ True) (by kernel_rfl)
    ⟨tt,tt,⟨tt,tt,(by omega)⟩,tt,tt⟩ ?_
   refine W.ret ?_
   exact endP_ret ((Int.tmod (bitsI .xor .i64 (((((((UInt8.toNat (l.getD (Int.toNat (Int.tmod ((p + (1 : Int)) - (1 : Int)) (l.length : Int))) default)) : Nat) : Int) * (131 : Int)) + ((((UInt8.toNat (l.getD (Int.toNat (Int.tmod ((((p + (1 : Int)) - (1 : Int)) * (7 : Int)) + (3 : Int)) (l.length : Int))) default)) : Nat) : Int) * (1117 : Int))) + (((p + (1 : Int)) - (1 : Int)) * (29 : Int))) + ((Int.tdiv ((p + (1 : Int)) - (1 : Int)) (l.length : Int)) * (53 : Int))) (Int.tdiv (((((((UInt8.toNat (l.getD (Int.toNat (Int.tmod ((p + (1 : Int)) - (1 : Int)) (l.length : Int))) default)) : Nat) : Int) * (131 : Int)) + ((((UInt8.toNat (l.getD (Int.toNat (Int.tmod ((((p + (1 : Int)) - (1 : Int)) * (7 : Int)) + (3 : Int)) (l.length : Int))) default)) : Nat) : Int) * (1117 : Int))) + (((p + (1 : Int)) - (1 : Int)) * (29 : Int))) + ((Int.tdiv ((p + (1 : Int)) - (1 : Int)) (l.length : Int)) * (53 : Int))) (64 : Int))) n),(p + (1 : Int))) (show (0 ≤ (Int.tmod (bitsI .xor .i64 (((((((UInt8.toNat (l.getD (Int.toNat (Int.tmod ((p + (1 : Int)) - (1 : Int)) (l.length : Int))) default)) : Nat) : Int) * (131 : Int)) + ((((UInt8.toNat (l.getD (Int.toNat (Int.tmod ((((p + (1 : Int)) - (1 : Int)) * (7 : Int)) + (3 : Int)) (l.length : Int))) default)) : Nat) : Int) * (1117 : Int))) + (((p + (1 : Int)) - (1 : Int)) * (29 : Int))) + ((Int.tdiv ((p + (1 : Int)) - (1 : Int)) (l.length : Int)) * (53 : Int))) (Int.tdiv (((((((UInt8.toNat (l.getD (Int.toNat (Int.tmod ((p + (1 : Int)) - (1 : Int)) (l.length : Int))) default)) : Nat) : Int) * (131 : Int)) + ((((UInt8.toNat (l.getD (Int.toNat (Int.tmod ((((p + (1 : Int)) - (1 : Int)) * (7 : Int)) + (3 : Int)) (l.length : Int))) default)) : Nat) : Int) * (1117 : Int))) + (((p + (1 : Int)) - (1 : Int)) * (29 : Int))) + ((Int.tdiv ((p + (1 : Int)) - (1 : Int)) (l.length : Int)) * (53 : Int))) (64 : Int))) n) ∧ (Int.tmod (bitsI .xor .i64 (((((((UInt8.toNat (l.getD (Int.toNat (Int.tmod ((p + (1 : Int)) - (1 : Int)) (l.length : Int))) default)) : Nat) : Int) * (131 : Int)) + ((((UInt8.toNat (l.getD (Int.toNat (Int.tmod ((((p + (1 : Int)) - (1 : Int)) * (7 : Int)) + (3 : Int)) (l.length : Int))) default)) : Nat) : Int) * (1117 : Int))) + (((p + (1 : Int)) - (1 : Int)) * (29 : Int))) + ((Int.tdiv ((p + (1 : Int)) - (1 : Int)) (l.length : Int)) * (53 : Int))) (Int.tdiv (((((((UInt8.toNat (l.getD (Int.toNat (Int.tmod ((p + (1 : Int)) - (1 : Int)) (l.length : Int))) default)) : Nat) : Int) * (131 : Int)) + ((((UInt8.toNat (l.getD (Int.toNat (Int.tmod ((((p + (1 : Int)) - (1 : Int)) * (7 : Int)) + (3 : Int)) (l.length : Int))) default)) : Nat) : Int) * (1117 : Int))) + (((p + (1 : Int)) - (1 : Int)) * (29 : Int))) + ((Int.tdiv ((p + (1 : Int)) - (1 : Int)) (l.length : Int)) * (53 : Int))) (64 : Int))) n) < max n 1) ∧ ((p + (1 : Int)) = p + 1) from ⟨(by exact ⟨Int.tmod_nonneg _ (xor_nonneg (by omega) (Int.tdiv_nonneg (by omega) (by omega)) (by omega) (Int.le_trans (Int.tdiv_le_self _ (by omega)) (by omega))),by refine Int.lt_of_lt_of_le (Int.tmod_lt_of_pos _ (show 0 < n by omega)) (by omega)⟩),(by first | assumption | omega | rfl | (simp; done) | (simp; omega))⟩) [(0,998)] (.i (Int.tmod (bitsI .xor .i64 (((((((UInt8.toNat (l.getD (Int.toNat (Int.tmod ((p + (1 : Int)) - (1 : Int)) (l.length : Int))) default)) : Nat) : Int) * (131 : Int)) + ((((UInt8.toNat (l.getD (Int.toNat (Int.tmod ((((p + (1 : Int)) - (1 : Int)) * (7 : Int)) + (3 : Int)) (l.length : Int))) default)) : Nat) : Int) * (1117 : Int))) + (((p + (1 : Int)) - (1 : Int)) * (29 : Int))) + ((Int.tdiv ((p + (1 : Int)) - (1 : Int)) (l.length : Int)) * (53 : Int))) (Int.tdiv (((((((UInt8.toNat (l.getD (Int.toNat (Int.tmod ((p + (1 : Int)) - (1 : Int)) (l.length : Int))) default)) : Nat) : Int) * (131 : Int)) + ((((UInt8.toNat (l.getD (Int.toNat (Int.tmod ((((p + (1 : Int)) - (1 : Int)) * (7 : Int)) + (3 : Int)) (l.length : Int))) default)) : Nat) : Int) * (1117 : Int))) + (((p + (1 : Int)) - (1 : Int)) * (29 : Int))) + ((Int.tdiv ((p + (1 : Int)) - (1 : Int)) (l.length : Int)) * (53 : Int))) (64 : Int))) n)) (by kernel_rfl) (@cast (((.int .i64 (Int.tmod (bitsI .xor .i64 (((((((UInt8.toNat (l.getD (Int.toNat (Int.tmod ((p + (1 : Int)) - (1 : Int)) (l.length : Int))) default)) : Nat) : Int) * (131 : Int)) + ((((UInt8.toNat (l.getD (Int.toNat (Int.tmod ((((p + (1 : Int)) - (1 : Int)) * (7 : Int)) + (3 : Int)) (l.length : Int))) default)) : Nat) : Int) * (1117 : Int))) + (((p + (1 : Int)) - (1 : Int)) * (29 : Int))) + ((Int.tdiv ((p + (1 : Int)) - (1 : Int)) (l.length : Int)) * (53 : Int))) (Int.tdiv (((((((UInt8.toNat (l.getD (Int.toNat (Int.tmod ((p + (1 : Int)) - (1 : Int)) (l.length : Int))) default)) : Nat) : Int) * (131 : Int)) + ((((UInt8.toNat (l.getD (Int.toNat (Int.tmod ((((p + (1 : Int)) - (1 : Int)) * (7 : Int)) + (3 : Int)) (l.length : Int))) default)) : Nat) : Int) * (1117 : Int))) + (((p + (1 : Int)) - (1 : Int)) * (29 : Int))) + ((Int.tdiv ((p + (1 : Int)) - (1 : Int)) (l.length : Int)) * (53 : Int))) (64 : Int))) n) : Value) = .int .i64 (Int.tmod (bitsI .xor .i64 (((((((UInt8.toNat (l.getD (Int.toNat (Int.tmod ((p + (1 : Int)) - (1 : Int)) (l.length : Int))) default)) : Nat) : Int) * (131 : Int)) + ((((UInt8.toNat (l.getD (Int.toNat (Int.tmod ((((p + (1 : Int)) - (1 : Int)) * (7 : Int)) + (3 : Int)) (l.length : Int))) default)) : Nat) : Int) * (1117 : Int))) + (((p + (1 : Int)) - (1 : Int)) * (29 : Int))) + ((Int.tdiv ((p + (1 : Int)) - (1 : Int)) (l.length : Int)) * (53 : Int))) (Int.tdiv (((((((UInt8.toNat (l.getD (Int.toNat (Int.tmod ((p + (1 : Int)) - (1 : Int)) (l.length : Int))) default)) : Nat) : Int) * (131 : Int)) + ((((UInt8.toNat (l.getD (Int.toNat (Int.tmod ((((p + (1 : Int)) - (1 : Int)) * (7 : Int)) + (3 : Int)) (l.length : Int))) default)) : Nat) : Int) * (1117 : Int))) + (((p + (1 : Int)) - (1 : Int)) * (29 : Int))) + ((Int.tdiv ((p + (1 : Int)) - (1 : Int)) (l.length : Int)) * (53 : Int))) (64 : Int))) n)) ∧ (((((69 : Nat) = 69) ∧ ((((.bytes l : Dat) = .bytes l) ∧ (((.int .i64 (p + (1 : Int)) : Value) = .int .i64 (p + (1 : Int))) ∧ True)) ∧ ((0 : Nat) ∈ ([0] : List Nat)))) ∧ True) ∧ ((true = true) ∧ (((([] : List Nat) = []) ∧ True) ∧ (true = true → (998 : Nat) = 998))))) _ (by kernel_rfl) ⟨rfl,⟨⟨rfl,⟨rfl,rfl,tt⟩,(by decide)⟩,tt⟩,rfl,⟨rfl,tt⟩,(fun _ => rfl)⟩)
theorem ent68 : Entr prog 68 := ⟨_,func68,rfl,by decide⟩
end Go.Proofs.Try

set_option linter.unusedSimpArgs false
set_option linter.unusedVariables false
namespace Go.Proofs.Try
open Go.Ab Go.RowKit
def pre84 : List AV → List AV → Prop := preP [.strs] [.bytes,.int] (fun (xs,_) (l,p,_) => (0 ≤ p ∧ p ≤ 1000000) ∧ (0 < xs.length) ∧ (xs.length ≤ 1000))
def rel84 : RelS := relP [.strs] [.bytes,.int] (ι := ByteArray × Int) (fun (xs,_) (l,p,_) (v,q) => (v ∈ xs) ∧ (q = p + 1)) (fun (xs,_) (l,p,_) (v,q) => (.v (.string v),[],[.sl (.bytes l),.i q]))
abbrev T84 : Tab := lk []
theorem tab84 : TabOK prog T84 := TabOK.nil
set_option maxRecDepth 100000 in
set_option maxHeartbeats 1000000 in
theorem rok84 : RelOK prog 84 (some 69) [.s .strs] pre84 rel84 := by
 refine RelOK.mk cok func84 rfl rfl rfl ?_
 rintro ⟨(xs : List ByteArray),_⟩ ⟨(l : List UInt8),(p : Int),_⟩ hpre F hnt0
 have hnt : F.nt = 12 := hnt0.trans ntmps84
 replace hpre : (0 ≤ p ∧ p ≤ 1000000) ∧ (0 < xs.length) ∧ (xs.length ≤ 1000) := hpre
 obtain ⟨hp,hx,hx2⟩ := hpre
 refine W.to (⟨[(0,.ptr 998 0),(1,.sl (.strs xs))],[(998,⟨69,.fix [.sl (.bytes l),.i p]⟩)],[998,999]⟩) rfl ?_
 refine W.K cok tab84 hnt [] [0,1] (⟨[(0,.ptr 998 0),(1,.sl (.strs xs))],[(998,⟨69,.fix [.sl (.bytes l),.i p]⟩)],[998,999]⟩)
  (True ∧ True) (by kernel_rfl)
  ⟨tt,tt⟩ ?_
 refine W.seq (W.wi ?_)
 refine WI.runT cok tab84 hnt [] 4 4 (⟨[(0,.ptr 998 0),(1,.sl (.strs xs)),(5,.sl (.strs xs)),(6,.ptr 998 0),(7,.sl (.strs xs)),(8,.i (xs.length : Int))],[(998,⟨69,.fix [.sl (.bytes l),.i p]⟩)],[998,999]⟩)
  (True ∧ True ∧ True ∧ True ∧ True) (by kernel_rfl) rfl
  ⟨tt,tt,tt,tt,tt⟩ ?_
 refine WI.call [.ptr 998 0,.i (xs.length : Int)] [.sl (.bytes l),.i p] [.i (xs.length : Int)] [.i (xs.length : Int)] (some (69,998)) (True) (True ∧ True) none rok68 ent68 hnt rfl rfl (wanted_none rfl) (by kernel_rfl) (by kernel_rfl) (by kernel_rfl) ⟨tt,tt,tt⟩
  (@cast (0 ≤ p ∧ p ≤ 1000000) _ (by kernel_rfl) (by omega)) (Or.inl rfl) rfl ?_
 rintro r bl fx2 hR
 obtain ⟨⟨v9,q9⟩,hq9,rfl,rfl,rfl⟩ := (@cast _ (∃ x : Int × Int,((0 ≤ x.1 ∧ x.1 < max (xs.length : Int) 1) ∧ (x.2 = p + 1)) ∧ r = (.i x.1) ∧ bl = ([]) ∧ fx2 = ([.sl (.bytes l),.i x.2])) (by kernel_rfl) hR)
 clear hR
 replace hq9 : (0 ≤ v9 ∧ v9 < max (xs.length : Int) 1) ∧ (q9 = p + 1) := hq9
 obtain ⟨hv9,hq19⟩ := hq9
 refine ⟨by kernel_rfl,WI.to (⟨[(0,.ptr 998 0),(1,.sl (.strs xs)),(5,.sl (.strs xs)),(6,.ptr 998 0),(7,.sl (.strs xs)),(8,.i (xs.length : Int)),(9,.i v9)],[(998,⟨69,.fix [.sl (.bytes l),.i q9]⟩)],[9,998,999]⟩) 5 (by kernel_rfl) rfl ?_⟩
 refine WI.runT cok tab84 hnt [] 3 8 (⟨[(0,.ptr 998 0),(1,.sl (.strs xs)),(4,.v (.string (xs.getD (Int.toNat v9) default))),(5,.sl (.strs xs)),(6,.ptr 998 0),(7,.sl (.strs xs)),(8,.i (xs.length : Int)),(9,.i v9),(10,.ep [.v (.string (xs.getD (Int.toNat v9) default))]),(11,.v (.string (xs.getD (Int.toNat v9) default)))],[(998,⟨69,.fix [.sl (.bytes l),.i q9]⟩)],[9,998,999]⟩)
  ((True ∧ True ∧ (0 ≤ v9) ∧ (v9 < (xs.length : Int))) ∧ True ∧ True ∧ True) (by kernel_rfl) rfl
  ⟨⟨tt,tt,(by omega),(by omega)⟩,tt,tt,tt⟩ ?_
 refine WI.nil rfl (thenQ_normal ?_)
 refine W.keepE [4] [(4,.v (.string (xs.getD (Int.toNat v9) default)))] (by kernel_rfl) ?_
 refine W.to (⟨[(4,.v (.string (xs.getD (Int.toNat v9) default)))],[(998,⟨69,.fix [.sl (.bytes l),.i q9]⟩)],[9,998,999]⟩) rfl ?_
 refine W.ret ?_
 exact endP_ret ((xs.getD (Int.toNat v9) default),q9) (show ((xs.getD (Int.toNat v9) default) ∈ xs) ∧ (q9 = p + 1) from ⟨(by exact getD_mem xs default (by omega)),(by first | assumption | omega | rfl | (simp; done) | (simp; omega))⟩) [(0,998)] (.v (.string (xs.getD (Int.toNat v9) default))) (by kernel_rfl) (@cast ((((.string (xs.getD (Int.toNat v9) default)) : Value) = (.string (xs.getD (Int.toNat v9) default))) ∧ (((((69 : Nat) = 69) ∧ ((((.bytes l : Dat) = .bytes l) ∧ (((.int .i64 q9 : Value) = .int .i64 q9) ∧ True)) ∧ ((0 : Nat) ∈ ([0] : List Nat)))) ∧ True) ∧ ((true = true) ∧ (((([] : List Nat) = []) ∧ True) ∧ (true = true → (998 : Nat) = 998))))) _ (by kernel_rfl) ⟨rfl,⟨⟨rfl,⟨rfl,rfl,tt⟩,(by decide)⟩,tt⟩,rfl,⟨rfl,tt⟩,(fun _ => rfl)⟩)
theorem ent84 : Entr prog 84 := ⟨_,func84,rfl,by decide⟩
end Go.Proofs.Try

set_option linter.unusedSimpArgs false
set_option linter.unusedVariables false
namespace Go.Proofs.Try
open Go.Ab Go.RowKit
def pre65 : List AV → List AV → Prop := preP [] [.bytes,.int] (fun _ (l,p,_) => (0 ≤ p ∧ p ≤ 1000000))
def rel65 : RelS := relP [] [.bytes,.int] (ι := ByteArray × Int) (fun _ (l,p,_) (v,q) => (q = p + 1)) (fun _ (l,p,_) (v,q) => (.v (.string v),[],[.sl (.bytes l),.i q]))
abbrev T65 : Tab := lk []
theorem tab65 : TabOK prog T65 := TabOK.nil
set_option maxRecDepth 100000 in
set_option maxHeartbeats 1000000 in
theorem rok65 : RelOK prog 65 (some 69) [] pre65 rel65 := by
 refine RelOK.mk cok func65 rfl rfl rfl ?_
 rintro _ ⟨(l : List UInt8),(p : Int),_⟩ hpre F hnt0
 have hnt : F.nt = 6 := hnt0.trans ntmps65
 replace hpre : (0 ≤ p ∧ p ≤ 1000000) := hpre
 have hp := hpre
 refine W.to (⟨[(0,.ptr 998 0)],[(998,⟨69,.fix [.sl (.bytes l),.i p]⟩)],[998,999]⟩) rfl ?_
 refine W.K cok tab65 hnt [] [0] (⟨[(0,.ptr 998 0)],[(998,⟨69,.fix [.sl (.bytes l),.i p]⟩)],[998,999]⟩)
  (True ∧ True) (by kernel_rfl)
  ⟨tt,tt⟩ ?_
 refine W.seq (W.wi ?_)
 refine WI.runT cok tab65 hnt [] 2 2 (⟨[(0,.ptr 998 0),(3,.ptr 998 0),(4,.sl (.strs ([nRegister,nQueue,nStack,nCounter,nSet,nMost,nRegister,nQueue,nStack,nCounter,nSet,nEmpty])))],[(998,⟨69,.fix [.sl (.bytes l),.i p]⟩)],[4,998,999]⟩)
  (True ∧ (True ∧ True ∧ True ∧ True ∧ True ∧ True ∧ True ∧ True ∧ True ∧ True ∧ True ∧ True ∧ True) ∧ True) (by kernel_rfl) rfl
  ⟨tt,⟨tt,tt,tt,tt,tt,tt,tt,tt,tt,tt,tt,tt,tt⟩,tt⟩ ?_
 refine WI.call [.ptr 998 0,.sl (.strs ([nRegister,nQueue,nStack,nCounter,nSet,nMost,nRegister,nQueue,nStack,nCounter,nSet,nEmpty]))] [.sl (.bytes l),.i p] [.sl (.strs ([nRegister,nQueue,nStack,nCounter,nSet,nMost,nRegister,nQueue,nStack,nCounter,nSet,nEmpty]))] [.sl (.strs ([nRegister,nQueue,nStack,nCounter,nSet,nMost,nRegister,nQueue,nStack,nCounter,nSet,nEmpty]))] (some (69,998)) (True) (True ∧ True) none rok84 ent84 hnt rfl rfl (wanted_none rfl) (by kernel_rfl) (by kernel_rfl) (by kernel_rfl) ⟨tt,tt,tt⟩
  (@cast ((0 ≤ p ∧ p ≤ 1000000) ∧ ((0 < ([nRegister,nQueue,nStack,nCounter,nSet,nMost,nRegister,nQueue,nStack,nCounter,nSet,nEmpty]).length) ∧ (([nRegister,nQueue,nStack,nCounter,nSet,nMost,nRegister,nQueue,nStack,nCounter,nSet,nEmpty]).length ≤ 1000))) _ (by kernel_rfl) ⟨(by omega),⟨(by (first | omega | (simp only [List.length_append,List.length_cons,List.length_nil,List.length_take,List.length_drop,List.length_set,List.length_replicate,List.length_map] at *; omega) | assumption)),(by (first | omega | (simp only [List.length_append,List.length_cons,List.length_nil,List.length_take,List.length_drop,List.length_set,List.length_replicate,List.length_map] at *; omega) | assumption))⟩⟩) (Or.inl rfl) rfl ?_
 rintro r bl fx2 hR
 obtain ⟨⟨v5,q5⟩,hq5,rfl,rfl,rfl⟩ := (@cast _ (∃ x : ByteArray × Int,((x.1 ∈ ([nRegister,nQueue,nStack,nCounter,nSet,nMost,nRegister,nQueue,nStack,nCounter,nSet,nEmpty])) ∧ (x.2 = p + 1)) ∧ r = (.v (.string x.1)) ∧ bl = ([]) ∧ fx2 = ([.sl (.bytes l),.i x.2])) (by kernel_rfl) hR)
 clear hR
 replace hq5 : (v5 ∈ ([nRegister,nQueue,nStack,nCounter,nSet,nMost,nRegister,nQueue,nStack,nCounter,nSet,nEmpty])) ∧ (q5 = p + 1) := hq5
 obtain ⟨hv5,hq15⟩ := hq5
 simp only [List.mem_cons,List.not_mem_nil,or_false] at hv5
 refine ⟨by kernel_rfl,WI.to (⟨[(0,.ptr 998 0),(3,.ptr 998 0),(4,.sl (.strs ([nRegister,nQueue,nStack,nCounter,nSet,nMost,nRegister,nQueue,nStack,nCounter,nSet,nEmpty]))),(5,.v (.string v5))],[(998,⟨69,.fix [.sl (.bytes l),.i q5]⟩)],[5,4,998,999]⟩) 3 (by kernel_rfl) rfl ?_⟩
 refine WI.runT cok tab65 hnt [] 1 4 (⟨[(0,.ptr 998 0),(2,.v (.string v5)),(3,.ptr 998 0),(4,.sl (.strs ([nRegister,nQueue,nStack,nCounter,nSet,nMost,nRegister,nQueue,nStack,nCounter,nSet,nEmpty]))),(5,.v (.string v5))],[(998,⟨69,.fix [.sl (.bytes l),.i q5]⟩)],[5,4,998,999]⟩)
  (True ∧ True) (by kernel_rfl) rfl
  ⟨tt,tt⟩ ?_
 refine WI.nil rfl (thenQ_normal ?_)
 refine W.keepE [2] [(2,.v (.string v5))] (by kernel_rfl) ?_
 refine W.to (⟨[(2,.v (.string v5))],[(998,⟨69,.fix [.sl (.bytes l),.i q5]⟩)],[5,4,998,999]⟩) rfl ?_
 refine W.ret ?_
 exact endP_ret (v5,q5) (show (q5 = p + 1) from (by first | assumption | omega | rfl | (simp; done) | (simp; omega))) [(0,998)] (.v (.string v5)) (by kernel_rfl) (@cast ((((.string v5) : Value) = (.string v5)) ∧ (((((69 : Nat) = 69) ∧ ((((.bytes l : Dat) = .bytes l) ∧ (((.int .i64 q5 : Value) = .int .i64 q5) ∧ True)) ∧ ((0 : Nat) ∈ ([0] : List Nat)))) ∧ True) ∧ ((true = true) ∧ (((([] : List Nat) = []) ∧ True) ∧ (true = true → (998 : Nat) = 998))))) _ (by kernel_rfl) ⟨rfl,⟨⟨rfl,⟨rfl,rfl,tt⟩,(by decide)⟩,tt⟩,rfl,⟨rfl,tt⟩,(fun _ => rfl)⟩)
theorem ent65 : Entr prog 65 := ⟨_,func65,rfl,by decide⟩
end Go.Proofs.Try

set_option linter.unusedSimpArgs false
set_option linter.unusedVariables false
namespace Go.Proofs.Try
open Go.Ab Go.RowKit
def pre49 : List AV → List AV → Prop := preP [.ints] [.bytes,.int] (fun (xs,_) (l,p,_) => (0 ≤ p ∧ p ≤ 1000000) ∧ (0 < xs.length) ∧ (xs.length ≤ 1000))
def rel49 : RelS := relP [.ints] [.bytes,.int] (ι := Int × Int) (fun (xs,_) (l,p,_) (v,q) => (v ∈ xs) ∧ (q = p + 1)) (fun (xs,_) (l,p,_) (v,q) => (.i v,[],[.sl (.bytes l),.i q]))
abbrev T49 : Tab := lk []
theorem tab49 : TabOK prog T49 := TabOK.nil
set_option maxRecDepth 100000 in
set_option maxHeartbeats 1000000 in
theorem rok49 : RelOK prog 49 (some 69) [.s .ints] pre49 rel49 := by
 refine RelOK.mk cok func49 rfl rfl rfl ?_
 rintro ⟨(xs : List Int),_⟩ ⟨(l : List UInt8),(p : Int),_⟩ hpre F hnt0
 have hnt : F.nt = 12 := hnt0.trans ntmps49
 replace hpre : (0 ≤ p ∧ p ≤ 1000000) ∧ (0 < xs.length) ∧ (xs.length ≤ 1000) := hpre
 obtain ⟨hp,hx,hx2⟩ := hpre
 refine W.to (⟨[(0,.ptr 998 0),(1,.sl (.ints xs))],[(998,⟨69,.fix [.sl (.bytes l),.i p]⟩)],[998,999]⟩) rfl ?_
 refine W.K cok tab49 hnt [] [0,1] (⟨[(0,.ptr 998 0),(1,.sl (.ints xs))],[(998,⟨69,.fix [.sl (.bytes l),.i p]⟩)],[998,999]⟩)
  (True ∧ True) (by kernel_rfl)
  ⟨tt,tt⟩ ?_
 refine W.seq (W.wi ?_)
 refine WI.runT cok tab49 hnt [] 4 4 (⟨[(0,.ptr 998 0),(1,.sl (.ints xs)),(5,.sl (.ints xs)),(6,.ptr 998 0),(7,.sl (.ints xs)),(8,.i (xs.length : Int))],[(998,⟨69,.fix [.sl (.bytes l),.i p]⟩)],[998,999]⟩)
  (True ∧ True ∧ True ∧ True ∧ True) (by kernel_rfl) rfl
  ⟨tt,tt,tt,tt,tt⟩ ?_
 refine WI.call [.ptr 998 0,.i (xs.length : Int)] [.sl (.bytes l),.i p] [.i (xs.length : Int)] [.i (xs.length : Int)] (some (69,998)) (True) (True ∧ True) none rok68 ent68 hnt rfl rfl (wanted_none rfl) (by kernel_rfl) (by kernel_rfl) (by kernel_rfl) ⟨tt,tt,tt⟩
  (@cast (0 ≤ p ∧ p ≤ 1000000) _ (by kernel_rfl) (by omega)) (Or.inl rfl) rfl ?_
 rintro r bl fx2 hR
 obtain ⟨⟨v9,q9⟩,hq9,rfl,rfl,rfl⟩ := (@cast _ (∃ x : Int × Int,((0 ≤ x.1 ∧ x.1 < max (xs.length : Int) 1) ∧ (x.2 = p + 1)) ∧ r = (.i x.1) ∧ bl = ([]) ∧ fx2 = ([.sl (.bytes l),.i x.2])) (by kernel_rfl) hR)
 clear hR
 replace hq9 : (0 ≤ v9 ∧ v9 < max (xs.length : Int) 1) ∧ (q9 = p + 1) := hq9
 obtain ⟨hv9,hq19⟩ := hq9
 refine ⟨by kernel_rfl,WI.to (⟨[(0,.ptr 998 0),(1,.sl (.ints xs)),(5,.sl (.ints xs)),(6,.ptr 998 0),(7,.sl (.ints xs)),(8,.i (xs.length : Int)),(9,.i v9)],[(998,⟨69,.fix [.sl (.bytes l),.i q9]⟩)],[9,998,999]⟩) 5 (by kernel_rfl) rfl ?_⟩
 refine WI.runT cok tab49 hnt [] 3 8 (⟨[(0,.ptr 998 0),(1,.sl (.ints xs)),(4,.i (xs.getD (Int.toNat v9) 0)),(5,.sl (.ints xs)),(6,.ptr 998 0),(7,.sl (.ints xs)),(8,.i (xs.length : Int)),(9,.i v9),(10,.ep [.i (xs.getD (Int.toNat v9) 0)]),(11,.i (xs.getD (Int.toNat v9) 0))],[(998,⟨69,.fix [.sl (.bytes l),.i q9]⟩)],[9,998,999]⟩)
  ((True ∧ True ∧ (0 ≤ v9) ∧ (v9 < (xs.length : Int))) ∧ True ∧ True ∧ True) (by kernel_rfl) rfl
  ⟨⟨tt,tt,(by omega),(by omega)⟩,tt,tt,tt⟩ ?_
 refine WI.nil rfl (thenQ_normal ?_)
 refine W.keepE [4] [(4,.i (xs.getD (Int.toNat v9) 0))] (by kernel_rfl) ?_
 refine W.to (⟨[(4,.i (xs.getD (Int.toNat v9) 0))],[(998,⟨69,.fix [.sl (.bytes l),.i q9]⟩)],[9,998,999]⟩) rfl ?_
 refine W.ret ?_
 exact endP_ret ((xs.getD (Int.toNat v9) 0),q9) (show ((xs.getD (Int.toNat v9) 0) ∈ xs) ∧ (q9 = p + 1) from ⟨(by exact getD_mem xs 0 (by omega)),(by first | assumption | omega | rfl | (simp; done) | (simp; omega))⟩) [(0,998)] (.i (xs.getD (Int.toNat v9) 0)) (by kernel_rfl) (@cast (((.int .i64 (xs.getD (Int.toNat v9) 0) : Value) = .int .i64 (xs.getD (Int.toNat v9) 0)) ∧ (((((69 : Nat) = 69) ∧ ((((.bytes l : Dat) = .bytes l) ∧ (((.int .i64 q9 : Value) = .int .i64 q9) ∧ True)) ∧ ((0 : Nat) ∈ ([0] : List Nat)))) ∧ True) ∧ ((true = true) ∧ (((([] : List Nat) = []) ∧ True) ∧ (true = true → (998 : Nat) = 998))))) _ (by kernel_rfl) ⟨rfl,⟨⟨rfl,⟨rfl,rfl,tt⟩,(by decide)⟩,tt⟩,rfl,⟨rfl,tt⟩,(fun _ => rfl)⟩)
theorem ent49 : Entr prog 49 := ⟨_,func49,rfl,by decide⟩
end Go.Proofs.Try
