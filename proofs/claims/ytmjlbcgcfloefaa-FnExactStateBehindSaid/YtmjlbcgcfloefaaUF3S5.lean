import Derived.Test.YtmjlbcgcfloefaaUF3S0
import Derived.Test.YtmjlbcgcfloefaaUF3S4
import Derived.Test.YtmjlbcgcfloefaaUF3S3
set_option linter.unusedSimpArgs false
set_option linter.unusedVariables false
namespace Go.Proofs.Try
open Go.Ab Go.RowKit
def fs32o : FnS := fnS [.o,.s .calls,.s .ints] [.str,.calls,.ints] (fun _ (s,h,o,_) => (.tup [.agg [.own 0 (List.length (List.getD ((playedR s h o).1) 0 [])),.own 1 (List.length (List.getD ((playedR s h o).1) 1 []))],.b ((playedR s h o).2)],[(3,.ints (List.getD ((playedR s h o).1) 0 [])),(3,.ints (List.getD ((playedR s h o).1) 1 []))],(isObject s = true) ∧ (validHistory h = true) ∧ (inH h o) ∧ (o.length ≤ 6)))
abbrev T32o : Tab := lk [(46,fs46o)]
theorem tab32o : TabOK prog T32o := (TabOK.cons ok46o ent46o TabOK.nil)
set_option maxRecDepth 100000 in
set_option maxHeartbeats 1000000 in
theorem ok32o : FnOK prog 32 fs32o := by
 refine FnOK.mk cok func32 rfl rfl rfl ?_
 rintro fl ⟨(s : ByteArray),(h : List CallD),(o : List Int),_⟩ hpre F hnt0 _
 have hnt : F.nt = 53 := hnt0.trans ntmps32
 replace hpre : (isObject s = true) ∧ (validHistory h = true) ∧ (inH h o) ∧ (o.length ≤ 6) := hpre
 obtain ⟨hs,hv,ho,h6⟩ := hpre
 refine W.to (⟨[(0,.v (.string s)),(1,.sl (.calls h)),(2,.sl (.ints o))],[],[999]⟩) rfl ?_
 refine W.lenOf 1 (.calls h) (by kernel_rfl) ?_
 intro hl_h; replace hl_h : List.length h ≤ 9223372036854775807 := hl_h
 refine W.lenOf 2 (.ints o) (by kernel_rfl) ?_
 intro hl_o; replace hl_o : List.length o ≤ 9223372036854775807 := hl_o
 refine Kk cok tab32o hnt [] [0,1,2,6] (⟨[(0,.v (.string s)),(1,.sl (.calls h)),(2,.sl (.ints o)),(6,.ptr 6 0)],[(6,⟨50,.fix [.v (.slice none 0 0),.v (.slice none 0 0)]⟩)],[6,999]⟩)
  (True ∧ True ∧ True)
  ⟨tt,tt,tt⟩ ?_
 refine Kk cok tab32o hnt [] [0,1,2,6,8] (⟨[(0,.v (.string s)),(1,.sl (.calls h)),(2,.sl (.ints o)),(6,.ptr 6 0),(8,.ptr 8 0)],[(6,⟨50,.fix [.v (.slice none 0 0),.v (.slice none 0 0)]⟩),(8,⟨50,.fix [.v (.slice none 0 0),.v (.slice none 0 0)]⟩)],[8,6,999]⟩)
  (True ∧ True ∧ (True ∧ True) ∧ True)
  ⟨tt,tt,⟨tt,tt⟩,tt⟩ ?_
 refine W.nilCell 8 821 0 50 3 (.ints ([] : List Int)) [.v (.slice none 0 0),.v (.slice none 0 0)] (⟨[(0,.v (.string s)),(1,.sl (.calls h)),(2,.sl (.ints o)),(6,.ptr 6 0),(8,.ptr 8 0)],[(6,⟨50,.fix [.v (.slice none 0 0),.v (.slice none 0 0)]⟩),(8,⟨50,.fix [.own 821 0,.v (.slice none 0 0)]⟩),(821,⟨3,.row (.ints ([] : List Int))⟩)],[821,8,6,999]⟩) (by kernel_rfl) rfl rfl (by kernel_rfl) (by kernel_rfl) ?_
 refine W.nilCell 8 822 1 50 3 (.ints ([] : List Int)) [.own 821 0,.v (.slice none 0 0)] (⟨[(0,.v (.string s)),(1,.sl (.calls h)),(2,.sl (.ints o)),(6,.ptr 6 0),(8,.ptr 8 0)],[(6,⟨50,.fix [.v (.slice none 0 0),.v (.slice none 0 0)]⟩),(8,⟨50,.fix [.own 821 0,.own 822 0]⟩),(821,⟨3,.row (.ints ([] : List Int))⟩),(822,⟨3,.row (.ints ([] : List Int))⟩)],[822,821,8,6,999]⟩) (by kernel_rfl) rfl rfl (by kernel_rfl) (by kernel_rfl) ?_
 refine W.seq ?_
 refine Kk cok tab32o hnt [] [0,1,6,8,14,15,16] (⟨[(0,.v (.string s)),(1,.sl (.calls h)),(6,.ptr 6 0),(8,.ptr 8 0),(14,.sl (.ints o)),(15,.i (o.length : Int)),(16,.i (0 : Int))],[(6,⟨50,.fix [.v (.slice none 0 0),.v (.slice none 0 0)]⟩),(8,⟨50,.fix [.own 821 0,.own 822 0]⟩),(821,⟨3,.row (.ints ([] : List Int))⟩),(822,⟨3,.row (.ints ([] : List Int))⟩)],[822,821,8,6,999]⟩)
  (True ∧ True ∧ True ∧ True)
  ⟨tt,tt,tt,tt⟩ ?_
 refine W.block ?_
 refine W.loop (ι := Nat × (List Int) × (List Int)) (fun (x : Nat × (List Int) × (List Int)) => match x with | (i,a,b) => (⟨[(0,.v (.string s)),(1,.sl (.calls h)),(6,.ptr 6 0),(8,.ptr 8 0),(14,.sl (.ints o)),(15,.i (o.length : Int)),(16,.i ((i : Nat) : Int))],[(6,⟨50,.fix [.v (.slice none 0 0),.v (.slice none 0 0)]⟩),(8,⟨50,.fix [.own 821 a.length,.own 822 b.length]⟩),(821,⟨3,.row (.ints a)⟩),(822,⟨3,.row (.ints b)⟩)],[6,8,821,822,999]⟩ : St))
  (fun (x : Nat × (List Int) × (List Int)) => match x with | (i,a,b) => (i ≤ o.length) ∧ ([a,b] = sts s h o i) ∧ (∀ j,j < i → okAt s h o j = true))
  (fun (x : Nat × (List Int) × (List Int)) => match x with | (i,a,b) => (o.length - i : Nat)) (0,([] : List Int),([] : List Int)) ?_ ?_ ?_
 ·exact (show (0 ≤ o.length) ∧ ([([] : List Int),([] : List Int)] = sts s h o 0) ∧ (∀ j,j < 0 → okAt s h o j = true) from ⟨(by first | assumption | omega | rfl | (intro _ hjj; omega) | (simp; done) | (simp; omega)),(by rfl),(by exact upto_zero)⟩)
 ·exact Sub.of [] (@cast (((((.string s) : Value) = (.string s)) ∧ (Sd (.calls h)) ∧ (((6 : Nat) = 6) ∧ ((0 : Nat) = 0) ∧ ((6 : Nat) ∈ ([6,8,821,822,999] : List Nat))) ∧ (((8 : Nat) = 8) ∧ ((0 : Nat) = 0) ∧ ((8 : Nat) ∈ ([6,8,821,822,999] : List Nat))) ∧ (Sd (.ints o)) ∧ (Si (o.length : Int)) ∧ ((.int .i64 (0 : Int) : Value) = .int .i64 ((0 : Nat) : Int)) ∧ True) ∧ ((((50 : Nat) = 50) ∧ ((((.slice none 0 0) : Value) = (.slice none 0 0)) ∧ (((.slice none 0 0) : Value) = (.slice none 0 0)) ∧ True) ∧ ((6 : Nat) ∈ ([6,8,821,822,999] : List Nat))) ∧ (((50 : Nat) = 50) ∧ ((((821 : Nat) = 821) ∧ (0 = (List.length ([] : List Int))) ∧ ((821 : Nat) ∈ ([6,8,821,822,999] : List Nat))) ∧ (((822 : Nat) = 822) ∧ (0 = (List.length ([] : List Int))) ∧ ((822 : Nat) ∈ ([6,8,821,822,999] : List Nat))) ∧ True) ∧ ((8 : Nat) ∈ ([6,8,821,822,999] : List Nat))) ∧ (((3 : Nat) = 3) ∧ (Sd (.ints ([] : List Int))) ∧ ((821 : Nat) ∈ ([6,8,821,822,999] : List Nat))) ∧ (((3 : Nat) = 3) ∧ (Sd (.ints ([] : List Int))) ∧ ((822 : Nat) ∈ ([6,8,821,822,999] : List Nat))) ∧ True) ∧ (true = true) ∧ (true = true)) _ (by kernel_rfl) ⟨⟨rfl,rfl,⟨rfl,rfl,(by decide)⟩,⟨rfl,rfl,(by decide)⟩,rfl,rfl,(congrArg (Value.int .i64) (by first | rfl | omega | assumption | simp | simp_all)),tt⟩,⟨⟨rfl,⟨rfl,rfl,tt⟩,(by decide)⟩,⟨rfl,⟨⟨rfl,(by first | rfl | omega | assumption | (symm; assumption) | simp | simp_all),(by decide)⟩,⟨rfl,(by first | rfl | omega | assumption | (symm; assumption) | simp | simp_all),(by decide)⟩,tt⟩,(by decide)⟩,⟨rfl,rfl,(by decide)⟩,⟨rfl,rfl,(by decide)⟩,tt⟩,rfl,rfl⟩)
 ·rintro ⟨i,a,b⟩ hC0
  have hC : (i ≤ o.length) ∧ ([a,b] = sts s h o i) ∧ (∀ j,j < i → okAt s h o j = true) := hC0
  clear hC0
  obtain ⟨hi,hss,hA⟩ := hC
  refine W.to (⟨[(0,.v (.string s)),(1,.sl (.calls h)),(6,.ptr 6 0),(8,.ptr 8 0),(14,.sl (.ints o)),(15,.i (o.length : Int)),(16,.i ((i : Nat) : Int))],[(6,⟨50,.fix [.v (.slice none 0 0),.v (.slice none 0 0)]⟩),(8,⟨50,.fix [.own 821 a.length,.own 822 b.length]⟩),(821,⟨3,.row (.ints a)⟩),(822,⟨3,.row (.ints b)⟩)],[6,8,821,822,999]⟩) rfl ?_
  have hri := ho i
  have hcl := fun hi => isCall_iff.1 (ord_call hv ho (i := i) hi)
  unfold ordAt callAt at hcl
  refine Kk cok tab32o hnt [] [0,1,6,8,14,15,16,17] (⟨[(0,.v (.string s)),(1,.sl (.calls h)),(6,.ptr 6 0),(8,.ptr 8 0),(14,.sl (.ints o)),(15,.i (o.length : Int)),(16,.i ((i : Nat) : Int)),(17,.b (decide (((i : Nat) : Int) < (o.length : Int))))],[(6,⟨50,.fix [.v (.slice none 0 0),.v (.slice none 0 0)]⟩),(8,⟨50,.fix [.own 821 a.length,.own 822 b.length]⟩),(821,⟨3,.row (.ints a)⟩),(822,⟨3,.row (.ints b)⟩)],[6,8,821,822,999]⟩)
   ((True ∧ True ∧ True) ∧ True)
   ⟨⟨tt,tt,tt⟩,tt⟩ ?_
  refine W.seq ?_
  refine W.ifP (((i : Nat) : Int) < (o.length : Int)) (.b (decide (((i : Nat) : Int) < (o.length : Int)))) (by kernel_rfl) rfl trivial ?_ ?_
  ·intro h17
   refine W.skip (thenQ_normal ?_)
   refine W.seq ?_
   refine W.block ?_
   refine Kk cok tab32o hnt [] [0,1,6,8,10,14,15,16] (⟨[(0,.v (.string s)),(1,.sl (.calls h)),(6,.ptr 6 0),(8,.ptr 8 0),(10,.i (o.getD i 0)),(14,.sl (.ints o)),(15,.i (o.length : Int)),(16,.i ((i : Nat) : Int))],[(6,⟨50,.fix [.v (.slice none 0 0),.v (.slice none 0 0)]⟩),(8,⟨50,.fix [.own 821 a.length,.own 822 b.length]⟩),(821,⟨3,.row (.ints a)⟩),(822,⟨3,.row (.ints b)⟩)],[6,8,821,822,999]⟩)
    ((True ∧ True ∧ (0 ≤ ((i : Nat) : Int)) ∧ (((i : Nat) : Int) < (o.length : Int))) ∧ True ∧ True ∧ True)
    ⟨⟨tt,tt,(by omega),(by have hcl := hcl (by omega); omega)⟩,tt,tt,tt⟩ ?_
   rcases (show (h.getD (Int.toNat (o.getD i 0)) default).obj = 0 ∨ (h.getD (Int.toNat (o.getD i 0)) default).obj = 1 from (by have hcl := hcl (by omega); omega)) with hix | hix
   ·skip
    have hst := po_step0 hs hv ho (by omega) (by omega) hss hix
    have hab := po_a hs hv ho (by omega) (by omega) hss hix
    refine W.KA cok tab32o hnt [33] [0,1,6,8,10,11,12,14,15,16] (⟨[(0,.v (.string s)),(1,.sl (.calls h)),(6,.ptr 6 0),(8,.ptr 8 0),(10,.i (o.getD i 0)),(11,.own 33 (List.length ((iStep s a (h.getD (Int.toNat (o.getD i 0)) default)).1))),(12,.i ((iStep s a (h.getD (Int.toNat (o.getD i 0)) default)).2)),(14,.sl (.ints o)),(15,.i (o.length : Int)),(16,.i ((i : Nat) : Int))],[(6,⟨50,.fix [.v (.slice none 0 0),.v (.slice none 0 0)]⟩),(8,⟨50,.fix [.own 821 a.length,.own 822 b.length]⟩),(33,⟨3,.row (.ints ((iStep s a (h.getD (Int.toNat (o.getD i 0)) default)).1))⟩),(821,⟨3,.row (.ints a)⟩),(822,⟨3,.row (.ints b)⟩)],[33,6,8,821,822,999]⟩)
     (True ∧ True ∧ True ∧ (True ∧ True ∧ (0 ≤ (o.getD i 0)) ∧ ((o.getD i 0) < (h.length : Int))) ∧ True ∧ True ∧ (True ∧ True ∧ (((h.getD (Int.toNat (o.getD i 0)) default).obj) = ((0 : Nat) : Int))) ∧ True ∧ True ∧ True ∧ (True ∧ True ∧ (0 ≤ (o.getD i 0)) ∧ ((o.getD i 0) < (h.length : Int))) ∧ True ∧ (True ∧ (True ∧ (True ∧ (a.length = a.length)) ∧ True ∧ True) ∧ (∀ j,j < a.length → 0 ≤ a.getD j 0 ∧ a.getD j 0 ≤ 20) ∧ (0 ≤ (h.getD (Int.toNat (o.getD i 0)) default).arg ∧ (h.getD (Int.toNat (o.getD i 0)) default).arg ≤ 3) ∧ (a.length ≤ 20)) ∧ True ∧ True ∧ True ∧ True ∧ True ∧ True) (by kernel_rfl) (by kernel_rfl)
     ⟨tt,tt,tt,⟨tt,tt,(by (first | omega | (simp only [List.length_set]; done) | (simp only [List.length_append,List.length_cons,List.length_nil,List.length_take,List.length_drop,List.length_set,List.length_replicate,List.length_map] at *; omega) | assumption)),(by have hcl := hcl (by omega); omega)⟩,tt,tt,⟨tt,tt,(by have hcl := hcl (by omega); omega)⟩,tt,tt,tt,⟨tt,tt,(by (first | omega | (simp only [List.length_set]; done) | (simp only [List.length_append,List.length_cons,List.length_nil,List.length_take,List.length_drop,List.length_set,List.length_replicate,List.length_map] at *; omega) | assumption)),(by have hcl := hcl (by omega); omega)⟩,tt,⟨tt,⟨tt,⟨tt,rfl⟩,tt,tt⟩,(by exact hab.2),(by have hcl := hcl (by omega); omega),(by exact hab.1)⟩,tt,tt,tt,tt,tt,tt⟩ ?_
    refine W.seq ?_
    refine Kk cok tab32o hnt [] [0,1,6,8,10,11,14,15,16,42] (⟨[(0,.v (.string s)),(1,.sl (.calls h)),(6,.ptr 6 0),(8,.ptr 8 0),(10,.i (o.getD i 0)),(11,.own 33 (List.length ((iStep s a (h.getD (Int.toNat (o.getD i 0)) default)).1))),(14,.sl (.ints o)),(15,.i (o.length : Int)),(16,.i ((i : Nat) : Int)),(42,.b (decide (((iStep s a (h.getD (Int.toNat (o.getD i 0)) default)).2) ≠ ((h.getD (Int.toNat (o.getD i 0)) default).ret))))],[(6,⟨50,.fix [.v (.slice none 0 0),.v (.slice none 0 0)]⟩),(8,⟨50,.fix [.own 821 a.length,.own 822 b.length]⟩),(33,⟨3,.row (.ints ((iStep s a (h.getD (Int.toNat (o.getD i 0)) default)).1))⟩),(821,⟨3,.row (.ints a)⟩),(822,⟨3,.row (.ints b)⟩)],[33,6,8,821,822,999]⟩)
     (True ∧ True ∧ True ∧ (True ∧ True ∧ (0 ≤ (o.getD i 0)) ∧ ((o.getD i 0) < (h.length : Int))) ∧ True ∧ True ∧ (True ∧ True ∧ True) ∧ True)
     ⟨tt,tt,tt,⟨tt,tt,(by (first | omega | (simp only [List.length_set]; done) | (simp only [List.length_append,List.length_cons,List.length_nil,List.length_take,List.length_drop,List.length_set,List.length_replicate,List.length_map] at *; omega) | assumption)),(by have hcl := hcl (by omega); omega)⟩,tt,tt,⟨tt,tt,tt⟩,tt⟩ ?_
    refine W.ifP (((iStep s a (h.getD (Int.toNat (o.getD i 0)) default)).2) ≠ ((h.getD (Int.toNat (o.getD i 0)) default).ret)) (.b (decide (((iStep s a (h.getD (Int.toNat (o.getD i 0)) default)).2) ≠ ((h.getD (Int.toNat (o.getD i 0)) default).ret)))) (by kernel_rfl) rfl trivial ?_ ?_
    ·intro h42
     refine Kk cok tab32o hnt [] [6,7] (⟨[(6,.ptr 6 0),(7,.b false)],[(6,⟨50,.fix [.own 821 a.length,.own 822 b.length]⟩),(8,⟨50,.fix [.own 821 a.length,.own 822 b.length]⟩),(33,⟨3,.row (.ints ((iStep s a (h.getD (Int.toNat (o.getD i 0)) default)).1))⟩),(821,⟨3,.row (.ints a)⟩),(822,⟨3,.row (.ints b)⟩)],[33,6,8,821,822,999]⟩)
      (True ∧ (True ∧ True) ∧ True ∧ True)
      ⟨tt,⟨tt,tt⟩,tt,tt⟩ ?_
     refine W.ret (thenQ_ret (blockQ_ret (thenQ_ret (thenQ_ret (blockQ_ret (thenQ_ret ?_))))))
     exact endQ_rows [(0,821),(1,822)] (.tup [.agg [.own 821 a.length,.own 822 b.length],.b false]) (by kernel_rfl) (@cast (((((821 : Nat) = 821) ∧ (a.length = (List.length (List.getD ((playedR s h o).1) 0 []))) ∧ ((0 : Nat) ∈ ([0,1] : List Nat))) ∧ (((822 : Nat) = 822) ∧ (b.length = (List.length (List.getD ((playedR s h o).1) 1 []))) ∧ ((1 : Nat) ∈ ([0,1] : List Nat))) ∧ True) ∧ ((.bool false : Value) = .bool ((playedR s h o).2)) ∧ True) _ (by kernel_rfl) ⟨⟨⟨rfl,(by first | rfl | omega | assumption | (symm; assumption) | (exact congrArg List.length (by have hE := played_no (i := i) (by omega) (fun j hj => hA j hj) (by rw [← hst.2]; exact decide_eq_false (by omega)); have hp := po_pair hss (.inl hE); first | exact hp.1 | exact hp.2 | rw [← hp.1] | rw [← hp.2] | (rw [hE]))) | (have hE := played_no (i := i) (by omega) (fun j hj => hA j hj) (by rw [← hst.2]; exact decide_eq_false (by omega)); have hp := po_pair hss (.inl hE); first | exact hp.1 | exact hp.2 | rw [← hp.1] | rw [← hp.2] | (rw [hE]); done) | simp | simp_all),(by decide)⟩,⟨rfl,(by first | rfl | omega | assumption | (symm; assumption) | (exact congrArg List.length (by have hE := played_no (i := i) (by omega) (fun j hj => hA j hj) (by rw [← hst.2]; exact decide_eq_false (by omega)); have hp := po_pair hss (.inl hE); first | exact hp.1 | exact hp.2 | rw [← hp.1] | rw [← hp.2] | (rw [hE]))) | (have hE := played_no (i := i) (by omega) (fun j hj => hA j hj) (by rw [← hst.2]; exact decide_eq_false (by omega)); have hp := po_pair hss (.inl hE); first | exact hp.1 | exact hp.2 | rw [← hp.1] | rw [← hp.2] | (rw [hE]); done) | simp | simp_all),(by decide)⟩,tt⟩,(congrArg Value.bool (by first | rfl | omega | assumption | (have hE := played_no (i := i) (by omega) (fun j hj => hA j hj) (by rw [← hst.2]; exact decide_eq_false (by omega)); have hp := po_pair hss (.inl hE); first | exact hp.1 | exact hp.2 | rw [← hp.1] | rw [← hp.2] | (rw [hE]); done) | simp | simp_all)),tt⟩) (@cast ((((3 : Nat) = 3) ∧ ((.ints a : Dat) = .ints (List.getD ((playedR s h o).1) 0 [])) ∧ ((0 : Nat) ∈ ([0,1] : List Nat))) ∧ (((3 : Nat) = 3) ∧ ((.ints b : Dat) = .ints (List.getD ((playedR s h o).1) 1 [])) ∧ ((1 : Nat) ∈ ([0,1] : List Nat))) ∧ True) _ (by kernel_rfl) ⟨⟨rfl,(congrArg Dat.ints (by have hE := played_no (i := i) (by omega) (fun j hj => hA j hj) (by rw [← hst.2]; exact decide_eq_false (by omega)); have hp := po_pair hss (.inl hE); first | exact hp.1 | exact hp.2 | rw [← hp.1] | rw [← hp.2] | (rw [hE]))),(by decide)⟩,⟨rfl,(congrArg Dat.ints (by have hE := played_no (i := i) (by omega) (fun j hj => hA j hj) (by rw [← hst.2]; exact decide_eq_false (by omega)); have hp := po_pair hss (.inl hE); first | exact hp.1 | exact hp.2 | rw [← hp.1] | rw [← hp.2] | (rw [hE]))),(by decide)⟩,tt⟩) (by kernel_rfl)
    ·intro n42
     refine W.skip (thenQ_normal ?_)
     refine Lk cok tab32o hnt [] (⟨[(0,.v (.string s)),(1,.sl (.calls h)),(6,.ptr 6 0),(8,.ptr 8 0),(10,.i (o.getD i 0)),(11,.own 33 (List.length ((iStep s a (h.getD (Int.toNat (o.getD i 0)) default)).1))),(14,.sl (.ints o)),(15,.i (o.length : Int)),(16,.i ((i : Nat) : Int)),(42,.b (decide (((iStep s a (h.getD (Int.toNat (o.getD i 0)) default)).2) ≠ ((h.getD (Int.toNat (o.getD i 0)) default).ret)))),(44,.sl (.calls h)),(45,.i (o.getD i 0)),(46,.ep [.i ((h.getD (Int.toNat (o.getD i 0)) default).proc),.i ((h.getD (Int.toNat (o.getD i 0)) default).obj),.i ((h.getD (Int.toNat (o.getD i 0)) default).kind),.i ((h.getD (Int.toNat (o.getD i 0)) default).arg),.i ((h.getD (Int.toNat (o.getD i 0)) default).ret),.i ((h.getD (Int.toNat (o.getD i 0)) default).frm),.i ((h.getD (Int.toNat (o.getD i 0)) default).to)]),(47,.ep [.i ((h.getD (Int.toNat (o.getD i 0)) default).obj),.i ((h.getD (Int.toNat (o.getD i 0)) default).kind),.i ((h.getD (Int.toNat (o.getD i 0)) default).arg),.i ((h.getD (Int.toNat (o.getD i 0)) default).ret),.i ((h.getD (Int.toNat (o.getD i 0)) default).frm),.i ((h.getD (Int.toNat (o.getD i 0)) default).to)]),(48,.i ((h.getD (Int.toNat (o.getD i 0)) default).obj)),(49,.own 33 (List.length ((iStep s a (h.getD (Int.toNat (o.getD i 0)) default)).1))),(50,.ptr 8 0)],[(6,⟨50,.fix [.v (.slice none 0 0),.v (.slice none 0 0)]⟩),(8,⟨50,.fix [.own 33 (List.length ((iStep s a (h.getD (Int.toNat (o.getD i 0)) default)).1)),.own 822 b.length]⟩),(33,⟨3,.row (.ints ((iStep s a (h.getD (Int.toNat (o.getD i 0)) default)).1))⟩),(821,⟨3,.row (.ints a)⟩),(822,⟨3,.row (.ints b)⟩)],[33,6,8,821,822,999]⟩)
      (True ∧ True ∧ (True ∧ True ∧ (0 ≤ (o.getD i 0)) ∧ ((o.getD i 0) < (h.length : Int))) ∧ True ∧ True ∧ True ∧ (True ∧ True ∧ (((h.getD (Int.toNat (o.getD i 0)) default).obj) = ((0 : Nat) : Int))) ∧ (True ∧ True) ∧ True)
      ⟨tt,tt,⟨tt,tt,(by (first | omega | (simp only [List.length_set]; done) | (simp only [List.length_append,List.length_cons,List.length_nil,List.length_take,List.length_drop,List.length_set,List.length_replicate,List.length_map] at *; omega) | assumption)),(by have hcl := hcl (by omega); omega)⟩,tt,tt,tt,⟨tt,tt,(by have hcl := hcl (by omega); omega)⟩,⟨tt,tt⟩,tt⟩ ?_
     refine blockQ_normal (thenQ_normal ?_)
     refine Lk cok tab32o hnt [] (⟨[(0,.v (.string s)),(1,.sl (.calls h)),(6,.ptr 6 0),(8,.ptr 8 0),(10,.i (o.getD i 0)),(11,.own 33 (List.length ((iStep s a (h.getD (Int.toNat (o.getD i 0)) default)).1))),(14,.sl (.ints o)),(15,.i (o.length : Int)),(16,.i (((i + 1) : Nat) : Int)),(42,.b (decide (((iStep s a (h.getD (Int.toNat (o.getD i 0)) default)).2) ≠ ((h.getD (Int.toNat (o.getD i 0)) default).ret)))),(44,.sl (.calls h)),(45,.i (o.getD i 0)),(46,.ep [.i ((h.getD (Int.toNat (o.getD i 0)) default).proc),.i ((h.getD (Int.toNat (o.getD i 0)) default).obj),.i ((h.getD (Int.toNat (o.getD i 0)) default).kind),.i ((h.getD (Int.toNat (o.getD i 0)) default).arg),.i ((h.getD (Int.toNat (o.getD i 0)) default).ret),.i ((h.getD (Int.toNat (o.getD i 0)) default).frm),.i ((h.getD (Int.toNat (o.getD i 0)) default).to)]),(47,.ep [.i ((h.getD (Int.toNat (o.getD i 0)) default).obj),.i ((h.getD (Int.toNat (o.getD i 0)) default).kind),.i ((h.getD (Int.toNat (o.getD i 0)) default).arg),.i ((h.getD (Int.toNat (o.getD i 0)) default).ret),.i ((h.getD (Int.toNat (o.getD i 0)) default).frm),.i ((h.getD (Int.toNat (o.getD i 0)) default).to)]),(48,.i ((h.getD (Int.toNat (o.getD i 0)) default).obj)),(49,.own 33 (List.length ((iStep s a (h.getD (Int.toNat (o.getD i 0)) default)).1))),(50,.ptr 8 0),(51,.i (((i + 1) : Nat) : Int))],[(6,⟨50,.fix [.v (.slice none 0 0),.v (.slice none 0 0)]⟩),(8,⟨50,.fix [.own 33 (List.length ((iStep s a (h.getD (Int.toNat (o.getD i 0)) default)).1)),.own 822 b.length]⟩),(33,⟨3,.row (.ints ((iStep s a (h.getD (Int.toNat (o.getD i 0)) default)).1))⟩),(821,⟨3,.row (.ints a)⟩),(822,⟨3,.row (.ints b)⟩)],[33,6,8,821,822,999]⟩)
      ((True ∧ True ∧ (Fits .i64 (((i + 1) : Nat) : Int))) ∧ True ∧ True)
      ⟨⟨tt,tt,(by exact fits_i64 (by omega) (by omega))⟩,tt,tt⟩ ?_
     refine thenQ_normal ?_
     refine ⟨((i + 1),((iStep s a (h.getD (Int.toNat (o.getD i 0)) default)).1),b),(show ((i + 1) ≤ o.length) ∧ ([((iStep s a (h.getD (Int.toNat (o.getD i 0)) default)).1),b] = sts s h o (i + 1)) ∧ (∀ j,j < (i + 1) → okAt s h o j = true) from ⟨(by first | assumption | omega | rfl | (intro _ hjj; omega) | (simp; done) | (simp; omega)),(by exact hst.1),(by exact upto_succ hA (by rw [← hst.2]; exact decide_eq_true (by omega)))⟩),(show o.length - (i + 1) < o.length - i from (by first | omega | (simp_all; omega))),?_⟩
     exact Sub.of [(821,33)] (@cast (((((.string s) : Value) = (.string s)) ∧ (Sd (.calls h)) ∧ (((6 : Nat) = 6) ∧ ((0 : Nat) = 0) ∧ ((6 : Nat) ∈ ([6,8,821,822,999] : List Nat))) ∧ (((8 : Nat) = 8) ∧ ((0 : Nat) = 0) ∧ ((8 : Nat) ∈ ([6,8,821,822,999] : List Nat))) ∧ (Sd (.ints o)) ∧ (Si (o.length : Int)) ∧ (Si (((i + 1) : Nat) : Int)) ∧ True) ∧ ((((50 : Nat) = 50) ∧ ((((.slice none 0 0) : Value) = (.slice none 0 0)) ∧ (((.slice none 0 0) : Value) = (.slice none 0 0)) ∧ True) ∧ ((6 : Nat) ∈ ([6,8,821,822,999] : List Nat))) ∧ (((50 : Nat) = 50) ∧ ((((33 : Nat) = 33) ∧ ((List.length ((iStep s a (h.getD (Int.toNat (o.getD i 0)) default)).1)) = (List.length ((iStep s a (h.getD (Int.toNat (o.getD i 0)) default)).1))) ∧ ((821 : Nat) ∈ ([6,8,821,822,999] : List Nat))) ∧ (((822 : Nat) = 822) ∧ (b.length = b.length) ∧ ((822 : Nat) ∈ ([6,8,821,822,999] : List Nat))) ∧ True) ∧ ((8 : Nat) ∈ ([6,8,821,822,999] : List Nat))) ∧ (((3 : Nat) = 3) ∧ (Sd (.ints ((iStep s a (h.getD (Int.toNat (o.getD i 0)) default)).1))) ∧ ((821 : Nat) ∈ ([6,8,821,822,999] : List Nat))) ∧ (((3 : Nat) = 3) ∧ (Sd (.ints b)) ∧ ((822 : Nat) ∈ ([6,8,821,822,999] : List Nat))) ∧ True) ∧ (true = true) ∧ (true = true)) _ (by kernel_rfl) ⟨⟨rfl,rfl,⟨rfl,rfl,(by decide)⟩,⟨rfl,rfl,(by decide)⟩,rfl,rfl,rfl,tt⟩,⟨⟨rfl,⟨rfl,rfl,tt⟩,(by decide)⟩,⟨rfl,⟨⟨rfl,rfl,(by decide)⟩,⟨rfl,rfl,(by decide)⟩,tt⟩,(by decide)⟩,⟨rfl,rfl,(by decide)⟩,⟨rfl,rfl,(by decide)⟩,tt⟩,rfl,rfl⟩)
   ·skip
    have hst := po_step1 hs hv ho (by omega) (by omega) hss hix
    have hab := po_b hs hv ho (by omega) (by omega) hss hix
    refine W.KA cok1 tab32o hnt [33] [0,1,6,8,10,11,12,14,15,16] (⟨[(0,.v (.string s)),(1,.sl (.calls h)),(6,.ptr 6 0),(8,.ptr 8 0),(10,.i (o.getD i 0)),(11,.own 33 (List.length ((iStep s b (h.getD (Int.toNat (o.getD i 0)) default)).1))),(12,.i ((iStep s b (h.getD (Int.toNat (o.getD i 0)) default)).2)),(14,.sl (.ints o)),(15,.i (o.length : Int)),(16,.i ((i : Nat) : Int))],[(6,⟨50,.fix [.v (.slice none 0 0),.v (.slice none 0 0)]⟩),(8,⟨50,.fix [.own 821 a.length,.own 822 b.length]⟩),(33,⟨3,.row (.ints ((iStep s b (h.getD (Int.toNat (o.getD i 0)) default)).1))⟩),(821,⟨3,.row (.ints a)⟩),(822,⟨3,.row (.ints b)⟩)],[33,6,8,821,822,999]⟩)
     (True ∧ True ∧ True ∧ (True ∧ True ∧ (0 ≤ (o.getD i 0)) ∧ ((o.getD i 0) < (h.length : Int))) ∧ True ∧ True ∧ (True ∧ True ∧ (((h.getD (Int.toNat (o.getD i 0)) default).obj) = ((1 : Nat) : Int))) ∧ True ∧ True ∧ True ∧ (True ∧ True ∧ (0 ≤ (o.getD i 0)) ∧ ((o.getD i 0) < (h.length : Int))) ∧ True ∧ (True ∧ (True ∧ (True ∧ (b.length = b.length)) ∧ True ∧ True) ∧ (∀ j,j < b.length → 0 ≤ b.getD j 0 ∧ b.getD j 0 ≤ 20) ∧ (0 ≤ (h.getD (Int.toNat (o.getD i 0)) default).arg ∧ (h.getD (Int.toNat (o.getD i 0)) default).arg ≤ 3) ∧ (b.length ≤ 20)) ∧ True ∧ True ∧ True ∧ True ∧ True ∧ True) (by kernel_rfl) (by kernel_rfl)
     ⟨tt,tt,tt,⟨tt,tt,(by (first | omega | (simp only [List.length_set]; done) | (simp only [List.length_append,List.length_cons,List.length_nil,List.length_take,List.length_drop,List.length_set,List.length_replicate,List.length_map] at *; omega) | assumption)),(by have hcl := hcl (by omega); omega)⟩,tt,tt,⟨tt,tt,(by have hcl := hcl (by omega); omega)⟩,tt,tt,tt,⟨tt,tt,(by (first | omega | (simp only [List.length_set]; done) | (simp only [List.length_append,List.length_cons,List.length_nil,List.length_take,List.length_drop,List.length_set,List.length_replicate,List.length_map] at *; omega) | assumption)),(by have hcl := hcl (by omega); omega)⟩,tt,⟨tt,⟨tt,⟨tt,rfl⟩,tt,tt⟩,(by exact hab.2),(by have hcl := hcl (by omega); omega),(by exact hab.1)⟩,tt,tt,tt,tt,tt,tt⟩ ?_
    refine W.seq ?_
    refine Kk cok1 tab32o hnt [] [0,1,6,8,10,11,14,15,16,42] (⟨[(0,.v (.string s)),(1,.sl (.calls h)),(6,.ptr 6 0),(8,.ptr 8 0),(10,.i (o.getD i 0)),(11,.own 33 (List.length ((iStep s b (h.getD (Int.toNat (o.getD i 0)) default)).1))),(14,.sl (.ints o)),(15,.i (o.length : Int)),(16,.i ((i : Nat) : Int)),(42,.b (decide (((iStep s b (h.getD (Int.toNat (o.getD i 0)) default)).2) ≠ ((h.getD (Int.toNat (o.getD i 0)) default).ret))))],[(6,⟨50,.fix [.v (.slice none 0 0),.v (.slice none 0 0)]⟩),(8,⟨50,.fix [.own 821 a.length,.own 822 b.length]⟩),(33,⟨3,.row (.ints ((iStep s b (h.getD (Int.toNat (o.getD i 0)) default)).1))⟩),(821,⟨3,.row (.ints a)⟩),(822,⟨3,.row (.ints b)⟩)],[33,6,8,821,822,999]⟩)
     (True ∧ True ∧ True ∧ (True ∧ True ∧ (0 ≤ (o.getD i 0)) ∧ ((o.getD i 0) < (h.length : Int))) ∧ True ∧ True ∧ (True ∧ True ∧ True) ∧ True)
     ⟨tt,tt,tt,⟨tt,tt,(by (first | omega | (simp only [List.length_set]; done) | (simp only [List.length_append,List.length_cons,List.length_nil,List.length_take,List.length_drop,List.length_set,List.length_replicate,List.length_map] at *; omega) | assumption)),(by have hcl := hcl (by omega); omega)⟩,tt,tt,⟨tt,tt,tt⟩,tt⟩ ?_
    refine W.ifP (((iStep s b (h.getD (Int.toNat (o.getD i 0)) default)).2) ≠ ((h.getD (Int.toNat (o.getD i 0)) default).ret)) (.b (decide (((iStep s b (h.getD (Int.toNat (o.getD i 0)) default)).2) ≠ ((h.getD (Int.toNat (o.getD i 0)) default).ret)))) (by kernel_rfl) rfl trivial ?_ ?_
    ·intro h42
     refine Kk cok1 tab32o hnt [] [6,7] (⟨[(6,.ptr 6 0),(7,.b false)],[(6,⟨50,.fix [.own 821 a.length,.own 822 b.length]⟩),(8,⟨50,.fix [.own 821 a.length,.own 822 b.length]⟩),(33,⟨3,.row (.ints ((iStep s b (h.getD (Int.toNat (o.getD i 0)) default)).1))⟩),(821,⟨3,.row (.ints a)⟩),(822,⟨3,.row (.ints b)⟩)],[33,6,8,821,822,999]⟩)
      (True ∧ (True ∧ True) ∧ True ∧ True)
      ⟨tt,⟨tt,tt⟩,tt,tt⟩ ?_
     refine W.ret (thenQ_ret (blockQ_ret (thenQ_ret (thenQ_ret (blockQ_ret (thenQ_ret ?_))))))
     exact endQ_rows [(0,821),(1,822)] (.tup [.agg [.own 821 a.length,.own 822 b.length],.b false]) (by kernel_rfl) (@cast (((((821 : Nat) = 821) ∧ (a.length = (List.length (List.getD ((playedR s h o).1) 0 []))) ∧ ((0 : Nat) ∈ ([0,1] : List Nat))) ∧ (((822 : Nat) = 822) ∧ (b.length = (List.length (List.getD ((playedR s h o).1) 1 []))) ∧ ((1 : Nat) ∈ ([0,1] : List Nat))) ∧ True) ∧ ((.bool false : Value) = .bool ((playedR s h o).2)) ∧ True) _ (by kernel_rfl) ⟨⟨⟨rfl,(by first | rfl | omega | assumption | (symm; assumption) | (exact congrArg List.length (by have hE := played_no (i := i) (by omega) (fun j hj => hA j hj) (by rw [← hst.2]; exact decide_eq_false (by omega)); have hp := po_pair hss (.inl hE); first | exact hp.1 | exact hp.2 | rw [← hp.1] | rw [← hp.2] | (rw [hE]))) | (have hE := played_no (i := i) (by omega) (fun j hj => hA j hj) (by rw [← hst.2]; exact decide_eq_false (by omega)); have hp := po_pair hss (.inl hE); first | exact hp.1 | exact hp.2 | rw [← hp.1] | rw [← hp.2] | (rw [hE]); done) | simp | simp_all),(by decide)⟩,⟨rfl,(by first | rfl | omega | assumption | (symm; assumption) | (exact congrArg List.length (by have hE := played_no (i := i) (by omega) (fun j hj => hA j hj) (by rw [← hst.2]; exact decide_eq_false (by omega)); have hp := po_pair hss (.inl hE); first | exact hp.1 | exact hp.2 | rw [← hp.1] | rw [← hp.2] | (rw [hE]))) | (have hE := played_no (i := i) (by omega) (fun j hj => hA j hj) (by rw [← hst.2]; exact decide_eq_false (by omega)); have hp := po_pair hss (.inl hE); first | exact hp.1 | exact hp.2 | rw [← hp.1] | rw [← hp.2] | (rw [hE]); done) | simp | simp_all),(by decide)⟩,tt⟩,(congrArg Value.bool (by first | rfl | omega | assumption | (have hE := played_no (i := i) (by omega) (fun j hj => hA j hj) (by rw [← hst.2]; exact decide_eq_false (by omega)); have hp := po_pair hss (.inl hE); first | exact hp.1 | exact hp.2 | rw [← hp.1] | rw [← hp.2] | (rw [hE]); done) | simp | simp_all)),tt⟩) (@cast ((((3 : Nat) = 3) ∧ ((.ints a : Dat) = .ints (List.getD ((playedR s h o).1) 0 [])) ∧ ((0 : Nat) ∈ ([0,1] : List Nat))) ∧ (((3 : Nat) = 3) ∧ ((.ints b : Dat) = .ints (List.getD ((playedR s h o).1) 1 [])) ∧ ((1 : Nat) ∈ ([0,1] : List Nat))) ∧ True) _ (by kernel_rfl) ⟨⟨rfl,(congrArg Dat.ints (by have hE := played_no (i := i) (by omega) (fun j hj => hA j hj) (by rw [← hst.2]; exact decide_eq_false (by omega)); have hp := po_pair hss (.inl hE); first | exact hp.1 | exact hp.2 | rw [← hp.1] | rw [← hp.2] | (rw [hE]))),(by decide)⟩,⟨rfl,(congrArg Dat.ints (by have hE := played_no (i := i) (by omega) (fun j hj => hA j hj) (by rw [← hst.2]; exact decide_eq_false (by omega)); have hp := po_pair hss (.inl hE); first | exact hp.1 | exact hp.2 | rw [← hp.1] | rw [← hp.2] | (rw [hE]))),(by decide)⟩,tt⟩) (by kernel_rfl)
    ·intro n42
     refine W.skip (thenQ_normal ?_)
     refine Lk cok1 tab32o hnt [] (⟨[(0,.v (.string s)),(1,.sl (.calls h)),(6,.ptr 6 0),(8,.ptr 8 0),(10,.i (o.getD i 0)),(11,.own 33 (List.length ((iStep s b (h.getD (Int.toNat (o.getD i 0)) default)).1))),(14,.sl (.ints o)),(15,.i (o.length : Int)),(16,.i ((i : Nat) : Int)),(42,.b (decide (((iStep s b (h.getD (Int.toNat (o.getD i 0)) default)).2) ≠ ((h.getD (Int.toNat (o.getD i 0)) default).ret)))),(44,.sl (.calls h)),(45,.i (o.getD i 0)),(46,.ep [.i ((h.getD (Int.toNat (o.getD i 0)) default).proc),.i ((h.getD (Int.toNat (o.getD i 0)) default).obj),.i ((h.getD (Int.toNat (o.getD i 0)) default).kind),.i ((h.getD (Int.toNat (o.getD i 0)) default).arg),.i ((h.getD (Int.toNat (o.getD i 0)) default).ret),.i ((h.getD (Int.toNat (o.getD i 0)) default).frm),.i ((h.getD (Int.toNat (o.getD i 0)) default).to)]),(47,.ep [.i ((h.getD (Int.toNat (o.getD i 0)) default).obj),.i ((h.getD (Int.toNat (o.getD i 0)) default).kind),.i ((h.getD (Int.toNat (o.getD i 0)) default).arg),.i ((h.getD (Int.toNat (o.getD i 0)) default).ret),.i ((h.getD (Int.toNat (o.getD i 0)) default).frm),.i ((h.getD (Int.toNat (o.getD i 0)) default).to)]),(48,.i ((h.getD (Int.toNat (o.getD i 0)) default).obj)),(49,.own 33 (List.length ((iStep s b (h.getD (Int.toNat (o.getD i 0)) default)).1))),(50,.ptr 8 1)],[(6,⟨50,.fix [.v (.slice none 0 0),.v (.slice none 0 0)]⟩),(8,⟨50,.fix [.own 821 a.length,.own 33 (List.length ((iStep s b (h.getD (Int.toNat (o.getD i 0)) default)).1))]⟩),(33,⟨3,.row (.ints ((iStep s b (h.getD (Int.toNat (o.getD i 0)) default)).1))⟩),(821,⟨3,.row (.ints a)⟩),(822,⟨3,.row (.ints b)⟩)],[33,6,8,821,822,999]⟩)
      (True ∧ True ∧ (True ∧ True ∧ (0 ≤ (o.getD i 0)) ∧ ((o.getD i 0) < (h.length : Int))) ∧ True ∧ True ∧ True ∧ (True ∧ True ∧ (((h.getD (Int.toNat (o.getD i 0)) default).obj) = ((1 : Nat) : Int))) ∧ (True ∧ True) ∧ True)
      ⟨tt,tt,⟨tt,tt,(by (first | omega | (simp only [List.length_set]; done) | (simp only [List.length_append,List.length_cons,List.length_nil,List.length_take,List.length_drop,List.length_set,List.length_replicate,List.length_map] at *; omega) | assumption)),(by have hcl := hcl (by omega); omega)⟩,tt,tt,tt,⟨tt,tt,(by have hcl := hcl (by omega); omega)⟩,⟨tt,tt⟩,tt⟩ ?_
     refine blockQ_normal (thenQ_normal ?_)
     refine Lk cok1 tab32o hnt [] (⟨[(0,.v (.string s)),(1,.sl (.calls h)),(6,.ptr 6 0),(8,.ptr 8 0),(10,.i (o.getD i 0)),(11,.own 33 (List.length ((iStep s b (h.getD (Int.toNat (o.getD i 0)) default)).1))),(14,.sl (.ints o)),(15,.i (o.length : Int)),(16,.i (((i + 1) : Nat) : Int)),(42,.b (decide (((iStep s b (h.getD (Int.toNat (o.getD i 0)) default)).2) ≠ ((h.getD (Int.toNat (o.getD i 0)) default).ret)))),(44,.sl (.calls h)),(45,.i (o.getD i 0)),(46,.ep [.i ((h.getD (Int.toNat (o.getD i 0)) default).proc),.i ((h.getD (Int.toNat (o.getD i 0)) default).obj),.i ((h.getD (Int.toNat (o.getD i 0)) default).kind),.i ((h.getD (Int.toNat (o.getD i 0)) default).arg),.i ((h.getD (Int.toNat (o.getD i 0)) default).ret),.i ((h.getD (Int.toNat (o.getD i 0)) default).frm),.i ((h.getD (Int.toNat (o.getD i 0)) default).to)]),(47,.ep [.i ((h.getD (Int.toNat (o.getD i 0)) default).obj),.i ((h.getD (Int.toNat (o.getD i 0)) default).kind),.i ((h.getD (Int.toNat (o.getD i 0)) default).arg),.i ((h.getD (Int.toNat (o.getD i 0)) default).ret),.i ((h.getD (Int.toNat (o.getD i 0)) default).frm),.i ((h.getD (Int.toNat (o.getD i 0)) default).to)]),(48,.i ((h.getD (Int.toNat (o.getD i 0)) default).obj)),(49,.own 33 (List.length ((iStep s b (h.getD (Int.toNat (o.getD i 0)) default)).1))),(50,.ptr 8 1),(51,.i (((i + 1) : Nat) : Int))],[(6,⟨50,.fix [.v (.slice none 0 0),.v (.slice none 0 0)]⟩),(8,⟨50,.fix [.own 821 a.length,.own 33 (List.length ((iStep s b (h.getD (Int.toNat (o.getD i 0)) default)).1))]⟩),(33,⟨3,.row (.ints ((iStep s b (h.getD (Int.toNat (o.getD i 0)) default)).1))⟩),(821,⟨3,.row (.ints a)⟩),(822,⟨3,.row (.ints b)⟩)],[33,6,8,821,822,999]⟩)
      ((True ∧ True ∧ (Fits .i64 (((i + 1) : Nat) : Int))) ∧ True ∧ True)
      ⟨⟨tt,tt,(by exact fits_i64 (by omega) (by omega))⟩,tt,tt⟩ ?_
     refine thenQ_normal ?_
     refine ⟨((i + 1),a,((iStep s b (h.getD (Int.toNat (o.getD i 0)) default)).1)),(show ((i + 1) ≤ o.length) ∧ ([a,((iStep s b (h.getD (Int.toNat (o.getD i 0)) default)).1)] = sts s h o (i + 1)) ∧ (∀ j,j < (i + 1) → okAt s h o j = true) from ⟨(by first | assumption | omega | rfl | (intro _ hjj; omega) | (simp; done) | (simp; omega)),(by exact hst.1),(by exact upto_succ hA (by rw [← hst.2]; exact decide_eq_true (by omega)))⟩),(show o.length - (i + 1) < o.length - i from (by first | omega | (simp_all; omega))),?_⟩
     exact Sub.of [(822,33)] (@cast (((((.string s) : Value) = (.string s)) ∧ (Sd (.calls h)) ∧ (((6 : Nat) = 6) ∧ ((0 : Nat) = 0) ∧ ((6 : Nat) ∈ ([6,8,821,822,999] : List Nat))) ∧ (((8 : Nat) = 8) ∧ ((0 : Nat) = 0) ∧ ((8 : Nat) ∈ ([6,8,821,822,999] : List Nat))) ∧ (Sd (.ints o)) ∧ (Si (o.length : Int)) ∧ (Si (((i + 1) : Nat) : Int)) ∧ True) ∧ ((((50 : Nat) = 50) ∧ ((((.slice none 0 0) : Value) = (.slice none 0 0)) ∧ (((.slice none 0 0) : Value) = (.slice none 0 0)) ∧ True) ∧ ((6 : Nat) ∈ ([6,8,821,822,999] : List Nat))) ∧ (((50 : Nat) = 50) ∧ ((((821 : Nat) = 821) ∧ (a.length = a.length) ∧ ((821 : Nat) ∈ ([6,8,821,822,999] : List Nat))) ∧ (((33 : Nat) = 33) ∧ ((List.length ((iStep s b (h.getD (Int.toNat (o.getD i 0)) default)).1)) = (List.length ((iStep s b (h.getD (Int.toNat (o.getD i 0)) default)).1))) ∧ ((822 : Nat) ∈ ([6,8,821,822,999] : List Nat))) ∧ True) ∧ ((8 : Nat) ∈ ([6,8,821,822,999] : List Nat))) ∧ (((3 : Nat) = 3) ∧ (Sd (.ints a)) ∧ ((821 : Nat) ∈ ([6,8,821,822,999] : List Nat))) ∧ (((3 : Nat) = 3) ∧ (Sd (.ints ((iStep s b (h.getD (Int.toNat (o.getD i 0)) default)).1))) ∧ ((822 : Nat) ∈ ([6,8,821,822,999] : List Nat))) ∧ True) ∧ (true = true) ∧ (true = true)) _ (by kernel_rfl) ⟨⟨rfl,rfl,⟨rfl,rfl,(by decide)⟩,⟨rfl,rfl,(by decide)⟩,rfl,rfl,rfl,tt⟩,⟨⟨rfl,⟨rfl,rfl,tt⟩,(by decide)⟩,⟨rfl,⟨⟨rfl,rfl,(by decide)⟩,⟨rfl,rfl,(by decide)⟩,tt⟩,(by decide)⟩,⟨rfl,rfl,(by decide)⟩,⟨rfl,rfl,(by decide)⟩,tt⟩,rfl,rfl⟩)
  ·intro n17
   refine W.exit (thenQ_exit (thenQ_exit (blockQ_hit ?_)))
   refine thenQ_normal ?_
   refine Kk cok tab32o hnt [] [6,7] (⟨[(6,.ptr 6 0),(7,.b true)],[(6,⟨50,.fix [.own 821 a.length,.own 822 b.length]⟩),(8,⟨50,.fix [.own 821 a.length,.own 822 b.length]⟩),(821,⟨3,.row (.ints a)⟩),(822,⟨3,.row (.ints b)⟩)],[6,8,821,822,999]⟩)
    (True ∧ (True ∧ True) ∧ True ∧ True)
    ⟨tt,⟨tt,tt⟩,tt,tt⟩ ?_
   refine W.ret ?_
   exact endQ_rows [(0,821),(1,822)] (.tup [.agg [.own 821 a.length,.own 822 b.length],.b true]) (by kernel_rfl) (@cast (((((821 : Nat) = 821) ∧ (a.length = (List.length (List.getD ((playedR s h o).1) 0 []))) ∧ ((0 : Nat) ∈ ([0,1] : List Nat))) ∧ (((822 : Nat) = 822) ∧ (b.length = (List.length (List.getD ((playedR s h o).1) 1 []))) ∧ ((1 : Nat) ∈ ([0,1] : List Nat))) ∧ True) ∧ ((.bool true : Value) = .bool ((playedR s h o).2)) ∧ True) _ (by kernel_rfl) ⟨⟨⟨rfl,(by first | rfl | omega | assumption | (symm; assumption) | (exact congrArg List.length (by have hE : playedR s h o = (sts s h o i,true) := (by rw [show i = o.length by omega]; exact played_yes (fun j hj => hA j (by omega))); have hp := po_pair hss (.inr hE); first | exact hp.1 | exact hp.2 | rw [← hp.1] | rw [← hp.2] | (rw [hE]))) | (have hE : playedR s h o = (sts s h o i,true) := (by rw [show i = o.length by omega]; exact played_yes (fun j hj => hA j (by omega))); have hp := po_pair hss (.inr hE); first | exact hp.1 | exact hp.2 | rw [← hp.1] | rw [← hp.2] | (rw [hE]); done) | simp | simp_all),(by decide)⟩,⟨rfl,(by first | rfl | omega | assumption | (symm; assumption) | (exact congrArg List.length (by have hE : playedR s h o = (sts s h o i,true) := (by rw [show i = o.length by omega]; exact played_yes (fun j hj => hA j (by omega))); have hp := po_pair hss (.inr hE); first | exact hp.1 | exact hp.2 | rw [← hp.1] | rw [← hp.2] | (rw [hE]))) | (have hE : playedR s h o = (sts s h o i,true) := (by rw [show i = o.length by omega]; exact played_yes (fun j hj => hA j (by omega))); have hp := po_pair hss (.inr hE); first | exact hp.1 | exact hp.2 | rw [← hp.1] | rw [← hp.2] | (rw [hE]); done) | simp | simp_all),(by decide)⟩,tt⟩,(congrArg Value.bool (by first | rfl | omega | assumption | (have hE : playedR s h o = (sts s h o i,true) := (by rw [show i = o.length by omega]; exact played_yes (fun j hj => hA j (by omega))); have hp := po_pair hss (.inr hE); first | exact hp.1 | exact hp.2 | rw [← hp.1] | rw [← hp.2] | (rw [hE]); done) | simp | simp_all)),tt⟩) (@cast ((((3 : Nat) = 3) ∧ ((.ints a : Dat) = .ints (List.getD ((playedR s h o).1) 0 [])) ∧ ((0 : Nat) ∈ ([0,1] : List Nat))) ∧ (((3 : Nat) = 3) ∧ ((.ints b : Dat) = .ints (List.getD ((playedR s h o).1) 1 [])) ∧ ((1 : Nat) ∈ ([0,1] : List Nat))) ∧ True) _ (by kernel_rfl) ⟨⟨rfl,(congrArg Dat.ints (by have hE : playedR s h o = (sts s h o i,true) := (by rw [show i = o.length by omega]; exact played_yes (fun j hj => hA j (by omega))); have hp := po_pair hss (.inr hE); first | exact hp.1 | exact hp.2 | rw [← hp.1] | rw [← hp.2] | (rw [hE]))),(by decide)⟩,⟨rfl,(congrArg Dat.ints (by have hE : playedR s h o = (sts s h o i,true) := (by rw [show i = o.length by omega]; exact played_yes (fun j hj => hA j (by omega))); have hp := po_pair hss (.inr hE); first | exact hp.1 | exact hp.2 | rw [← hp.1] | rw [← hp.2] | (rw [hE]))),(by decide)⟩,tt⟩) (by kernel_rfl)
theorem ent32o : Entr prog 32 := ⟨_,func32,rfl,by decide⟩
end Go.Proofs.Try

set_option linter.unusedSimpArgs false
set_option linter.unusedVariables false
namespace Go.Proofs.Try
open Go.Ab Go.RowKit
def fs30o : FnS := fnS [.o,.s .calls,.s .ints] [.str,.calls,.ints] (fun _ (s,h,o,_) => (.b (rightB s h o),[],True))
abbrev T30o : Tab := lk [(32,fs32o),(37,fs37),(38,fs38),(45,fs45)]
theorem tab30o : TabOK prog T30o := (TabOK.cons ok32o ent32o (TabOK.cons ok37 ent37 (TabOK.cons ok38 ent38 (TabOK.cons ok45 ent45 TabOK.nil))))
set_option maxRecDepth 100000 in
set_option maxHeartbeats 1000000 in
theorem ok30o : FnOK prog 30 fs30o := by
 refine FnOK.mk cok func30 rfl rfl rfl ?_
 rintro fl ⟨(s : ByteArray),(h : List CallD),(o : List Int),_⟩ hpre F hnt0 _
 have hnt : F.nt = 32 := hnt0.trans ntmps30
 clear hpre
 refine W.to (⟨[(0,.v (.string s)),(1,.sl (.calls h)),(2,.sl (.ints o))],[],[999]⟩) rfl ?_
 refine W.lenOf 1 (.calls h) (by kernel_rfl) ?_
 intro hl_h; replace hl_h : List.length h ≤ 9223372036854775807 := hl_h
 refine W.lenOf 2 (.ints o) (by kernel_rfl) ?_
 intro hl_o; replace hl_o : List.length o ≤ 9223372036854775807 := hl_o
 refine Kk cok tab30o hnt [] [0,1,2] (⟨[(0,.v (.string s)),(1,.sl (.calls h)),(2,.sl (.ints o))],[],[999]⟩)
  (True ∧ True)
  ⟨tt,tt⟩ ?_
 refine W.seq ?_
 refine Kk cok tab30o hnt [] [0,1,2,23] (⟨[(0,.v (.string s)),(1,.sl (.calls h)),(2,.sl (.ints o)),(23,.b (((!(isObject s)) || (!(validHistory h))) || (!(isOrd o (h.length : Int)))))],[],[999]⟩)
  ((fun (Z1:Bool)=>((fun (Z2:Bool)=>(True ∧ ((True ∧ ((True ∧ True) ∧ True)) ∧ (True ∧ (True ∧ (((!Z1) = true → True) ∧ (((!Z1) = true → (True ∧ (((((!Z1) = true) ∧ True) ∧ True) ∧ True))) ∧ (((!Z1) = true → (((!Z1) = true) ∧ True)) ∧ ((True ∧ ((Z1 = true → True) ∧ (Z1 = false → ((!Z1) = true) ∧ True))) ∧ (True ∧ (((!Z2) = true → True) ∧ (((!Z2) = true → True) ∧ (((!Z2) = true → (((!Z2) = true) ∧ True)) ∧ (((!Z2) = true → (True ∧ (((((!Z2) = true) ∧ True) ∧ ((((!Z2) = true) ∧ True) ∧ True)) ∧ (0 ≤ (h.length : Int) ∧ (h.length : Int) ≤ 9223372036854775807)))) ∧ (((!Z2) = true → (((!Z2) = true) ∧ True)) ∧ ((True ∧ ((Z2 = true → True) ∧ (Z2 = false → ((!Z2) = true) ∧ True))) ∧ True)))))))))))))))) (Z1 || (!(validHistory h))))) (!(isObject s)))
  ⟨tt,⟨tt,⟨tt,tt⟩,tt⟩,tt,tt,(fun _ => trivial),(fun hG => ⟨tt,⟨⟨hG,tt⟩,tt⟩,tt⟩),(fun hG => ⟨hG,tt⟩),⟨tt,(fun _ => trivial),(fun hp => ⟨(not_t hp),tt⟩)⟩,tt,(fun _ => trivial),(fun _ => trivial),(fun hG => ⟨hG,tt⟩),(fun hG => ⟨tt,⟨⟨hG,tt⟩,⟨hG,tt⟩,tt⟩,(by omega)⟩),(fun hG => ⟨hG,tt⟩),⟨tt,(fun _ => trivial),(fun hp => ⟨(not_t hp),tt⟩)⟩,tt⟩ ?_
 refine W.if' (((!(isObject s)) || (!(validHistory h))) || (!(isOrd o (h.length : Int)))) (.b (((!(isObject s)) || (!(validHistory h))) || (!(isOrd o (h.length : Int))))) (by kernel_rfl) rfl trivial ?_ ?_
 ·intro h23
  refine Kk cok tab30o hnt [] [6] (⟨[(6,.b false)],[],[999]⟩)
   (True ∧ True)
   ⟨tt,tt⟩ ?_
  refine W.ret (thenQ_ret ?_)
  exact endQ_ret (.b false) (by kernel_rfl) (@cast ((.bool false : Value) = .bool (rightB s h o)) _ (by kernel_rfl) (congrArg Value.bool (by exact (right_no h23).symm)))
 ·intro n23
  refine W.skip (thenQ_normal ?_)
  refine Kk cok tab30o hnt [] [8] (⟨[(8,.b ((playedR s h o).2))],[(7,⟨50,.fix [.own 28 (List.length (List.getD ((playedR s h o).1) 0 [])),.own 1028 (List.length (List.getD ((playedR s h o).1) 1 []))]⟩),(28,⟨3,.row (.ints (List.getD ((playedR s h o).1) 0 []))⟩),(1028,⟨3,.row (.ints (List.getD ((playedR s h o).1) 1 []))⟩)],[7,1028,28,999]⟩)
   (True ∧ True ∧ True ∧ (True ∧ (True ∧ True ∧ True ∧ True) ∧ (isObject s = true) ∧ (validHistory h = true) ∧ (inH h o) ∧ (o.length ≤ 6)) ∧ True ∧ True ∧ True ∧ True ∧ (True ∧ True) ∧ True ∧ True)
   ⟨tt,tt,tt,⟨tt,⟨tt,tt,tt,tt⟩,(by exact not_g (or_l (or_l n23))),(by exact not_g (or_r (or_l n23))),(by exact ord_inH (not_g (or_r n23))),(by have h1 := (isOrd_len (not_g (or_r n23))); have h2 := (valid_iff.1 (not_g (or_r (or_l n23)))).1; omega)⟩,tt,tt,tt,tt,⟨tt,tt⟩,tt,tt⟩ ?_
  refine Kk cok tab30o hnt [] [6] (⟨[(6,.b ((playedR s h o).2))],[(7,⟨50,.fix [.own 28 (List.length (List.getD ((playedR s h o).1) 0 [])),.own 1028 (List.length (List.getD ((playedR s h o).1) 1 []))]⟩),(28,⟨3,.row (.ints (List.getD ((playedR s h o).1) 0 []))⟩),(1028,⟨3,.row (.ints (List.getD ((playedR s h o).1) 1 []))⟩)],[7,1028,28,999]⟩)
   (True ∧ True ∧ True)
   ⟨tt,tt,tt⟩ ?_
  refine W.ret ?_
  exact endQ_ret (.b ((playedR s h o).2)) (by kernel_rfl) (@cast ((.bool ((playedR s h o).2) : Value) = .bool (rightB s h o)) _ (by kernel_rfl) (congrArg Value.bool (by exact (right_played (not_g (or_l (or_l n23))) (not_g (or_r (or_l n23))) (not_g (or_r n23))))))
theorem ent30o : Entr prog 30 := ⟨_,func30,rfl,by decide⟩
end Go.Proofs.Try

set_option linter.unusedSimpArgs false
set_option linter.unusedVariables false
namespace Go.Proofs.Try
open Go.Ab Go.RowKit
def fs10o : FnS := fnS [.o,.s .calls,.s .ints,.o] [.str,.calls,.ints,.int] (fun _ (s,h,o,z,_) => (.tup [.own 0 (List.length ((behind s h o z).1)),.b ((behind s h o z).2)],[(3,.ints ((behind s h o z).1))],True))
abbrev T10o : Tab := lk [(30,fs30o),(31,fs31),(32,fs32o)]
theorem tab10o : TabOK prog T10o := (TabOK.cons ok30o ent30o (TabOK.cons ok31 ent31 (TabOK.cons ok32o ent32o TabOK.nil)))
set_option maxRecDepth 100000 in
set_option maxHeartbeats 1000000 in
theorem ok10o : FnOK prog 10 fs10o := by
 refine FnOK.mk cok func10 rfl rfl rfl ?_
 rintro fl ⟨(s : ByteArray),(h : List CallD),(o : List Int),(z : Int),_⟩ hpre F hnt0 _
 have hnt : F.nt = 32 := hnt0.trans ntmps10
 clear hpre
 refine W.to (⟨[(0,.v (.string s)),(1,.sl (.calls h)),(2,.sl (.ints o)),(3,.i z)],[],[999]⟩) rfl ?_
 refine W.lenOf 1 (.calls h) (by kernel_rfl) ?_
 intro hl_h; replace hl_h : List.length h ≤ 9223372036854775807 := hl_h
 refine W.lenOf 2 (.ints o) (by kernel_rfl) ?_
 intro hl_o; replace hl_o : List.length o ≤ 9223372036854775807 := hl_o
 refine Kk cok tab10o hnt [] [0,1,2,3] (⟨[(0,.v (.string s)),(1,.sl (.calls h)),(2,.sl (.ints o)),(3,.i z)],[],[999]⟩)
  (True ∧ True ∧ True)
  ⟨tt,tt,tt⟩ ?_
 refine W.seq ?_
 refine Kk cok tab10o hnt [] [0,1,2,3,21] (⟨[(0,.v (.string s)),(1,.sl (.calls h)),(2,.sl (.ints o)),(3,.i z),(21,.b ((!(rightB s h o)) || (!(within z (0 : Int) (1 : Int)))))],[],[999]⟩)
  ((fun (Z1:Bool)=>(True ∧ (True ∧ (True ∧ ((True ∧ ((True ∧ (True ∧ (True ∧ True))) ∧ True)) ∧ (True ∧ (True ∧ (((!Z1) = true → True) ∧ (((!Z1) = true → (True ∧ (((((!Z1) = true) ∧ True) ∧ (True ∧ (True ∧ True))) ∧ True))) ∧ (((!Z1) = true → (((!Z1) = true) ∧ True)) ∧ ((True ∧ ((Z1 = true → True) ∧ (Z1 = false → ((!Z1) = true) ∧ True))) ∧ True))))))))))) (!(rightB s h o)))
  ⟨tt,tt,tt,⟨tt,⟨tt,tt,tt,tt⟩,tt⟩,tt,tt,(fun _ => trivial),(fun hG => ⟨tt,⟨⟨hG,tt⟩,tt,tt,tt⟩,tt⟩),(fun hG => ⟨hG,tt⟩),⟨tt,(fun _ => trivial),(fun hp => ⟨(not_t hp),tt⟩)⟩,tt⟩ ?_
 refine W.if' ((!(rightB s h o)) || (!(within z (0 : Int) (1 : Int)))) (.b ((!(rightB s h o)) || (!(within z (0 : Int) (1 : Int))))) (by kernel_rfl) rfl trivial ?_ ?_
 ·intro h21
  refine Kk cok tab10o hnt [] [8,9] (⟨[(8,.v (.slice none 0 0)),(9,.b false)],[],[999]⟩)
   (True ∧ True ∧ True)
   ⟨tt,tt,tt⟩ ?_
  refine W.nilOwn 8 813 none 3 (.ints ([] : List Int)) (.v (.slice none 0 0)) (.own 813 0) (⟨[(8,.own 813 0),(9,.b false)],[(813,⟨3,.row (.ints ([] : List Int))⟩)],[813,999]⟩) (by kernel_rfl) (by kernel_rfl) (by kernel_rfl) (by kernel_rfl) (by kernel_rfl) ?_
  refine W.ret (thenQ_ret ?_)
  exact endQ_rows [(0,813)] (.tup [.own 813 0,.b false]) (by kernel_rfl) (@cast ((((813 : Nat) = 813) ∧ (0 = (List.length ((behind s h o z).1))) ∧ ((0 : Nat) ∈ ([0] : List Nat))) ∧ ((.bool false : Value) = .bool ((behind s h o z).2)) ∧ True) _ (by kernel_rfl) ⟨⟨rfl,(by first | rfl | omega | assumption | (symm; assumption) | (exact congrArg List.length (by rw [behind_no h21]; try rfl)) | (rw [behind_no h21]; try rfl; done) | simp | simp_all),(by decide)⟩,(congrArg Value.bool (by first | rfl | omega | assumption | (rw [behind_no h21]; try rfl; done) | simp | simp_all)),tt⟩) (@cast ((((3 : Nat) = 3) ∧ ((.ints ([] : List Int) : Dat) = .ints ((behind s h o z).1)) ∧ ((0 : Nat) ∈ ([0] : List Nat))) ∧ True) _ (by kernel_rfl) ⟨⟨rfl,(congrArg Dat.ints (by rw [behind_no h21]; try rfl)),(by decide)⟩,tt⟩) (by kernel_rfl)
 ·intro n21
  refine W.skip (thenQ_normal ?_)
  refine Kk cok tab10o hnt [] [3,10] (⟨[(3,.i z),(10,.ptr 10 0)],[(10,⟨50,.fix [.own 26 (List.length (List.getD ((playedR s h o).1) 0 [])),.own 1026 (List.length (List.getD ((playedR s h o).1) 1 []))]⟩),(26,⟨3,.row (.ints (List.getD ((playedR s h o).1) 0 []))⟩),(1026,⟨3,.row (.ints (List.getD ((playedR s h o).1) 1 []))⟩)],[10,1026,26,999]⟩)
   (True ∧ True ∧ True ∧ (True ∧ (True ∧ True ∧ True ∧ True) ∧ (isObject s = true) ∧ (validHistory h = true) ∧ (inH h o) ∧ (o.length ≤ 6)) ∧ True ∧ True ∧ True ∧ True ∧ (True ∧ True) ∧ True ∧ True)
   ⟨tt,tt,tt,⟨tt,⟨tt,tt,tt,tt⟩,(by exact (right_ok (not_g (or_l n21))).1),(by exact (right_ok (not_g (or_l n21))).2.1),(by exact ord_inH (right_ok (not_g (or_l n21))).2.2.1),(by exact (right_ok (not_g (or_l n21))).2.2.2.1)⟩,tt,tt,tt,tt,⟨tt,tt⟩,tt,tt⟩ ?_
  rcases (show z = 0 ∨ z = 1 from (by have hz2 := inRange_iff.1 (not_g (or_r n21)); omega)) with hix | hix
  ·skip
   refine Kk cok tab10o hnt [] [8,9] (⟨[(8,.own 26 (List.length (List.getD ((playedR s h o).1) 0 []))),(9,.b true)],[(10,⟨50,.fix [.own 26 (List.length (List.getD ((playedR s h o).1) 0 [])),.own 1026 (List.length (List.getD ((playedR s h o).1) 1 []))]⟩),(26,⟨3,.row (.ints (List.getD ((playedR s h o).1) 0 []))⟩),(1026,⟨3,.row (.ints (List.getD ((playedR s h o).1) 1 []))⟩)],[10,1026,26,999]⟩)
    (True ∧ (True ∧ True ∧ (z = ((0 : Nat) : Int))) ∧ True ∧ True ∧ True ∧ True)
    ⟨tt,⟨tt,tt,(by first | exact hix | (rw [hix]; rfl))⟩,tt,tt,tt,tt⟩ ?_
   refine W.ret ?_
   exact endQ_rows [(0,26)] (.tup [.own 26 (List.length (List.getD ((playedR s h o).1) 0 [])),.b true]) (by kernel_rfl) (@cast ((((26 : Nat) = 26) ∧ ((List.length (List.getD ((playedR s h o).1) 0 [])) = (List.length ((behind s h o z).1))) ∧ ((0 : Nat) ∈ ([0] : List Nat))) ∧ ((.bool true : Value) = .bool ((behind s h o z).2)) ∧ True) _ (by kernel_rfl) ⟨⟨rfl,(by first | rfl | omega | assumption | (symm; assumption) | (exact congrArg List.length (by have hE := behind_yes n21; have hR := played_right (not_g (or_l n21)); first | (rw [hE,hix,hR]; done) | (rw [hE,hix,hR]; rfl) | (rw [hE]; done) | (rw [hE]; rfl))) | (have hE := behind_yes n21; have hR := played_right (not_g (or_l n21)); first | (rw [hE,hix,hR]; done) | (rw [hE,hix,hR]; rfl) | (rw [hE]; done) | (rw [hE]; rfl); done) | simp | simp_all),(by decide)⟩,(congrArg Value.bool (by first | rfl | omega | assumption | (have hE := behind_yes n21; have hR := played_right (not_g (or_l n21)); first | (rw [hE,hix,hR]; done) | (rw [hE,hix,hR]; rfl) | (rw [hE]; done) | (rw [hE]; rfl); done) | simp | simp_all)),tt⟩) (@cast ((((3 : Nat) = 3) ∧ ((.ints (List.getD ((playedR s h o).1) 0 []) : Dat) = .ints ((behind s h o z).1)) ∧ ((0 : Nat) ∈ ([0] : List Nat))) ∧ True) _ (by kernel_rfl) ⟨⟨rfl,(congrArg Dat.ints (by have hE := behind_yes n21; have hR := played_right (not_g (or_l n21)); first | (rw [hE,hix,hR]; done) | (rw [hE,hix,hR]; rfl) | (rw [hE]; done) | (rw [hE]; rfl))),(by decide)⟩,tt⟩) (by kernel_rfl)
  ·skip
   refine Kk cok1 tab10o hnt [] [8,9] (⟨[(8,.own 1026 (List.length (List.getD ((playedR s h o).1) 1 []))),(9,.b true)],[(10,⟨50,.fix [.own 26 (List.length (List.getD ((playedR s h o).1) 0 [])),.own 1026 (List.length (List.getD ((playedR s h o).1) 1 []))]⟩),(26,⟨3,.row (.ints (List.getD ((playedR s h o).1) 0 []))⟩),(1026,⟨3,.row (.ints (List.getD ((playedR s h o).1) 1 []))⟩)],[10,1026,26,999]⟩)
    (True ∧ (True ∧ True ∧ (z = ((1 : Nat) : Int))) ∧ True ∧ True ∧ True ∧ True)
    ⟨tt,⟨tt,tt,(by first | exact hix | (rw [hix]; rfl))⟩,tt,tt,tt,tt⟩ ?_
   refine W.ret ?_
   exact endQ_rows [(0,1026)] (.tup [.own 1026 (List.length (List.getD ((playedR s h o).1) 1 [])),.b true]) (by kernel_rfl) (@cast ((((1026 : Nat) = 1026) ∧ ((List.length (List.getD ((playedR s h o).1) 1 [])) = (List.length ((behind s h o z).1))) ∧ ((0 : Nat) ∈ ([0] : List Nat))) ∧ ((.bool true : Value) = .bool ((behind s h o z).2)) ∧ True) _ (by kernel_rfl) ⟨⟨rfl,(by first | rfl | omega | assumption | (symm; assumption) | (exact congrArg List.length (by have hE := behind_yes n21; have hR := played_right (not_g (or_l n21)); first | (rw [hE,hix,hR]; done) | (rw [hE,hix,hR]; rfl) | (rw [hE]; done) | (rw [hE]; rfl))) | (have hE := behind_yes n21; have hR := played_right (not_g (or_l n21)); first | (rw [hE,hix,hR]; done) | (rw [hE,hix,hR]; rfl) | (rw [hE]; done) | (rw [hE]; rfl); done) | simp | simp_all),(by decide)⟩,(congrArg Value.bool (by first | rfl | omega | assumption | (have hE := behind_yes n21; have hR := played_right (not_g (or_l n21)); first | (rw [hE,hix,hR]; done) | (rw [hE,hix,hR]; rfl) | (rw [hE]; done) | (rw [hE]; rfl); done) | simp | simp_all)),tt⟩) (@cast ((((3 : Nat) = 3) ∧ ((.ints (List.getD ((playedR s h o).1) 1 []) : Dat) = .ints ((behind s h o z).1)) ∧ ((0 : Nat) ∈ ([0] : List Nat))) ∧ True) _ (by kernel_rfl) ⟨⟨rfl,(congrArg Dat.ints (by have hE := behind_yes n21; have hR := played_right (not_g (or_l n21)); first | (rw [hE,hix,hR]; done) | (rw [hE,hix,hR]; rfl) | (rw [hE]; done) | (rw [hE]; rfl))),(by decide)⟩,tt⟩) (by kernel_rfl)
theorem ent10o : Entr prog 10 := ⟨_,func10,rfl,by decide⟩
end Go.Proofs.Try

set_option linter.unusedSimpArgs false
set_option linter.unusedVariables false
namespace Go.Proofs.Try
open Go.Ab Go.RowKit
def fs11 : FnS := fnS [.s .ints,.s .ints] [.ints,.ints] (fun _ (a,b,_) => (.b (decide (a = b)),[],True))
abbrev T11 : Tab := lk []
theorem tab11 : TabOK prog T11 := TabOK.nil
set_option maxRecDepth 100000 in
set_option maxHeartbeats 1000000 in
theorem ok11 : FnOK prog 11 fs11 := by
 refine FnOK.mk cok func11 rfl rfl rfl ?_
 rintro fl ⟨(a : List Int),(b : List Int),_⟩ hpre F hnt0 _
 have hnt : F.nt = 26 := hnt0.trans ntmps11
 clear hpre
 refine W.to (⟨[(0,.sl (.ints a)),(1,.sl (.ints b))],[],[999]⟩) rfl ?_
 refine W.lenOf 0 (.ints a) (by kernel_rfl) ?_
 intro hl_a; replace hl_a : List.length a ≤ 9223372036854775807 := hl_a
 refine W.lenOf 1 (.ints b) (by kernel_rfl) ?_
 intro hl_b; replace hl_b : List.length b ≤ 9223372036854775807 := hl_b
 refine Kk cok tab11 hnt [] [0,1] (⟨[(0,.sl (.ints a)),(1,.sl (.ints b))],[],[999]⟩)
  (True ∧ True)
  ⟨tt,tt⟩ ?_
 refine W.seq ?_
 refine Kk cok tab11 hnt [] [0,1,10] (⟨[(0,.sl (.ints a)),(1,.sl (.ints b)),(10,.b (decide ((a.length : Int) ≠ (b.length : Int))))],[],[999]⟩)
  (True ∧ True ∧ True ∧ True ∧ (True ∧ True ∧ True) ∧ True)
  ⟨tt,tt,tt,tt,⟨tt,tt,tt⟩,tt⟩ ?_
 refine W.ifP ((a.length : Int) ≠ (b.length : Int)) (.b (decide ((a.length : Int) ≠ (b.length : Int)))) (by kernel_rfl) rfl trivial ?_ ?_
 ·intro h10
  refine Kk cok tab11 hnt [] [4] (⟨[(4,.b false)],[],[999]⟩)
   (True ∧ True)
   ⟨tt,tt⟩ ?_
  refine W.ret (thenQ_ret ?_)
  exact endQ_ret (.b false) (by kernel_rfl) (@cast ((.bool false : Value) = .bool (decide (a = b))) _ (by kernel_rfl) (congrArg Value.bool (by symm; exact decide_eq_false (fun e => h10 (by rw [e])))))
 ·intro n10
  refine W.skip (thenQ_normal ?_)
  refine W.seq ?_
  refine Kk cok tab11 hnt [] [0,1,5] (⟨[(0,.sl (.ints a)),(1,.sl (.ints b)),(5,.i (0 : Int))],[],[999]⟩)
   (True ∧ True)
   ⟨tt,tt⟩ ?_
  refine W.block ?_
  refine W.loop (ι := Nat) (fun (i : Nat) => (⟨[(0,.sl (.ints a)),(1,.sl (.ints b)),(5,.i ((i : Nat) : Int))],[],[999]⟩ : St))
   (fun (i : Nat) => (i ≤ a.length) ∧ (∀ j,j < i → a.getD j 0 = b.getD j 0))
   (fun (i : Nat) => (a.length - i : Nat)) (0) ?_ ?_ ?_
  ·exact (show (0 ≤ a.length) ∧ (∀ j,j < 0 → a.getD j 0 = b.getD j 0) from ⟨(by first | assumption | omega | rfl | (intro _ hjj; omega) | (simp; done) | (simp; omega)),(by exact upto_zero)⟩)
  ·exact Sub.of [] (@cast (((Sd (.ints a)) ∧ (Sd (.ints b)) ∧ ((.int .i64 (0 : Int) : Value) = .int .i64 ((0 : Nat) : Int)) ∧ True) ∧ True ∧ (true = true) ∧ (true = true)) _ (by kernel_rfl) ⟨⟨rfl,rfl,(congrArg (Value.int .i64) (by first | rfl | omega | assumption | simp | simp_all)),tt⟩,tt,rfl,rfl⟩)
  ·rintro i hC0
   have hC : (i ≤ a.length) ∧ (∀ j,j < i → a.getD j 0 = b.getD j 0) := hC0
   clear hC0
   obtain ⟨hi,hA⟩ := hC
   refine W.to (⟨[(0,.sl (.ints a)),(1,.sl (.ints b)),(5,.i ((i : Nat) : Int))],[],[999]⟩) rfl ?_
   refine W.seq ?_
   refine Kk cok tab11 hnt [] [0,1,5,14] (⟨[(0,.sl (.ints a)),(1,.sl (.ints b)),(5,.i ((i : Nat) : Int)),(14,.b (decide (((i : Nat) : Int) < (a.length : Int))))],[],[999]⟩)
    (True ∧ True ∧ True ∧ (True ∧ True ∧ True) ∧ True)
    ⟨tt,tt,tt,⟨tt,tt,tt⟩,tt⟩ ?_
   refine W.ifP (((i : Nat) : Int) < (a.length : Int)) (.b (decide (((i : Nat) : Int) < (a.length : Int)))) (by kernel_rfl) rfl trivial ?_ ?_
   ·intro h14
    refine W.skip (thenQ_normal ?_)
    refine W.seq ?_
    refine W.block ?_
    refine W.KA cok tab11 hnt [] [0,1,5,25] (⟨[(0,.sl (.ints a)),(1,.sl (.ints b)),(5,.i ((i : Nat) : Int)),(25,.b (decide ((a.getD i 0) ≠ (b.getD i 0))))],[],[999]⟩)
     (True ∧ True ∧ (True ∧ True ∧ (0 ≤ ((i : Nat) : Int)) ∧ (((i : Nat) : Int) < (a.length : Int))) ∧ True ∧ True ∧ True ∧ (True ∧ True ∧ (0 ≤ ((i : Nat) : Int)) ∧ (((i : Nat) : Int) < (b.length : Int))) ∧ True ∧ (True ∧ True ∧ True) ∧ True) (by kernel_rfl) (by kernel_rfl)
     ⟨tt,tt,⟨tt,tt,(by omega),(by omega)⟩,tt,tt,tt,⟨tt,tt,(by omega),(by omega)⟩,tt,⟨tt,tt,tt⟩,tt⟩ ?_
    refine W.ifP ((a.getD i 0) ≠ (b.getD i 0)) (.b (decide ((a.getD i 0) ≠ (b.getD i 0)))) (by kernel_rfl) rfl trivial ?_ ?_
    ·intro h25
     refine Kk cok tab11 hnt [] [4] (⟨[(4,.b false)],[],[999]⟩)
      (True ∧ True)
      ⟨tt,tt⟩ ?_
     refine W.ret (blockQ_ret (thenQ_ret (thenQ_ret (blockQ_ret (thenQ_ret ?_)))))
     exact endQ_ret (.b false) (by kernel_rfl) (@cast ((.bool false : Value) = .bool (decide (a = b))) _ (by kernel_rfl) (congrArg Value.bool (by symm; exact decide_eq_false (fun e => h25 (by rw [e])))))
    ·intro n25
     refine W.skip (blockQ_normal (thenQ_normal ?_))
     refine Lk cok tab11 hnt [] (⟨[(0,.sl (.ints a)),(1,.sl (.ints b)),(5,.i (((i + 1) : Nat) : Int)),(15,.i ((i : Nat) : Int)),(16,.i (((i + 1) : Nat) : Int)),(25,.b (decide ((a.getD i 0) ≠ (b.getD i 0))))],[],[999]⟩)
      (True ∧ (True ∧ True ∧ (Fits .i64 (((i + 1) : Nat) : Int))) ∧ True ∧ True)
      ⟨tt,⟨tt,tt,(by exact fits_i64 (by omega) (by omega))⟩,tt,tt⟩ ?_
     refine thenQ_normal ?_
     refine ⟨((i + 1)),(show ((i + 1) ≤ a.length) ∧ (∀ j,j < (i + 1) → a.getD j 0 = b.getD j 0) from ⟨(by first | assumption | omega | rfl | (intro _ hjj; omega) | (simp; done) | (simp; omega)),(by exact upto_succ hA (Decidable.not_not.1 n25))⟩),(show a.length - (i + 1) < a.length - i from (by first | omega | (simp_all; omega))),?_⟩
     exact Sub.of [] (@cast (((Sd (.ints a)) ∧ (Sd (.ints b)) ∧ (Si (((i + 1) : Nat) : Int)) ∧ True) ∧ True ∧ (true = true) ∧ (true = true)) _ (by kernel_rfl) ⟨⟨rfl,rfl,rfl,tt⟩,tt,rfl,rfl⟩)
   ·intro n14
    refine W.exit (thenQ_exit (thenQ_exit (blockQ_hit ?_)))
    refine thenQ_normal ?_
    refine Kk cok tab11 hnt [] [4] (⟨[(4,.b true)],[],[999]⟩)
     (True ∧ True)
     ⟨tt,tt⟩ ?_
    refine W.ret ?_
    exact endQ_ret (.b true) (by kernel_rfl) (@cast ((.bool true : Value) = .bool (decide (a = b))) _ (by kernel_rfl) (congrArg Value.bool (by symm; exact decide_eq_true (ints_ext (by omega) (fun j hj => hA j (by omega))))))
theorem ent11 : Entr prog 11 := ⟨_,func11,rfl,by decide⟩
end Go.Proofs.Try

set_option linter.unusedSimpArgs false
set_option linter.unusedVariables false
namespace Go.Proofs.Try
open Go.Ab Go.RowKit
def fs33 : FnS := fnS [.o,.o] [.call,.call] (fun _ (a,b,_) => (.b (decide (a = b)),[],True))
abbrev T33 : Tab := lk []
theorem tab33 : TabOK prog T33 := TabOK.nil
set_option maxRecDepth 100000 in
set_option maxHeartbeats 1000000 in
theorem ok33 : FnOK prog 33 fs33 := by
 refine FnOK.mk cok func33 rfl rfl rfl ?_
 rintro fl ⟨(a : CallD),(b : CallD),_⟩ hpre F hnt0 _
 have hnt : F.nt = 40 := hnt0.trans ntmps33
 clear hpre
 refine W.to (⟨[(0,.agg [.i a.proc,.i a.obj,.i a.kind,.i a.arg,.i a.ret,.i a.frm,.i a.to]),(1,.agg [.i b.proc,.i b.obj,.i b.kind,.i b.arg,.i b.ret,.i b.frm,.i b.to])],[],[999]⟩) rfl ?_
 refine Kk cok tab33 hnt [] [2,3] (⟨[(2,.ptr 2 0),(3,.ptr 3 0)],[(2,⟨46,.fix [.i a.proc,.i a.obj,.i a.kind,.i a.arg,.i a.ret,.i a.frm,.i a.to]⟩),(3,⟨46,.fix [.i b.proc,.i b.obj,.i b.kind,.i b.arg,.i b.ret,.i b.frm,.i b.to]⟩)],[3,2,999]⟩)
  (True ∧ True ∧ True ∧ True)
  ⟨tt,tt,tt,tt⟩ ?_
 refine W.seq ?_
 refine Kk cok tab33 hnt [] [2,3,9] (⟨[(2,.ptr 2 0),(3,.ptr 3 0),(9,.b (decide (a.proc ≠ b.proc)))],[(2,⟨46,.fix [.i a.proc,.i a.obj,.i a.kind,.i a.arg,.i a.ret,.i a.frm,.i a.to]⟩),(3,⟨46,.fix [.i b.proc,.i b.obj,.i b.kind,.i b.arg,.i b.ret,.i b.frm,.i b.to]⟩)],[3,2,999]⟩)
  (True ∧ True ∧ True ∧ True ∧ (True ∧ True ∧ True) ∧ True)
  ⟨tt,tt,tt,tt,⟨tt,tt,tt⟩,tt⟩ ?_
 refine W.ifP (a.proc ≠ b.proc) (.b (decide (a.proc ≠ b.proc))) (by kernel_rfl) rfl trivial ?_ ?_
 ·intro h9
  refine Kk cok tab33 hnt [] [4] (⟨[(4,.b false)],[(2,⟨46,.fix [.i a.proc,.i a.obj,.i a.kind,.i a.arg,.i a.ret,.i a.frm,.i a.to]⟩),(3,⟨46,.fix [.i b.proc,.i b.obj,.i b.kind,.i b.arg,.i b.ret,.i b.frm,.i b.to]⟩)],[3,2,999]⟩)
   (True ∧ True)
   ⟨tt,tt⟩ ?_
  refine W.ret (thenQ_ret ?_)
  exact endQ_ret (.b false) (by kernel_rfl) (@cast ((.bool false : Value) = .bool (decide (a = b))) _ (by kernel_rfl) (congrArg Value.bool (by first | (symm; exact decide_eq_true (call_ext (by omega) (by omega) (by omega) (by omega) (by omega) (by omega) (by omega))) | (symm; exact decide_eq_false (fun e => by subst e; simp_all)))))
 ·intro n9
  refine W.skip (thenQ_normal ?_)
  refine W.seq ?_
  refine Kk cok tab33 hnt [] [2,3,14] (⟨[(2,.ptr 2 0),(3,.ptr 3 0),(14,.b (decide (a.obj ≠ b.obj)))],[(2,⟨46,.fix [.i a.proc,.i a.obj,.i a.kind,.i a.arg,.i a.ret,.i a.frm,.i a.to]⟩),(3,⟨46,.fix [.i b.proc,.i b.obj,.i b.kind,.i b.arg,.i b.ret,.i b.frm,.i b.to]⟩)],[3,2,999]⟩)
   (True ∧ True ∧ True ∧ True ∧ (True ∧ True ∧ True) ∧ True)
   ⟨tt,tt,tt,tt,⟨tt,tt,tt⟩,tt⟩ ?_
  refine W.ifP (a.obj ≠ b.obj) (.b (decide (a.obj ≠ b.obj))) (by kernel_rfl) rfl trivial ?_ ?_
  ·intro h14
   refine Kk cok tab33 hnt [] [4] (⟨[(4,.b false)],[(2,⟨46,.fix [.i a.proc,.i a.obj,.i a.kind,.i a.arg,.i a.ret,.i a.frm,.i a.to]⟩),(3,⟨46,.fix [.i b.proc,.i b.obj,.i b.kind,.i b.arg,.i b.ret,.i b.frm,.i b.to]⟩)],[3,2,999]⟩)
    (True ∧ True)
    ⟨tt,tt⟩ ?_
   refine W.ret (thenQ_ret ?_)
   exact endQ_ret (.b false) (by kernel_rfl) (@cast ((.bool false : Value) = .bool (decide (a = b))) _ (by kernel_rfl) (congrArg Value.bool (by first | (symm; exact decide_eq_true (call_ext (by omega) (by omega) (by omega) (by omega) (by omega) (by omega) (by omega))) | (symm; exact decide_eq_false (fun e => by subst e; simp_all)))))
  ·intro n14
   refine W.skip (thenQ_normal ?_)
   refine W.seq ?_
   refine Kk cok tab33 hnt [] [2,3,19] (⟨[(2,.ptr 2 0),(3,.ptr 3 0),(19,.b (decide (a.kind ≠ b.kind)))],[(2,⟨46,.fix [.i a.proc,.i a.obj,.i a.kind,.i a.arg,.i a.ret,.i a.frm,.i a.to]⟩),(3,⟨46,.fix [.i b.proc,.i b.obj,.i b.kind,.i b.arg,.i b.ret,.i b.frm,.i b.to]⟩)],[3,2,999]⟩)
    (True ∧ True ∧ True ∧ True ∧ (True ∧ True ∧ True) ∧ True)
    ⟨tt,tt,tt,tt,⟨tt,tt,tt⟩,tt⟩ ?_
   refine W.ifP (a.kind ≠ b.kind) (.b (decide (a.kind ≠ b.kind))) (by kernel_rfl) rfl trivial ?_ ?_
   ·intro h19
    refine Kk cok tab33 hnt [] [4] (⟨[(4,.b false)],[(2,⟨46,.fix [.i a.proc,.i a.obj,.i a.kind,.i a.arg,.i a.ret,.i a.frm,.i a.to]⟩),(3,⟨46,.fix [.i b.proc,.i b.obj,.i b.kind,.i b.arg,.i b.ret,.i b.frm,.i b.to]⟩)],[3,2,999]⟩)
     (True ∧ True)
     ⟨tt,tt⟩ ?_
    refine W.ret (thenQ_ret ?_)
    exact endQ_ret (.b false) (by kernel_rfl) (@cast ((.bool false : Value) = .bool (decide (a = b))) _ (by kernel_rfl) (congrArg Value.bool (by first | (symm; exact decide_eq_true (call_ext (by omega) (by omega) (by omega) (by omega) (by omega) (by omega) (by omega))) | (symm; exact decide_eq_false (fun e => by subst e; simp_all)))))
   ·intro n19
    refine W.skip (thenQ_normal ?_)
    refine W.seq ?_
    refine Kk cok tab33 hnt [] [2,3,24] (⟨[(2,.ptr 2 0),(3,.ptr 3 0),(24,.b (decide (a.arg ≠ b.arg)))],[(2,⟨46,.fix [.i a.proc,.i a.obj,.i a.kind,.i a.arg,.i a.ret,.i a.frm,.i a.to]⟩),(3,⟨46,.fix [.i b.proc,.i b.obj,.i b.kind,.i b.arg,.i b.ret,.i b.frm,.i b.to]⟩)],[3,2,999]⟩)
     (True ∧ True ∧ True ∧ True ∧ (True ∧ True ∧ True) ∧ True)
     ⟨tt,tt,tt,tt,⟨tt,tt,tt⟩,tt⟩ ?_
    refine W.ifP (a.arg ≠ b.arg) (.b (decide (a.arg ≠ b.arg))) (by kernel_rfl) rfl trivial ?_ ?_
    ·intro h24
     refine Kk cok tab33 hnt [] [4] (⟨[(4,.b false)],[(2,⟨46,.fix [.i a.proc,.i a.obj,.i a.kind,.i a.arg,.i a.ret,.i a.frm,.i a.to]⟩),(3,⟨46,.fix [.i b.proc,.i b.obj,.i b.kind,.i b.arg,.i b.ret,.i b.frm,.i b.to]⟩)],[3,2,999]⟩)
      (True ∧ True)
      ⟨tt,tt⟩ ?_
     refine W.ret (thenQ_ret ?_)
     exact endQ_ret (.b false) (by kernel_rfl) (@cast ((.bool false : Value) = .bool (decide (a = b))) _ (by kernel_rfl) (congrArg Value.bool (by first | (symm; exact decide_eq_true (call_ext (by omega) (by omega) (by omega) (by omega) (by omega) (by omega) (by omega))) | (symm; exact decide_eq_false (fun e => by subst e; simp_all)))))
    ·intro n24
     refine W.skip (thenQ_normal ?_)
     refine W.seq ?_
     refine Kk cok tab33 hnt [] [2,3,29] (⟨[(2,.ptr 2 0),(3,.ptr 3 0),(29,.b (decide (a.ret ≠ b.ret)))],[(2,⟨46,.fix [.i a.proc,.i a.obj,.i a.kind,.i a.arg,.i a.ret,.i a.frm,.i a.to]⟩),(3,⟨46,.fix [.i b.proc,.i b.obj,.i b.kind,.i b.arg,.i b.ret,.i b.frm,.i b.to]⟩)],[3,2,999]⟩)
      (True ∧ True ∧ True ∧ True ∧ (True ∧ True ∧ True) ∧ True)
      ⟨tt,tt,tt,tt,⟨tt,tt,tt⟩,tt⟩ ?_
     refine W.ifP (a.ret ≠ b.ret) (.b (decide (a.ret ≠ b.ret))) (by kernel_rfl) rfl trivial ?_ ?_
     ·intro h29
      refine Kk cok tab33 hnt [] [4] (⟨[(4,.b false)],[(2,⟨46,.fix [.i a.proc,.i a.obj,.i a.kind,.i a.arg,.i a.ret,.i a.frm,.i a.to]⟩),(3,⟨46,.fix [.i b.proc,.i b.obj,.i b.kind,.i b.arg,.i b.ret,.i b.frm,.i b.to]⟩)],[3,2,999]⟩)
       (True ∧ True)
       ⟨tt,tt⟩ ?_
      refine W.ret (thenQ_ret ?_)
      exact endQ_ret (.b false) (by kernel_rfl) (@cast ((.bool false : Value) = .bool (decide (a = b))) _ (by kernel_rfl) (congrArg Value.bool (by first | (symm; exact decide_eq_true (call_ext (by omega) (by omega) (by omega) (by omega) (by omega) (by omega) (by omega))) | (symm; exact decide_eq_false (fun e => by subst e; simp_all)))))
     ·intro n29
      refine W.skip (thenQ_normal ?_)
      refine W.seq ?_
      refine Kk cok tab33 hnt [] [2,3,34] (⟨[(2,.ptr 2 0),(3,.ptr 3 0),(34,.b (decide (a.frm ≠ b.frm)))],[(2,⟨46,.fix [.i a.proc,.i a.obj,.i a.kind,.i a.arg,.i a.ret,.i a.frm,.i a.to]⟩),(3,⟨46,.fix [.i b.proc,.i b.obj,.i b.kind,.i b.arg,.i b.ret,.i b.frm,.i b.to]⟩)],[3,2,999]⟩)
       (True ∧ True ∧ True ∧ True ∧ (True ∧ True ∧ True) ∧ True)
       ⟨tt,tt,tt,tt,⟨tt,tt,tt⟩,tt⟩ ?_
      refine W.ifP (a.frm ≠ b.frm) (.b (decide (a.frm ≠ b.frm))) (by kernel_rfl) rfl trivial ?_ ?_
      ·intro h34
       refine Kk cok tab33 hnt [] [4] (⟨[(4,.b false)],[(2,⟨46,.fix [.i a.proc,.i a.obj,.i a.kind,.i a.arg,.i a.ret,.i a.frm,.i a.to]⟩),(3,⟨46,.fix [.i b.proc,.i b.obj,.i b.kind,.i b.arg,.i b.ret,.i b.frm,.i b.to]⟩)],[3,2,999]⟩)
        (True ∧ True)
        ⟨tt,tt⟩ ?_
       refine W.ret (thenQ_ret ?_)
       exact endQ_ret (.b false) (by kernel_rfl) (@cast ((.bool false : Value) = .bool (decide (a = b))) _ (by kernel_rfl) (congrArg Value.bool (by first | (symm; exact decide_eq_true (call_ext (by omega) (by omega) (by omega) (by omega) (by omega) (by omega) (by omega))) | (symm; exact decide_eq_false (fun e => by subst e; simp_all)))))
      ·intro n34
       refine W.skip (thenQ_normal ?_)
       refine W.seq ?_
       refine Kk cok tab33 hnt [] [39] (⟨[(39,.b (decide (a.to ≠ b.to)))],[(2,⟨46,.fix [.i a.proc,.i a.obj,.i a.kind,.i a.arg,.i a.ret,.i a.frm,.i a.to]⟩),(3,⟨46,.fix [.i b.proc,.i b.obj,.i b.kind,.i b.arg,.i b.ret,.i b.frm,.i b.to]⟩)],[3,2,999]⟩)
        (True ∧ True ∧ True ∧ True ∧ (True ∧ True ∧ True) ∧ True)
        ⟨tt,tt,tt,tt,⟨tt,tt,tt⟩,tt⟩ ?_
       refine W.ifP (a.to ≠ b.to) (.b (decide (a.to ≠ b.to))) (by kernel_rfl) rfl trivial ?_ ?_
       ·intro h39
        refine Kk cok tab33 hnt [] [4] (⟨[(4,.b false)],[(2,⟨46,.fix [.i a.proc,.i a.obj,.i a.kind,.i a.arg,.i a.ret,.i a.frm,.i a.to]⟩),(3,⟨46,.fix [.i b.proc,.i b.obj,.i b.kind,.i b.arg,.i b.ret,.i b.frm,.i b.to]⟩)],[3,2,999]⟩)
         (True ∧ True)
         ⟨tt,tt⟩ ?_
        refine W.ret (thenQ_ret ?_)
        exact endQ_ret (.b false) (by kernel_rfl) (@cast ((.bool false : Value) = .bool (decide (a = b))) _ (by kernel_rfl) (congrArg Value.bool (by first | (symm; exact decide_eq_true (call_ext (by omega) (by omega) (by omega) (by omega) (by omega) (by omega) (by omega))) | (symm; exact decide_eq_false (fun e => by subst e; simp_all)))))
       ·intro n39
        refine W.skip (thenQ_normal ?_)
        refine Kk cok tab33 hnt [] [4] (⟨[(4,.b true)],[(2,⟨46,.fix [.i a.proc,.i a.obj,.i a.kind,.i a.arg,.i a.ret,.i a.frm,.i a.to]⟩),(3,⟨46,.fix [.i b.proc,.i b.obj,.i b.kind,.i b.arg,.i b.ret,.i b.frm,.i b.to]⟩)],[3,2,999]⟩)
         (True ∧ True)
         ⟨tt,tt⟩ ?_
        refine W.ret ?_
        exact endQ_ret (.b true) (by kernel_rfl) (@cast ((.bool true : Value) = .bool (decide (a = b))) _ (by kernel_rfl) (congrArg Value.bool (by first | (symm; exact decide_eq_true (call_ext (by omega) (by omega) (by omega) (by omega) (by omega) (by omega) (by omega))) | (symm; exact decide_eq_false (fun e => by subst e; simp_all)))))
theorem ent33 : Entr prog 33 := ⟨_,func33,rfl,by decide⟩
end Go.Proofs.Try

set_option linter.unusedSimpArgs false
set_option linter.unusedVariables false
namespace Go.Proofs.Try
open Go.Ab Go.RowKit
def fs12 : FnS := fnS [.s .calls,.s .calls] [.calls,.calls] (fun _ (a,b,_) => (.b (decide (a = b)),[],True))
abbrev T12 : Tab := lk [(33,fs33)]
theorem tab12 : TabOK prog T12 := (TabOK.cons ok33 ent33 TabOK.nil)
set_option maxRecDepth 100000 in
set_option maxHeartbeats 1000000 in
theorem ok12 : FnOK prog 12 fs12 := by
 refine FnOK.mk cok func12 rfl rfl rfl ?_
 rintro fl ⟨(a : List CallD),(b : List CallD),_⟩ hpre F hnt0 _
 have hnt : F.nt = 27 := hnt0.trans ntmps12
 clear hpre
 refine W.to (⟨[(0,.sl (.calls a)),(1,.sl (.calls b))],[],[999]⟩) rfl ?_
 refine W.lenOf 0 (.calls a) (by kernel_rfl) ?_
 intro hl_a; replace hl_a : List.length a ≤ 9223372036854775807 := hl_a
 refine W.lenOf 1 (.calls b) (by kernel_rfl) ?_
 intro hl_b; replace hl_b : List.length b ≤ 9223372036854775807 := hl_b
 refine Kk cok tab12 hnt [] [0,1] (⟨[(0,.sl (.calls a)),(1,.sl (.calls b))],[],[999]⟩)
  (True ∧ True)
  ⟨tt,tt⟩ ?_
 refine W.seq ?_
 refine Kk cok tab12 hnt [] [0,1,10] (⟨[(0,.sl (.calls a)),(1,.sl (.calls b)),(10,.b (decide ((a.length : Int) ≠ (b.length : Int))))],[],[999]⟩)
  (True ∧ True ∧ True ∧ True ∧ (True ∧ True ∧ True) ∧ True)
  ⟨tt,tt,tt,tt,⟨tt,tt,tt⟩,tt⟩ ?_
 refine W.ifP ((a.length : Int) ≠ (b.length : Int)) (.b (decide ((a.length : Int) ≠ (b.length : Int)))) (by kernel_rfl) rfl trivial ?_ ?_
 ·intro h10
  refine Kk cok tab12 hnt [] [4] (⟨[(4,.b false)],[],[999]⟩)
   (True ∧ True)
   ⟨tt,tt⟩ ?_
  refine W.ret (thenQ_ret ?_)
  exact endQ_ret (.b false) (by kernel_rfl) (@cast ((.bool false : Value) = .bool (decide (a = b))) _ (by kernel_rfl) (congrArg Value.bool (by symm; exact decide_eq_false (fun e => h10 (by rw [e])))))
 ·intro n10
  refine W.skip (thenQ_normal ?_)
  refine W.seq ?_
  refine Kk cok tab12 hnt [] [0,1,5] (⟨[(0,.sl (.calls a)),(1,.sl (.calls b)),(5,.i (0 : Int))],[],[999]⟩)
   (True ∧ True)
   ⟨tt,tt⟩ ?_
  refine W.block ?_
  refine W.loop (ι := Nat) (fun (i : Nat) => (⟨[(0,.sl (.calls a)),(1,.sl (.calls b)),(5,.i ((i : Nat) : Int))],[],[999]⟩ : St))
   (fun (i : Nat) => (i ≤ a.length) ∧ (∀ j,j < i → a.getD j default = b.getD j default))
   (fun (i : Nat) => (a.length - i : Nat)) (0) ?_ ?_ ?_
  ·exact (show (0 ≤ a.length) ∧ (∀ j,j < 0 → a.getD j default = b.getD j default) from ⟨(by first | assumption | omega | rfl | (intro _ hjj; omega) | (simp; done) | (simp; omega)),(by exact upto_zero)⟩)
  ·exact Sub.of [] (@cast (((Sd (.calls a)) ∧ (Sd (.calls b)) ∧ ((.int .i64 (0 : Int) : Value) = .int .i64 ((0 : Nat) : Int)) ∧ True) ∧ True ∧ (true = true) ∧ (true = true)) _ (by kernel_rfl) ⟨⟨rfl,rfl,(congrArg (Value.int .i64) (by first | rfl | omega | assumption | simp | simp_all)),tt⟩,tt,rfl,rfl⟩)
  ·rintro i hC0
   have hC : (i ≤ a.length) ∧ (∀ j,j < i → a.getD j default = b.getD j default) := hC0
   clear hC0
   obtain ⟨hi,hA⟩ := hC
   refine W.to (⟨[(0,.sl (.calls a)),(1,.sl (.calls b)),(5,.i ((i : Nat) : Int))],[],[999]⟩) rfl ?_
   refine W.seq ?_
   refine Kk cok tab12 hnt [] [0,1,5,14] (⟨[(0,.sl (.calls a)),(1,.sl (.calls b)),(5,.i ((i : Nat) : Int)),(14,.b (decide (((i : Nat) : Int) < (a.length : Int))))],[],[999]⟩)
    (True ∧ True ∧ True ∧ (True ∧ True ∧ True) ∧ True)
    ⟨tt,tt,tt,⟨tt,tt,tt⟩,tt⟩ ?_
   refine W.ifP (((i : Nat) : Int) < (a.length : Int)) (.b (decide (((i : Nat) : Int) < (a.length : Int)))) (by kernel_rfl) rfl trivial ?_ ?_
   ·intro h14
    refine W.skip (thenQ_normal ?_)
    refine W.seq ?_
    refine W.block ?_
    refine W.KA cok tab12 hnt [] [0,1,5,26] (⟨[(0,.sl (.calls a)),(1,.sl (.calls b)),(5,.i ((i : Nat) : Int)),(26,.b (!(decide ((a.getD i default) = (b.getD i default)))))],[],[999]⟩)
     (True ∧ True ∧ (True ∧ True ∧ (0 ≤ ((i : Nat) : Int)) ∧ (((i : Nat) : Int) < (a.length : Int))) ∧ True ∧ True ∧ True ∧ (True ∧ True ∧ (0 ≤ ((i : Nat) : Int)) ∧ (((i : Nat) : Int) < (b.length : Int))) ∧ True ∧ (True ∧ (True ∧ True ∧ True) ∧ True) ∧ True ∧ True) (by kernel_rfl) (by kernel_rfl)
     ⟨tt,tt,⟨tt,tt,(by omega),(by omega)⟩,tt,tt,tt,⟨tt,tt,(by omega),(by omega)⟩,tt,⟨tt,⟨tt,tt,tt⟩,tt⟩,tt,tt⟩ ?_
    refine W.if' (!(decide ((a.getD i default) = (b.getD i default)))) (.b (!(decide ((a.getD i default) = (b.getD i default))))) (by kernel_rfl) rfl trivial ?_ ?_
    ·intro h26
     refine Kk cok tab12 hnt [] [4] (⟨[(4,.b false)],[],[999]⟩)
      (True ∧ True)
      ⟨tt,tt⟩ ?_
     refine W.ret (blockQ_ret (thenQ_ret (thenQ_ret (blockQ_ret (thenQ_ret ?_)))))
     exact endQ_ret (.b false) (by kernel_rfl) (@cast ((.bool false : Value) = .bool (decide (a = b))) _ (by kernel_rfl) (congrArg Value.bool (by symm; exact decide_eq_false (fun e => by rw [e] at h26; simp at h26))))
    ·intro n26
     refine W.skip (blockQ_normal (thenQ_normal ?_))
     refine Lk cok tab12 hnt [] (⟨[(0,.sl (.calls a)),(1,.sl (.calls b)),(5,.i (((i + 1) : Nat) : Int)),(15,.i ((i : Nat) : Int)),(16,.i (((i + 1) : Nat) : Int)),(26,.b (!(decide ((a.getD i default) = (b.getD i default)))))],[],[999]⟩)
      (True ∧ (True ∧ True ∧ (Fits .i64 (((i + 1) : Nat) : Int))) ∧ True ∧ True)
      ⟨tt,⟨tt,tt,(by exact fits_i64 (by omega) (by omega))⟩,tt,tt⟩ ?_
     refine thenQ_normal ?_
     refine ⟨((i + 1)),(show ((i + 1) ≤ a.length) ∧ (∀ j,j < (i + 1) → a.getD j default = b.getD j default) from ⟨(by first | assumption | omega | rfl | (intro _ hjj; omega) | (simp; done) | (simp; omega)),(by exact upto_succ hA (by simpa using n26))⟩),(show a.length - (i + 1) < a.length - i from (by first | omega | (simp_all; omega))),?_⟩
     exact Sub.of [] (@cast (((Sd (.calls a)) ∧ (Sd (.calls b)) ∧ (Si (((i + 1) : Nat) : Int)) ∧ True) ∧ True ∧ (true = true) ∧ (true = true)) _ (by kernel_rfl) ⟨⟨rfl,rfl,rfl,tt⟩,tt,rfl,rfl⟩)
   ·intro n14
    refine W.exit (thenQ_exit (thenQ_exit (blockQ_hit ?_)))
    refine thenQ_normal ?_
    refine Kk cok tab12 hnt [] [4] (⟨[(4,.b true)],[],[999]⟩)
     (True ∧ True)
     ⟨tt,tt⟩ ?_
    refine W.ret ?_
    exact endQ_ret (.b true) (by kernel_rfl) (@cast ((.bool true : Value) = .bool (decide (a = b))) _ (by kernel_rfl) (congrArg Value.bool (by symm; exact decide_eq_true (calls_ext (by omega) (fun j hj => hA j (by omega))))))
theorem ent12 : Entr prog 12 := ⟨_,func12,rfl,by decide⟩
end Go.Proofs.Try
