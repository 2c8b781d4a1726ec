import Derived.Test.YtmjlbcgcfloefaaUF5S0
import Derived.Test.YtmjlbcgcfloefaaUF5S2
import Derived.Test.YtmjlbcgcfloefaaUF5S1
set_option linter.unusedSimpArgs false
set_option linter.unusedVariables false
namespace Go.Proofs.Try
open Go.Ab Go.RowKit
def fs26 : FnS := fnS [.o,.s .calls,.s .ints] [.str,.calls,.ints] (fun _ (s,h,o,_) => (.b (runsB s h o),[],(isObject s = true) ∧ (validHistory h = true) ∧ (inH h o) ∧ (o.length ≤ 6)))
abbrev T26 : Tab := lk [(28,fs28)]
theorem tab26 : TabOK prog T26 := (TabOK.cons ok28 ent28 TabOK.nil)
set_option maxRecDepth 100000 in
set_option maxHeartbeats 1000000 in
theorem ok26 : FnOK prog 26 fs26 := by
 refine FnOK.mk cok func26 rfl rfl rfl ?_
 rintro fl ⟨(s : ByteArray),(h : List CallD),(o : List Int),_⟩ hpre F hnt0 _
 have hnt : F.nt = 46 := hnt0.trans ntmps26
 replace hpre : (isObject s = true) ∧ (validHistory h = true) ∧ (inH h o) ∧ (o.length ≤ 6) := hpre
 obtain ⟨hs,hv,ho,h6⟩ := hpre
 refine W.to (⟨[(0,.v (.string s)),(1,.sl (.calls h)),(2,.sl (.ints o))],[],[999]⟩) rfl ?_
 refine W.lenOf 1 (.calls h) (by kernel_rfl) ?_
 intro hl_h; replace hl_h : List.length h ≤ 9223372036854775807 := hl_h
 refine W.lenOf 2 (.ints o) (by kernel_rfl) ?_
 intro hl_o; replace hl_o : List.length o ≤ 9223372036854775807 := hl_o
 refine Kk cok tab26 hnt [] [0,1,2] (⟨[(0,.v (.string s)),(1,.sl (.calls h)),(2,.sl (.ints o))],[],[999]⟩)
  (True ∧ True)
  ⟨tt,tt⟩ ?_
 refine Kk cok tab26 hnt [14] [0,1,2,7] (⟨[(0,.v (.string s)),(1,.sl (.calls h)),(2,.sl (.ints o)),(7,.own 14 (List.length ([([] : List Int),([] : List Int)])))],[(14,⟨23,.row (.intss ([([] : List Int),([] : List Int)]))⟩)],[14,13,12,999]⟩)
  (True ∧ True ∧ (True ∧ True ∧ True) ∧ True ∧ True)
  ⟨tt,tt,⟨tt,tt,tt⟩,tt,tt⟩ ?_
 refine W.seq ?_
 refine Kk cok tab26 hnt [] [0,1,2,7,8] (⟨[(0,.v (.string s)),(1,.sl (.calls h)),(2,.sl (.ints o)),(7,.own 14 (List.length ([([] : List Int),([] : List Int)]))),(8,.i (0 : Int))],[(14,⟨23,.row (.intss ([([] : List Int),([] : List Int)]))⟩)],[14,13,12,999]⟩)
  (True ∧ True)
  ⟨tt,tt⟩ ?_
 refine W.block ?_
 refine W.loop (ι := Nat × (List (List Int))) (fun (x : Nat × (List (List Int))) => match x with | (i,ss) => (⟨[(0,.v (.string s)),(1,.sl (.calls h)),(2,.sl (.ints o)),(7,.own 14 ss.length),(8,.i ((i : Nat) : Int))],[(14,⟨23,.row (.intss ss)⟩)],[14,999]⟩ : St))
  (fun (x : Nat × (List (List Int))) => match x with | (i,ss) => (i ≤ o.length) ∧ (ss = sts s h o i) ∧ (∀ j,j < i → okAt s h o j = true))
  (fun (x : Nat × (List (List Int))) => match x with | (i,ss) => (o.length - i : Nat)) (0,([([] : List Int),([] : List Int)])) ?_ ?_ ?_
 ·exact (show (0 ≤ o.length) ∧ (([([] : List Int),([] : List Int)]) = sts s h o 0) ∧ (∀ j,j < 0 → okAt s h o j = true) from ⟨(by first | assumption | omega | rfl | (intro _ hjj; omega) | (simp; done) | (simp; omega)),(by rfl),(by exact upto_zero)⟩)
 ·exact Sub.of [] (@cast (((((.string s) : Value) = (.string s)) ∧ (Sd (.calls h)) ∧ (Sd (.ints o)) ∧ (((14 : Nat) = 14) ∧ ((List.length ([([] : List Int),([] : List Int)])) = (List.length ([([] : List Int),([] : List Int)]))) ∧ ((14 : Nat) ∈ ([14,999] : List Nat))) ∧ ((.int .i64 (0 : Int) : Value) = .int .i64 ((0 : Nat) : Int)) ∧ True) ∧ ((((23 : Nat) = 23) ∧ (Sd (.intss ([([] : List Int),([] : List Int)]))) ∧ ((14 : Nat) ∈ ([14,999] : List Nat))) ∧ True) ∧ (true = true) ∧ (true = true)) _ (by kernel_rfl) ⟨⟨rfl,rfl,rfl,⟨rfl,rfl,(by decide)⟩,(congrArg (Value.int .i64) (by first | rfl | omega | assumption | simp | simp_all)),tt⟩,⟨⟨rfl,rfl,(by decide)⟩,tt⟩,rfl,rfl⟩)
 ·rintro ⟨i,ss⟩ hC0
  have hC : (i ≤ o.length) ∧ (ss = sts s h o i) ∧ (∀ j,j < i → okAt s h o j = true) := hC0
  clear hC0
  obtain ⟨hi,hss,hA⟩ := hC
  refine W.to (⟨[(0,.v (.string s)),(1,.sl (.calls h)),(2,.sl (.ints o)),(7,.own 14 ss.length),(8,.i ((i : Nat) : Int))],[(14,⟨23,.row (.intss ss)⟩)],[14,999]⟩) rfl ?_
  have hsl : ss.length = 2 := by rw [hss]; exact sts_len s h o i
  have hri := ho i
  have hcl := fun hi => isCall_iff.1 (ord_call hv ho (i := i) hi)
  unfold ordAt callAt at hcl
  refine W.seq ?_
  refine Kk cok tab26 hnt [] [0,1,2,7,8,18] (⟨[(0,.v (.string s)),(1,.sl (.calls h)),(2,.sl (.ints o)),(7,.own 14 ss.length),(8,.i ((i : Nat) : Int)),(18,.b (decide (((i : Nat) : Int) < (o.length : Int))))],[(14,⟨23,.row (.intss ss)⟩)],[14,999]⟩)
   (True ∧ True ∧ True ∧ (True ∧ True ∧ True) ∧ True)
   ⟨tt,tt,tt,⟨tt,tt,tt⟩,tt⟩ ?_
  refine W.ifP (((i : Nat) : Int) < (o.length : Int)) (.b (decide (((i : Nat) : Int) < (o.length : Int)))) (by kernel_rfl) rfl trivial ?_ ?_
  ·intro h18
   refine W.skip (thenQ_normal ?_)
   refine W.seq ?_
   refine W.block ?_
   refine Kk cok tab26 hnt [] [0,1,2,7,8,9] (⟨[(0,.v (.string s)),(1,.sl (.calls h)),(2,.sl (.ints o)),(7,.own 14 ss.length),(8,.i ((i : Nat) : Int)),(9,.ptr 9 0)],[(9,⟨46,.fix [.i ((h.getD (Int.toNat (o.getD i 0)) default).proc),.i ((h.getD (Int.toNat (o.getD i 0)) default).obj),.i ((h.getD (Int.toNat (o.getD i 0)) default).kind),.i ((h.getD (Int.toNat (o.getD i 0)) default).arg),.i ((h.getD (Int.toNat (o.getD i 0)) default).ret),.i ((h.getD (Int.toNat (o.getD i 0)) default).frm),.i ((h.getD (Int.toNat (o.getD i 0)) default).to)]⟩),(14,⟨23,.row (.intss ss)⟩)],[9,14,999]⟩)
    (True ∧ True ∧ True ∧ (True ∧ True ∧ (0 ≤ ((i : Nat) : Int)) ∧ (((i : Nat) : Int) < (o.length : Int))) ∧ True ∧ (True ∧ True ∧ (0 ≤ (o.getD i 0)) ∧ ((o.getD i 0) < (h.length : Int))) ∧ True ∧ True ∧ (True ∧ True) ∧ True)
    ⟨tt,tt,tt,⟨tt,tt,(by omega),(by have hh := hcl (by omega); omega)⟩,tt,⟨tt,tt,(by (first | omega | (simp only [List.length_set]; done) | (simp only [List.length_append,List.length_cons,List.length_nil,List.length_take,List.length_drop,List.length_set,List.length_replicate,List.length_map] at *; omega) | assumption)),(by have hh := hcl (by omega); omega)⟩,tt,tt,⟨tt,tt⟩,tt⟩ ?_
   refine W.KA cok tab26 hnt [] [0,1,2,7,8,9,10,11] (⟨[(0,.v (.string s)),(1,.sl (.calls h)),(2,.sl (.ints o)),(7,.own 14 ss.length),(8,.i ((i : Nat) : Int)),(9,.ptr 9 0),(10,.sl (.ints ((specStep s (ss.getD (Int.toNat ((h.getD (Int.toNat (o.getD i 0)) default).obj)) []) (h.getD (Int.toNat (o.getD i 0)) default)).1))),(11,.b ((specStep s (ss.getD (Int.toNat ((h.getD (Int.toNat (o.getD i 0)) default).obj)) []) (h.getD (Int.toNat (o.getD i 0)) default)).2))],[(9,⟨46,.fix [.i ((h.getD (Int.toNat (o.getD i 0)) default).proc),.i ((h.getD (Int.toNat (o.getD i 0)) default).obj),.i ((h.getD (Int.toNat (o.getD i 0)) default).kind),.i ((h.getD (Int.toNat (o.getD i 0)) default).arg),.i ((h.getD (Int.toNat (o.getD i 0)) default).ret),.i ((h.getD (Int.toNat (o.getD i 0)) default).frm),.i ((h.getD (Int.toNat (o.getD i 0)) default).to)]⟩),(14,⟨23,.row (.intss ss)⟩)],[9,14,999]⟩)
    (True ∧ True ∧ True ∧ True ∧ (True ∧ True ∧ (0 ≤ ((h.getD (Int.toNat (o.getD i 0)) default).obj)) ∧ (((h.getD (Int.toNat (o.getD i 0)) default).obj) < (ss.length : Int))) ∧ (True ∧ ((Int.toNat ((h.getD (Int.toNat (o.getD i 0)) default).obj)) < ss.length)) ∧ True ∧ (True ∧ (True ∧ True ∧ True ∧ True) ∧ ((ss.getD (Int.toNat ((h.getD (Int.toNat (o.getD i 0)) default).obj)) []).length ≤ 1000000) ∧ (∀ x ∈ (ss.getD (Int.toNat ((h.getD (Int.toNat (o.getD i 0)) default).obj)) []),-1000000000 ≤ x ∧ x ≤ 1000000000) ∧ -1000000000 ≤ (h.getD (Int.toNat (o.getD i 0)) default).arg ∧ (h.getD (Int.toNat (o.getD i 0)) default).arg ≤ 1000000000) ∧ True ∧ True ∧ True ∧ True ∧ True ∧ True) (by kernel_rfl) (by kernel_rfl)
    ⟨tt,tt,tt,tt,⟨tt,tt,(by have hh := hcl (by omega); omega),(by have hh := hcl (by omega); omega)⟩,⟨tt,(by have hh := hcl (by omega); omega)⟩,tt,⟨tt,⟨tt,tt,tt,tt⟩,(by have hh := (sts_at hs hv ho (i := i) (by omega) (by omega)).2.1; unfold ordAt callAt at hh; rw [hss]; omega),(by have hh := (sts_at hs hv ho (i := i) (by omega) (by omega)).2.2; unfold ordAt callAt at hh; rw [hss]; intro x hx; have := hh x hx; omega),(by have hh := hcl (by omega); omega)⟩,tt,tt,tt,tt,tt,tt⟩ ?_
   refine W.seq ?_
   refine Kk cok tab26 hnt [] [0,1,2,7,8,9,10,40] (⟨[(0,.v (.string s)),(1,.sl (.calls h)),(2,.sl (.ints o)),(7,.own 14 ss.length),(8,.i ((i : Nat) : Int)),(9,.ptr 9 0),(10,.sl (.ints ((specStep s (ss.getD (Int.toNat ((h.getD (Int.toNat (o.getD i 0)) default).obj)) []) (h.getD (Int.toNat (o.getD i 0)) default)).1))),(40,.b (!((specStep s (ss.getD (Int.toNat ((h.getD (Int.toNat (o.getD i 0)) default).obj)) []) (h.getD (Int.toNat (o.getD i 0)) default)).2)))],[(9,⟨46,.fix [.i ((h.getD (Int.toNat (o.getD i 0)) default).proc),.i ((h.getD (Int.toNat (o.getD i 0)) default).obj),.i ((h.getD (Int.toNat (o.getD i 0)) default).kind),.i ((h.getD (Int.toNat (o.getD i 0)) default).arg),.i ((h.getD (Int.toNat (o.getD i 0)) default).ret),.i ((h.getD (Int.toNat (o.getD i 0)) default).frm),.i ((h.getD (Int.toNat (o.getD i 0)) default).to)]⟩),(14,⟨23,.row (.intss ss)⟩)],[9,14,999]⟩)
    (True ∧ True ∧ True)
    ⟨tt,tt,tt⟩ ?_
   refine W.if' (!((specStep s (ss.getD (Int.toNat ((h.getD (Int.toNat (o.getD i 0)) default).obj)) []) (h.getD (Int.toNat (o.getD i 0)) default)).2)) (.b (!((specStep s (ss.getD (Int.toNat ((h.getD (Int.toNat (o.getD i 0)) default).obj)) []) (h.getD (Int.toNat (o.getD i 0)) default)).2))) (by kernel_rfl) rfl trivial ?_ ?_
   ·intro h40
    refine Kk cok tab26 hnt [] [6] (⟨[(6,.b false)],[(9,⟨46,.fix [.i ((h.getD (Int.toNat (o.getD i 0)) default).proc),.i ((h.getD (Int.toNat (o.getD i 0)) default).obj),.i ((h.getD (Int.toNat (o.getD i 0)) default).kind),.i ((h.getD (Int.toNat (o.getD i 0)) default).arg),.i ((h.getD (Int.toNat (o.getD i 0)) default).ret),.i ((h.getD (Int.toNat (o.getD i 0)) default).frm),.i ((h.getD (Int.toNat (o.getD i 0)) default).to)]⟩),(14,⟨23,.row (.intss ss)⟩)],[9,14,999]⟩)
     (True ∧ True)
     ⟨tt,tt⟩ ?_
    refine W.ret (thenQ_ret (blockQ_ret (thenQ_ret (thenQ_ret (blockQ_ret (thenQ_ret ?_))))))
    exact endQ_ret (.b false) (by kernel_rfl) (@cast ((.bool false : Value) = .bool (runsB s h o)) _ (by kernel_rfl) (congrArg Value.bool (by exact (allN_false (i := i) (by omega) (by rw [hss] at h40; exact not_f h40)).symm)))
   ·intro n40
    refine W.skip (thenQ_normal ?_)
    refine Lk cok tab26 hnt [] (⟨[(0,.v (.string s)),(1,.sl (.calls h)),(2,.sl (.ints o)),(7,.own 14 ss.length),(8,.i ((i : Nat) : Int)),(9,.ptr 9 0),(10,.sl (.ints ((specStep s (ss.getD (Int.toNat ((h.getD (Int.toNat (o.getD i 0)) default).obj)) []) (h.getD (Int.toNat (o.getD i 0)) default)).1))),(40,.b (!((specStep s (ss.getD (Int.toNat ((h.getD (Int.toNat (o.getD i 0)) default).obj)) []) (h.getD (Int.toNat (o.getD i 0)) default)).2))),(41,.own 14 ss.length),(42,.ptr 9 1),(43,.i ((h.getD (Int.toNat (o.getD i 0)) default).obj)),(44,.sl (.ints ((specStep s (ss.getD (Int.toNat ((h.getD (Int.toNat (o.getD i 0)) default).obj)) []) (h.getD (Int.toNat (o.getD i 0)) default)).1))),(45,.pel 14 1 (Int.toNat ((h.getD (Int.toNat (o.getD i 0)) default).obj)) 0)],[(9,⟨46,.fix [.i ((h.getD (Int.toNat (o.getD i 0)) default).proc),.i ((h.getD (Int.toNat (o.getD i 0)) default).obj),.i ((h.getD (Int.toNat (o.getD i 0)) default).kind),.i ((h.getD (Int.toNat (o.getD i 0)) default).arg),.i ((h.getD (Int.toNat (o.getD i 0)) default).ret),.i ((h.getD (Int.toNat (o.getD i 0)) default).frm),.i ((h.getD (Int.toNat (o.getD i 0)) default).to)]⟩),(14,⟨23,.row (.intss (List.set ss (Int.toNat ((h.getD (Int.toNat (o.getD i 0)) default).obj)) ((specStep s (ss.getD (Int.toNat ((h.getD (Int.toNat (o.getD i 0)) default).obj)) []) (h.getD (Int.toNat (o.getD i 0)) default)).1)))⟩)],[9,14,999]⟩)
     (True ∧ True ∧ True ∧ True ∧ (True ∧ True ∧ (0 ≤ ((h.getD (Int.toNat (o.getD i 0)) default).obj)) ∧ (((h.getD (Int.toNat (o.getD i 0)) default).obj) < (ss.length : Int))) ∧ (True ∧ True ∧ ((Int.toNat ((h.getD (Int.toNat (o.getD i 0)) default).obj)) < ss.length)) ∧ True)
     ⟨tt,tt,tt,tt,⟨tt,tt,(by have hh := hcl (by omega); omega),(by have hh := hcl (by omega); omega)⟩,⟨tt,tt,(by have hh := hcl (by omega); omega)⟩,tt⟩ ?_
    refine blockQ_normal (thenQ_normal ?_)
    refine Lk cok tab26 hnt [] (⟨[(0,.v (.string s)),(1,.sl (.calls h)),(2,.sl (.ints o)),(7,.own 14 ss.length),(8,.i (((i + 1) : Nat) : Int)),(9,.ptr 9 0),(10,.sl (.ints ((specStep s (ss.getD (Int.toNat ((h.getD (Int.toNat (o.getD i 0)) default).obj)) []) (h.getD (Int.toNat (o.getD i 0)) default)).1))),(19,.i ((i : Nat) : Int)),(20,.i (((i + 1) : Nat) : Int)),(40,.b (!((specStep s (ss.getD (Int.toNat ((h.getD (Int.toNat (o.getD i 0)) default).obj)) []) (h.getD (Int.toNat (o.getD i 0)) default)).2))),(41,.own 14 ss.length),(42,.ptr 9 1),(43,.i ((h.getD (Int.toNat (o.getD i 0)) default).obj)),(44,.sl (.ints ((specStep s (ss.getD (Int.toNat ((h.getD (Int.toNat (o.getD i 0)) default).obj)) []) (h.getD (Int.toNat (o.getD i 0)) default)).1))),(45,.pel 14 1 (Int.toNat ((h.getD (Int.toNat (o.getD i 0)) default).obj)) 0)],[(9,⟨46,.fix [.i ((h.getD (Int.toNat (o.getD i 0)) default).proc),.i ((h.getD (Int.toNat (o.getD i 0)) default).obj),.i ((h.getD (Int.toNat (o.getD i 0)) default).kind),.i ((h.getD (Int.toNat (o.getD i 0)) default).arg),.i ((h.getD (Int.toNat (o.getD i 0)) default).ret),.i ((h.getD (Int.toNat (o.getD i 0)) default).frm),.i ((h.getD (Int.toNat (o.getD i 0)) default).to)]⟩),(14,⟨23,.row (.intss (List.set ss (Int.toNat ((h.getD (Int.toNat (o.getD i 0)) default).obj)) ((specStep s (ss.getD (Int.toNat ((h.getD (Int.toNat (o.getD i 0)) default).obj)) []) (h.getD (Int.toNat (o.getD i 0)) default)).1)))⟩)],[9,14,999]⟩)
     (True ∧ (True ∧ True ∧ (Fits .i64 (((i + 1) : Nat) : Int))) ∧ True ∧ True)
     ⟨tt,⟨tt,tt,(by exact fits_i64 (by omega) (by omega))⟩,tt,tt⟩ ?_
    refine thenQ_normal ?_
    refine ⟨((i + 1),(List.set ss (Int.toNat ((h.getD (Int.toNat (o.getD i 0)) default).obj)) ((specStep s (ss.getD (Int.toNat ((h.getD (Int.toNat (o.getD i 0)) default).obj)) []) (h.getD (Int.toNat (o.getD i 0)) default)).1))),(show ((i + 1) ≤ o.length) ∧ ((List.set ss (Int.toNat ((h.getD (Int.toNat (o.getD i 0)) default).obj)) ((specStep s (ss.getD (Int.toNat ((h.getD (Int.toNat (o.getD i 0)) default).obj)) []) (h.getD (Int.toNat (o.getD i 0)) default)).1)) = sts s h o (i + 1)) ∧ (∀ j,j < (i + 1) → okAt s h o j = true) from ⟨(by first | assumption | omega | rfl | (intro _ hjj; omega) | (simp; done) | (simp; omega)),(by rw [hss]; rfl),(by exact upto_succ hA (by rw [hss] at n40; exact not_g n40))⟩),(show o.length - (i + 1) < o.length - i from (by first | omega | (simp_all; omega))),?_⟩
    exact Sub.of [] (@cast (((((.string s) : Value) = (.string s)) ∧ (Sd (.calls h)) ∧ (Sd (.ints o)) ∧ (((14 : Nat) = 14) ∧ (ss.length = (List.length (List.set ss (Int.toNat ((h.getD (Int.toNat (o.getD i 0)) default).obj)) ((specStep s (ss.getD (Int.toNat ((h.getD (Int.toNat (o.getD i 0)) default).obj)) []) (h.getD (Int.toNat (o.getD i 0)) default)).1)))) ∧ ((14 : Nat) ∈ ([14,999] : List Nat))) ∧ (Si (((i + 1) : Nat) : Int)) ∧ True) ∧ ((((23 : Nat) = 23) ∧ (Sd (.intss (List.set ss (Int.toNat ((h.getD (Int.toNat (o.getD i 0)) default).obj)) ((specStep s (ss.getD (Int.toNat ((h.getD (Int.toNat (o.getD i 0)) default).obj)) []) (h.getD (Int.toNat (o.getD i 0)) default)).1)))) ∧ ((14 : Nat) ∈ ([14,999] : List Nat))) ∧ True) ∧ (true = true) ∧ (true = true)) _ (by kernel_rfl) ⟨⟨rfl,rfl,rfl,⟨rfl,(by first | rfl | omega | assumption | (symm; assumption) | simp | simp_all),(by decide)⟩,rfl,tt⟩,⟨⟨rfl,rfl,(by decide)⟩,tt⟩,rfl,rfl⟩)
  ·intro n18
   refine W.exit (thenQ_exit (thenQ_exit (blockQ_hit ?_)))
   refine thenQ_normal ?_
   refine Kk cok tab26 hnt [] [6] (⟨[(6,.b true)],[(14,⟨23,.row (.intss ss)⟩)],[14,999]⟩)
    (True ∧ True)
    ⟨tt,tt⟩ ?_
   refine W.ret ?_
   exact endQ_ret (.b true) (by kernel_rfl) (@cast ((.bool true : Value) = .bool (runsB s h o)) _ (by kernel_rfl) (congrArg Value.bool (by exact (allN_true (fun j hj => hA j (by omega))).symm)))
theorem ent26 : Entr prog 26 := ⟨_,func26,rfl,by decide⟩
end Go.Proofs.Try

set_option linter.unusedSimpArgs false
set_option linter.unusedVariables false
namespace Go.Proofs.Try
open Go.Ab Go.RowKit
def fs48 : FnS := fnS [.o,.o] [.int,.int] (fun _ (x,j,_) => (.i (bitOf x j),[],(j ≤ 60) ∧ (0 ≤ x ∧ x ≤ 4611686018427387904)))
abbrev T48 : Tab := lk [(47,fs47)]
theorem tab48 : TabOK prog T48 := (TabOK.cons ok47 ent47 TabOK.nil)
set_option maxRecDepth 100000 in
set_option maxHeartbeats 1000000 in
theorem ok48 : FnOK prog 48 fs48 := by
 refine FnOK.mk cok func48 rfl rfl rfl ?_
 rintro fl ⟨(x : Int),(j : Int),_⟩ hpre F hnt0 _
 have hnt : F.nt = 10 := hnt0.trans ntmps48
 replace hpre : (j ≤ 60) ∧ (0 ≤ x ∧ x ≤ 4611686018427387904) := hpre
 obtain ⟨hj,hx⟩ := hpre
 refine W.to (⟨[(0,.i x),(1,.i j)],[],[999]⟩) rfl ?_
 refine Kk cok tab48 hnt [] [0,1] (⟨[(0,.i x),(1,.i j)],[],[999]⟩)
  (True ∧ True)
  ⟨tt,tt⟩ ?_
 have hp := power_pos j
 refine Kk cok tab48 hnt [] [4] (⟨[(4,.i (Int.tmod (Int.tdiv x (power j)) (2 : Int)))],[],[999]⟩)
  (True ∧ True ∧ (True ∧ (True ∧ True) ∧ (j ≤ 60)) ∧ (True ∧ True ∧ ((power j) ≠ 0) ∧ (Fits .i64 (Int.tdiv x (power j)))) ∧ (True ∧ True ∧ ((2 : Int) ≠ 0)) ∧ True ∧ True)
  ⟨tt,tt,⟨tt,⟨tt,tt⟩,(by omega)⟩,⟨tt,tt,(by omega),(by exact fits_i64 (Int.le_trans (by omega) (Int.tdiv_nonneg (by omega) (by omega))) (Int.le_trans (Int.tdiv_le_self _ (by omega)) (by omega)))⟩,⟨tt,tt,(by decide)⟩,tt,tt⟩ ?_
 refine W.ret ?_
 exact endQ_ret (.i (Int.tmod (Int.tdiv x (power j)) (2 : Int))) (by kernel_rfl) (@cast ((.int .i64 (Int.tmod (Int.tdiv x (power j)) (2 : Int)) : Value) = .int .i64 (bitOf x j)) _ (by kernel_rfl) (congrArg (Value.int .i64) (by first | rfl | simp_all)))
theorem ent48 : Entr prog 48 := ⟨_,func48,rfl,by decide⟩
end Go.Proofs.Try

set_option linter.unusedSimpArgs false
set_option linter.unusedVariables false
namespace Go.Proofs.Try
open Go.Ab Go.RowKit
def out35 : Bool → ATy [.str,.calls,.ints,.ints] → AV × List (TypeId × Dat) × Prop := fun _ (s,h,rows,o,_) => (.sl (.intss (ordersF s h (bitF rows) (h.length - o.length) o)),[],(isObject s = true) ∧ (validHistory h = true) ∧ (rows = rowsOf h.length (bitF rows)) ∧ (headO h o))
def mu35 : ATy [.str,.calls,.ints,.ints] → Nat := fun (s,h,rows,o,_) => h.length - o.length
def fs35 : FnS := fnS [.o,.s .calls,.s .ints,.s .ints] [.str,.calls,.ints,.ints] out35
abbrev fsN35 (n : Nat) : FnS := fnS [.o,.s .calls,.s .ints,.s .ints] [.str,.calls,.ints,.ints] (lim out35 mu35 n)
theorem ent35 : Entr prog 35 := ⟨_,func35,rfl,by decide⟩
abbrev T35 (nn : Nat) : Tab := lk [(35,fsN35 nn),(26,fs26),(47,fs47),(48,fs48)]
theorem tab35 {nn : Nat} (ih : FnOK prog 35 (fsN35 nn)) : TabOK prog (T35 nn) := (TabOK.cons ih ent35 (TabOK.cons ok26 ent26 (TabOK.cons ok47 ent47 (TabOK.cons ok48 ent48 TabOK.nil))))
set_option maxRecDepth 100000 in
set_option maxHeartbeats 1000000 in
theorem okS35 (nn : Nat) (ih : FnOK prog 35 (fsN35 nn)) : FnOK prog 35 (fsN35 (nn + 1)) := by
 refine FnOK.mk cok func35 rfl rfl rfl ?_
 rintro fl ⟨(s : ByteArray),(h : List CallD),(rows : List Int),(o : List Int),_⟩ hpre F hnt0 _
 have hnt : F.nt = 78 := hnt0.trans ntmps35
 obtain ⟨hpre,hmu⟩ := hpre
 replace hmu : h.length - o.length < nn + 1 := hmu
 replace hpre : (isObject s = true) ∧ (validHistory h = true) ∧ (rows = rowsOf h.length (bitF rows)) ∧ (headO h o) := hpre
 obtain ⟨hs,hv,hr,ho⟩ := hpre
 refine W.to (⟨[(0,.v (.string s)),(1,.sl (.calls h)),(2,.sl (.ints rows)),(3,.sl (.ints o))],[],[999]⟩) rfl ?_
 have hv6 := (valid_iff.1 hv).1
 have hol := ho.2.2
 have hrl : rows.length = h.length := by rw [hr,rowsOf_len]
 have hio := ho.1
 refine W.lenOf 1 (.calls h) (by kernel_rfl) ?_
 intro hl_h; replace hl_h : List.length h ≤ 9223372036854775807 := hl_h
 refine W.lenOf 2 (.ints rows) (by kernel_rfl) ?_
 intro hl_rows; replace hl_rows : List.length rows ≤ 9223372036854775807 := hl_rows
 refine W.lenOf 3 (.ints o) (by kernel_rfl) ?_
 intro hl_o; replace hl_o : List.length o ≤ 9223372036854775807 := hl_o
 refine Kk cok (tab35 ih) hnt [] [0,1,2,3] (⟨[(0,.v (.string s)),(1,.sl (.calls h)),(2,.sl (.ints rows)),(3,.sl (.ints o))],[],[999]⟩)
  (True ∧ True)
  ⟨tt,tt⟩ ?_
 refine W.seq ?_
 refine Kk cok (tab35 ih) hnt [] [0,1,2,3,17] (⟨[(0,.v (.string s)),(1,.sl (.calls h)),(2,.sl (.ints rows)),(3,.sl (.ints o)),(17,.b (!(runsB s h o)))],[],[999]⟩)
  (True ∧ True ∧ True ∧ (True ∧ (True ∧ True ∧ True ∧ True) ∧ (isObject s = true) ∧ (validHistory h = true) ∧ (inH h o) ∧ (o.length ≤ 6)) ∧ True ∧ True)
  ⟨tt,tt,tt,⟨tt,⟨tt,tt,tt,tt⟩,(by exact hs),(by exact hv),(by exact ho.1),(by omega)⟩,tt,tt⟩ ?_
 refine W.if' (!(runsB s h o)) (.b (!(runsB s h o))) (by kernel_rfl) rfl trivial ?_ ?_
 ·intro h17
  refine Kk cok (tab35 ih) hnt [] [8] (⟨[(8,.sl (.intss ([] : List (List Int))))],[],[18,999]⟩)
   (True ∧ True ∧ True)
   ⟨tt,tt,tt⟩ ?_
  refine W.ret (thenQ_ret ?_)
  exact endQ_ret (.sl (.intss ([] : List (List Int)))) (by kernel_rfl) (@cast ((.intss ([] : List (List Int)) : Dat) = .intss (ordersF s h (bitF rows) (h.length - o.length) o)) _ (by kernel_rfl) (congrArg Dat.intss (by exact (orders_none (by simpa using h17)).symm)))
 ·intro n17
  refine W.skip (thenQ_normal ?_)
  refine W.seq ?_
  refine Kk cok (tab35 ih) hnt [] [0,1,2,3,23] (⟨[(0,.v (.string s)),(1,.sl (.calls h)),(2,.sl (.ints rows)),(3,.sl (.ints o)),(23,.b (decide ((o.length : Int) = (h.length : Int))))],[],[999]⟩)
   (True ∧ True ∧ True ∧ True ∧ (True ∧ True ∧ True) ∧ True)
   ⟨tt,tt,tt,tt,⟨tt,tt,tt⟩,tt⟩ ?_
  refine W.ifP ((o.length : Int) = (h.length : Int)) (.b (decide ((o.length : Int) = (h.length : Int)))) (by kernel_rfl) rfl trivial ?_ ?_
  ·intro h23
   refine Kk cok (tab35 ih) hnt [24] [8] (⟨[(8,.sl (.intss ([o])))],[],[27,26,24,999]⟩)
    (True ∧ True ∧ ((True ∧ ((List.length ([] : List Int)) = (List.length ([] : List Int)))) ∧ True ∧ (((List.length ([] : List Int)) + o.length) * 8 ≤ 140737488355328)) ∧ (True ∧ True) ∧ True ∧ True)
    ⟨tt,tt,⟨⟨tt,rfl⟩,tt,(by first | omega | (simp; done) | (simp; omega) | (have h9 := upto_len6 (s := s) (f := bitF rows) (m := h.length - o.length - 1) (k := k) hv6 (by omega) (by omega) o; have h8 := rest_len (s := s) (f := bitF rows) (m := h.length - (o ++ [((k : Nat) : Int)]).length) hv6 (by omega) (o ++ [((k : Nat) : Int)]); (try rw [← hou] at h9); (try simp only [List.length_append,List.length_cons,List.length_nil] at *); omega))⟩,⟨tt,tt⟩,tt,tt⟩ ?_
   refine W.ret (thenQ_ret ?_)
   exact endQ_ret (.sl (.intss ([o]))) (by kernel_rfl) (@cast ((.intss ([o]) : Dat) = .intss (ordersF s h (bitF rows) (h.length - o.length) o)) _ (by kernel_rfl) (congrArg Dat.intss (by exact explain_one (by simpa using n17) h23)))
  ·intro n23
   refine W.skip (thenQ_normal ?_)
   refine Kk cok (tab35 ih) hnt [28] [0,1,2,3,9] (⟨[(0,.v (.string s)),(1,.sl (.calls h)),(2,.sl (.ints rows)),(3,.sl (.ints o)),(9,.own 28 (List.length ([] : List (List Int))))],[(28,⟨23,.row (.intss ([] : List (List Int)))⟩)],[28,999]⟩)
    (True ∧ True ∧ True)
    ⟨tt,tt,tt⟩ ?_
   refine Kk cok (tab35 ih) hnt [] [0,1,2,3,9,10] (⟨[(0,.v (.string s)),(1,.sl (.calls h)),(2,.sl (.ints rows)),(3,.sl (.ints o)),(9,.own 28 (List.length ([] : List (List Int)))),(10,.i (0 : Int))],[(28,⟨23,.row (.intss ([] : List (List Int)))⟩)],[28,999]⟩)
    (True ∧ True)
    ⟨tt,tt⟩ ?_
   refine W.seq ?_
   refine Kk cok (tab35 ih) hnt [] [0,1,2,3,9,10,11] (⟨[(0,.v (.string s)),(1,.sl (.calls h)),(2,.sl (.ints rows)),(3,.sl (.ints o)),(9,.own 28 (List.length ([] : List (List Int)))),(10,.i (0 : Int)),(11,.i (0 : Int))],[(28,⟨23,.row (.intss ([] : List (List Int)))⟩)],[28,999]⟩)
    (True ∧ True)
    ⟨tt,tt⟩ ?_
   refine W.block ?_
   refine W.loop (ι := Nat × Int) (fun (x : Nat × Int) => match x with | (j,d) => (⟨[(0,.v (.string s)),(1,.sl (.calls h)),(2,.sl (.ints rows)),(3,.sl (.ints o)),(9,.own 28 (List.length ([] : List (List Int)))),(10,.i d),(11,.i ((j : Nat) : Int))],[(28,⟨23,.row (.intss ([] : List (List Int)))⟩)],[28,999]⟩ : St))
    (fun (x : Nat × Int) => match x with | (j,d) => (j ≤ o.length) ∧ (d = mask h.length (doneF o j)))
    (fun (x : Nat × Int) => match x with | (j,d) => (o.length - j : Nat)) (0,(0 : Int)) ?_ ?_ ?_
   ·exact (show (0 ≤ o.length) ∧ ((0 : Int) = mask h.length (doneF o 0)) from ⟨(by first | assumption | omega | rfl | (intro _ hjj; omega) | (simp; done) | (simp; omega)),(by exact (done_zero o _).symm)⟩)
   ·exact Sub.of [] (@cast (((((.string s) : Value) = (.string s)) ∧ (Sd (.calls h)) ∧ (Sd (.ints rows)) ∧ (Sd (.ints o)) ∧ (((28 : Nat) = 28) ∧ ((List.length ([] : List (List Int))) = (List.length ([] : List (List Int)))) ∧ ((28 : Nat) ∈ ([28,999] : List Nat))) ∧ (Si (0 : Int)) ∧ ((.int .i64 (0 : Int) : Value) = .int .i64 ((0 : Nat) : Int)) ∧ True) ∧ ((((23 : Nat) = 23) ∧ (Sd (.intss ([] : List (List Int)))) ∧ ((28 : Nat) ∈ ([28,999] : List Nat))) ∧ True) ∧ (true = true) ∧ (true = true)) _ (by kernel_rfl) ⟨⟨rfl,rfl,rfl,rfl,⟨rfl,rfl,(by decide)⟩,rfl,(congrArg (Value.int .i64) (by first | rfl | omega | assumption | simp | simp_all)),tt⟩,⟨⟨rfl,rfl,(by decide)⟩,tt⟩,rfl,rfl⟩)
   ·rintro ⟨j,d⟩ hC0
    have hC : (j ≤ o.length) ∧ (d = mask h.length (doneF o j)) := hC0
    clear hC0
    obtain ⟨hj,hd⟩ := hC
    refine W.to (⟨[(0,.v (.string s)),(1,.sl (.calls h)),(2,.sl (.ints rows)),(3,.sl (.ints o)),(9,.own 28 (List.length ([] : List (List Int)))),(10,.i d),(11,.i ((j : Nat) : Int))],[(28,⟨23,.row (.intss ([] : List (List Int)))⟩)],[28,999]⟩) rfl ?_
    refine W.seq ?_
    refine Kk cok (tab35 ih) hnt [] [0,1,2,3,9,10,11,32] (⟨[(0,.v (.string s)),(1,.sl (.calls h)),(2,.sl (.ints rows)),(3,.sl (.ints o)),(9,.own 28 (List.length ([] : List (List Int)))),(10,.i d),(11,.i ((j : Nat) : Int)),(32,.b (decide (((j : Nat) : Int) < (o.length : Int))))],[(28,⟨23,.row (.intss ([] : List (List Int)))⟩)],[28,999]⟩)
     (True ∧ True ∧ True ∧ (True ∧ True ∧ True) ∧ True)
     ⟨tt,tt,tt,⟨tt,tt,tt⟩,tt⟩ ?_
    refine W.ifP (((j : Nat) : Int) < (o.length : Int)) (.b (decide (((j : Nat) : Int) < (o.length : Int)))) (by kernel_rfl) rfl trivial ?_ ?_
    ·intro h32
     refine W.skip (thenQ_normal ?_)
     refine W.seq ?_
     refine W.block ?_
     refine Lk cok (tab35 ih) hnt [] (⟨[(0,.v (.string s)),(1,.sl (.calls h)),(2,.sl (.ints rows)),(3,.sl (.ints o)),(9,.own 28 (List.length ([] : List (List Int)))),(10,.i (d + (power (o.getD j 0)))),(11,.i ((j : Nat) : Int)),(32,.b (decide (((j : Nat) : Int) < (o.length : Int)))),(35,.i d),(36,.sl (.ints o)),(37,.i ((j : Nat) : Int)),(38,.ep [.i (o.getD j 0)]),(39,.i (o.getD j 0)),(40,.i (power (o.getD j 0))),(41,.i (d + (power (o.getD j 0))))],[(28,⟨23,.row (.intss ([] : List (List Int)))⟩)],[28,999]⟩)
      (True ∧ True ∧ True ∧ (True ∧ True ∧ (0 ≤ ((j : Nat) : Int)) ∧ (((j : Nat) : Int) < (o.length : Int))) ∧ True ∧ (True ∧ (True ∧ True) ∧ ((o.getD j 0) ≤ 60)) ∧ (True ∧ True ∧ (Fits .i64 (d + (power (o.getD j 0))))) ∧ True ∧ True)
      ⟨tt,tt,tt,⟨tt,tt,(by omega),(by omega)⟩,tt,⟨tt,⟨tt,tt⟩,(by have := hio j (by omega); omega)⟩,⟨tt,tt,(by rw [hd,done_next ho.2.1 (by omega) (by have := hio j (by omega); omega) (by have := hio j (by omega); omega)]; have := mask_bnd h.length (doneF o (j + 1)) (by omega); exact fits_i64 (by omega) (by omega))⟩,tt,tt⟩ ?_
     refine blockQ_normal (thenQ_normal ?_)
     refine Lk cok (tab35 ih) hnt [] (⟨[(0,.v (.string s)),(1,.sl (.calls h)),(2,.sl (.ints rows)),(3,.sl (.ints o)),(9,.own 28 (List.length ([] : List (List Int)))),(10,.i (d + (power (o.getD j 0)))),(11,.i (((j + 1) : Nat) : Int)),(32,.b (decide (((j : Nat) : Int) < (o.length : Int)))),(33,.i ((j : Nat) : Int)),(34,.i (((j + 1) : Nat) : Int)),(35,.i d),(36,.sl (.ints o)),(37,.i ((j : Nat) : Int)),(38,.ep [.i (o.getD j 0)]),(39,.i (o.getD j 0)),(40,.i (power (o.getD j 0))),(41,.i (d + (power (o.getD j 0))))],[(28,⟨23,.row (.intss ([] : List (List Int)))⟩)],[28,999]⟩)
      (True ∧ (True ∧ True ∧ (Fits .i64 (((j + 1) : Nat) : Int))) ∧ True ∧ True)
      ⟨tt,⟨tt,tt,(by exact fits_i64 (by omega) (by omega))⟩,tt,tt⟩ ?_
     refine thenQ_normal ?_
     refine ⟨((j + 1),(d + (power (o.getD j 0)))),(show ((j + 1) ≤ o.length) ∧ ((d + (power (o.getD j 0))) = mask h.length (doneF o (j + 1))) from ⟨(by first | assumption | omega | rfl | (intro _ hjj; omega) | (simp; done) | (simp; omega)),(by rw [hd]; exact done_next ho.2.1 (by omega) (by have := hio j (by omega); omega) (by have := hio j (by omega); omega))⟩),(show o.length - (j + 1) < o.length - j from (by first | omega | (simp_all; omega))),?_⟩
     exact Sub.of [] (@cast (((((.string s) : Value) = (.string s)) ∧ (Sd (.calls h)) ∧ (Sd (.ints rows)) ∧ (Sd (.ints o)) ∧ (((28 : Nat) = 28) ∧ ((List.length ([] : List (List Int))) = (List.length ([] : List (List Int)))) ∧ ((28 : Nat) ∈ ([28,999] : List Nat))) ∧ (Si (d + (power (o.getD j 0)))) ∧ (Si (((j + 1) : Nat) : Int)) ∧ True) ∧ ((((23 : Nat) = 23) ∧ (Sd (.intss ([] : List (List Int)))) ∧ ((28 : Nat) ∈ ([28,999] : List Nat))) ∧ True) ∧ (true = true) ∧ (true = true)) _ (by kernel_rfl) ⟨⟨rfl,rfl,rfl,rfl,⟨rfl,rfl,(by decide)⟩,rfl,rfl,tt⟩,⟨⟨rfl,rfl,(by decide)⟩,tt⟩,rfl,rfl⟩)
    ·intro n32
     refine W.exit (thenQ_exit (thenQ_exit (blockQ_hit ?_)))
     refine thenQ_normal ?_
     refine W.seq ?_
     refine Kk cok (tab35 ih) hnt [] [0,1,2,3,9,10,12] (⟨[(0,.v (.string s)),(1,.sl (.calls h)),(2,.sl (.ints rows)),(3,.sl (.ints o)),(9,.own 28 (List.length ([] : List (List Int)))),(10,.i d),(12,.i (0 : Int))],[(28,⟨23,.row (.intss ([] : List (List Int)))⟩)],[28,999]⟩)
      (True ∧ True)
      ⟨tt,tt⟩ ?_
     refine W.block ?_
     refine W.loop (ι := Nat × (List (List Int))) (fun (x : Nat × (List (List Int))) => match x with | (k,ou) => (⟨[(0,.v (.string s)),(1,.sl (.calls h)),(2,.sl (.ints rows)),(3,.sl (.ints o)),(9,.own 28 ou.length),(10,.i d),(12,.i ((k : Nat) : Int))],[(28,⟨23,.row (.intss ou)⟩)],[28,999]⟩ : St))
      (fun (x : Nat × (List (List Int))) => match x with | (k,ou) => (k ≤ h.length) ∧ (ou = ordersUp s h (bitF rows) (h.length - o.length - 1) o k))
      (fun (x : Nat × (List (List Int))) => match x with | (k,ou) => (h.length - k : Nat)) (0,([] : List (List Int))) ?_ ?_ ?_
     ·exact (show (0 ≤ h.length) ∧ (([] : List (List Int)) = ordersUp s h (bitF rows) (h.length - o.length - 1) o 0) from ⟨(by first | assumption | omega | rfl | (intro _ hjj; omega) | (simp; done) | (simp; omega)),(by rfl)⟩)
     ·exact Sub.of [] (@cast (((((.string s) : Value) = (.string s)) ∧ (Sd (.calls h)) ∧ (Sd (.ints rows)) ∧ (Sd (.ints o)) ∧ (((28 : Nat) = 28) ∧ ((List.length ([] : List (List Int))) = (List.length ([] : List (List Int)))) ∧ ((28 : Nat) ∈ ([28,999] : List Nat))) ∧ (Si d) ∧ ((.int .i64 (0 : Int) : Value) = .int .i64 ((0 : Nat) : Int)) ∧ True) ∧ ((((23 : Nat) = 23) ∧ (Sd (.intss ([] : List (List Int)))) ∧ ((28 : Nat) ∈ ([28,999] : List Nat))) ∧ True) ∧ (true = true) ∧ (true = true)) _ (by kernel_rfl) ⟨⟨rfl,rfl,rfl,rfl,⟨rfl,rfl,(by decide)⟩,rfl,(congrArg (Value.int .i64) (by first | rfl | omega | assumption | simp | simp_all)),tt⟩,⟨⟨rfl,rfl,(by decide)⟩,tt⟩,rfl,rfl⟩)
     ·rintro ⟨k,ou⟩ hC0
      have hC : (k ≤ h.length) ∧ (ou = ordersUp s h (bitF rows) (h.length - o.length - 1) o k) := hC0
      clear hC0
      obtain ⟨hk,hou⟩ := hC
      refine W.to (⟨[(0,.v (.string s)),(1,.sl (.calls h)),(2,.sl (.ints rows)),(3,.sl (.ints o)),(9,.own 28 ou.length),(10,.i d),(12,.i ((k : Nat) : Int))],[(28,⟨23,.row (.intss ou)⟩)],[28,999]⟩) rfl ?_
      have hdd : d = mask h.length (hasN o) := by rw [hd]; exact done_all (by omega)
      refine W.seq ?_
      refine Kk cok (tab35 ih) hnt [] [0,1,2,3,9,10,12,45] (⟨[(0,.v (.string s)),(1,.sl (.calls h)),(2,.sl (.ints rows)),(3,.sl (.ints o)),(9,.own 28 ou.length),(10,.i d),(12,.i ((k : Nat) : Int)),(45,.b (decide (((k : Nat) : Int) < (h.length : Int))))],[(28,⟨23,.row (.intss ou)⟩)],[28,999]⟩)
       (True ∧ True ∧ True ∧ (True ∧ True ∧ True) ∧ True)
       ⟨tt,tt,tt,⟨tt,tt,tt⟩,tt⟩ ?_
      refine W.ifP (((k : Nat) : Int) < (h.length : Int)) (.b (decide (((k : Nat) : Int) < (h.length : Int)))) (by kernel_rfl) rfl trivial ?_ ?_
      ·intro h45
       refine W.skip (thenQ_normal ?_)
       refine W.seq ?_
       refine W.block ?_
       refine W.KA cok (tab35 ih) hnt [] [0,1,2,3,9,10,12,64] (⟨[(0,.v (.string s)),(1,.sl (.calls h)),(2,.sl (.ints rows)),(3,.sl (.ints o)),(9,.own 28 ou.length),(10,.i d),(12,.i ((k : Nat) : Int)),(64,.b ((decide ((bitOf d ((k : Nat) : Int)) = (0 : Int))) && (decide ((bitsI .and .i64 (rows.getD k 0) d) = (rows.getD k 0)))))],[(28,⟨23,.row (.intss ou)⟩)],[28,999]⟩)
        ((fun (Z1:Bool)=>(True ∧ (True ∧ ((True ∧ ((True ∧ (True ∧ True)) ∧ ((((k : Nat) : Int) ≤ 60) ∧ (0 ≤ d ∧ d ≤ 4611686018427387904)))) ∧ ((True ∧ (True ∧ True)) ∧ (True ∧ ((Z1 = true → True) ∧ ((Z1 = true → True) ∧ ((Z1 = true → (((Z1 = true) ∧ True) ∧ (((Z1 = true) ∧ True) ∧ ((0 ≤ ((k : Nat) : Int)) ∧ (((k : Nat) : Int) < (rows.length : Int)))))) ∧ ((Z1 = true → ((Z1 = true) ∧ True)) ∧ ((Z1 = true → True) ∧ ((Z1 = true → (((Z1 = true) ∧ True) ∧ (((Z1 = true) ∧ True) ∧ True))) ∧ ((Z1 = true → True) ∧ ((Z1 = true → True) ∧ ((Z1 = true → (((Z1 = true) ∧ True) ∧ (((Z1 = true) ∧ True) ∧ ((0 ≤ ((k : Nat) : Int)) ∧ (((k : Nat) : Int) < (rows.length : Int)))))) ∧ ((Z1 = true → ((Z1 = true) ∧ True)) ∧ ((Z1 = true → (((Z1 = true) ∧ True) ∧ (((Z1 = true) ∧ True) ∧ True))) ∧ ((True ∧ ((Z1 = true → (Z1 = true) ∧ True) ∧ (Z1 = false → True))) ∧ True)))))))))))))))))) (decide ((bitOf d ((k : Nat) : Int)) = (0 : Int)))) (by kernel_rfl) (by kernel_rfl)
        ⟨tt,tt,⟨tt,⟨tt,tt,tt⟩,(by omega),(by rw [hd]; have := mask_bnd h.length (doneF o j) (by omega); omega)⟩,⟨tt,tt,tt⟩,tt,(fun _ => trivial),(fun _ => trivial),(fun hG => ⟨⟨hG,tt⟩,⟨hG,tt⟩,(by have hg0 : (bitOf d ((k : Nat) : Int)) = (0 : Int) := of_decide_eq_true hG; omega),(by have hg0 : (bitOf d ((k : Nat) : Int)) = (0 : Int) := of_decide_eq_true hG; omega)⟩),(fun hG => ⟨hG,tt⟩),(fun _ => trivial),(fun hG => ⟨⟨hG,tt⟩,⟨hG,tt⟩,tt⟩),(fun _ => trivial),(fun _ => trivial),(fun hG => ⟨⟨hG,tt⟩,⟨hG,tt⟩,(by have hg0 : (bitOf d ((k : Nat) : Int)) = (0 : Int) := of_decide_eq_true hG; omega),(by have hg0 : (bitOf d ((k : Nat) : Int)) = (0 : Int) := of_decide_eq_true hG; omega)⟩),(fun hG => ⟨hG,tt⟩),(fun hG => ⟨⟨hG,tt⟩,⟨hG,tt⟩,tt⟩),⟨tt,(fun hp => ⟨hp,tt⟩),(fun _ => trivial)⟩,tt⟩ ?_
       refine W.if' ((decide ((bitOf d ((k : Nat) : Int)) = (0 : Int))) && (decide ((bitsI .and .i64 (rows.getD k 0) d) = (rows.getD k 0)))) (.b ((decide ((bitOf d ((k : Nat) : Int)) = (0 : Int))) && (decide ((bitsI .and .i64 (rows.getD k 0) d) = (rows.getD k 0))))) (by kernel_rfl) rfl trivial ?_ ?_
       ·intro h64
        have h64_0 : (bitOf d ((k : Nat) : Int)) = (0 : Int) := of_decide_eq_true (and_l h64)
        have h64_1 : (bitsI .and .i64 (rows.getD k 0) d) = (rows.getD k 0) := of_decide_eq_true (and_r h64)
        have hfk : freeB (bitF rows) h.length o k = true := free_spec (by omega) (by omega) (by rw [← hr,← hdd]; exact h64)
        refine Lk cok (tab35 ih) hnt [69,71,76] (⟨[(0,.v (.string s)),(1,.sl (.calls h)),(2,.sl (.ints rows)),(3,.sl (.ints o)),(9,.own 76 (List.length (ou ++ (ordersF s h (bitF rows) (h.length - (o ++ ([((k : Nat) : Int)])).length) (o ++ ([((k : Nat) : Int)])))))),(10,.i d),(12,.i ((k : Nat) : Int)),(64,.b ((decide ((bitOf d ((k : Nat) : Int)) = (0 : Int))) && (decide ((bitsI .and .i64 (rows.getD k 0) d) = (rows.getD k 0))))),(65,.own 28 ou.length),(66,.v (.string s)),(67,.sl (.calls h)),(68,.sl (.ints rows)),(69,.own 69 (List.length ([] : List Int))),(70,.sl (.ints o)),(71,.own 71 o.length),(72,.i ((k : Nat) : Int)),(73,.sl (.ints ([((k : Nat) : Int)]))),(74,.sl (.ints (o ++ ([((k : Nat) : Int)])))),(75,.sl (.intss (ordersF s h (bitF rows) (h.length - (o ++ ([((k : Nat) : Int)])).length) (o ++ ([((k : Nat) : Int)]))))),(76,.own 76 (List.length (ou ++ (ordersF s h (bitF rows) (h.length - (o ++ ([((k : Nat) : Int)])).length) (o ++ ([((k : Nat) : Int)]))))))],[(76,⟨23,.row (.intss (ou ++ (ordersF s h (bitF rows) (h.length - (o ++ ([((k : Nat) : Int)])).length) (o ++ ([((k : Nat) : Int)])))))⟩)],[76,74,73,71,69,28,999]⟩)
         (True ∧ True ∧ True ∧ True ∧ True ∧ True ∧ ((True ∧ ((List.length ([] : List Int)) = (List.length ([] : List Int)))) ∧ True ∧ (((List.length ([] : List Int)) + o.length) * 8 ≤ 140737488355328)) ∧ True ∧ (True ∧ True) ∧ ((True ∧ (o.length = o.length)) ∧ True ∧ ((o.length + (List.length ([((k : Nat) : Int)]))) * 8 ≤ 140737488355328)) ∧ (True ∧ (True ∧ True ∧ True ∧ True ∧ True) ∧ ((isObject s = true) ∧ (validHistory h = true) ∧ (rows = rowsOf h.length (bitF rows)) ∧ (headO h (o ++ ([((k : Nat) : Int)])))) ∧ (h.length - (o ++ ([((k : Nat) : Int)])).length < nn)) ∧ ((True ∧ (ou.length = ou.length)) ∧ True ∧ ((ou.length + (List.length (ordersF s h (bitF rows) (h.length - (o ++ ([((k : Nat) : Int)])).length) (o ++ ([((k : Nat) : Int)]))))) * 24 ≤ 140737488355328)) ∧ True ∧ True)
         ⟨tt,tt,tt,tt,tt,tt,⟨⟨tt,rfl⟩,tt,(by first | omega | (simp; done) | (simp; omega) | (have h9 := upto_len6 (s := s) (f := bitF rows) (m := h.length - o.length - 1) (k := k) hv6 (by omega) (by omega) o; have h8 := rest_len (s := s) (f := bitF rows) (m := h.length - (o ++ [((k : Nat) : Int)]).length) hv6 (by omega) (o ++ [((k : Nat) : Int)]); (try rw [← hou] at h9); (try simp only [List.length_append,List.length_cons,List.length_nil] at *); omega))⟩,tt,⟨tt,tt⟩,⟨⟨tt,rfl⟩,tt,(by first | omega | (simp; done) | (simp; omega) | (have h9 := upto_len6 (s := s) (f := bitF rows) (m := h.length - o.length - 1) (k := k) hv6 (by omega) (by omega) o; have h8 := rest_len (s := s) (f := bitF rows) (m := h.length - (o ++ [((k : Nat) : Int)]).length) hv6 (by omega) (o ++ [((k : Nat) : Int)]); (try rw [← hou] at h9); (try simp only [List.length_append,List.length_cons,List.length_nil] at *); omega))⟩,⟨tt,⟨tt,tt,tt,tt,tt⟩,⟨(by exact hs),(by exact hv),(by exact hr),(by exact headO_snoc ho (by omega) (free_has hfk) (by omega))⟩,(by (try simp only [List.length_append,List.length_cons,List.length_nil]); omega)⟩,⟨⟨tt,rfl⟩,tt,(by first | omega | (simp; done) | (simp; omega) | (have h9 := upto_len6 (s := s) (f := bitF rows) (m := h.length - o.length - 1) (k := k) hv6 (by omega) (by omega) o; have h8 := rest_len (s := s) (f := bitF rows) (m := h.length - (o ++ [((k : Nat) : Int)]).length) hv6 (by omega) (o ++ [((k : Nat) : Int)]); (try rw [← hou] at h9); (try simp only [List.length_append,List.length_cons,List.length_nil] at *); omega))⟩,tt,tt⟩ ?_
        refine blockQ_normal (thenQ_normal ?_)
        refine Lk cok (tab35 ih) hnt [] (⟨[(0,.v (.string s)),(1,.sl (.calls h)),(2,.sl (.ints rows)),(3,.sl (.ints o)),(9,.own 76 (List.length (ou ++ (ordersF s h (bitF rows) (h.length - (o ++ ([((k : Nat) : Int)])).length) (o ++ ([((k : Nat) : Int)])))))),(10,.i d),(12,.i (((k + 1) : Nat) : Int)),(46,.i ((k : Nat) : Int)),(47,.i (((k + 1) : Nat) : Int)),(64,.b ((decide ((bitOf d ((k : Nat) : Int)) = (0 : Int))) && (decide ((bitsI .and .i64 (rows.getD k 0) d) = (rows.getD k 0))))),(65,.own 28 ou.length),(66,.v (.string s)),(67,.sl (.calls h)),(68,.sl (.ints rows)),(69,.own 69 (List.length ([] : List Int))),(70,.sl (.ints o)),(71,.own 71 o.length),(72,.i ((k : Nat) : Int)),(73,.sl (.ints ([((k : Nat) : Int)]))),(74,.sl (.ints (o ++ ([((k : Nat) : Int)])))),(75,.sl (.intss (ordersF s h (bitF rows) (h.length - (o ++ ([((k : Nat) : Int)])).length) (o ++ ([((k : Nat) : Int)]))))),(76,.own 76 (List.length (ou ++ (ordersF s h (bitF rows) (h.length - (o ++ ([((k : Nat) : Int)])).length) (o ++ ([((k : Nat) : Int)]))))))],[(76,⟨23,.row (.intss (ou ++ (ordersF s h (bitF rows) (h.length - (o ++ ([((k : Nat) : Int)])).length) (o ++ ([((k : Nat) : Int)])))))⟩)],[76,74,73,71,69,28,999]⟩)
         (True ∧ (True ∧ True ∧ (Fits .i64 (((k + 1) : Nat) : Int))) ∧ True ∧ True)
         ⟨tt,⟨tt,tt,(by exact fits_i64 (by omega) (by omega))⟩,tt,tt⟩ ?_
        refine thenQ_normal ?_
        refine ⟨((k + 1),(ou ++ (ordersF s h (bitF rows) (h.length - (o ++ ([((k : Nat) : Int)])).length) (o ++ ([((k : Nat) : Int)]))))),(show ((k + 1) ≤ h.length) ∧ ((ou ++ (ordersF s h (bitF rows) (h.length - (o ++ ([((k : Nat) : Int)])).length) (o ++ ([((k : Nat) : Int)])))) = ordersUp s h (bitF rows) (h.length - o.length - 1) o (k + 1)) from ⟨(by first | assumption | omega | rfl | (intro _ hjj; omega) | (simp; done) | (simp; omega)),(by first | (exact explain_step hfk hou) | (rw [up_no hfk]; exact hou))⟩),(show h.length - (k + 1) < h.length - k from (by first | omega | (simp_all; omega))),?_⟩
        exact Sub.of [(28,76)] (@cast (((((.string s) : Value) = (.string s)) ∧ (Sd (.calls h)) ∧ (Sd (.ints rows)) ∧ (Sd (.ints o)) ∧ (((76 : Nat) = 76) ∧ ((List.length (ou ++ (ordersF s h (bitF rows) (h.length - (o ++ ([((k : Nat) : Int)])).length) (o ++ ([((k : Nat) : Int)]))))) = (List.length (ou ++ (ordersF s h (bitF rows) (h.length - (o ++ ([((k : Nat) : Int)])).length) (o ++ ([((k : Nat) : Int)])))))) ∧ ((28 : Nat) ∈ ([28,999] : List Nat))) ∧ (Si d) ∧ (Si (((k + 1) : Nat) : Int)) ∧ True) ∧ ((((23 : Nat) = 23) ∧ (Sd (.intss (ou ++ (ordersF s h (bitF rows) (h.length - (o ++ ([((k : Nat) : Int)])).length) (o ++ ([((k : Nat) : Int)])))))) ∧ ((28 : Nat) ∈ ([28,999] : List Nat))) ∧ True) ∧ (true = true) ∧ (true = true)) _ (by kernel_rfl) ⟨⟨rfl,rfl,rfl,rfl,⟨rfl,rfl,(by decide)⟩,rfl,rfl,tt⟩,⟨⟨rfl,rfl,(by decide)⟩,tt⟩,rfl,rfl⟩)
       ·intro n64
        have hfk : freeB (bitF rows) h.length o k = false := free_spec (by omega) (by omega) (by rw [← hr,← hdd]; exact n64)
        refine W.skip (blockQ_normal (thenQ_normal ?_))
        refine Lk cok (tab35 ih) hnt [] (⟨[(0,.v (.string s)),(1,.sl (.calls h)),(2,.sl (.ints rows)),(3,.sl (.ints o)),(9,.own 28 ou.length),(10,.i d),(12,.i (((k + 1) : Nat) : Int)),(46,.i ((k : Nat) : Int)),(47,.i (((k + 1) : Nat) : Int)),(64,.b ((decide ((bitOf d ((k : Nat) : Int)) = (0 : Int))) && (decide ((bitsI .and .i64 (rows.getD k 0) d) = (rows.getD k 0)))))],[(28,⟨23,.row (.intss ou)⟩)],[28,999]⟩)
         (True ∧ (True ∧ True ∧ (Fits .i64 (((k + 1) : Nat) : Int))) ∧ True ∧ True)
         ⟨tt,⟨tt,tt,(by exact fits_i64 (by omega) (by omega))⟩,tt,tt⟩ ?_
        refine thenQ_normal ?_
        refine ⟨((k + 1),ou),(show ((k + 1) ≤ h.length) ∧ (ou = ordersUp s h (bitF rows) (h.length - o.length - 1) o (k + 1)) from ⟨(by first | assumption | omega | rfl | (intro _ hjj; omega) | (simp; done) | (simp; omega)),(by first | (exact explain_step hfk hou) | (rw [up_no hfk]; exact hou))⟩),(show h.length - (k + 1) < h.length - k from (by first | omega | (simp_all; omega))),?_⟩
        exact Sub.of [] (@cast (((((.string s) : Value) = (.string s)) ∧ (Sd (.calls h)) ∧ (Sd (.ints rows)) ∧ (Sd (.ints o)) ∧ (((28 : Nat) = 28) ∧ (ou.length = ou.length) ∧ ((28 : Nat) ∈ ([28,999] : List Nat))) ∧ (Si d) ∧ (Si (((k + 1) : Nat) : Int)) ∧ True) ∧ ((((23 : Nat) = 23) ∧ (Sd (.intss ou)) ∧ ((28 : Nat) ∈ ([28,999] : List Nat))) ∧ True) ∧ (true = true) ∧ (true = true)) _ (by kernel_rfl) ⟨⟨rfl,rfl,rfl,rfl,⟨rfl,rfl,(by decide)⟩,rfl,rfl,tt⟩,⟨⟨rfl,rfl,(by decide)⟩,tt⟩,rfl,rfl⟩)
      ·intro n45
       refine W.exit (thenQ_exit (thenQ_exit (blockQ_hit ?_)))
       refine thenQ_normal ?_
       refine Kk cok (tab35 ih) hnt [] [8] (⟨[(8,.own 28 ou.length)],[(28,⟨23,.row (.intss ou)⟩)],[28,999]⟩)
        (True ∧ True ∧ True)
        ⟨tt,tt,tt⟩ ?_
       refine W.ret ?_
       exact endQ_ret (.own 28 ou.length) (by kernel_rfl) (@cast ((ou.length = ou.length) ∧ ((.intss ou : Dat) = .intss (ordersF s h (bitF rows) (h.length - o.length) o)) ∧ ((28 : Nat) ∉ ([] : List Nat))) _ (by kernel_rfl) ⟨rfl,⟨(congrArg Dat.intss (by exact explain_end (by omega) (by omega) hou)),(by decide)⟩⟩)
theorem ok35 : FnOK prog 35 fs35 := FnOK.rec' okS35
end Go.Proofs.Try

set_option linter.unusedSimpArgs false
set_option linter.unusedVariables false
namespace Go.Proofs.Try
open Go.Ab Go.RowKit
def fs21 : FnS := fnS [.o,.s .calls] [.str,.calls] (fun _ (s,h,_) => (.sl (.intss (ordersBy s h (ownF h))),[],True))
abbrev T21 : Tab := lk [(34,fs34),(35,fs35),(41,fs41)]
theorem tab21 : TabOK prog T21 := (TabOK.cons ok34 ent34 (TabOK.cons ok35 ent35 (TabOK.cons ok41 ent41 TabOK.nil)))
set_option maxRecDepth 100000 in
set_option maxHeartbeats 1000000 in
theorem ok21 : FnOK prog 21 fs21 := by
 refine FnOK.mk cok func21 rfl rfl rfl ?_
 rintro fl ⟨(s : ByteArray),(h : List CallD),_⟩ hpre F hnt0 _
 have hnt : F.nt = 15 := hnt0.trans ntmps21
 clear hpre
 refine W.to (⟨[(0,.v (.string s)),(1,.sl (.calls h))],[],[999]⟩) rfl ?_
 refine W.lenOf 1 (.calls h) (by kernel_rfl) ?_
 intro hl_h; replace hl_h : List.length h ≤ 9223372036854775807 := hl_h
 refine Kk cok tab21 hnt [] [0,1] (⟨[(0,.v (.string s)),(1,.sl (.calls h))],[],[999]⟩)
  (True ∧ True)
  ⟨tt,tt⟩ ?_
 refine W.seq ?_
 refine Kk cok tab21 hnt [] [0,1,8] (⟨[(0,.v (.string s)),(1,.sl (.calls h)),(8,.b (!(isObject s && validHistory h)))],[],[999]⟩)
  (True ∧ True ∧ (True ∧ (True ∧ True ∧ True) ∧ True) ∧ True ∧ True)
  ⟨tt,tt,⟨tt,⟨tt,tt,tt⟩,tt⟩,tt,tt⟩ ?_
 refine W.if' (!(isObject s && validHistory h)) (.b (!(isObject s && validHistory h))) (by kernel_rfl) rfl trivial ?_ ?_
 ·intro h8
  refine Kk cok tab21 hnt [] [4] (⟨[(4,.v (.slice none 0 0))],[],[999]⟩)
   (True ∧ True)
   ⟨tt,tt⟩ ?_
  refine W.ret (thenQ_ret ?_)
  exact endQ_ret (.v (.slice none 0 0)) (by kernel_rfl) (@cast (((Value.slice none 0 0 : Value) = .slice none 0 0) ∧ ((Dat.intss (ordersBy s h (ownF h))).len = 0)) _ (by kernel_rfl) ⟨rfl,(by show List.length (ordersBy s h (ownF h)) = 0; first | exact (by_no (not_f h8)).symm | (rw [by_no (not_f h8)]; rfl))⟩)
 ·intro n8
  refine W.skip (thenQ_normal ?_)
  refine Kk cok tab21 hnt [] [4] (⟨[(4,.sl (.intss (ordersF s h (bitF (rowsOf h.length (ownF h))) (h.length - ([] : List Int).length) ([] : List Int))))],[],[13,999]⟩)
   (True ∧ True ∧ True ∧ (True ∧ (True ∧ True) ∧ (h.length ≤ 60)) ∧ True ∧ (True ∧ (True ∧ True ∧ True ∧ True ∧ True) ∧ (isObject s = true) ∧ (validHistory h = true) ∧ ((rowsOf h.length (ownF h)) = rowsOf h.length (bitF (rowsOf h.length (ownF h)))) ∧ (headO h ([] : List Int))) ∧ True ∧ True)
   ⟨tt,tt,tt,⟨tt,⟨tt,tt⟩,(by have h6 := (valid_iff.1 (and_r (not_g n8))).1; omega)⟩,tt,⟨tt,⟨tt,tt,tt,tt,tt⟩,(by exact and_l (not_g n8)),(by exact and_r (not_g n8)),(by exact rows_self),(by exact headO_nil h)⟩,tt,tt⟩ ?_
  refine W.ret ?_
  exact endQ_ret (.sl (.intss (ordersF s h (bitF (rowsOf h.length (ownF h))) (h.length - ([] : List Int).length) ([] : List Int)))) (by kernel_rfl) (@cast ((.intss (ordersF s h (bitF (rowsOf h.length (ownF h))) (h.length - ([] : List Int).length) ([] : List Int)) : Dat) = .intss (ordersBy s h (ownF h))) _ (by kernel_rfl) (congrArg Dat.intss (by exact by_val (not_g n8) rfl)))
theorem ent21 : Entr prog 21 := ⟨_,func21,rfl,by decide⟩
end Go.Proofs.Try

set_option linter.unusedSimpArgs false
set_option linter.unusedVariables false
namespace Go.Proofs.Try
open Go.Ab Go.RowKit
def fs11 : FnS := fnS [.s .ints,.s .ints] [.ints,.ints] (fun _ (a,b,_) => (.b (decide (a = b)),[],True))
abbrev T11 : Tab := lk []
theorem tab11 : TabOK prog T11 := TabOK.nil
set_option maxRecDepth 100000 in
set_option maxHeartbeats 1000000 in
theorem ok11 : FnOK prog 11 fs11 := by
 refine FnOK.mk cok func11 rfl rfl rfl ?_
 rintro fl ⟨(a : List Int),(b : List Int),_⟩ hpre F hnt0 _
 have hnt : F.nt = 26 := hnt0.trans ntmps11
 clear hpre
 refine W.to (⟨[(0,.sl (.ints a)),(1,.sl (.ints b))],[],[999]⟩) rfl ?_
 refine W.lenOf 0 (.ints a) (by kernel_rfl) ?_
 intro hl_a; replace hl_a : List.length a ≤ 9223372036854775807 := hl_a
 refine W.lenOf 1 (.ints b) (by kernel_rfl) ?_
 intro hl_b; replace hl_b : List.length b ≤ 9223372036854775807 := hl_b
 refine Kk cok tab11 hnt [] [0,1] (⟨[(0,.sl (.ints a)),(1,.sl (.ints b))],[],[999]⟩)
  (True ∧ True)
  ⟨tt,tt⟩ ?_
 refine W.seq ?_
 refine Kk cok tab11 hnt [] [0,1,10] (⟨[(0,.sl (.ints a)),(1,.sl (.ints b)),(10,.b (decide ((a.length : Int) ≠ (b.length : Int))))],[],[999]⟩)
  (True ∧ True ∧ True ∧ True ∧ (True ∧ True ∧ True) ∧ True)
  ⟨tt,tt,tt,tt,⟨tt,tt,tt⟩,tt⟩ ?_
 refine W.ifP ((a.length : Int) ≠ (b.length : Int)) (.b (decide ((a.length : Int) ≠ (b.length : Int)))) (by kernel_rfl) rfl trivial ?_ ?_
 ·intro h10
  refine Kk cok tab11 hnt [] [4] (⟨[(4,.b false)],[],[999]⟩)
   (True ∧ True)
   ⟨tt,tt⟩ ?_
  refine W.ret (thenQ_ret ?_)
  exact endQ_ret (.b false) (by kernel_rfl) (@cast ((.bool false : Value) = .bool (decide (a = b))) _ (by kernel_rfl) (congrArg Value.bool (by symm; exact decide_eq_false (fun e => h10 (by rw [e])))))
 ·intro n10
  refine W.skip (thenQ_normal ?_)
  refine W.seq ?_
  refine Kk cok tab11 hnt [] [0,1,5] (⟨[(0,.sl (.ints a)),(1,.sl (.ints b)),(5,.i (0 : Int))],[],[999]⟩)
   (True ∧ True)
   ⟨tt,tt⟩ ?_
  refine W.block ?_
  refine W.loop (ι := Nat) (fun (i : Nat) => (⟨[(0,.sl (.ints a)),(1,.sl (.ints b)),(5,.i ((i : Nat) : Int))],[],[999]⟩ : St))
   (fun (i : Nat) => (i ≤ a.length) ∧ (∀ j,j < i → a.getD j 0 = b.getD j 0))
   (fun (i : Nat) => (a.length - i : Nat)) (0) ?_ ?_ ?_
  ·exact (show (0 ≤ a.length) ∧ (∀ j,j < 0 → a.getD j 0 = b.getD j 0) from ⟨(by first | assumption | omega | rfl | (intro _ hjj; omega) | (simp; done) | (simp; omega)),(by exact upto_zero)⟩)
  ·exact Sub.of [] (@cast (((Sd (.ints a)) ∧ (Sd (.ints b)) ∧ ((.int .i64 (0 : Int) : Value) = .int .i64 ((0 : Nat) : Int)) ∧ True) ∧ True ∧ (true = true) ∧ (true = true)) _ (by kernel_rfl) ⟨⟨rfl,rfl,(congrArg (Value.int .i64) (by first | rfl | omega | assumption | simp | simp_all)),tt⟩,tt,rfl,rfl⟩)
  ·rintro i hC0
   have hC : (i ≤ a.length) ∧ (∀ j,j < i → a.getD j 0 = b.getD j 0) := hC0
   clear hC0
   obtain ⟨hi,hA⟩ := hC
   refine W.to (⟨[(0,.sl (.ints a)),(1,.sl (.ints b)),(5,.i ((i : Nat) : Int))],[],[999]⟩) rfl ?_
   refine W.seq ?_
   refine Kk cok tab11 hnt [] [0,1,5,14] (⟨[(0,.sl (.ints a)),(1,.sl (.ints b)),(5,.i ((i : Nat) : Int)),(14,.b (decide (((i : Nat) : Int) < (a.length : Int))))],[],[999]⟩)
    (True ∧ True ∧ True ∧ (True ∧ True ∧ True) ∧ True)
    ⟨tt,tt,tt,⟨tt,tt,tt⟩,tt⟩ ?_
   refine W.ifP (((i : Nat) : Int) < (a.length : Int)) (.b (decide (((i : Nat) : Int) < (a.length : Int)))) (by kernel_rfl) rfl trivial ?_ ?_
   ·intro h14
    refine W.skip (thenQ_normal ?_)
    refine W.seq ?_
    refine W.block ?_
    refine W.KA cok tab11 hnt [] [0,1,5,25] (⟨[(0,.sl (.ints a)),(1,.sl (.ints b)),(5,.i ((i : Nat) : Int)),(25,.b (decide ((a.getD i 0) ≠ (b.getD i 0))))],[],[999]⟩)
     (True ∧ True ∧ (True ∧ True ∧ (0 ≤ ((i : Nat) : Int)) ∧ (((i : Nat) : Int) < (a.length : Int))) ∧ True ∧ True ∧ True ∧ (True ∧ True ∧ (0 ≤ ((i : Nat) : Int)) ∧ (((i : Nat) : Int) < (b.length : Int))) ∧ True ∧ (True ∧ True ∧ True) ∧ True) (by kernel_rfl) (by kernel_rfl)
     ⟨tt,tt,⟨tt,tt,(by omega),(by omega)⟩,tt,tt,tt,⟨tt,tt,(by omega),(by omega)⟩,tt,⟨tt,tt,tt⟩,tt⟩ ?_
    refine W.ifP ((a.getD i 0) ≠ (b.getD i 0)) (.b (decide ((a.getD i 0) ≠ (b.getD i 0)))) (by kernel_rfl) rfl trivial ?_ ?_
    ·intro h25
     refine Kk cok tab11 hnt [] [4] (⟨[(4,.b false)],[],[999]⟩)
      (True ∧ True)
      ⟨tt,tt⟩ ?_
     refine W.ret (blockQ_ret (thenQ_ret (thenQ_ret (blockQ_ret (thenQ_ret ?_)))))
     exact endQ_ret (.b false) (by kernel_rfl) (@cast ((.bool false : Value) = .bool (decide (a = b))) _ (by kernel_rfl) (congrArg Value.bool (by symm; exact decide_eq_false (fun e => h25 (by rw [e])))))
    ·intro n25
     refine W.skip (blockQ_normal (thenQ_normal ?_))
     refine Lk cok tab11 hnt [] (⟨[(0,.sl (.ints a)),(1,.sl (.ints b)),(5,.i (((i + 1) : Nat) : Int)),(15,.i ((i : Nat) : Int)),(16,.i (((i + 1) : Nat) : Int)),(25,.b (decide ((a.getD i 0) ≠ (b.getD i 0))))],[],[999]⟩)
      (True ∧ (True ∧ True ∧ (Fits .i64 (((i + 1) : Nat) : Int))) ∧ True ∧ True)
      ⟨tt,⟨tt,tt,(by exact fits_i64 (by omega) (by omega))⟩,tt,tt⟩ ?_
     refine thenQ_normal ?_
     refine ⟨((i + 1)),(show ((i + 1) ≤ a.length) ∧ (∀ j,j < (i + 1) → a.getD j 0 = b.getD j 0) from ⟨(by first | assumption | omega | rfl | (intro _ hjj; omega) | (simp; done) | (simp; omega)),(by exact upto_succ hA (Decidable.not_not.1 n25))⟩),(show a.length - (i + 1) < a.length - i from (by first | omega | (simp_all; omega))),?_⟩
     exact Sub.of [] (@cast (((Sd (.ints a)) ∧ (Sd (.ints b)) ∧ (Si (((i + 1) : Nat) : Int)) ∧ True) ∧ True ∧ (true = true) ∧ (true = true)) _ (by kernel_rfl) ⟨⟨rfl,rfl,rfl,tt⟩,tt,rfl,rfl⟩)
   ·intro n14
    refine W.exit (thenQ_exit (thenQ_exit (blockQ_hit ?_)))
    refine thenQ_normal ?_
    refine Kk cok tab11 hnt [] [4] (⟨[(4,.b true)],[],[999]⟩)
     (True ∧ True)
     ⟨tt,tt⟩ ?_
    refine W.ret ?_
    exact endQ_ret (.b true) (by kernel_rfl) (@cast ((.bool true : Value) = .bool (decide (a = b))) _ (by kernel_rfl) (congrArg Value.bool (by symm; exact decide_eq_true (ints_ext (by omega) (fun j hj => hA j (by omega))))))
theorem ent11 : Entr prog 11 := ⟨_,func11,rfl,by decide⟩
end Go.Proofs.Try

set_option linter.unusedSimpArgs false
set_option linter.unusedVariables false
namespace Go.Proofs.Try
open Go.Ab Go.RowKit
def fs18 : FnS := fnS [.s .intss,.s .intss] [.intss,.intss] (fun _ (a,b,_) => (.b (decide (a = b)),[],True))
abbrev T18 : Tab := lk [(11,fs11)]
theorem tab18 : TabOK prog T18 := (TabOK.cons ok11 ent11 TabOK.nil)
set_option maxRecDepth 100000 in
set_option maxHeartbeats 1000000 in
theorem ok18 : FnOK prog 18 fs18 := by
 refine FnOK.mk cok func18 rfl rfl rfl ?_
 rintro fl ⟨(a : List (List Int)),(b : List (List Int)),_⟩ hpre F hnt0 _
 have hnt : F.nt = 27 := hnt0.trans ntmps18
 clear hpre
 refine W.to (⟨[(0,.sl (.intss a)),(1,.sl (.intss b))],[],[999]⟩) rfl ?_
 refine W.lenOf 0 (.intss a) (by kernel_rfl) ?_
 intro hl_a; replace hl_a : List.length a ≤ 9223372036854775807 := hl_a
 refine W.lenOf 1 (.intss b) (by kernel_rfl) ?_
 intro hl_b; replace hl_b : List.length b ≤ 9223372036854775807 := hl_b
 refine Kk cok tab18 hnt [] [0,1] (⟨[(0,.sl (.intss a)),(1,.sl (.intss b))],[],[999]⟩)
  (True ∧ True)
  ⟨tt,tt⟩ ?_
 refine W.seq ?_
 refine Kk cok tab18 hnt [] [0,1,10] (⟨[(0,.sl (.intss a)),(1,.sl (.intss b)),(10,.b (decide ((a.length : Int) ≠ (b.length : Int))))],[],[999]⟩)
  (True ∧ True ∧ True ∧ True ∧ (True ∧ True ∧ True) ∧ True)
  ⟨tt,tt,tt,tt,⟨tt,tt,tt⟩,tt⟩ ?_
 refine W.ifP ((a.length : Int) ≠ (b.length : Int)) (.b (decide ((a.length : Int) ≠ (b.length : Int)))) (by kernel_rfl) rfl trivial ?_ ?_
 ·intro h10
  refine Kk cok tab18 hnt [] [4] (⟨[(4,.b false)],[],[999]⟩)
   (True ∧ True)
   ⟨tt,tt⟩ ?_
  refine W.ret (thenQ_ret ?_)
  exact endQ_ret (.b false) (by kernel_rfl) (@cast ((.bool false : Value) = .bool (decide (a = b))) _ (by kernel_rfl) (congrArg Value.bool (by symm; exact decide_eq_false (fun e => h10 (by rw [e])))))
 ·intro n10
  refine W.skip (thenQ_normal ?_)
  refine W.seq ?_
  refine Kk cok tab18 hnt [] [0,1,5] (⟨[(0,.sl (.intss a)),(1,.sl (.intss b)),(5,.i (0 : Int))],[],[999]⟩)
   (True ∧ True)
   ⟨tt,tt⟩ ?_
  refine W.block ?_
  refine W.loop (ι := Nat) (fun (i : Nat) => (⟨[(0,.sl (.intss a)),(1,.sl (.intss b)),(5,.i ((i : Nat) : Int))],[],[999]⟩ : St))
   (fun (i : Nat) => (i ≤ a.length) ∧ (∀ j,j < i → a.getD j [] = b.getD j []))
   (fun (i : Nat) => (a.length - i : Nat)) (0) ?_ ?_ ?_
  ·exact (show (0 ≤ a.length) ∧ (∀ j,j < 0 → a.getD j [] = b.getD j []) from ⟨(by first | assumption | omega | rfl | (intro _ hjj; omega) | (simp; done) | (simp; omega)),(by exact upto_zero)⟩)
  ·exact Sub.of [] (@cast (((Sd (.intss a)) ∧ (Sd (.intss b)) ∧ ((.int .i64 (0 : Int) : Value) = .int .i64 ((0 : Nat) : Int)) ∧ True) ∧ True ∧ (true = true) ∧ (true = true)) _ (by kernel_rfl) ⟨⟨rfl,rfl,(congrArg (Value.int .i64) (by first | rfl | omega | assumption | simp | simp_all)),tt⟩,tt,rfl,rfl⟩)
  ·rintro i hC0
   have hC : (i ≤ a.length) ∧ (∀ j,j < i → a.getD j [] = b.getD j []) := hC0
   clear hC0
   obtain ⟨hi,hA⟩ := hC
   refine W.to (⟨[(0,.sl (.intss a)),(1,.sl (.intss b)),(5,.i ((i : Nat) : Int))],[],[999]⟩) rfl ?_
   refine W.seq ?_
   refine Kk cok tab18 hnt [] [0,1,5,14] (⟨[(0,.sl (.intss a)),(1,.sl (.intss b)),(5,.i ((i : Nat) : Int)),(14,.b (decide (((i : Nat) : Int) < (a.length : Int))))],[],[999]⟩)
    (True ∧ True ∧ True ∧ (True ∧ True ∧ True) ∧ True)
    ⟨tt,tt,tt,⟨tt,tt,tt⟩,tt⟩ ?_
   refine W.ifP (((i : Nat) : Int) < (a.length : Int)) (.b (decide (((i : Nat) : Int) < (a.length : Int)))) (by kernel_rfl) rfl trivial ?_ ?_
   ·intro h14
    refine W.skip (thenQ_normal ?_)
    refine W.seq ?_
    refine W.block ?_
    refine W.KA cok tab18 hnt [] [0,1,5,26] (⟨[(0,.sl (.intss a)),(1,.sl (.intss b)),(5,.i ((i : Nat) : Int)),(26,.b (!(decide ((a.getD i []) = (b.getD i [])))))],[],[999]⟩)
     (True ∧ True ∧ (True ∧ True ∧ (0 ≤ ((i : Nat) : Int)) ∧ (((i : Nat) : Int) < (a.length : Int))) ∧ True ∧ True ∧ True ∧ (True ∧ True ∧ (0 ≤ ((i : Nat) : Int)) ∧ (((i : Nat) : Int) < (b.length : Int))) ∧ True ∧ (True ∧ (True ∧ True ∧ True) ∧ True) ∧ True ∧ True) (by kernel_rfl) (by kernel_rfl)
     ⟨tt,tt,⟨tt,tt,(by omega),(by omega)⟩,tt,tt,tt,⟨tt,tt,(by omega),(by omega)⟩,tt,⟨tt,⟨tt,tt,tt⟩,tt⟩,tt,tt⟩ ?_
    refine W.if' (!(decide ((a.getD i []) = (b.getD i [])))) (.b (!(decide ((a.getD i []) = (b.getD i []))))) (by kernel_rfl) rfl trivial ?_ ?_
    ·intro h26
     refine Kk cok tab18 hnt [] [4] (⟨[(4,.b false)],[],[999]⟩)
      (True ∧ True)
      ⟨tt,tt⟩ ?_
     refine W.ret (blockQ_ret (thenQ_ret (thenQ_ret (blockQ_ret (thenQ_ret ?_)))))
     exact endQ_ret (.b false) (by kernel_rfl) (@cast ((.bool false : Value) = .bool (decide (a = b))) _ (by kernel_rfl) (congrArg Value.bool (by symm; exact decide_eq_false (fun e => by rw [e] at h26; simp at h26))))
    ·intro n26
     refine W.skip (blockQ_normal (thenQ_normal ?_))
     refine Lk cok tab18 hnt [] (⟨[(0,.sl (.intss a)),(1,.sl (.intss b)),(5,.i (((i + 1) : Nat) : Int)),(15,.i ((i : Nat) : Int)),(16,.i (((i + 1) : Nat) : Int)),(26,.b (!(decide ((a.getD i []) = (b.getD i [])))))],[],[999]⟩)
      (True ∧ (True ∧ True ∧ (Fits .i64 (((i + 1) : Nat) : Int))) ∧ True ∧ True)
      ⟨tt,⟨tt,tt,(by exact fits_i64 (by omega) (by omega))⟩,tt,tt⟩ ?_
     refine thenQ_normal ?_
     refine ⟨((i + 1)),(show ((i + 1) ≤ a.length) ∧ (∀ j,j < (i + 1) → a.getD j [] = b.getD j []) from ⟨(by first | assumption | omega | rfl | (intro _ hjj; omega) | (simp; done) | (simp; omega)),(by exact upto_succ hA (by simpa using n26))⟩),(show a.length - (i + 1) < a.length - i from (by first | omega | (simp_all; omega))),?_⟩
     exact Sub.of [] (@cast (((Sd (.intss a)) ∧ (Sd (.intss b)) ∧ (Si (((i + 1) : Nat) : Int)) ∧ True) ∧ True ∧ (true = true) ∧ (true = true)) _ (by kernel_rfl) ⟨⟨rfl,rfl,rfl,tt⟩,tt,rfl,rfl⟩)
   ·intro n14
    refine W.exit (thenQ_exit (thenQ_exit (blockQ_hit ?_)))
    refine thenQ_normal ?_
    refine Kk cok tab18 hnt [] [4] (⟨[(4,.b true)],[],[999]⟩)
     (True ∧ True)
     ⟨tt,tt⟩ ?_
    refine W.ret ?_
    exact endQ_ret (.b true) (by kernel_rfl) (@cast ((.bool true : Value) = .bool (decide (a = b))) _ (by kernel_rfl) (congrArg Value.bool (by symm; exact decide_eq_true (lists_ext (by omega) (fun j hj => hA j (by omega))))))
theorem ent18 : Entr prog 18 := ⟨_,func18,rfl,by decide⟩
end Go.Proofs.Try

set_option linter.unusedSimpArgs false
set_option linter.unusedVariables false
namespace Go.Proofs.Try
open Go.Ab Go.RowKit
def fs33 : FnS := fnS [.o,.o] [.call,.call] (fun _ (a,b,_) => (.b (decide (a = b)),[],True))
abbrev T33 : Tab := lk []
theorem tab33 : TabOK prog T33 := TabOK.nil
set_option maxRecDepth 100000 in
set_option maxHeartbeats 1000000 in
theorem ok33 : FnOK prog 33 fs33 := by
 refine FnOK.mk cok func33 rfl rfl rfl ?_
 rintro fl ⟨(a : CallD),(b : CallD),_⟩ hpre F hnt0 _
 have hnt : F.nt = 40 := hnt0.trans ntmps33
 clear hpre
 refine W.to (⟨[(0,.agg [.i a.proc,.i a.obj,.i a.kind,.i a.arg,.i a.ret,.i a.frm,.i a.to]),(1,.agg [.i b.proc,.i b.obj,.i b.kind,.i b.arg,.i b.ret,.i b.frm,.i b.to])],[],[999]⟩) rfl ?_
 refine Kk cok tab33 hnt [] [2,3] (⟨[(2,.ptr 2 0),(3,.ptr 3 0)],[(2,⟨46,.fix [.i a.proc,.i a.obj,.i a.kind,.i a.arg,.i a.ret,.i a.frm,.i a.to]⟩),(3,⟨46,.fix [.i b.proc,.i b.obj,.i b.kind,.i b.arg,.i b.ret,.i b.frm,.i b.to]⟩)],[3,2,999]⟩)
  (True ∧ True ∧ True ∧ True)
  ⟨tt,tt,tt,tt⟩ ?_
 refine W.seq ?_
 refine Kk cok tab33 hnt [] [2,3,9] (⟨[(2,.ptr 2 0),(3,.ptr 3 0),(9,.b (decide (a.proc ≠ b.proc)))],[(2,⟨46,.fix [.i a.proc,.i a.obj,.i a.kind,.i a.arg,.i a.ret,.i a.frm,.i a.to]⟩),(3,⟨46,.fix [.i b.proc,.i b.obj,.i b.kind,.i b.arg,.i b.ret,.i b.frm,.i b.to]⟩)],[3,2,999]⟩)
  (True ∧ True ∧ True ∧ True ∧ (True ∧ True ∧ True) ∧ True)
  ⟨tt,tt,tt,tt,⟨tt,tt,tt⟩,tt⟩ ?_
 refine W.ifP (a.proc ≠ b.proc) (.b (decide (a.proc ≠ b.proc))) (by kernel_rfl) rfl trivial ?_ ?_
 ·intro h9
  refine Kk cok tab33 hnt [] [4] (⟨[(4,.b false)],[(2,⟨46,.fix [.i a.proc,.i a.obj,.i a.kind,.i a.arg,.i a.ret,.i a.frm,.i a.to]⟩),(3,⟨46,.fix [.i b.proc,.i b.obj,.i b.kind,.i b.arg,.i b.ret,.i b.frm,.i b.to]⟩)],[3,2,999]⟩)
   (True ∧ True)
   ⟨tt,tt⟩ ?_
  refine W.ret (thenQ_ret ?_)
  exact endQ_ret (.b false) (by kernel_rfl) (@cast ((.bool false : Value) = .bool (decide (a = b))) _ (by kernel_rfl) (congrArg Value.bool (by first | (symm; exact decide_eq_true (call_ext (by omega) (by omega) (by omega) (by omega) (by omega) (by omega) (by omega))) | (symm; exact decide_eq_false (fun e => by subst e; simp_all)))))
 ·intro n9
  refine W.skip (thenQ_normal ?_)
  refine W.seq ?_
  refine Kk cok tab33 hnt [] [2,3,14] (⟨[(2,.ptr 2 0),(3,.ptr 3 0),(14,.b (decide (a.obj ≠ b.obj)))],[(2,⟨46,.fix [.i a.proc,.i a.obj,.i a.kind,.i a.arg,.i a.ret,.i a.frm,.i a.to]⟩),(3,⟨46,.fix [.i b.proc,.i b.obj,.i b.kind,.i b.arg,.i b.ret,.i b.frm,.i b.to]⟩)],[3,2,999]⟩)
   (True ∧ True ∧ True ∧ True ∧ (True ∧ True ∧ True) ∧ True)
   ⟨tt,tt,tt,tt,⟨tt,tt,tt⟩,tt⟩ ?_
  refine W.ifP (a.obj ≠ b.obj) (.b (decide (a.obj ≠ b.obj))) (by kernel_rfl) rfl trivial ?_ ?_
  ·intro h14
   refine Kk cok tab33 hnt [] [4] (⟨[(4,.b false)],[(2,⟨46,.fix [.i a.proc,.i a.obj,.i a.kind,.i a.arg,.i a.ret,.i a.frm,.i a.to]⟩),(3,⟨46,.fix [.i b.proc,.i b.obj,.i b.kind,.i b.arg,.i b.ret,.i b.frm,.i b.to]⟩)],[3,2,999]⟩)
    (True ∧ True)
    ⟨tt,tt⟩ ?_
   refine W.ret (thenQ_ret ?_)
   exact endQ_ret (.b false) (by kernel_rfl) (@cast ((.bool false : Value) = .bool (decide (a = b))) _ (by kernel_rfl) (congrArg Value.bool (by first | (symm; exact decide_eq_true (call_ext (by omega) (by omega) (by omega) (by omega) (by omega) (by omega) (by omega))) | (symm; exact decide_eq_false (fun e => by subst e; simp_all)))))
  ·intro n14
   refine W.skip (thenQ_normal ?_)
   refine W.seq ?_
   refine Kk cok tab33 hnt [] [2,3,19] (⟨[(2,.ptr 2 0),(3,.ptr 3 0),(19,.b (decide (a.kind ≠ b.kind)))],[(2,⟨46,.fix [.i a.proc,.i a.obj,.i a.kind,.i a.arg,.i a.ret,.i a.frm,.i a.to]⟩),(3,⟨46,.fix [.i b.proc,.i b.obj,.i b.kind,.i b.arg,.i b.ret,.i b.frm,.i b.to]⟩)],[3,2,999]⟩)
    (True ∧ True ∧ True ∧ True ∧ (True ∧ True ∧ True) ∧ True)
    ⟨tt,tt,tt,tt,⟨tt,tt,tt⟩,tt⟩ ?_
   refine W.ifP (a.kind ≠ b.kind) (.b (decide (a.kind ≠ b.kind))) (by kernel_rfl) rfl trivial ?_ ?_
   ·intro h19
    refine Kk cok tab33 hnt [] [4] (⟨[(4,.b false)],[(2,⟨46,.fix [.i a.proc,.i a.obj,.i a.kind,.i a.arg,.i a.ret,.i a.frm,.i a.to]⟩),(3,⟨46,.fix [.i b.proc,.i b.obj,.i b.kind,.i b.arg,.i b.ret,.i b.frm,.i b.to]⟩)],[3,2,999]⟩)
     (True ∧ True)
     ⟨tt,tt⟩ ?_
    refine W.ret (thenQ_ret ?_)
    exact endQ_ret (.b false) (by kernel_rfl) (@cast ((.bool false : Value) = .bool (decide (a = b))) _ (by kernel_rfl) (congrArg Value.bool (by first | (symm; exact decide_eq_true (call_ext (by omega) (by omega) (by omega) (by omega) (by omega) (by omega) (by omega))) | (symm; exact decide_eq_false (fun e => by subst e; simp_all)))))
   ·intro n19
    refine W.skip (thenQ_normal ?_)
    refine W.seq ?_
    refine Kk cok tab33 hnt [] [2,3,24] (⟨[(2,.ptr 2 0),(3,.ptr 3 0),(24,.b (decide (a.arg ≠ b.arg)))],[(2,⟨46,.fix [.i a.proc,.i a.obj,.i a.kind,.i a.arg,.i a.ret,.i a.frm,.i a.to]⟩),(3,⟨46,.fix [.i b.proc,.i b.obj,.i b.kind,.i b.arg,.i b.ret,.i b.frm,.i b.to]⟩)],[3,2,999]⟩)
     (True ∧ True ∧ True ∧ True ∧ (True ∧ True ∧ True) ∧ True)
     ⟨tt,tt,tt,tt,⟨tt,tt,tt⟩,tt⟩ ?_
    refine W.ifP (a.arg ≠ b.arg) (.b (decide (a.arg ≠ b.arg))) (by kernel_rfl) rfl trivial ?_ ?_
    ·intro h24
     refine Kk cok tab33 hnt [] [4] (⟨[(4,.b false)],[(2,⟨46,.fix [.i a.proc,.i a.obj,.i a.kind,.i a.arg,.i a.ret,.i a.frm,.i a.to]⟩),(3,⟨46,.fix [.i b.proc,.i b.obj,.i b.kind,.i b.arg,.i b.ret,.i b.frm,.i b.to]⟩)],[3,2,999]⟩)
      (True ∧ True)
      ⟨tt,tt⟩ ?_
     refine W.ret (thenQ_ret ?_)
     exact endQ_ret (.b false) (by kernel_rfl) (@cast ((.bool false : Value) = .bool (decide (a = b))) _ (by kernel_rfl) (congrArg Value.bool (by first | (symm; exact decide_eq_true (call_ext (by omega) (by omega) (by omega) (by omega) (by omega) (by omega) (by omega))) | (symm; exact decide_eq_false (fun e => by subst e; simp_all)))))
    ·intro n24
     refine W.skip (thenQ_normal ?_)
     refine W.seq ?_
     refine Kk cok tab33 hnt [] [2,3,29] (⟨[(2,.ptr 2 0),(3,.ptr 3 0),(29,.b (decide (a.ret ≠ b.ret)))],[(2,⟨46,.fix [.i a.proc,.i a.obj,.i a.kind,.i a.arg,.i a.ret,.i a.frm,.i a.to]⟩),(3,⟨46,.fix [.i b.proc,.i b.obj,.i b.kind,.i b.arg,.i b.ret,.i b.frm,.i b.to]⟩)],[3,2,999]⟩)
      (True ∧ True ∧ True ∧ True ∧ (True ∧ True ∧ True) ∧ True)
      ⟨tt,tt,tt,tt,⟨tt,tt,tt⟩,tt⟩ ?_
     refine W.ifP (a.ret ≠ b.ret) (.b (decide (a.ret ≠ b.ret))) (by kernel_rfl) rfl trivial ?_ ?_
     ·intro h29
      refine Kk cok tab33 hnt [] [4] (⟨[(4,.b false)],[(2,⟨46,.fix [.i a.proc,.i a.obj,.i a.kind,.i a.arg,.i a.ret,.i a.frm,.i a.to]⟩),(3,⟨46,.fix [.i b.proc,.i b.obj,.i b.kind,.i b.arg,.i b.ret,.i b.frm,.i b.to]⟩)],[3,2,999]⟩)
       (True ∧ True)
       ⟨tt,tt⟩ ?_
      refine W.ret (thenQ_ret ?_)
      exact endQ_ret (.b false) (by kernel_rfl) (@cast ((.bool false : Value) = .bool (decide (a = b))) _ (by kernel_rfl) (congrArg Value.bool (by first | (symm; exact decide_eq_true (call_ext (by omega) (by omega) (by omega) (by omega) (by omega) (by omega) (by omega))) | (symm; exact decide_eq_false (fun e => by subst e; simp_all)))))
     ·intro n29
      refine W.skip (thenQ_normal ?_)
      refine W.seq ?_
      refine Kk cok tab33 hnt [] [2,3,34] (⟨[(2,.ptr 2 0),(3,.ptr 3 0),(34,.b (decide (a.frm ≠ b.frm)))],[(2,⟨46,.fix [.i a.proc,.i a.obj,.i a.kind,.i a.arg,.i a.ret,.i a.frm,.i a.to]⟩),(3,⟨46,.fix [.i b.proc,.i b.obj,.i b.kind,.i b.arg,.i b.ret,.i b.frm,.i b.to]⟩)],[3,2,999]⟩)
       (True ∧ True ∧ True ∧ True ∧ (True ∧ True ∧ True) ∧ True)
       ⟨tt,tt,tt,tt,⟨tt,tt,tt⟩,tt⟩ ?_
      refine W.ifP (a.frm ≠ b.frm) (.b (decide (a.frm ≠ b.frm))) (by kernel_rfl) rfl trivial ?_ ?_
      ·intro h34
       refine Kk cok tab33 hnt [] [4] (⟨[(4,.b false)],[(2,⟨46,.fix [.i a.proc,.i a.obj,.i a.kind,.i a.arg,.i a.ret,.i a.frm,.i a.to]⟩),(3,⟨46,.fix [.i b.proc,.i b.obj,.i b.kind,.i b.arg,.i b.ret,.i b.frm,.i b.to]⟩)],[3,2,999]⟩)
        (True ∧ True)
        ⟨tt,tt⟩ ?_
       refine W.ret (thenQ_ret ?_)
       exact endQ_ret (.b false) (by kernel_rfl) (@cast ((.bool false : Value) = .bool (decide (a = b))) _ (by kernel_rfl) (congrArg Value.bool (by first | (symm; exact decide_eq_true (call_ext (by omega) (by omega) (by omega) (by omega) (by omega) (by omega) (by omega))) | (symm; exact decide_eq_false (fun e => by subst e; simp_all)))))
      ·intro n34
       refine W.skip (thenQ_normal ?_)
       refine W.seq ?_
       refine Kk cok tab33 hnt [] [39] (⟨[(39,.b (decide (a.to ≠ b.to)))],[(2,⟨46,.fix [.i a.proc,.i a.obj,.i a.kind,.i a.arg,.i a.ret,.i a.frm,.i a.to]⟩),(3,⟨46,.fix [.i b.proc,.i b.obj,.i b.kind,.i b.arg,.i b.ret,.i b.frm,.i b.to]⟩)],[3,2,999]⟩)
        (True ∧ True ∧ True ∧ True ∧ (True ∧ True ∧ True) ∧ True)
        ⟨tt,tt,tt,tt,⟨tt,tt,tt⟩,tt⟩ ?_
       refine W.ifP (a.to ≠ b.to) (.b (decide (a.to ≠ b.to))) (by kernel_rfl) rfl trivial ?_ ?_
       ·intro h39
        refine Kk cok tab33 hnt [] [4] (⟨[(4,.b false)],[(2,⟨46,.fix [.i a.proc,.i a.obj,.i a.kind,.i a.arg,.i a.ret,.i a.frm,.i a.to]⟩),(3,⟨46,.fix [.i b.proc,.i b.obj,.i b.kind,.i b.arg,.i b.ret,.i b.frm,.i b.to]⟩)],[3,2,999]⟩)
         (True ∧ True)
         ⟨tt,tt⟩ ?_
        refine W.ret (thenQ_ret ?_)
        exact endQ_ret (.b false) (by kernel_rfl) (@cast ((.bool false : Value) = .bool (decide (a = b))) _ (by kernel_rfl) (congrArg Value.bool (by first | (symm; exact decide_eq_true (call_ext (by omega) (by omega) (by omega) (by omega) (by omega) (by omega) (by omega))) | (symm; exact decide_eq_false (fun e => by subst e; simp_all)))))
       ·intro n39
        refine W.skip (thenQ_normal ?_)
        refine Kk cok tab33 hnt [] [4] (⟨[(4,.b true)],[(2,⟨46,.fix [.i a.proc,.i a.obj,.i a.kind,.i a.arg,.i a.ret,.i a.frm,.i a.to]⟩),(3,⟨46,.fix [.i b.proc,.i b.obj,.i b.kind,.i b.arg,.i b.ret,.i b.frm,.i b.to]⟩)],[3,2,999]⟩)
         (True ∧ True)
         ⟨tt,tt⟩ ?_
        refine W.ret ?_
        exact endQ_ret (.b true) (by kernel_rfl) (@cast ((.bool true : Value) = .bool (decide (a = b))) _ (by kernel_rfl) (congrArg Value.bool (by first | (symm; exact decide_eq_true (call_ext (by omega) (by omega) (by omega) (by omega) (by omega) (by omega) (by omega))) | (symm; exact decide_eq_false (fun e => by subst e; simp_all)))))
theorem ent33 : Entr prog 33 := ⟨_,func33,rfl,by decide⟩
end Go.Proofs.Try

set_option linter.unusedSimpArgs false
set_option linter.unusedVariables false
namespace Go.Proofs.Try
open Go.Ab Go.RowKit
def fs12 : FnS := fnS [.s .calls,.s .calls] [.calls,.calls] (fun _ (a,b,_) => (.b (decide (a = b)),[],True))
abbrev T12 : Tab := lk [(33,fs33)]
theorem tab12 : TabOK prog T12 := (TabOK.cons ok33 ent33 TabOK.nil)
set_option maxRecDepth 100000 in
set_option maxHeartbeats 1000000 in
theorem ok12 : FnOK prog 12 fs12 := by
 refine FnOK.mk cok func12 rfl rfl rfl ?_
 rintro fl ⟨(a : List CallD),(b : List CallD),_⟩ hpre F hnt0 _
 have hnt : F.nt = 27 := hnt0.trans ntmps12
 clear hpre
 refine W.to (⟨[(0,.sl (.calls a)),(1,.sl (.calls b))],[],[999]⟩) rfl ?_
 refine W.lenOf 0 (.calls a) (by kernel_rfl) ?_
 intro hl_a; replace hl_a : List.length a ≤ 9223372036854775807 := hl_a
 refine W.lenOf 1 (.calls b) (by kernel_rfl) ?_
 intro hl_b; replace hl_b : List.length b ≤ 9223372036854775807 := hl_b
 refine Kk cok tab12 hnt [] [0,1] (⟨[(0,.sl (.calls a)),(1,.sl (.calls b))],[],[999]⟩)
  (True ∧ True)
  ⟨tt,tt⟩ ?_
 refine W.seq ?_
 refine Kk cok tab12 hnt [] [0,1,10] (⟨[(0,.sl (.calls a)),(1,.sl (.calls b)),(10,.b (decide ((a.length : Int) ≠ (b.length : Int))))],[],[999]⟩)
  (True ∧ True ∧ True ∧ True ∧ (True ∧ True ∧ True) ∧ True)
  ⟨tt,tt,tt,tt,⟨tt,tt,tt⟩,tt⟩ ?_
 refine W.ifP ((a.length : Int) ≠ (b.length : Int)) (.b (decide ((a.length : Int) ≠ (b.length : Int)))) (by kernel_rfl) rfl trivial ?_ ?_
 ·intro h10
  refine Kk cok tab12 hnt [] [4] (⟨[(4,.b false)],[],[999]⟩)
   (True ∧ True)
   ⟨tt,tt⟩ ?_
  refine W.ret (thenQ_ret ?_)
  exact endQ_ret (.b false) (by kernel_rfl) (@cast ((.bool false : Value) = .bool (decide (a = b))) _ (by kernel_rfl) (congrArg Value.bool (by symm; exact decide_eq_false (fun e => h10 (by rw [e])))))
 ·intro n10
  refine W.skip (thenQ_normal ?_)
  refine W.seq ?_
  refine Kk cok tab12 hnt [] [0,1,5] (⟨[(0,.sl (.calls a)),(1,.sl (.calls b)),(5,.i (0 : Int))],[],[999]⟩)
   (True ∧ True)
   ⟨tt,tt⟩ ?_
  refine W.block ?_
  refine W.loop (ι := Nat) (fun (i : Nat) => (⟨[(0,.sl (.calls a)),(1,.sl (.calls b)),(5,.i ((i : Nat) : Int))],[],[999]⟩ : St))
   (fun (i : Nat) => (i ≤ a.length) ∧ (∀ j,j < i → a.getD j default = b.getD j default))
   (fun (i : Nat) => (a.length - i : Nat)) (0) ?_ ?_ ?_
  ·exact (show (0 ≤ a.length) ∧ (∀ j,j < 0 → a.getD j default = b.getD j default) from ⟨(by first | assumption | omega | rfl | (intro _ hjj; omega) | (simp; done) | (simp; omega)),(by exact upto_zero)⟩)
  ·exact Sub.of [] (@cast (((Sd (.calls a)) ∧ (Sd (.calls b)) ∧ ((.int .i64 (0 : Int) : Value) = .int .i64 ((0 : Nat) : Int)) ∧ True) ∧ True ∧ (true = true) ∧ (true = true)) _ (by kernel_rfl) ⟨⟨rfl,rfl,(congrArg (Value.int .i64) (by first | rfl | omega | assumption | simp | simp_all)),tt⟩,tt,rfl,rfl⟩)
  ·rintro i hC0
   have hC : (i ≤ a.length) ∧ (∀ j,j < i → a.getD j default = b.getD j default) := hC0
   clear hC0
   obtain ⟨hi,hA⟩ := hC
   refine W.to (⟨[(0,.sl (.calls a)),(1,.sl (.calls b)),(5,.i ((i : Nat) : Int))],[],[999]⟩) rfl ?_
   refine W.seq ?_
   refine Kk cok tab12 hnt [] [0,1,5,14] (⟨[(0,.sl (.calls a)),(1,.sl (.calls b)),(5,.i ((i : Nat) : Int)),(14,.b (decide (((i : Nat) : Int) < (a.length : Int))))],[],[999]⟩)
    (True ∧ True ∧ True ∧ (True ∧ True ∧ True) ∧ True)
    ⟨tt,tt,tt,⟨tt,tt,tt⟩,tt⟩ ?_
   refine W.ifP (((i : Nat) : Int) < (a.length : Int)) (.b (decide (((i : Nat) : Int) < (a.length : Int)))) (by kernel_rfl) rfl trivial ?_ ?_
   ·intro h14
    refine W.skip (thenQ_normal ?_)
    refine W.seq ?_
    refine W.block ?_
    refine W.KA cok tab12 hnt [] [0,1,5,26] (⟨[(0,.sl (.calls a)),(1,.sl (.calls b)),(5,.i ((i : Nat) : Int)),(26,.b (!(decide ((a.getD i default) = (b.getD i default)))))],[],[999]⟩)
     (True ∧ True ∧ (True ∧ True ∧ (0 ≤ ((i : Nat) : Int)) ∧ (((i : Nat) : Int) < (a.length : Int))) ∧ True ∧ True ∧ True ∧ (True ∧ True ∧ (0 ≤ ((i : Nat) : Int)) ∧ (((i : Nat) : Int) < (b.length : Int))) ∧ True ∧ (True ∧ (True ∧ True ∧ True) ∧ True) ∧ True ∧ True) (by kernel_rfl) (by kernel_rfl)
     ⟨tt,tt,⟨tt,tt,(by omega),(by omega)⟩,tt,tt,tt,⟨tt,tt,(by omega),(by omega)⟩,tt,⟨tt,⟨tt,tt,tt⟩,tt⟩,tt,tt⟩ ?_
    refine W.if' (!(decide ((a.getD i default) = (b.getD i default)))) (.b (!(decide ((a.getD i default) = (b.getD i default))))) (by kernel_rfl) rfl trivial ?_ ?_
    ·intro h26
     refine Kk cok tab12 hnt [] [4] (⟨[(4,.b false)],[],[999]⟩)
      (True ∧ True)
      ⟨tt,tt⟩ ?_
     refine W.ret (blockQ_ret (thenQ_ret (thenQ_ret (blockQ_ret (thenQ_ret ?_)))))
     exact endQ_ret (.b false) (by kernel_rfl) (@cast ((.bool false : Value) = .bool (decide (a = b))) _ (by kernel_rfl) (congrArg Value.bool (by symm; exact decide_eq_false (fun e => by rw [e] at h26; simp at h26))))
    ·intro n26
     refine W.skip (blockQ_normal (thenQ_normal ?_))
     refine Lk cok tab12 hnt [] (⟨[(0,.sl (.calls a)),(1,.sl (.calls b)),(5,.i (((i + 1) : Nat) : Int)),(15,.i ((i : Nat) : Int)),(16,.i (((i + 1) : Nat) : Int)),(26,.b (!(decide ((a.getD i default) = (b.getD i default)))))],[],[999]⟩)
      (True ∧ (True ∧ True ∧ (Fits .i64 (((i + 1) : Nat) : Int))) ∧ True ∧ True)
      ⟨tt,⟨tt,tt,(by exact fits_i64 (by omega) (by omega))⟩,tt,tt⟩ ?_
     refine thenQ_normal ?_
     refine ⟨((i + 1)),(show ((i + 1) ≤ a.length) ∧ (∀ j,j < (i + 1) → a.getD j default = b.getD j default) from ⟨(by first | assumption | omega | rfl | (intro _ hjj; omega) | (simp; done) | (simp; omega)),(by exact upto_succ hA (by simpa using n26))⟩),(show a.length - (i + 1) < a.length - i from (by first | omega | (simp_all; omega))),?_⟩
     exact Sub.of [] (@cast (((Sd (.calls a)) ∧ (Sd (.calls b)) ∧ (Si (((i + 1) : Nat) : Int)) ∧ True) ∧ True ∧ (true = true) ∧ (true = true)) _ (by kernel_rfl) ⟨⟨rfl,rfl,rfl,tt⟩,tt,rfl,rfl⟩)
   ·intro n14
    refine W.exit (thenQ_exit (thenQ_exit (blockQ_hit ?_)))
    refine thenQ_normal ?_
    refine Kk cok tab12 hnt [] [4] (⟨[(4,.b true)],[],[999]⟩)
     (True ∧ True)
     ⟨tt,tt⟩ ?_
    refine W.ret ?_
    exact endQ_ret (.b true) (by kernel_rfl) (@cast ((.bool true : Value) = .bool (decide (a = b))) _ (by kernel_rfl) (congrArg Value.bool (by symm; exact decide_eq_true (calls_ext (by omega) (fun j hj => hA j (by omega))))))
theorem ent12 : Entr prog 12 := ⟨_,func12,rfl,by decide⟩
end Go.Proofs.Try
