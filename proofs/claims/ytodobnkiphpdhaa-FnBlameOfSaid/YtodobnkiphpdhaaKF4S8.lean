import Derived.Test.YtodobnkiphpdhaaKF4S0
import Derived.Test.YtodobnkiphpdhaaKF4S1
set_option linter.unusedSimpArgs false
set_option linter.unusedVariables false
namespace Go.Proofs.Try
open Go.Ab Go.RowKit
def fs19 : FnS := fnS [.s .calls,.s .ints] [.calls,.ints] (fun _ (h,l,_) => (.sl (.calls (pickC h l)),[],(l.length ≤ 1000) ∧ (∀ x ∈ l,0 ≤ x ∧ x < (h.length : Int))))
abbrev T19 : Tab := lk []
theorem tab19 : TabOK prog T19 := TabOK.nil
set_option maxRecDepth 100000 in
set_option maxHeartbeats 1000000 in
theorem ok19 : FnOK prog 19 fs19 := by
 refine FnOK.mk cok func19 rfl rfl rfl ?_
 rintro fl ⟨(h : List CallD),(l : List Int),_⟩ hpre F hnt0 _
 have hnt : F.nt = 25 := hnt0.trans ntmps19
 replace hpre : (l.length ≤ 1000) ∧ (∀ x ∈ l,0 ≤ x ∧ x < (h.length : Int)) := hpre
 obtain ⟨hl6,hin⟩ := hpre
 refine W.to (⟨[(0,.sl (.calls h)),(1,.sl (.ints l))],[],[999]⟩) rfl ?_
 refine W.lenOf 0 (.calls h) (by kernel_rfl) ?_
 intro hl_h; replace hl_h : List.length h ≤ 9223372036854775807 := hl_h
 refine W.lenOf 1 (.ints l) (by kernel_rfl) ?_
 intro hl_l; replace hl_l : List.length l ≤ 9223372036854775807 := hl_l
 refine W.K cok tab19 hnt [] [0,1] (⟨[(0,.sl (.calls h)),(1,.sl (.ints l))],[],[999]⟩)
  (True ∧ True) (by kernel_rfl)
  ⟨tt,tt⟩ ?_
 refine W.K cok tab19 hnt [7] [0,1,5] (⟨[(0,.sl (.calls h)),(1,.sl (.ints l)),(5,.own 7 (List.length ([] : List CallD)))],[(7,⟨49,.row (.calls ([] : List CallD))⟩)],[7,999]⟩)
  (True ∧ True ∧ True) (by kernel_rfl)
  ⟨tt,tt,tt⟩ ?_
 refine W.seq ?_
 refine W.K cok tab19 hnt [] [0,1,5,6] (⟨[(0,.sl (.calls h)),(1,.sl (.ints l)),(5,.own 7 (List.length ([] : List CallD))),(6,.i (0 : Int))],[(7,⟨49,.row (.calls ([] : List CallD))⟩)],[7,999]⟩)
  (True ∧ True) (by kernel_rfl)
  ⟨tt,tt⟩ ?_
 refine W.block ?_
 refine W.loop (ι := Nat × (List CallD)) (fun (x : Nat × (List CallD)) => match x with | (j,pt) => (⟨[(0,.sl (.calls h)),(1,.sl (.ints l)),(5,.own 7 pt.length),(6,.i ((j : Nat) : Int))],[(7,⟨49,.row (.calls pt)⟩)],[7,999]⟩ : St))
  (fun (x : Nat × (List CallD)) => match x with | (j,pt) => (j ≤ l.length) ∧ (pt = pickC h (l.take j)))
  (fun (x : Nat × (List CallD)) => match x with | (j,pt) => (l.length - j : Nat)) (0,([] : List CallD)) ?_ ?_ ?_
 ·exact (show (0 ≤ l.length) ∧ (([] : List CallD) = pickC h (l.take 0)) from ⟨(by first | assumption | omega | rfl | (intro _ hjj; omega) | (simp; done) | (simp; omega)),(by rfl)⟩)
 ·exact Sub.of [] (@cast ((((.calls h : Dat) = .calls h) ∧ (((.ints l : Dat) = .ints l) ∧ ((((7 : Nat) = 7) ∧ (((List.length ([] : List CallD)) = (List.length ([] : List CallD))) ∧ ((7 : Nat) ∈ ([7,999] : List Nat)))) ∧ (((.int .i64 (0 : Int) : Value) = .int .i64 ((0 : Nat) : Int)) ∧ True)))) ∧ (((((49 : Nat) = 49) ∧ (((.calls ([] : List CallD) : Dat) = .calls ([] : List CallD)) ∧ ((7 : Nat) ∈ ([7,999] : List Nat)))) ∧ True) ∧ ((true = true) ∧ (true = true)))) _ (by kernel_rfl) ⟨⟨rfl,rfl,⟨rfl,rfl,(by decide)⟩,(congrArg (Value.int .i64) (by first | rfl | omega | assumption | simp | simp_all)),tt⟩,⟨⟨rfl,rfl,(by decide)⟩,tt⟩,rfl,rfl⟩)
 ·rintro ⟨j,pt⟩ hC0
  have hC : (j ≤ l.length) ∧ (pt = pickC h (l.take j)) := hC0
  clear hC0
  obtain ⟨hj,hpt⟩ := hC
  refine W.to (⟨[(0,.sl (.calls h)),(1,.sl (.ints l)),(5,.own 7 pt.length),(6,.i ((j : Nat) : Int))],[(7,⟨49,.row (.calls pt)⟩)],[7,999]⟩) rfl ?_
  have hgj := fun (hj : j < l.length) => hin _ (getD_mem l 0 hj)
  have hptl : pt.length ≤ j := by rw [hpt,pickC_len,List.length_take]; omega
  refine W.seq ?_
  refine W.K cok tab19 hnt [] [0,1,5,6,11] (⟨[(0,.sl (.calls h)),(1,.sl (.ints l)),(5,.own 7 pt.length),(6,.i ((j : Nat) : Int)),(11,.b (decide (((j : Nat) : Int) < (l.length : Int))))],[(7,⟨49,.row (.calls pt)⟩)],[7,999]⟩)
   (True ∧ True ∧ True ∧ (True ∧ True ∧ True) ∧ True) (by kernel_rfl)
   ⟨tt,tt,tt,⟨tt,tt,tt⟩,tt⟩ ?_
  refine W.ifP (((j : Nat) : Int) < (l.length : Int)) (.b (decide (((j : Nat) : Int) < (l.length : Int)))) (by kernel_rfl) rfl trivial ?_ ?_
  ·intro h11
   refine W.skip (thenQ_normal ?_)
   refine W.seq ?_
   refine W.block ?_
   refine W.L cok tab19 hnt [23] (⟨[(0,.sl (.calls h)),(1,.sl (.ints l)),(5,.own 23 (List.length (pt ++ ([(h.getD (Int.toNat (l.getD j 0)) default)])))),(6,.i ((j : Nat) : Int)),(11,.b (decide (((j : Nat) : Int) < (l.length : Int)))),(14,.own 7 pt.length),(15,.sl (.calls h)),(16,.sl (.ints l)),(17,.i ((j : Nat) : Int)),(18,.ep [.i (l.getD j 0)]),(19,.i (l.getD j 0)),(20,.ep [.i ((h.getD (Int.toNat (l.getD j 0)) default).proc),.i ((h.getD (Int.toNat (l.getD j 0)) default).obj),.i ((h.getD (Int.toNat (l.getD j 0)) default).kind),.i ((h.getD (Int.toNat (l.getD j 0)) default).arg),.i ((h.getD (Int.toNat (l.getD j 0)) default).ret),.i ((h.getD (Int.toNat (l.getD j 0)) default).frm),.i ((h.getD (Int.toNat (l.getD j 0)) default).to)]),(21,.agg [.i ((h.getD (Int.toNat (l.getD j 0)) default).proc),.i ((h.getD (Int.toNat (l.getD j 0)) default).obj),.i ((h.getD (Int.toNat (l.getD j 0)) default).kind),.i ((h.getD (Int.toNat (l.getD j 0)) default).arg),.i ((h.getD (Int.toNat (l.getD j 0)) default).ret),.i ((h.getD (Int.toNat (l.getD j 0)) default).frm),.i ((h.getD (Int.toNat (l.getD j 0)) default).to)]),(22,.sl (.calls ([(h.getD (Int.toNat (l.getD j 0)) default)]))),(23,.own 23 (List.length (pt ++ ([(h.getD (Int.toNat (l.getD j 0)) default)]))))],[(23,⟨49,.row (.calls (pt ++ ([(h.getD (Int.toNat (l.getD j 0)) default)])))⟩)],[23,22,7,999]⟩)
    (True ∧ True ∧ True ∧ True ∧ (True ∧ True ∧ (0 ≤ ((j : Nat) : Int)) ∧ (((j : Nat) : Int) < (l.length : Int))) ∧ True ∧ (True ∧ True ∧ (0 ≤ (l.getD j 0)) ∧ ((l.getD j 0) < (h.length : Int))) ∧ True ∧ (True ∧ True) ∧ ((True ∧ (pt.length = pt.length)) ∧ True ∧ ((pt.length + (List.length ([(h.getD (Int.toNat (l.getD j 0)) default)]))) * 56 ≤ 140737488355328)) ∧ True ∧ True) (by kernel_rfl)
    ⟨tt,tt,tt,tt,⟨tt,tt,(by omega),(by omega)⟩,tt,⟨tt,tt,(by have h9 := hgj (by omega); omega),(by have h9 := hgj (by omega); omega)⟩,tt,⟨tt,tt⟩,⟨⟨tt,rfl⟩,tt,(by (try simp only [List.length_cons,List.length_nil]); omega)⟩,tt,tt⟩ ?_
   refine blockQ_normal (thenQ_normal ?_)
   refine W.L cok tab19 hnt [] (⟨[(0,.sl (.calls h)),(1,.sl (.ints l)),(5,.own 23 (List.length (pt ++ ([(h.getD (Int.toNat (l.getD j 0)) default)])))),(6,.i (((j + 1) : Nat) : Int)),(11,.b (decide (((j : Nat) : Int) < (l.length : Int)))),(12,.i ((j : Nat) : Int)),(13,.i (((j + 1) : Nat) : Int)),(14,.own 7 pt.length),(15,.sl (.calls h)),(16,.sl (.ints l)),(17,.i ((j : Nat) : Int)),(18,.ep [.i (l.getD j 0)]),(19,.i (l.getD j 0)),(20,.ep [.i ((h.getD (Int.toNat (l.getD j 0)) default).proc),.i ((h.getD (Int.toNat (l.getD j 0)) default).obj),.i ((h.getD (Int.toNat (l.getD j 0)) default).kind),.i ((h.getD (Int.toNat (l.getD j 0)) default).arg),.i ((h.getD (Int.toNat (l.getD j 0)) default).ret),.i ((h.getD (Int.toNat (l.getD j 0)) default).frm),.i ((h.getD (Int.toNat (l.getD j 0)) default).to)]),(21,.agg [.i ((h.getD (Int.toNat (l.getD j 0)) default).proc),.i ((h.getD (Int.toNat (l.getD j 0)) default).obj),.i ((h.getD (Int.toNat (l.getD j 0)) default).kind),.i ((h.getD (Int.toNat (l.getD j 0)) default).arg),.i ((h.getD (Int.toNat (l.getD j 0)) default).ret),.i ((h.getD (Int.toNat (l.getD j 0)) default).frm),.i ((h.getD (Int.toNat (l.getD j 0)) default).to)]),(22,.sl (.calls ([(h.getD (Int.toNat (l.getD j 0)) default)]))),(23,.own 23 (List.length (pt ++ ([(h.getD (Int.toNat (l.getD j 0)) default)]))))],[(23,⟨49,.row (.calls (pt ++ ([(h.getD (Int.toNat (l.getD j 0)) default)])))⟩)],[23,22,7,999]⟩)
    (True ∧ (True ∧ True ∧ (Fits .i64 (((j + 1) : Nat) : Int))) ∧ True ∧ True) (by kernel_rfl)
    ⟨tt,⟨tt,tt,(by exact fits_i64 (by omega) (by omega))⟩,tt,tt⟩ ?_
   refine thenQ_normal ?_
   refine ⟨((j + 1),(pt ++ ([(h.getD (Int.toNat (l.getD j 0)) default)]))),(show ((j + 1) ≤ l.length) ∧ ((pt ++ ([(h.getD (Int.toNat (l.getD j 0)) default)])) = pickC h (l.take (j + 1))) from ⟨(by first | assumption | omega | rfl | (intro _ hjj; omega) | (simp; done) | (simp; omega)),(by exact pick_succ hpt (by omega))⟩),(show l.length - (j + 1) < l.length - j from (by first | omega | (simp_all; omega))),?_⟩
   exact Sub.of [(7,23)] (@cast ((((.calls h : Dat) = .calls h) ∧ (((.ints l : Dat) = .ints l) ∧ ((((23 : Nat) = 23) ∧ (((List.length (pt ++ ([(h.getD (Int.toNat (l.getD j 0)) default)]))) = (List.length (pt ++ ([(h.getD (Int.toNat (l.getD j 0)) default)])))) ∧ ((7 : Nat) ∈ ([7,999] : List Nat)))) ∧ (((.int .i64 (((j + 1) : Nat) : Int) : Value) = .int .i64 (((j + 1) : Nat) : Int)) ∧ True)))) ∧ (((((49 : Nat) = 49) ∧ (((.calls (pt ++ ([(h.getD (Int.toNat (l.getD j 0)) default)])) : Dat) = .calls (pt ++ ([(h.getD (Int.toNat (l.getD j 0)) default)]))) ∧ ((7 : Nat) ∈ ([7,999] : List Nat)))) ∧ True) ∧ ((true = true) ∧ (true = true)))) _ (by kernel_rfl) ⟨⟨rfl,rfl,⟨rfl,rfl,(by decide)⟩,rfl,tt⟩,⟨⟨rfl,rfl,(by decide)⟩,tt⟩,rfl,rfl⟩)
  ·intro n11
   refine W.exit (thenQ_exit (thenQ_exit (blockQ_hit ?_)))
   refine thenQ_normal ?_
   refine W.K cok tab19 hnt [] [4] (⟨[(4,.own 7 pt.length)],[(7,⟨49,.row (.calls pt)⟩)],[7,999]⟩)
    (True ∧ True ∧ True) (by kernel_rfl)
    ⟨tt,tt,tt⟩ ?_
   refine W.ret ?_
   exact endQ_ret (.own 7 pt.length) (by kernel_rfl) (@cast ((pt.length = pt.length) ∧ (((.calls pt : Dat) = .calls (pickC h l)) ∧ ((7 : Nat) ∉ ([] : List Nat)))) _ (by kernel_rfl) ⟨rfl,⟨(congrArg Dat.calls (by exact pick_all hpt (by omega))),(by decide)⟩⟩)
theorem ent19 : Entr prog 19 := ⟨_,func19,rfl,by decide⟩
end Go.Proofs.Try

set_option linter.unusedSimpArgs false
set_option linter.unusedVariables false
namespace Go.Proofs.Try
open Go.Ab Go.RowKit
def pre21 : List AV → List AV → Prop := preP [.bytes] [] (fun (code,_) _ => True)
def rel21 : RelS := relP [.bytes] [] (ι := (List UInt8)) (fun (code,_) _ l => True) (fun (code,_) _ l => (.ptr 0 0,[⟨59,.fix [.sl (.bytes l),.i (0 : Int)]⟩],[]))
abbrev T21 : Tab := lk []
theorem tab21 : TabOK prog T21 := TabOK.nil
set_option maxRecDepth 100000 in
set_option maxHeartbeats 1000000 in
theorem rok21 : RelOK prog 21 none [.s .bytes] pre21 rel21 := by
 refine RelOK.mk cok func21 rfl rfl rfl ?_
 rintro ⟨(code : List UInt8),_⟩ _ hpre F hnt0
 have hnt : F.nt = 11 := hnt0.trans ntmps21
 clear hpre
 refine W.to (⟨[(0,.sl (.bytes code))],[],[998,999]⟩) rfl ?_
 refine W.K cok tab21 hnt [] [0] (⟨[(0,.sl (.bytes code))],[],[998,999]⟩)
  (True ∧ True) (by kernel_rfl)
  ⟨tt,tt⟩ ?_
 refine W.seq ?_
 refine W.K cok tab21 hnt [] [0,5] (⟨[(0,.sl (.bytes code)),(5,.b (decide ((2000 : Int) < (code.length : Int))))],[],[998,999]⟩)
  (True ∧ True ∧ (True ∧ True ∧ True) ∧ True) (by kernel_rfl)
  ⟨tt,tt,⟨tt,tt,tt⟩,tt⟩ ?_
 refine W.ifP ((2000 : Int) < (code.length : Int)) (.b (decide ((2000 : Int) < (code.length : Int)))) (by kernel_rfl) rfl trivial ?_ ?_
 ·intro h5
  refine W.L cok tab21 hnt [] (⟨[(0,.sl (.bytes (List.take 2000 code))),(5,.b (decide ((2000 : Int) < (code.length : Int)))),(6,.sl (.bytes code)),(7,.sl (.bytes (List.take 2000 code)))],[],[998,999]⟩)
   (True ∧ (True ∧ True ∧ True ∧ (0 ≤ (0 : Int)) ∧ ((0 : Int) ≤ (2000 : Int)) ∧ ((2000 : Int) ≤ (code.length : Int))) ∧ True ∧ True) (by kernel_rfl)
   ⟨tt,⟨tt,tt,tt,(by omega),(by omega),(by omega)⟩,tt,tt⟩ ?_
  refine thenQ_normal ?_
  refine W.K cok tab21 hnt [] [2] (⟨[(2,.ptr 10 0)],[(10,⟨59,.fix [.sl (.bytes (List.take 2000 code)),.i (0 : Int)]⟩)],[10,998,999]⟩)
   (True ∧ (True ∧ True) ∧ True ∧ True ∧ True) (by kernel_rfl)
   ⟨tt,⟨tt,tt⟩,tt,tt,tt⟩ ?_
  refine W.ret ?_
  exact endP_ret ((List.take 2000 code)) (show True from trivial) [(0,10)] (.ptr 10 0) (by kernel_rfl) (@cast ((((10 : Nat) = 10) ∧ (((0 : Nat) = 0) ∧ ((0 : Nat) ∈ ([0] : List Nat)))) ∧ (((((59 : Nat) = 59) ∧ ((((.bytes (List.take 2000 code) : Dat) = .bytes (List.take 2000 code)) ∧ (((.int .i64 (0 : Int) : Value) = .int .i64 (0 : Int)) ∧ True)) ∧ ((0 : Nat) ∈ ([0] : List Nat)))) ∧ True) ∧ ((true = true) ∧ (((([] : List Nat) = []) ∧ True) ∧ (false = true → (10 : Nat) = 998))))) _ (by kernel_rfl) ⟨⟨rfl,rfl,(by decide)⟩,⟨⟨rfl,⟨rfl,rfl,tt⟩,(by decide)⟩,tt⟩,rfl,⟨rfl,tt⟩,(fun h => by cases h)⟩)
 ·intro n5
  refine W.skip (thenQ_normal ?_)
  refine W.K cok tab21 hnt [] [2] (⟨[(2,.ptr 10 0)],[(10,⟨59,.fix [.sl (.bytes code),.i (0 : Int)]⟩)],[10,998,999]⟩)
   (True ∧ (True ∧ True) ∧ True ∧ True ∧ True) (by kernel_rfl)
   ⟨tt,⟨tt,tt⟩,tt,tt,tt⟩ ?_
  refine W.ret ?_
  exact endP_ret (code) (show True from trivial) [(0,10)] (.ptr 10 0) (by kernel_rfl) (@cast ((((10 : Nat) = 10) ∧ (((0 : Nat) = 0) ∧ ((0 : Nat) ∈ ([0] : List Nat)))) ∧ (((((59 : Nat) = 59) ∧ ((((.bytes code : Dat) = .bytes code) ∧ (((.int .i64 (0 : Int) : Value) = .int .i64 (0 : Int)) ∧ True)) ∧ ((0 : Nat) ∈ ([0] : List Nat)))) ∧ True) ∧ ((true = true) ∧ (((([] : List Nat) = []) ∧ True) ∧ (false = true → (10 : Nat) = 998))))) _ (by kernel_rfl) ⟨⟨rfl,rfl,(by decide)⟩,⟨⟨rfl,⟨rfl,rfl,tt⟩,(by decide)⟩,tt⟩,rfl,⟨rfl,tt⟩,(fun h => by cases h)⟩)
theorem ent21 : Entr prog 21 := ⟨_,func21,rfl,by decide⟩
end Go.Proofs.Try

set_option linter.unusedSimpArgs false
set_option linter.unusedVariables false
namespace Go.Proofs.Try
open Go.Ab Go.RowKit
def pre32 : List AV → List AV → Prop := preP [.int] [.bytes,.int] (fun (n,_) (l,p,_) => (0 ≤ p ∧ p ≤ 1000000))
def rel32 : RelS := relP [.int] [.bytes,.int] (ι := Int × Int) (fun (n,_) (l,p,_) (v,q) => (0 ≤ v ∧ v < max n 1) ∧ (q = p + 1)) (fun (n,_) (l,p,_) (v,q) => (.i v,[],[.sl (.bytes l),.i q]))
abbrev T32 : Tab := lk []
theorem tab32 : TabOK prog T32 := TabOK.nil
set_option maxRecDepth 100000 in
set_option maxHeartbeats 1000000 in
theorem rok32 : RelOK prog 32 (some 59) [.o] pre32 rel32 := by
 refine RelOK.mk cok func32 rfl rfl rfl ?_
 rintro ⟨(n : Int),_⟩ ⟨(l : List UInt8),(p : Int),_⟩ hpre F hnt0
 have hnt : F.nt = 99 := hnt0.trans ntmps32
 replace hpre : (0 ≤ p ∧ p ≤ 1000000) := hpre
 have hp := hpre
 refine W.to (⟨[(0,.ptr 998 0),(1,.i n)],[(998,⟨59,.fix [.sl (.bytes l),.i p]⟩)],[998,999]⟩) rfl ?_
 have hu : ∀ i : Nat,((UInt8.toNat (l.getD i default) : Nat) : Int) ≤ 255 := fun i => by have := (l.getD i default).toNat_lt; omega
 refine W.K cok tab32 hnt [] [0,1] (⟨[(0,.ptr 998 0),(1,.i n)],[(998,⟨59,.fix [.sl (.bytes l),.i p]⟩)],[998,999]⟩)
  (True ∧ True) (by kernel_rfl)
  ⟨tt,tt⟩ ?_
 refine W.K cok tab32 hnt [] [0,1] (⟨[(0,.ptr 998 0),(1,.i n)],[(998,⟨59,.fix [.sl (.bytes l),.i (p + (1 : Int))]⟩)],[998,999]⟩)
  (True ∧ True ∧ True ∧ True ∧ True ∧ (True ∧ True ∧ (Fits .i64 (p + (1 : Int)))) ∧ True ∧ True ∧ (True ∧ True) ∧ True) (by kernel_rfl)
  ⟨tt,tt,tt,tt,tt,⟨tt,tt,(by exact fits_i64 (by omega) (by omega))⟩,tt,tt,⟨tt,tt⟩,tt⟩ ?_
 refine W.seq ?_
 refine W.K cok tab32 hnt [] [0,1,24] (⟨[(0,.ptr 998 0),(1,.i n),(24,.b ((decide (n < (1 : Int))) || (decide ((l.length : Int) = (0 : Int)))))],[(998,⟨59,.fix [.sl (.bytes l),.i (p + (1 : Int))]⟩)],[998,999]⟩)
  (True ∧ (True ∧ True ∧ True) ∧ True ∧ ((!(decide (n < (1 : Int)))) = true → True) ∧ ((!(decide (n < (1 : Int)))) = true → (((!(decide (n < (1 : Int)))) = true) ∧ True)) ∧ ((!(decide (n < (1 : Int)))) = true → (((!(decide (n < (1 : Int)))) = true) ∧ True)) ∧ ((!(decide (n < (1 : Int)))) = true → (((!(decide (n < (1 : Int)))) = true) ∧ True)) ∧ ((!(decide (n < (1 : Int)))) = true → (((!(decide (n < (1 : Int)))) = true) ∧ True)) ∧ ((!(decide (n < (1 : Int)))) = true → ((((!(decide (n < (1 : Int)))) = true) ∧ True) ∧ True ∧ True)) ∧ (True ∧ ((decide (n < (1 : Int))) = true → True) ∧ ((decide (n < (1 : Int))) = false → ((!(decide (n < (1 : Int)))) = true) ∧ True)) ∧ True) (by kernel_rfl)
  ⟨tt,⟨tt,tt,tt⟩,tt,(fun _ => trivial),(fun hG => ⟨hG,tt⟩),(fun hG => ⟨hG,tt⟩),(fun hG => ⟨hG,tt⟩),(fun hG => ⟨hG,tt⟩),(fun hG => ⟨⟨hG,tt⟩,tt,tt⟩),⟨tt,(fun _ => trivial),(fun hp => ⟨(not_t hp),tt⟩)⟩,tt⟩ ?_
 refine W.if' ((decide (n < (1 : Int))) || (decide ((l.length : Int) = (0 : Int)))) (.b ((decide (n < (1 : Int))) || (decide ((l.length : Int) = (0 : Int))))) (by kernel_rfl) rfl trivial ?_ ?_
 ·intro h24
  refine W.K cok tab32 hnt [] [4] (⟨[(4,.i (0 : Int))],[(998,⟨59,.fix [.sl (.bytes l),.i (p + (1 : Int))]⟩)],[998,999]⟩)
   (True ∧ True) (by kernel_rfl)
   ⟨tt,tt⟩ ?_
  refine W.ret (thenQ_ret ?_)
  exact endP_ret ((0 : Int),(p + (1 : Int))) (show (0 ≤ (0 : Int) ∧ (0 : Int) < max n 1) ∧ ((p + (1 : Int)) = p + 1) from ⟨(by omega),(by first | assumption | omega | rfl | (simp; done) | (simp; omega))⟩) [(0,998)] (.i (0 : Int)) (by kernel_rfl) (@cast (((.int .i64 (0 : Int) : Value) = .int .i64 (0 : Int)) ∧ (((((59 : Nat) = 59) ∧ ((((.bytes l : Dat) = .bytes l) ∧ (((.int .i64 (p + (1 : Int)) : Value) = .int .i64 (p + (1 : Int))) ∧ True)) ∧ ((0 : Nat) ∈ ([0] : List Nat)))) ∧ True) ∧ ((true = true) ∧ (((([] : List Nat) = []) ∧ True) ∧ (true = true → (998 : Nat) = 998))))) _ (by kernel_rfl) ⟨rfl,⟨⟨rfl,⟨rfl,rfl,tt⟩,(by decide)⟩,tt⟩,rfl,⟨rfl,tt⟩,(fun _ => rfl)⟩)
 ·intro n24
  have n24_0 : ¬ (n < (1 : Int)) := of_decide_eq_false (or_l n24)
  have n24_1 : ¬ ((l.length : Int) = (0 : Int)) := of_decide_eq_false (or_r n24)
  refine W.skip (thenQ_normal ?_)
  refine W.K cok tab32 hnt [] [0,1,5] (⟨[(0,.ptr 998 0),(1,.i n),(5,.i ((p + (1 : Int)) - (1 : Int)))],[(998,⟨59,.fix [.sl (.bytes l),.i (p + (1 : Int))]⟩)],[998,999]⟩)
   (True ∧ True ∧ True ∧ True ∧ (True ∧ True ∧ (Fits .i64 ((p + (1 : Int)) - (1 : Int)))) ∧ True ∧ True) (by kernel_rfl)
   ⟨tt,tt,tt,tt,⟨tt,tt,(by exact fits_i64 (by omega) (by omega))⟩,tt,tt⟩ ?_
  refine W.seq ?_
  refine W.K cok tab32 hnt [] [0,1,5,36] (⟨[(0,.ptr 998 0),(1,.i n),(5,.i ((p + (1 : Int)) - (1 : Int))),(36,.b (decide (((p + (1 : Int)) - (1 : Int)) < (l.length : Int))))],[(998,⟨59,.fix [.sl (.bytes l),.i (p + (1 : Int))]⟩)],[998,999]⟩)
   (True ∧ True ∧ True ∧ True ∧ True ∧ True ∧ (True ∧ True ∧ True) ∧ True) (by kernel_rfl)
   ⟨tt,tt,tt,tt,tt,tt,⟨tt,tt,tt⟩,tt⟩ ?_
  refine W.ifP (((p + (1 : Int)) - (1 : Int)) < (l.length : Int)) (.b (decide (((p + (1 : Int)) - (1 : Int)) < (l.length : Int)))) (by kernel_rfl) rfl trivial ?_ ?_
  ·intro h36
   have hu1 := hu (Int.toNat (p + 1 - 1))
   refine W.K cok tab32 hnt [] [4] (⟨[(4,.i (Int.tmod (((UInt8.toNat (l.getD (Int.toNat ((p + (1 : Int)) - (1 : Int))) default)) : Nat) : Int) n))],[(998,⟨59,.fix [.sl (.bytes l),.i (p + (1 : Int))]⟩)],[998,999]⟩)
    (True ∧ True ∧ True ∧ True ∧ True ∧ (True ∧ True ∧ (0 ≤ ((p + (1 : Int)) - (1 : Int))) ∧ (((p + (1 : Int)) - (1 : Int)) < (l.length : Int))) ∧ True ∧ (True ∧ (Fits .i64 (((UInt8.toNat (l.getD (Int.toNat ((p + (1 : Int)) - (1 : Int))) default)) : Nat) : Int))) ∧ True ∧ (True ∧ True ∧ (n ≠ 0)) ∧ True ∧ True) (by kernel_rfl)
    ⟨tt,tt,tt,tt,tt,⟨tt,tt,(by omega),(by omega)⟩,tt,⟨tt,(by exact fits_i64 (by (first | omega | (simp only [List.length_append,List.length_cons,List.length_nil,List.length_take,List.length_drop,List.length_set,List.length_replicate,List.length_map] at *; omega) | assumption)) (by (first | omega | (simp only [List.length_append,List.length_cons,List.length_nil,List.length_take,List.length_drop,List.length_set,List.length_replicate,List.length_map] at *; omega) | assumption)))⟩,tt,⟨tt,tt,(by omega)⟩,tt,tt⟩ ?_
   refine W.ret (thenQ_ret ?_)
   exact endP_ret ((Int.tmod (((UInt8.toNat (l.getD (Int.toNat ((p + (1 : Int)) - (1 : Int))) default)) : Nat) : Int) n),(p + (1 : Int))) (show (0 ≤ (Int.tmod (((UInt8.toNat (l.getD (Int.toNat ((p + (1 : Int)) - (1 : Int))) default)) : Nat) : Int) n) ∧ (Int.tmod (((UInt8.toNat (l.getD (Int.toNat ((p + (1 : Int)) - (1 : Int))) default)) : Nat) : Int) n) < max n 1) ∧ ((p + (1 : Int)) = p + 1) from ⟨(by exact ⟨Int.tmod_nonneg _ (by omega),by have := Int.tmod_lt_of_pos ((UInt8.toNat (l.getD (Int.toNat (p + 1 - 1)) default) : Nat) : Int) (show 0 < n by omega); omega⟩),(by first | assumption | omega | rfl | (simp; done) | (simp; omega))⟩) [(0,998)] (.i (Int.tmod (((UInt8.toNat (l.getD (Int.toNat ((p + (1 : Int)) - (1 : Int))) default)) : Nat) : Int) n)) (by kernel_rfl) (@cast (((.int .i64 (Int.tmod (((UInt8.toNat (l.getD (Int.toNat ((p + (1 : Int)) - (1 : Int))) default)) : Nat) : Int) n) : Value) = .int .i64 (Int.tmod (((UInt8.toNat (l.getD (Int.toNat ((p + (1 : Int)) - (1 : Int))) default)) : Nat) : Int) n)) ∧ (((((59 : Nat) = 59) ∧ ((((.bytes l : Dat) = .bytes l) ∧ (((.int .i64 (p + (1 : Int)) : Value) = .int .i64 (p + (1 : Int))) ∧ True)) ∧ ((0 : Nat) ∈ ([0] : List Nat)))) ∧ True) ∧ ((true = true) ∧ (((([] : List Nat) = []) ∧ True) ∧ (true = true → (998 : Nat) = 998))))) _ (by kernel_rfl) ⟨rfl,⟨⟨rfl,⟨rfl,rfl,tt⟩,(by decide)⟩,tt⟩,rfl,⟨rfl,tt⟩,(fun _ => rfl)⟩)
  ·intro n36
   refine W.skip (thenQ_normal ?_)
   have hl0 : 0 < (List.length l : Int) := by omega
   have hm1 := Int.tmod_lt_of_pos (p + 1 - 1) hl0
   have hm2 := Int.tmod_nonneg (List.length l : Int) (show 0 ≤ p + 1 - 1 by omega)
   have hm3 := Int.tmod_lt_of_pos ((p + 1 - 1) * 7 + 3) hl0
   have hm4 := Int.tmod_nonneg (List.length l : Int) (show 0 ≤ (p + 1 - 1) * 7 + 3 by omega)
   have hd1 : 0 ≤ Int.tdiv (p + 1 - 1) (List.length l : Int) := Int.tdiv_nonneg (by omega) (by omega)
   have hd2 : Int.tdiv (p + 1 - 1) (List.length l : Int) ≤ p + 1 - 1 := Int.tdiv_le_self _ (by omega)
   have hu2 := hu (Int.toNat (Int.tmod (p + 1 - 1) (List.length l : Int)))
   have hu3 := hu (Int.toNat (Int.tmod ((p + 1 - 1) * 7 + 3) (List.length l : Int)))
   refine W.KA cok tab32 hnt [] [1,6] (⟨[(1,.i n),(6,.i (((((((UInt8.toNat (l.getD (Int.toNat (Int.tmod ((p + (1 : Int)) - (1 : Int)) (l.length : Int))) default)) : Nat) : Int) * (131 : Int)) + ((((UInt8.toNat (l.getD (Int.toNat (Int.tmod ((((p + (1 : Int)) - (1 : Int)) * (7 : Int)) + (3 : Int)) (l.length : Int))) default)) : Nat) : Int) * (1117 : Int))) + (((p + (1 : Int)) - (1 : Int)) * (29 : Int))) + ((Int.tdiv ((p + (1 : Int)) - (1 : Int)) (l.length : Int)) * (53 : Int))))],[(998,⟨59,.fix [.sl (.bytes l),.i (p + (1 : Int))]⟩)],[998,999]⟩)
    (True ∧ True ∧ True ∧ True ∧ True ∧ True ∧ True ∧ True ∧ True ∧ True ∧ (True ∧ True ∧ ((l.length : Int) ≠ 0)) ∧ (True ∧ True ∧ (0 ≤ (Int.tmod ((p + (1 : Int)) - (1 : Int)) (l.length : Int))) ∧ ((Int.tmod ((p + (1 : Int)) - (1 : Int)) (l.length : Int)) < (l.length : Int))) ∧ True ∧ (True ∧ (Fits .i64 (((UInt8.toNat (l.getD (Int.toNat (Int.tmod ((p + (1 : Int)) - (1 : Int)) (l.length : Int))) default)) : Nat) : Int))) ∧ (True ∧ True ∧ (Fits .i64 ((((UInt8.toNat (l.getD (Int.toNat (Int.tmod ((p + (1 : Int)) - (1 : Int)) (l.length : Int))) default)) : Nat) : Int) * (131 : Int)))) ∧ True ∧ True ∧ True ∧ True ∧ True ∧ (True ∧ True ∧ (Fits .i64 (((p + (1 : Int)) - (1 : Int)) * (7 : Int)))) ∧ (True ∧ True ∧ (Fits .i64 ((((p + (1 : Int)) - (1 : Int)) * (7 : Int)) + (3 : Int)))) ∧ True ∧ True ∧ True ∧ True ∧ True ∧ (True ∧ True ∧ ((l.length : Int) ≠ 0)) ∧ (True ∧ True ∧ (0 ≤ (Int.tmod ((((p + (1 : Int)) - (1 : Int)) * (7 : Int)) + (3 : Int)) (l.length : Int))) ∧ ((Int.tmod ((((p + (1 : Int)) - (1 : Int)) * (7 : Int)) + (3 : Int)) (l.length : Int)) < (l.length : Int))) ∧ True ∧ (True ∧ (Fits .i64 (((UInt8.toNat (l.getD (Int.toNat (Int.tmod ((((p + (1 : Int)) - (1 : Int)) * (7 : Int)) + (3 : Int)) (l.length : Int))) default)) : Nat) : Int))) ∧ (True ∧ True ∧ (Fits .i64 ((((UInt8.toNat (l.getD (Int.toNat (Int.tmod ((((p + (1 : Int)) - (1 : Int)) * (7 : Int)) + (3 : Int)) (l.length : Int))) default)) : Nat) : Int) * (1117 : Int)))) ∧ (True ∧ True ∧ (Fits .i64 (((((UInt8.toNat (l.getD (Int.toNat (Int.tmod ((p + (1 : Int)) - (1 : Int)) (l.length : Int))) default)) : Nat) : Int) * (131 : Int)) + ((((UInt8.toNat (l.getD (Int.toNat (Int.tmod ((((p + (1 : Int)) - (1 : Int)) * (7 : Int)) + (3 : Int)) (l.length : Int))) default)) : Nat) : Int) * (1117 : Int))))) ∧ True ∧ (True ∧ True ∧ (Fits .i64 (((p + (1 : Int)) - (1 : Int)) * (29 : Int)))) ∧ (True ∧ True ∧ (Fits .i64 ((((((UInt8.toNat (l.getD (Int.toNat (Int.tmod ((p + (1 : Int)) - (1 : Int)) (l.length : Int))) default)) : Nat) : Int) * (131 : Int)) + ((((UInt8.toNat (l.getD (Int.toNat (Int.tmod ((((p + (1 : Int)) - (1 : Int)) * (7 : Int)) + (3 : Int)) (l.length : Int))) default)) : Nat) : Int) * (1117 : Int))) + (((p + (1 : Int)) - (1 : Int)) * (29 : Int))))) ∧ True ∧ True ∧ True ∧ True ∧ True ∧ True ∧ (True ∧ True ∧ ((l.length : Int) ≠ 0) ∧ (Fits .i64 (Int.tdiv ((p + (1 : Int)) - (1 : Int)) (l.length : Int)))) ∧ (True ∧ True ∧ (Fits .i64 ((Int.tdiv ((p + (1 : Int)) - (1 : Int)) (l.length : Int)) * (53 : Int)))) ∧ (True ∧ True ∧ (Fits .i64 (((((((UInt8.toNat (l.getD (Int.toNat (Int.tmod ((p + (1 : Int)) - (1 : Int)) (l.length : Int))) default)) : Nat) : Int) * (131 : Int)) + ((((UInt8.toNat (l.getD (Int.toNat (Int.tmod ((((p + (1 : Int)) - (1 : Int)) * (7 : Int)) + (3 : Int)) (l.length : Int))) default)) : Nat) : Int) * (1117 : Int))) + (((p + (1 : Int)) - (1 : Int)) * (29 : Int))) + ((Int.tdiv ((p + (1 : Int)) - (1 : Int)) (l.length : Int)) * (53 : Int))))) ∧ True ∧ True) (by kernel_rfl) (by kernel_rfl)
    ⟨tt,tt,tt,tt,tt,tt,tt,tt,tt,tt,⟨tt,tt,(by omega)⟩,⟨tt,tt,(by omega),(by omega)⟩,tt,⟨tt,(by exact fits_i64 (by (first | omega | (simp only [List.length_append,List.length_cons,List.length_nil,List.length_take,List.length_drop,List.length_set,List.length_replicate,List.length_map] at *; omega) | assumption)) (by (first | omega | (simp only [List.length_append,List.length_cons,List.length_nil,List.length_take,List.length_drop,List.length_set,List.length_replicate,List.length_map] at *; omega) | assumption)))⟩,⟨tt,tt,(by exact fits_i64 (by (first | omega | (simp only [List.length_append,List.length_cons,List.length_nil,List.length_take,List.length_drop,List.length_set,List.length_replicate,List.length_map] at *; omega) | assumption)) (by (first | omega | (simp only [List.length_append,List.length_cons,List.length_nil,List.length_take,List.length_drop,List.length_set,List.length_replicate,List.length_map] at *; omega) | assumption)))⟩,tt,tt,tt,tt,tt,⟨tt,tt,(by exact fits_i64 (by omega) (by omega))⟩,⟨tt,tt,(by exact fits_i64 (by omega) (by omega))⟩,tt,tt,tt,tt,tt,⟨tt,tt,(by omega)⟩,⟨tt,tt,(by omega),(by omega)⟩,tt,⟨tt,(by exact fits_i64 (by (first | omega | (simp only [List.length_append,List.length_cons,List.length_nil,List.length_take,List.length_drop,List.length_set,List.length_replicate,List.length_map] at *; omega) | assumption)) (by (first | omega | (simp only [List.length_append,List.length_cons,List.length_nil,List.length_take,List.length_drop,List.length_set,List.length_replicate,List.length_map] at *; omega) | assumption)))⟩,⟨tt,tt,(by exact fits_i64 (by (first | omega | (simp only [List.length_append,List.length_cons,List.length_nil,List.length_take,List.length_drop,List.length_set,List.length_replicate,List.length_map] at *; omega) | assumption)) (by (first | omega | (simp only [List.length_append,List.length_cons,List.length_nil,List.length_take,List.length_drop,List.length_set,List.length_replicate,List.length_map] at *; omega) | assumption)))⟩,⟨tt,tt,(by exact fits_i64 (by (first | omega | (simp only [List.length_append,List.length_cons,List.length_nil,List.length_take,List.length_drop,List.length_set,List.length_replicate,List.length_map] at *; omega) | assumption)) (by (first | omega | (simp only [List.length_append,List.length_cons,List.length_nil,List.length_take,List.length_drop,List.length_set,List.length_replicate,List.length_map] at *; omega) | assumption)))⟩,tt,⟨tt,tt,(by exact fits_i64 (by omega) (by omega))⟩,⟨tt,tt,(by exact fits_i64 (by (first | omega | (simp only [List.length_append,List.length_cons,List.length_nil,List.length_take,List.length_drop,List.length_set,List.length_replicate,List.length_map] at *; omega) | assumption)) (by (first | omega | (simp only [List.length_append,List.length_cons,List.length_nil,List.length_take,List.length_drop,List.length_set,List.length_replicate,List.length_map] at *; omega) | assumption)))⟩,tt,tt,tt,tt,tt,tt,⟨tt,tt,(by omega),(by exact fits_i64 (by omega) (by omega))⟩,⟨tt,tt,(by exact fits_i64 (by omega) (by omega))⟩,⟨tt,tt,(by exact fits_i64 (by (first | omega | (simp only [List.length_append,List.length_cons,List.length_nil,List.length_take,List.length_drop,List.length_set,List.length_replicate,List.length_map] at *; omega) | assumption)) (by (first | omega | (simp only [List.length_append,List.length_cons,List.length_nil,List.length_take,List.length_drop,List.length_set,List.length_replicate,List.length_map] at *; omega) | assumption)))⟩,tt,tt⟩ ?_
   refine W.K cok tab32 hnt [] [1,6] (⟨[(1,.i n),(6,.i (bitsI .xor .i64 (((((((UInt8.toNat (l.getD (Int.toNat (Int.tmod ((p + (1 : Int)) - (1 : Int)) (l.length : Int))) default)) : Nat) : Int) * (131 : Int)) + ((((UInt8.toNat (l.getD (Int.toNat (Int.tmod ((((p + (1 : Int)) - (1 : Int)) * (7 : Int)) + (3 : Int)) (l.length : Int))) default)) : Nat) : Int) * (1117 : Int))) + (((p + (1 : Int)) - (1 : Int)) * (29 : Int))) + ((Int.tdiv ((p + (1 : Int)) - (1 : Int)) (l.length : Int)) * (53 : Int))) (Int.tdiv (((((((UInt8.toNat (l.getD (Int.toNat (Int.tmod ((p + (1 : Int)) - (1 : Int)) (l.length : Int))) default)) : Nat) : Int) * (131 : Int)) + ((((UInt8.toNat (l.getD (Int.toNat (Int.tmod ((((p + (1 : Int)) - (1 : Int)) * (7 : Int)) + (3 : Int)) (l.length : Int))) default)) : Nat) : Int) * (1117 : Int))) + (((p + (1 : Int)) - (1 : Int)) * (29 : Int))) + ((Int.tdiv ((p + (1 : Int)) - (1 : Int)) (l.length : Int)) * (53 : Int))) (64 : Int))))],[(998,⟨59,.fix [.sl (.bytes l),.i (p + (1 : Int))]⟩)],[998,999]⟩)
    (True ∧ True ∧ (True ∧ True ∧ ((64 : Int) ≠ 0) ∧ (Fits .i64 (Int.tdiv (((((((UInt8.toNat (l.getD (Int.toNat (Int.tmod ((p + (1 : Int)) - (1 : Int)) (l.length : Int))) default)) : Nat) : Int) * (131 : Int)) + ((((UInt8.toNat (l.getD (Int.toNat (Int.tmod ((((p + (1 : Int)) - (1 : Int)) * (7 : Int)) + (3 : Int)) (l.length : Int))) default)) : Nat) : Int) * (1117 : Int))) + (((p + (1 : Int)) - (1 : Int)) * (29 : Int))) + ((Int.tdiv ((p + (1 : Int)) - (1 : Int)) (l.length : Int)) * (53 : Int))) (64 : Int)))) ∧ (True ∧ True ∧ True) ∧ True ∧ True) (by kernel_rfl)
    ⟨tt,tt,⟨tt,tt,(by decide),(by exact fits_i64 (Int.le_trans (by omega) (Int.tdiv_nonneg (by omega) (by omega))) (Int.le_trans (Int.tdiv_le_self _ (by omega)) (by omega)))⟩,⟨tt,tt,tt⟩,tt,tt⟩ ?_
   refine W.K cok tab32 hnt [] [4] (⟨[(4,.i (Int.tmod (bitsI .xor .i64 (((((((UInt8.toNat (l.getD (Int.toNat (Int.tmod ((p + (1 : Int)) - (1 : Int)) (l.length : Int))) default)) : Nat) : Int) * (131 : Int)) + ((((UInt8.toNat (l.getD (Int.toNat (Int.tmod ((((p + (1 : Int)) - (1 : Int)) * (7 : Int)) + (3 : Int)) (l.length : Int))) default)) : Nat) : Int) * (1117 : Int))) + (((p + (1 : Int)) - (1 : Int)) * (29 : Int))) + ((Int.tdiv ((p + (1 : Int)) - (1 : Int)) (l.length : Int)) * (53 : Int))) (Int.tdiv (((((((UInt8.toNat (l.getD (Int.toNat (Int.tmod ((p + (1 : Int)) - (1 : Int)) (l.length : Int))) default)) : Nat) : Int) * (131 : Int)) + ((((UInt8.toNat (l.getD (Int.toNat (Int.tmod ((((p + (1 : Int)) - (1 : Int)) * (7 : Int)) + (3 : Int)) (l.length : Int))) default)) : Nat) : Int) * (1117 : Int))) + (((p + (1 : Int)) - (1 : Int)) * (29 : Int))) + ((Int.tdiv ((p + (1 : Int)) - (1 : Int)) (l.length : Int)) * (53 : Int))) (64 : Int))) n))],[(998,⟨59,.fix [.sl (.bytes l),.i (p + (1 : Int))]⟩)],[998,999]⟩)
    (True ∧ True ∧ (True ∧ True ∧ (n ≠ 0)) ∧ True ∧ True) (by kernel_rfl)
    ⟨tt,tt,⟨tt,tt,(by omega)⟩,tt,tt⟩ ?_
   refine W.ret ?_
   exact endP_ret ((Int.tmod (bitsI .xor .i64 (((((((UInt8.toNat (l.getD (Int.toNat (Int.tmod ((p + (1 : Int)) - (1 : Int)) (l.length : Int))) default)) : Nat) : Int) * (131 : Int)) + ((((UInt8.toNat (l.getD (Int.toNat (Int.tmod ((((p + (1 : Int)) - (1 : Int)) * (7 : Int)) + (3 : Int)) (l.length : Int))) default)) : Nat) : Int) * (1117 : Int))) + (((p + (1 : Int)) - (1 : Int)) * (29 : Int))) + ((Int.tdiv ((p + (1 : Int)) - (1 : Int)) (l.length : Int)) * (53 : Int))) (Int.tdiv (((((((UInt8.toNat (l.getD (Int.toNat (Int.tmod ((p + (1 : Int)) - (1 : Int)) (l.length : Int))) default)) : Nat) : Int) * (131 : Int)) + ((((UInt8.toNat (l.getD (Int.toNat (Int.tmod ((((p + (1 : Int)) - (1 : Int)) * (7 : Int)) + (3 : Int)) (l.length : Int))) default)) : Nat) : Int) * (1117 : Int))) + (((p + (1 : Int)) - (1 : Int)) * (29 : Int))) + ((Int.tdiv ((p + (1 : Int)) - (1 : Int)) (l.length : Int)) * (53 : Int))) (64 : Int))) n),(p + (1 : Int))) (show (0 ≤ (Int.tmod (bitsI .xor .i64 (((((((UInt8.toNat (l.getD (Int.toNat (Int.tmod ((p + (1 : Int)) - (1 : Int)) (l.length : Int))) default)) : Nat) : Int) * (131 : Int)) + ((((UInt8.toNat (l.getD (Int.toNat (Int.tmod ((((p + (1 : Int)) - (1 : Int)) * (7 : Int)) + (3 : Int)) (l.length : Int))) default)) : Nat) : Int) * (1117 : Int))) + (((p + (1 : Int)) - (1 : Int)) * (29 : Int))) + ((Int.tdiv ((p + (1 : Int)) - (1 : Int)) (l.length : Int)) * (53 : Int))) (Int.tdiv (((((((UInt8.toNat (l.getD (Int.toNat (Int.tmod ((p + (1 : Int)) - (1 : Int)) (l.length : Int))) default)) : Nat) : Int) * (131 : Int)) + ((((UInt8.toNat (l.getD (Int.toNat (Int.tmod ((((p + (1 : Int)) - (1 : Int)) * (7 : Int)) + (3 : Int)) (l.length : Int))) default)) : Nat) : Int) * (1117 : Int))) + (((p + (1 : Int)) - (1 : Int)) * (29 : Int))) + ((Int.tdiv ((p + (1 : Int)) - (1 : Int)) (l.length : Int)) * (53 : Int))) (64 : Int))) n) ∧ (Int.tmod (bitsI .xor .i64 (((((((UInt8.toNat (l.getD (Int.toNat (Int.tmod ((p + (1 : Int)) - (1 : Int)) (l.length : Int))) default)) : Nat) : Int) * (131 : Int)) + ((((UInt8.toNat (l.getD (Int.toNat (Int.tmod ((((p + (1 : Int)) - (1 : Int)) * (7 : Int)) + (3 : Int)) (l.length : Int))) default)) : Nat) : Int) * (1117 : Int))) + (((p + (1 : Int)) - (1 : Int)) * (29 : Int))) + ((Int.tdiv ((p + (1 : Int)) - (1 : Int)) (l.length : Int)) * (53 : Int))) (Int.tdiv (((((((UInt8.toNat (l.getD (Int.toNat (Int.tmod ((p + (1 : Int)) - (1 : Int)) (l.length : Int))) default)) : Nat) : Int) * (131 : Int)) + ((((UInt8.toNat (l.getD (Int.toNat (Int.tmod ((((p + (1 : Int)) - (1 : Int)) * (7 : Int)) + (3 : Int)) (l.length : Int))) default)) : Nat) : Int) * (1117 : Int))) + (((p + (1 : Int)) - (1 : Int)) * (29 : Int))) + ((Int.tdiv ((p + (1 : Int)) - (1 : Int)) (l.length : Int)) * (53 : Int))) (64 : Int))) n) < max n 1) ∧ ((p + (1 : Int)) = p + 1) from ⟨(by exact ⟨Int.tmod_nonneg _ (xor_nonneg (by omega) (Int.tdiv_nonneg (by omega) (by omega)) (by omega) (Int.le_trans (Int.tdiv_le_self _ (by omega)) (by omega))),by refine Int.lt_of_lt_of_le (Int.tmod_lt_of_pos _ (show 0 < n by omega)) (by omega)⟩),(by first | assumption | omega | rfl | (simp; done) | (simp; omega))⟩) [(0,998)] (.i (Int.tmod (bitsI .xor .i64 (((((((UInt8.toNat (l.getD (Int.toNat (Int.tmod ((p + (1 : Int)) - (1 : Int)) (l.length : Int))) default)) : Nat) : Int) * (131 : Int)) + ((((UInt8.toNat (l.getD (Int.toNat (Int.tmod ((((p + (1 : Int)) - (1 : Int)) * (7 : Int)) + (3 : Int)) (l.length : Int))) default)) : Nat) : Int) * (1117 : Int))) + (((p + (1 : Int)) - (1 : Int)) * (29 : Int))) + ((Int.tdiv ((p + (1 : Int)) - (1 : Int)) (l.length : Int)) * (53 : Int))) (Int.tdiv (((((((UInt8.toNat (l.getD (Int.toNat (Int.tmod ((p + (1 : Int)) - (1 : Int)) (l.length : Int))) default)) : Nat) : Int) * (131 : Int)) + ((((UInt8.toNat (l.getD (Int.toNat (Int.tmod ((((p + (1 : Int)) - (1 : Int)) * (7 : Int)) + (3 : Int)) (l.length : Int))) default)) : Nat) : Int) * (1117 : Int))) + (((p + (1 : Int)) - (1 : Int)) * (29 : Int))) + ((Int.tdiv ((p + (1 : Int)) - (1 : Int)) (l.length : Int)) * (53 : Int))) (64 : Int))) n)) (by kernel_rfl) (@cast (((.int .i64 (Int.tmod (bitsI .xor .i64 (((((((UInt8.toNat (l.getD (Int.toNat (Int.tmod ((p + (1 : Int)) - (1 : Int)) (l.length : Int))) default)) : Nat) : Int) * (131 : Int)) + ((((UInt8.toNat (l.getD (Int.toNat (Int.tmod ((((p + (1 : Int)) - (1 : Int)) * (7 : Int)) + (3 : Int)) (l.length : Int))) default)) : Nat) : Int) * (1117 : Int))) + (((p + (1 : Int)) - (1 : Int)) * (29 : Int))) + ((Int.tdiv ((p + (1 : Int)) - (1 : Int)) (l.length : Int)) * (53 : Int))) (Int.tdiv (((((((UInt8.toNat (l.getD (Int.toNat (Int.tmod ((p + (1 : Int)) - (1 : Int)) (l.length : Int))) default)) : Nat) : Int) * (131 : Int)) + ((((UInt8.toNat (l.getD (Int.toNat (Int.tmod ((((p + (1 : Int)) - (1 : Int)) * (7 : Int)) + (3 : Int)) (l.length : Int))) default)) : Nat) : Int) * (1117 : Int))) + (((p + (1 : Int)) - (1 : Int)) * (29 : Int))) + ((Int.tdiv ((p + (1 : Int)) - (1 : Int)) (l.length : Int)) * (53 : Int))) (64 : Int))) n) : Value) = .int .i64 (Int.tmod (bitsI .xor .i64 (((((((UInt8.toNat (l.getD (Int.toNat (Int.tmod ((p + (1 : Int)) - (1 : Int)) (l.length : Int))) default)) : Nat) : Int) * (131 : Int)) + ((((UInt8.toNat (l.getD (Int.toNat (Int.tmod ((((p + (1 : Int)) - (1 : Int)) * (7 : Int)) + (3 : Int)) (l.length : Int))) default)) : Nat) : Int) * (1117 : Int))) + (((p + (1 : Int)) - (1 : Int)) * (29 : Int))) + ((Int.tdiv ((p + (1 : Int)) - (1 : Int)) (l.length : Int)) * (53 : Int))) (Int.tdiv (((((((UInt8.toNat (l.getD (Int.toNat (Int.tmod ((p + (1 : Int)) - (1 : Int)) (l.length : Int))) default)) : Nat) : Int) * (131 : Int)) + ((((UInt8.toNat (l.getD (Int.toNat (Int.tmod ((((p + (1 : Int)) - (1 : Int)) * (7 : Int)) + (3 : Int)) (l.length : Int))) default)) : Nat) : Int) * (1117 : Int))) + (((p + (1 : Int)) - (1 : Int)) * (29 : Int))) + ((Int.tdiv ((p + (1 : Int)) - (1 : Int)) (l.length : Int)) * (53 : Int))) (64 : Int))) n)) ∧ (((((59 : Nat) = 59) ∧ ((((.bytes l : Dat) = .bytes l) ∧ (((.int .i64 (p + (1 : Int)) : Value) = .int .i64 (p + (1 : Int))) ∧ True)) ∧ ((0 : Nat) ∈ ([0] : List Nat)))) ∧ True) ∧ ((true = true) ∧ (((([] : List Nat) = []) ∧ True) ∧ (true = true → (998 : Nat) = 998))))) _ (by kernel_rfl) ⟨rfl,⟨⟨rfl,⟨rfl,rfl,tt⟩,(by decide)⟩,tt⟩,rfl,⟨rfl,tt⟩,(fun _ => rfl)⟩)
theorem ent32 : Entr prog 32 := ⟨_,func32,rfl,by decide⟩
end Go.Proofs.Try

set_option linter.unusedSimpArgs false
set_option linter.unusedVariables false
namespace Go.Proofs.Try
open Go.Ab Go.RowKit
def pre57 : List AV → List AV → Prop := preP [.strs] [.bytes,.int] (fun (xs,_) (l,p,_) => (0 ≤ p ∧ p ≤ 1000000) ∧ (0 < xs.length) ∧ (xs.length ≤ 1000))
def rel57 : RelS := relP [.strs] [.bytes,.int] (ι := ByteArray × Int) (fun (xs,_) (l,p,_) (v,q) => (v ∈ xs) ∧ (q = p + 1)) (fun (xs,_) (l,p,_) (v,q) => (.v (.string v),[],[.sl (.bytes l),.i q]))
abbrev T57 : Tab := lk []
theorem tab57 : TabOK prog T57 := TabOK.nil
set_option maxRecDepth 100000 in
set_option maxHeartbeats 1000000 in
theorem rok57 : RelOK prog 57 (some 59) [.s .strs] pre57 rel57 := by
 refine RelOK.mk cok func57 rfl rfl rfl ?_
 rintro ⟨(xs : List ByteArray),_⟩ ⟨(l : List UInt8),(p : Int),_⟩ hpre F hnt0
 have hnt : F.nt = 12 := hnt0.trans ntmps57
 replace hpre : (0 ≤ p ∧ p ≤ 1000000) ∧ (0 < xs.length) ∧ (xs.length ≤ 1000) := hpre
 obtain ⟨hp,hx,hx2⟩ := hpre
 refine W.to (⟨[(0,.ptr 998 0),(1,.sl (.strs xs))],[(998,⟨59,.fix [.sl (.bytes l),.i p]⟩)],[998,999]⟩) rfl ?_
 refine W.K cok tab57 hnt [] [0,1] (⟨[(0,.ptr 998 0),(1,.sl (.strs xs))],[(998,⟨59,.fix [.sl (.bytes l),.i p]⟩)],[998,999]⟩)
  (True ∧ True) (by kernel_rfl)
  ⟨tt,tt⟩ ?_
 refine W.seq (W.wi ?_)
 refine WI.runT cok tab57 hnt [] 4 4 (⟨[(0,.ptr 998 0),(1,.sl (.strs xs)),(5,.sl (.strs xs)),(6,.ptr 998 0),(7,.sl (.strs xs)),(8,.i (xs.length : Int))],[(998,⟨59,.fix [.sl (.bytes l),.i p]⟩)],[998,999]⟩)
  (True ∧ True ∧ True ∧ True ∧ True) (by kernel_rfl) rfl
  ⟨tt,tt,tt,tt,tt⟩ ?_
 refine WI.call [.ptr 998 0,.i (xs.length : Int)] [.sl (.bytes l),.i p] [.i (xs.length : Int)] [.i (xs.length : Int)] (some (59,998)) (True) (True ∧ True) none rok32 ent32 hnt rfl rfl (wanted_none rfl) (by kernel_rfl) (by kernel_rfl) (by kernel_rfl) ⟨tt,tt,tt⟩
  (@cast (0 ≤ p ∧ p ≤ 1000000) _ (by kernel_rfl) (by omega)) (Or.inl rfl) rfl ?_
 rintro r bl fx2 hR
 obtain ⟨⟨v9,q9⟩,hq9,rfl,rfl,rfl⟩ := (@cast _ (∃ x : Int × Int,((0 ≤ x.1 ∧ x.1 < max (xs.length : Int) 1) ∧ (x.2 = p + 1)) ∧ r = (.i x.1) ∧ bl = ([]) ∧ fx2 = ([.sl (.bytes l),.i x.2])) (by kernel_rfl) hR)
 clear hR
 replace hq9 : (0 ≤ v9 ∧ v9 < max (xs.length : Int) 1) ∧ (q9 = p + 1) := hq9
 obtain ⟨hv9,hq19⟩ := hq9
 refine ⟨by kernel_rfl,WI.to (⟨[(0,.ptr 998 0),(1,.sl (.strs xs)),(5,.sl (.strs xs)),(6,.ptr 998 0),(7,.sl (.strs xs)),(8,.i (xs.length : Int)),(9,.i v9)],[(998,⟨59,.fix [.sl (.bytes l),.i q9]⟩)],[9,998,999]⟩) 5 (by kernel_rfl) rfl ?_⟩
 refine WI.runT cok tab57 hnt [] 3 8 (⟨[(0,.ptr 998 0),(1,.sl (.strs xs)),(4,.v (.string (xs.getD (Int.toNat v9) default))),(5,.sl (.strs xs)),(6,.ptr 998 0),(7,.sl (.strs xs)),(8,.i (xs.length : Int)),(9,.i v9),(10,.ep [.v (.string (xs.getD (Int.toNat v9) default))]),(11,.v (.string (xs.getD (Int.toNat v9) default)))],[(998,⟨59,.fix [.sl (.bytes l),.i q9]⟩)],[9,998,999]⟩)
  ((True ∧ True ∧ (0 ≤ v9) ∧ (v9 < (xs.length : Int))) ∧ True ∧ True ∧ True) (by kernel_rfl) rfl
  ⟨⟨tt,tt,(by omega),(by omega)⟩,tt,tt,tt⟩ ?_
 refine WI.nil rfl (thenQ_normal ?_)
 refine W.keepE [4] [(4,.v (.string (xs.getD (Int.toNat v9) default)))] (by kernel_rfl) ?_
 refine W.to (⟨[(4,.v (.string (xs.getD (Int.toNat v9) default)))],[(998,⟨59,.fix [.sl (.bytes l),.i q9]⟩)],[9,998,999]⟩) rfl ?_
 refine W.ret ?_
 exact endP_ret ((xs.getD (Int.toNat v9) default),q9) (show ((xs.getD (Int.toNat v9) default) ∈ xs) ∧ (q9 = p + 1) from ⟨(by exact getD_mem xs default (by omega)),(by first | assumption | omega | rfl | (simp; done) | (simp; omega))⟩) [(0,998)] (.v (.string (xs.getD (Int.toNat v9) default))) (by kernel_rfl) (@cast ((((.string (xs.getD (Int.toNat v9) default)) : Value) = (.string (xs.getD (Int.toNat v9) default))) ∧ (((((59 : Nat) = 59) ∧ ((((.bytes l : Dat) = .bytes l) ∧ (((.int .i64 q9 : Value) = .int .i64 q9) ∧ True)) ∧ ((0 : Nat) ∈ ([0] : List Nat)))) ∧ True) ∧ ((true = true) ∧ (((([] : List Nat) = []) ∧ True) ∧ (true = true → (998 : Nat) = 998))))) _ (by kernel_rfl) ⟨rfl,⟨⟨rfl,⟨rfl,rfl,tt⟩,(by decide)⟩,tt⟩,rfl,⟨rfl,tt⟩,(fun _ => rfl)⟩)
theorem ent57 : Entr prog 57 := ⟨_,func57,rfl,by decide⟩
end Go.Proofs.Try

set_option linter.unusedSimpArgs false
set_option linter.unusedVariables false
namespace Go.Proofs.Try
open Go.Ab Go.RowKit
def pre36 : List AV → List AV → Prop := preP [] [.bytes,.int] (fun _ (l,p,_) => (0 ≤ p ∧ p ≤ 1000000))
def rel36 : RelS := relP [] [.bytes,.int] (ι := ByteArray × Int) (fun _ (l,p,_) (v,q) => (q = p + 1)) (fun _ (l,p,_) (v,q) => (.v (.string v),[],[.sl (.bytes l),.i q]))
abbrev T36 : Tab := lk []
theorem tab36 : TabOK prog T36 := TabOK.nil
set_option maxRecDepth 100000 in
set_option maxHeartbeats 1000000 in
theorem rok36 : RelOK prog 36 (some 59) [] pre36 rel36 := by
 refine RelOK.mk cok func36 rfl rfl rfl ?_
 rintro _ ⟨(l : List UInt8),(p : Int),_⟩ hpre F hnt0
 have hnt : F.nt = 6 := hnt0.trans ntmps36
 replace hpre : (0 ≤ p ∧ p ≤ 1000000) := hpre
 have hp := hpre
 refine W.to (⟨[(0,.ptr 998 0)],[(998,⟨59,.fix [.sl (.bytes l),.i p]⟩)],[998,999]⟩) rfl ?_
 refine W.K cok tab36 hnt [] [0] (⟨[(0,.ptr 998 0)],[(998,⟨59,.fix [.sl (.bytes l),.i p]⟩)],[998,999]⟩)
  (True ∧ True) (by kernel_rfl)
  ⟨tt,tt⟩ ?_
 refine W.seq (W.wi ?_)
 refine WI.runT cok tab36 hnt [] 2 2 (⟨[(0,.ptr 998 0),(3,.ptr 998 0),(4,.sl (.strs ([nRegister,nQueue,nStack,nCounter,nSet,nMost,nRegister,nQueue,nStack,nCounter,nSet,nEmpty])))],[(998,⟨59,.fix [.sl (.bytes l),.i p]⟩)],[4,998,999]⟩)
  (True ∧ (True ∧ True ∧ True ∧ True ∧ True ∧ True ∧ True ∧ True ∧ True ∧ True ∧ True ∧ True ∧ True) ∧ True) (by kernel_rfl) rfl
  ⟨tt,⟨tt,tt,tt,tt,tt,tt,tt,tt,tt,tt,tt,tt,tt⟩,tt⟩ ?_
 refine WI.call [.ptr 998 0,.sl (.strs ([nRegister,nQueue,nStack,nCounter,nSet,nMost,nRegister,nQueue,nStack,nCounter,nSet,nEmpty]))] [.sl (.bytes l),.i p] [.sl (.strs ([nRegister,nQueue,nStack,nCounter,nSet,nMost,nRegister,nQueue,nStack,nCounter,nSet,nEmpty]))] [.sl (.strs ([nRegister,nQueue,nStack,nCounter,nSet,nMost,nRegister,nQueue,nStack,nCounter,nSet,nEmpty]))] (some (59,998)) (True) (True ∧ True) none rok57 ent57 hnt rfl rfl (wanted_none rfl) (by kernel_rfl) (by kernel_rfl) (by kernel_rfl) ⟨tt,tt,tt⟩
  (@cast ((0 ≤ p ∧ p ≤ 1000000) ∧ ((0 < ([nRegister,nQueue,nStack,nCounter,nSet,nMost,nRegister,nQueue,nStack,nCounter,nSet,nEmpty]).length) ∧ (([nRegister,nQueue,nStack,nCounter,nSet,nMost,nRegister,nQueue,nStack,nCounter,nSet,nEmpty]).length ≤ 1000))) _ (by kernel_rfl) ⟨(by omega),⟨(by (first | omega | (simp only [List.length_append,List.length_cons,List.length_nil,List.length_take,List.length_drop,List.length_set,List.length_replicate,List.length_map] at *; omega) | assumption)),(by (first | omega | (simp only [List.length_append,List.length_cons,List.length_nil,List.length_take,List.length_drop,List.length_set,List.length_replicate,List.length_map] at *; omega) | assumption))⟩⟩) (Or.inl rfl) rfl ?_
 rintro r bl fx2 hR
 obtain ⟨⟨v5,q5⟩,hq5,rfl,rfl,rfl⟩ := (@cast _ (∃ x : ByteArray × Int,((x.1 ∈ ([nRegister,nQueue,nStack,nCounter,nSet,nMost,nRegister,nQueue,nStack,nCounter,nSet,nEmpty])) ∧ (x.2 = p + 1)) ∧ r = (.v (.string x.1)) ∧ bl = ([]) ∧ fx2 = ([.sl (.bytes l),.i x.2])) (by kernel_rfl) hR)
 clear hR
 replace hq5 : (v5 ∈ ([nRegister,nQueue,nStack,nCounter,nSet,nMost,nRegister,nQueue,nStack,nCounter,nSet,nEmpty])) ∧ (q5 = p + 1) := hq5
 obtain ⟨hv5,hq15⟩ := hq5
 simp only [List.mem_cons,List.not_mem_nil,or_false] at hv5
 refine ⟨by kernel_rfl,WI.to (⟨[(0,.ptr 998 0),(3,.ptr 998 0),(4,.sl (.strs ([nRegister,nQueue,nStack,nCounter,nSet,nMost,nRegister,nQueue,nStack,nCounter,nSet,nEmpty]))),(5,.v (.string v5))],[(998,⟨59,.fix [.sl (.bytes l),.i q5]⟩)],[5,4,998,999]⟩) 3 (by kernel_rfl) rfl ?_⟩
 refine WI.runT cok tab36 hnt [] 1 4 (⟨[(0,.ptr 998 0),(2,.v (.string v5)),(3,.ptr 998 0),(4,.sl (.strs ([nRegister,nQueue,nStack,nCounter,nSet,nMost,nRegister,nQueue,nStack,nCounter,nSet,nEmpty]))),(5,.v (.string v5))],[(998,⟨59,.fix [.sl (.bytes l),.i q5]⟩)],[5,4,998,999]⟩)
  (True ∧ True) (by kernel_rfl) rfl
  ⟨tt,tt⟩ ?_
 refine WI.nil rfl (thenQ_normal ?_)
 refine W.keepE [2] [(2,.v (.string v5))] (by kernel_rfl) ?_
 refine W.to (⟨[(2,.v (.string v5))],[(998,⟨59,.fix [.sl (.bytes l),.i q5]⟩)],[5,4,998,999]⟩) rfl ?_
 refine W.ret ?_
 exact endP_ret (v5,q5) (show (q5 = p + 1) from (by first | assumption | omega | rfl | (simp; done) | (simp; omega))) [(0,998)] (.v (.string v5)) (by kernel_rfl) (@cast ((((.string v5) : Value) = (.string v5)) ∧ (((((59 : Nat) = 59) ∧ ((((.bytes l : Dat) = .bytes l) ∧ (((.int .i64 q5 : Value) = .int .i64 q5) ∧ True)) ∧ ((0 : Nat) ∈ ([0] : List Nat)))) ∧ True) ∧ ((true = true) ∧ (((([] : List Nat) = []) ∧ True) ∧ (true = true → (998 : Nat) = 998))))) _ (by kernel_rfl) ⟨rfl,⟨⟨rfl,⟨rfl,rfl,tt⟩,(by decide)⟩,tt⟩,rfl,⟨rfl,tt⟩,(fun _ => rfl)⟩)
theorem ent36 : Entr prog 36 := ⟨_,func36,rfl,by decide⟩
end Go.Proofs.Try

set_option linter.unusedSimpArgs false
set_option linter.unusedVariables false
namespace Go.Proofs.Try
open Go.Ab Go.RowKit
def pre33 : List AV → List AV → Prop := preP [.ints] [.bytes,.int] (fun (xs,_) (l,p,_) => (0 ≤ p ∧ p ≤ 1000000) ∧ (0 < xs.length) ∧ (xs.length ≤ 1000))
def rel33 : RelS := relP [.ints] [.bytes,.int] (ι := Int × Int) (fun (xs,_) (l,p,_) (v,q) => (v ∈ xs) ∧ (q = p + 1)) (fun (xs,_) (l,p,_) (v,q) => (.i v,[],[.sl (.bytes l),.i q]))
abbrev T33 : Tab := lk []
theorem tab33 : TabOK prog T33 := TabOK.nil
set_option maxRecDepth 100000 in
set_option maxHeartbeats 1000000 in
theorem rok33 : RelOK prog 33 (some 59) [.s .ints] pre33 rel33 := by
 refine RelOK.mk cok func33 rfl rfl rfl ?_
 rintro ⟨(xs : List Int),_⟩ ⟨(l : List UInt8),(p : Int),_⟩ hpre F hnt0
 have hnt : F.nt = 12 := hnt0.trans ntmps33
 replace hpre : (0 ≤ p ∧ p ≤ 1000000) ∧ (0 < xs.length) ∧ (xs.length ≤ 1000) := hpre
 obtain ⟨hp,hx,hx2⟩ := hpre
 refine W.to (⟨[(0,.ptr 998 0),(1,.sl (.ints xs))],[(998,⟨59,.fix [.sl (.bytes l),.i p]⟩)],[998,999]⟩) rfl ?_
 refine W.K cok tab33 hnt [] [0,1] (⟨[(0,.ptr 998 0),(1,.sl (.ints xs))],[(998,⟨59,.fix [.sl (.bytes l),.i p]⟩)],[998,999]⟩)
  (True ∧ True) (by kernel_rfl)
  ⟨tt,tt⟩ ?_
 refine W.seq (W.wi ?_)
 refine WI.runT cok tab33 hnt [] 4 4 (⟨[(0,.ptr 998 0),(1,.sl (.ints xs)),(5,.sl (.ints xs)),(6,.ptr 998 0),(7,.sl (.ints xs)),(8,.i (xs.length : Int))],[(998,⟨59,.fix [.sl (.bytes l),.i p]⟩)],[998,999]⟩)
  (True ∧ True ∧ True ∧ True ∧ True) (by kernel_rfl) rfl
  ⟨tt,tt,tt,tt,tt⟩ ?_
 refine WI.call [.ptr 998 0,.i (xs.length : Int)] [.sl (.bytes l),.i p] [.i (xs.length : Int)] [.i (xs.length : Int)] (some (59,998)) (True) (True ∧ True) none rok32 ent32 hnt rfl rfl (wanted_none rfl) (by kernel_rfl) (by kernel_rfl) (by kernel_rfl) ⟨tt,tt,tt⟩
  (@cast (0 ≤ p ∧ p ≤ 1000000) _ (by kernel_rfl) (by omega)) (Or.inl rfl) rfl ?_
 rintro r bl fx2 hR
 obtain ⟨⟨v9,q9⟩,hq9,rfl,rfl,rfl⟩ := (@cast _ (∃ x : Int × Int,((0 ≤ x.1 ∧ x.1 < max (xs.length : Int) 1) ∧ (x.2 = p + 1)) ∧ r = (.i x.1) ∧ bl = ([]) ∧ fx2 = ([.sl (.bytes l),.i x.2])) (by kernel_rfl) hR)
 clear hR
 replace hq9 : (0 ≤ v9 ∧ v9 < max (xs.length : Int) 1) ∧ (q9 = p + 1) := hq9
 obtain ⟨hv9,hq19⟩ := hq9
 refine ⟨by kernel_rfl,WI.to (⟨[(0,.ptr 998 0),(1,.sl (.ints xs)),(5,.sl (.ints xs)),(6,.ptr 998 0),(7,.sl (.ints xs)),(8,.i (xs.length : Int)),(9,.i v9)],[(998,⟨59,.fix [.sl (.bytes l),.i q9]⟩)],[9,998,999]⟩) 5 (by kernel_rfl) rfl ?_⟩
 refine WI.runT cok tab33 hnt [] 3 8 (⟨[(0,.ptr 998 0),(1,.sl (.ints xs)),(4,.i (xs.getD (Int.toNat v9) 0)),(5,.sl (.ints xs)),(6,.ptr 998 0),(7,.sl (.ints xs)),(8,.i (xs.length : Int)),(9,.i v9),(10,.ep [.i (xs.getD (Int.toNat v9) 0)]),(11,.i (xs.getD (Int.toNat v9) 0))],[(998,⟨59,.fix [.sl (.bytes l),.i q9]⟩)],[9,998,999]⟩)
  ((True ∧ True ∧ (0 ≤ v9) ∧ (v9 < (xs.length : Int))) ∧ True ∧ True ∧ True) (by kernel_rfl) rfl
  ⟨⟨tt,tt,(by omega),(by omega)⟩,tt,tt,tt⟩ ?_
 refine WI.nil rfl (thenQ_normal ?_)
 refine W.keepE [4] [(4,.i (xs.getD (Int.toNat v9) 0))] (by kernel_rfl) ?_
 refine W.to (⟨[(4,.i (xs.getD (Int.toNat v9) 0))],[(998,⟨59,.fix [.sl (.bytes l),.i q9]⟩)],[9,998,999]⟩) rfl ?_
 refine W.ret ?_
 exact endP_ret ((xs.getD (Int.toNat v9) 0),q9) (show ((xs.getD (Int.toNat v9) 0) ∈ xs) ∧ (q9 = p + 1) from ⟨(by exact getD_mem xs 0 (by omega)),(by first | assumption | omega | rfl | (simp; done) | (simp; omega))⟩) [(0,998)] (.i (xs.getD (Int.toNat v9) 0)) (by kernel_rfl) (@cast (((.int .i64 (xs.getD (Int.toNat v9) 0) : Value) = .int .i64 (xs.getD (Int.toNat v9) 0)) ∧ (((((59 : Nat) = 59) ∧ ((((.bytes l : Dat) = .bytes l) ∧ (((.int .i64 q9 : Value) = .int .i64 q9) ∧ True)) ∧ ((0 : Nat) ∈ ([0] : List Nat)))) ∧ True) ∧ ((true = true) ∧ (((([] : List Nat) = []) ∧ True) ∧ (true = true → (998 : Nat) = 998))))) _ (by kernel_rfl) ⟨rfl,⟨⟨rfl,⟨rfl,rfl,tt⟩,(by decide)⟩,tt⟩,rfl,⟨rfl,tt⟩,(fun _ => rfl)⟩)
theorem ent33 : Entr prog 33 := ⟨_,func33,rfl,by decide⟩
end Go.Proofs.Try
