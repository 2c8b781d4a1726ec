import Derived.Test.YtbeabmgjecndnaaPF3S0
import Derived.Test.YtbeabmgjecndnaaPF3S8
import Derived.Test.YtbeabmgjecndnaaPF3S9
import Derived.Test.YtbeabmgjecndnaaPF3S12
import Derived.Test.YtbeabmgjecndnaaPF3S1
import Derived.Test.YtbeabmgjecndnaaPF3S7
import Derived.Test.YtbeabmgjecndnaaPF3S3
import Derived.Test.YtbeabmgjecndnaaPF3S5
import Derived.Test.YtbeabmgjecndnaaPF3S2
set_option linter.unusedSimpArgs false
set_option linter.unusedVariables false
namespace Go.Proofs.Try
open Go.Ab Go.RowKit
def pre11 : List AV → List AV → Prop := preP [] [.bytes,.int] (fun _ (l,p,_) => (0 ≤ p ∧ p ≤ 700000))
def rel11 : RelS := relP [] [.bytes,.int] (ι := (List CallD) × Int) (fun _ (l,p,_) (g,q) => (g.length ≤ 6) ∧ (p ≤ q ∧ q ≤ p + 5000)) (fun _ (l,p,_) (g,q) => (.own 1 g.length,[⟨35,.row (.calls g)⟩],[.sl (.bytes l),.i q]))
abbrev T11 : Tab := lk []
theorem tab11 : TabOK prog T11 := TabOK.nil
set_option maxRecDepth 100000 in
set_option maxHeartbeats 1000000 in
theorem rok11 : RelOK prog 11 (some 44) [] pre11 rel11 := by
 refine RelOK.mk cok func11 rfl rfl rfl ?_
 rintro _ ⟨(l : List UInt8),(p : Int),_⟩ hpre F hnt0
 have hnt : F.nt = 79 := hnt0.trans ntmps11
 replace hpre : (0 ≤ p ∧ p ≤ 700000) := hpre
 have hp := hpre
 refine W.to (⟨[(0,.ptr 998 0)],[(998,⟨44,.fix [.sl (.bytes l),.i p]⟩)],[998,999]⟩) rfl ?_
 refine Kk cok tab11 hnt [] [0] (⟨[(0,.ptr 998 0)],[(998,⟨44,.fix [.sl (.bytes l),.i p]⟩)],[998,999]⟩)
  (True ∧ True)
  ⟨tt,tt⟩ ?_
 refine Kk cok tab11 hnt [8] [0,3] (⟨[(0,.ptr 998 0),(3,.own 8 (List.length ([] : List CallD)))],[(8,⟨35,.row (.calls ([] : List CallD))⟩),(998,⟨44,.fix [.sl (.bytes l),.i p]⟩)],[8,998,999]⟩)
  (True ∧ True ∧ True)
  ⟨tt,tt,tt⟩ ?_
 refine Kk cok tab11 hnt [] [0,3,4] (⟨[(0,.ptr 998 0),(3,.own 8 (List.length ([] : List CallD))),(4,.i (0 : Int))],[(8,⟨35,.row (.calls ([] : List CallD))⟩),(998,⟨44,.fix [.sl (.bytes l),.i p]⟩)],[8,998,999]⟩)
  (True ∧ True)
  ⟨tt,tt⟩ ?_
 refine Kk cok tab11 hnt [] [0,3,4,5] (⟨[(0,.ptr 998 0),(3,.own 8 (List.length ([] : List CallD))),(4,.i (0 : Int)),(5,.i (0 : Int))],[(8,⟨35,.row (.calls ([] : List CallD))⟩),(998,⟨44,.fix [.sl (.bytes l),.i p]⟩)],[8,998,999]⟩)
  (True ∧ True)
  ⟨tt,tt⟩ ?_
 refine W.seq ?_
 refine W.seq (W.wi ?_)
 refine WI.runT cok tab11 hnt [] 2 2 (⟨[(0,.ptr 998 0),(3,.own 8 (List.length ([] : List CallD))),(4,.i (0 : Int)),(5,.i (0 : Int)),(9,.ptr 998 0),(10,.sl (.ints ([(5 : Int),(4 : Int),(6 : Int),(3 : Int),(2 : Int),(1 : Int),(0 : Int)])))],[(8,⟨35,.row (.calls ([] : List CallD))⟩),(998,⟨44,.fix [.sl (.bytes l),.i p]⟩)],[10,8,998,999]⟩)
  (True ∧ (True ∧ True ∧ True ∧ True ∧ True ∧ True ∧ True ∧ True) ∧ True) (by kernel_rfl) rfl
  ⟨tt,⟨tt,tt,tt,tt,tt,tt,tt,tt⟩,tt⟩ ?_
 refine WI.call [.ptr 998 0,.sl (.ints ([(5 : Int),(4 : Int),(6 : Int),(3 : Int),(2 : Int),(1 : Int),(0 : Int)]))] [.sl (.bytes l),.i p] [.sl (.ints ([(5 : Int),(4 : Int),(6 : Int),(3 : Int),(2 : Int),(1 : Int),(0 : Int)]))] [.sl (.ints ([(5 : Int),(4 : Int),(6 : Int),(3 : Int),(2 : Int),(1 : Int),(0 : Int)]))] (some (44,998)) (True) (True ∧ True) none rok22 ent22 hnt rfl rfl (wanted_none rfl) (by kernel_rfl) (by kernel_rfl) (by kernel_rfl) ⟨tt,tt,tt⟩
  (@cast ((0 ≤ p ∧ p ≤ 1000000) ∧ (0 < ([(5 : Int),(4 : Int),(6 : Int),(3 : Int),(2 : Int),(1 : Int),(0 : Int)]).length) ∧ (([(5 : Int),(4 : Int),(6 : Int),(3 : Int),(2 : Int),(1 : Int),(0 : Int)]).length ≤ 1000)) _ (by kernel_rfl) ⟨(by omega),⟨(by (first | omega | (simp only [List.length_set]; done) | (simp only [List.length_append,List.length_cons,List.length_nil,List.length_take,List.length_drop,List.length_set,List.length_replicate,List.length_map] at *; omega) | assumption)),(by (first | omega | (simp only [List.length_set]; done) | (simp only [List.length_append,List.length_cons,List.length_nil,List.length_take,List.length_drop,List.length_set,List.length_replicate,List.length_map] at *; omega) | assumption))⟩⟩) (Or.inl rfl) rfl ?_
 rintro r bl fx2 hR
 obtain ⟨⟨v11,q11⟩,hq11,rfl,rfl,rfl⟩ := (@cast _ (∃ x : Int × Int,((x.1 ∈ ([(5 : Int),(4 : Int),(6 : Int),(3 : Int),(2 : Int),(1 : Int),(0 : Int)])) ∧ (x.2 = p + 1)) ∧ r = (.i x.1) ∧ bl = ([]) ∧ fx2 = ([.sl (.bytes l),.i x.2])) (by kernel_rfl) hR)
 clear hR
 replace hq11 : (v11 ∈ ([(5 : Int),(4 : Int),(6 : Int),(3 : Int),(2 : Int),(1 : Int),(0 : Int)])) ∧ (q11 = p + 1) := hq11
 obtain ⟨hv11,hq111⟩ := hq11
 simp only [List.mem_cons,List.not_mem_nil,or_false] at hv11
 refine ⟨by kernel_rfl,WI.to (⟨[(0,.ptr 998 0),(3,.own 8 (List.length ([] : List CallD))),(4,.i (0 : Int)),(5,.i (0 : Int)),(9,.ptr 998 0),(10,.sl (.ints ([(5 : Int),(4 : Int),(6 : Int),(3 : Int),(2 : Int),(1 : Int),(0 : Int)]))),(11,.i v11)],[(8,⟨35,.row (.calls ([] : List CallD))⟩),(998,⟨44,.fix [.sl (.bytes l),.i q11]⟩)],[11,10,8,998,999]⟩) 3 (by kernel_rfl) rfl ?_⟩
 refine WI.runT cok tab11 hnt [] 1 4 (⟨[(0,.ptr 998 0),(3,.own 8 (List.length ([] : List CallD))),(4,.i (0 : Int)),(5,.i (0 : Int)),(6,.i v11),(9,.ptr 998 0),(10,.sl (.ints ([(5 : Int),(4 : Int),(6 : Int),(3 : Int),(2 : Int),(1 : Int),(0 : Int)]))),(11,.i v11)],[(8,⟨35,.row (.calls ([] : List CallD))⟩),(998,⟨44,.fix [.sl (.bytes l),.i q11]⟩)],[11,10,8,998,999]⟩)
  (True ∧ True) (by kernel_rfl) rfl
  ⟨tt,tt⟩ ?_
 refine WI.nil rfl (thenQ_normal ?_)
 refine W.keepE [0,3,4,5,6] [(0,.ptr 998 0),(3,.own 8 (List.length ([] : List CallD))),(4,.i (0 : Int)),(5,.i (0 : Int)),(6,.i v11)] (by kernel_rfl) ?_
 refine W.to (⟨[(0,.ptr 998 0),(3,.own 8 (List.length ([] : List CallD))),(4,.i (0 : Int)),(5,.i (0 : Int)),(6,.i v11)],[(8,⟨35,.row (.calls ([] : List CallD))⟩),(998,⟨44,.fix [.sl (.bytes l),.i q11]⟩)],[11,10,8,998,999]⟩) rfl ?_
 refine W.block ?_
 refine W.loop (ι := (List CallD) × Int × Int × Int × Int) (fun (x : (List CallD) × Int × Int × Int × Int) => match x with | (o,value,now,n,p1) => (⟨[(0,.ptr 998 0),(3,.own 8 o.length),(4,.i value),(5,.i now),(6,.i n)],[(8,⟨35,.row (.calls o)⟩),(998,⟨44,.fix [.sl (.bytes l),.i p1]⟩)],[8,998,999]⟩ : St))
  (fun (x : (List CallD) × Int × Int × Int × Int) => match x with | (o,value,now,n,p1) => (GoodH o) ∧ (n + o.length ≤ 6) ∧ (0 ≤ value ∧ value ≤ 3) ∧ (p + 1 ≤ p1 ∧ p1 ≤ p + 1 + 6 * o.length))
  (fun (x : (List CallD) × Int × Int × Int × Int) => match x with | (o,value,now,n,p1) => (n.toNat : Nat)) (([] : List CallD),(0 : Int),(0 : Int),v11,q11) ?_ ?_ ?_
 ·exact (show (GoodH ([] : List CallD)) ∧ (v11 + ([] : List CallD).length ≤ 6) ∧ (0 ≤ (0 : Int) ∧ (0 : Int) ≤ 3) ∧ (p + 1 ≤ q11 ∧ q11 ≤ p + 1 + 6 * ([] : List CallD).length) from ⟨(by exact GoodH.nil),(by simp only [List.length_nil]; omega),(by first | assumption | omega | rfl | (intro _ hjj; omega) | (simp; done) | (simp; omega)),(by simp only [List.length_nil]; omega)⟩)
 ·exact Sub.of [] (@cast (((((998 : Nat) = 998) ∧ ((0 : Nat) = 0) ∧ ((998 : Nat) ∈ ([8,998,999] : List Nat))) ∧ (((8 : Nat) = 8) ∧ ((List.length ([] : List CallD)) = (List.length ([] : List CallD))) ∧ ((8 : Nat) ∈ ([8,998,999] : List Nat))) ∧ (Si (0 : Int)) ∧ (Si (0 : Int)) ∧ (Si v11) ∧ True) ∧ ((((35 : Nat) = 35) ∧ (Sd (.calls ([] : List CallD))) ∧ ((8 : Nat) ∈ ([8,998,999] : List Nat))) ∧ (((44 : Nat) = 44) ∧ ((Sd (.bytes l)) ∧ (Si q11) ∧ True) ∧ ((998 : Nat) ∈ ([8,998,999] : List Nat))) ∧ True) ∧ (true = true) ∧ (true = true)) _ (by kernel_rfl) ⟨⟨⟨rfl,rfl,(by decide)⟩,⟨rfl,rfl,(by decide)⟩,rfl,rfl,rfl,tt⟩,⟨⟨rfl,rfl,(by decide)⟩,⟨rfl,⟨rfl,rfl,tt⟩,(by decide)⟩,tt⟩,rfl,rfl⟩)
 ·rintro ⟨o,value,now,n,p1⟩ hC0
  have hC : (GoodH o) ∧ (n + o.length ≤ 6) ∧ (0 ≤ value ∧ value ≤ 3) ∧ (p + 1 ≤ p1 ∧ p1 ≤ p + 1 + 6 * o.length) := hC0
  clear hC0
  obtain ⟨ho,hn,hv,hq⟩ := hC
  refine W.to (⟨[(0,.ptr 998 0),(3,.own 8 o.length),(4,.i value),(5,.i now),(6,.i n)],[(8,⟨35,.row (.calls o)⟩),(998,⟨44,.fix [.sl (.bytes l),.i p1]⟩)],[8,998,999]⟩) rfl ?_
  have ho6 := ho.1
  refine W.seq ?_
  refine Kk cok tab11 hnt [] [0,3,4,5,6,13] (⟨[(0,.ptr 998 0),(3,.own 8 o.length),(4,.i value),(5,.i now),(6,.i n),(13,.b (decide ((0 : Int) < n)))],[(8,⟨35,.row (.calls o)⟩),(998,⟨44,.fix [.sl (.bytes l),.i p1]⟩)],[8,998,999]⟩)
   (True ∧ (True ∧ True ∧ True) ∧ True)
   ⟨tt,⟨tt,tt,tt⟩,tt⟩ ?_
  refine W.ifP ((0 : Int) < n) (.b (decide ((0 : Int) < n))) (by kernel_rfl) rfl trivial ?_ ?_
  ·intro h13
   refine W.skip (thenQ_normal ?_)
   refine W.seq ?_
   refine W.block ?_
   refine W.seq (W.wi ?_)
   refine WI.runT cok tab11 hnt [] 1 1 (⟨[(0,.ptr 998 0),(3,.own 8 o.length),(4,.i value),(5,.i now),(6,.i n),(13,.b (decide ((0 : Int) < n))),(16,.ptr 998 0)],[(8,⟨35,.row (.calls o)⟩),(998,⟨44,.fix [.sl (.bytes l),.i p1]⟩)],[8,998,999]⟩)
    (True ∧ True) (by kernel_rfl) rfl
    ⟨tt,tt⟩ ?_
   refine WI.call [.ptr 998 0,.i (2 : Int)] [.sl (.bytes l),.i p1] [.i (2 : Int)] [.i (2 : Int)] (some (44,998)) (True) (True ∧ True) none rok21 ent21 hnt rfl rfl (wanted_none rfl) (by kernel_rfl) (by kernel_rfl) (by kernel_rfl) ⟨tt,tt,tt⟩
    (@cast (0 ≤ p1 ∧ p1 ≤ 1000000) _ (by kernel_rfl) (by omega)) (Or.inl rfl) rfl ?_
   rintro r bl fx2 hR
   obtain ⟨⟨v17,q17⟩,hq17,rfl,rfl,rfl⟩ := (@cast _ (∃ x : Int × Int,((0 ≤ x.1 ∧ x.1 < max (2 : Int) 1) ∧ (x.2 = p1 + 1)) ∧ r = (.i x.1) ∧ bl = ([]) ∧ fx2 = ([.sl (.bytes l),.i x.2])) (by kernel_rfl) hR)
   clear hR
   replace hq17 : (0 ≤ v17 ∧ v17 < max (2 : Int) 1) ∧ (q17 = p1 + 1) := hq17
   obtain ⟨hv17,hq117⟩ := hq17
   refine ⟨by kernel_rfl,WI.to (⟨[(0,.ptr 998 0),(3,.own 8 o.length),(4,.i value),(5,.i now),(6,.i n),(13,.b (decide ((0 : Int) < n))),(16,.ptr 998 0),(17,.i v17)],[(8,⟨35,.row (.calls o)⟩),(998,⟨44,.fix [.sl (.bytes l),.i q17]⟩)],[17,8,998,999]⟩) 2 (by kernel_rfl) rfl ?_⟩
   refine WI.runT cok tab11 hnt [] 13 15 (⟨[(0,.ptr 998 0),(3,.own 8 o.length),(4,.i value),(5,.i now),(6,.i n),(7,.ptr 7 0),(13,.b (decide ((0 : Int) < n))),(16,.ptr 998 0),(17,.i v17),(18,.i ((1 : Int) + v17)),(19,.i now),(20,.own 8 o.length),(21,.i (o.length : Int)),(22,.i ((2 : Int) * (o.length : Int))),(23,.i (((2 : Int) * (o.length : Int)) + (1 : Int))),(24,.own 8 o.length),(25,.i (o.length : Int)),(26,.i ((2 : Int) * (o.length : Int))),(27,.i (((2 : Int) * (o.length : Int)) + (2 : Int))),(28,.agg [.i ((1 : Int) + v17),.i (0 : Int),.i (2 : Int),.i (0 : Int),.i now,.i (((2 : Int) * (o.length : Int)) + (1 : Int)),.i (((2 : Int) * (o.length : Int)) + (2 : Int))])],[(7,⟨35,.fix [.i ((1 : Int) + v17),.i (0 : Int),.i (2 : Int),.i (0 : Int),.i now,.i (((2 : Int) * (o.length : Int)) + (1 : Int)),.i (((2 : Int) * (o.length : Int)) + (2 : Int))]⟩),(8,⟨35,.row (.calls o)⟩),(998,⟨44,.fix [.sl (.bytes l),.i q17]⟩)],[7,17,8,998,999]⟩)
    ((True ∧ True ∧ (Fits .i64 ((1 : Int) + v17))) ∧ True ∧ True ∧ True ∧ (True ∧ True ∧ (Fits .i64 ((2 : Int) * (o.length : Int)))) ∧ (True ∧ True ∧ (Fits .i64 (((2 : Int) * (o.length : Int)) + (1 : Int)))) ∧ True ∧ True ∧ (True ∧ True ∧ (Fits .i64 ((2 : Int) * (o.length : Int)))) ∧ (True ∧ True ∧ (Fits .i64 (((2 : Int) * (o.length : Int)) + (2 : Int)))) ∧ (True ∧ True ∧ True ∧ True ∧ True ∧ True) ∧ True ∧ (True ∧ True) ∧ True) (by kernel_rfl) rfl
    ⟨⟨tt,tt,(by exact fits_i64 (by omega) (by omega))⟩,tt,tt,tt,⟨tt,tt,(by exact fits_i64 (by omega) (by omega))⟩,⟨tt,tt,(by exact fits_i64 (by omega) (by omega))⟩,tt,tt,⟨tt,tt,(by exact fits_i64 (by omega) (by omega))⟩,⟨tt,tt,(by exact fits_i64 (by omega) (by omega))⟩,⟨tt,tt,tt,tt,tt,tt⟩,tt,⟨tt,tt⟩,tt⟩ ?_
   refine WI.nil rfl (thenQ_normal ?_)
   refine W.keepE [0,3,4,5,6,7] [(0,.ptr 998 0),(3,.own 8 o.length),(4,.i value),(5,.i now),(6,.i n),(7,.ptr 7 0)] (by kernel_rfl) ?_
   refine W.to (⟨[(0,.ptr 998 0),(3,.own 8 o.length),(4,.i value),(5,.i now),(6,.i n),(7,.ptr 7 0)],[(7,⟨35,.fix [.i ((1 : Int) + v17),.i (0 : Int),.i (2 : Int),.i (0 : Int),.i now,.i (((2 : Int) * (o.length : Int)) + (1 : Int)),.i (((2 : Int) * (o.length : Int)) + (2 : Int))]⟩),(8,⟨35,.row (.calls o)⟩),(998,⟨44,.fix [.sl (.bytes l),.i q17]⟩)],[7,17,8,998,999]⟩) rfl ?_
   refine W.seq ?_
   refine W.seq (W.wi ?_)
   refine WI.runT cok tab11 hnt [] 1 1 (⟨[(0,.ptr 998 0),(3,.own 8 o.length),(4,.i value),(5,.i now),(6,.i n),(7,.ptr 7 0),(29,.ptr 998 0)],[(7,⟨35,.fix [.i ((1 : Int) + v17),.i (0 : Int),.i (2 : Int),.i (0 : Int),.i now,.i (((2 : Int) * (o.length : Int)) + (1 : Int)),.i (((2 : Int) * (o.length : Int)) + (2 : Int))]⟩),(8,⟨35,.row (.calls o)⟩),(998,⟨44,.fix [.sl (.bytes l),.i q17]⟩)],[7,17,8,998,999]⟩)
    (True ∧ True) (by kernel_rfl) rfl
    ⟨tt,tt⟩ ?_
   refine WI.call [.ptr 998 0,.i (2 : Int)] [.sl (.bytes l),.i q17] [.i (2 : Int)] [.i (2 : Int)] (some (44,998)) (True) (True ∧ True) none rok21 ent21 hnt rfl rfl (wanted_none rfl) (by kernel_rfl) (by kernel_rfl) (by kernel_rfl) ⟨tt,tt,tt⟩
    (@cast (0 ≤ q17 ∧ q17 ≤ 1000000) _ (by kernel_rfl) (by omega)) (Or.inl rfl) rfl ?_
   rintro r bl fx2 hR
   obtain ⟨⟨v30,q30⟩,hq30,rfl,rfl,rfl⟩ := (@cast _ (∃ x : Int × Int,((0 ≤ x.1 ∧ x.1 < max (2 : Int) 1) ∧ (x.2 = q17 + 1)) ∧ r = (.i x.1) ∧ bl = ([]) ∧ fx2 = ([.sl (.bytes l),.i x.2])) (by kernel_rfl) hR)
   clear hR
   replace hq30 : (0 ≤ v30 ∧ v30 < max (2 : Int) 1) ∧ (q30 = q17 + 1) := hq30
   obtain ⟨hv30,hq130⟩ := hq30
   refine ⟨by kernel_rfl,WI.to (⟨[(0,.ptr 998 0),(3,.own 8 o.length),(4,.i value),(5,.i now),(6,.i n),(7,.ptr 7 0),(29,.ptr 998 0),(30,.i v30)],[(7,⟨35,.fix [.i ((1 : Int) + v17),.i (0 : Int),.i (2 : Int),.i (0 : Int),.i now,.i (((2 : Int) * (o.length : Int)) + (1 : Int)),.i (((2 : Int) * (o.length : Int)) + (2 : Int))]⟩),(8,⟨35,.row (.calls o)⟩),(998,⟨44,.fix [.sl (.bytes l),.i q30]⟩)],[30,7,17,8,998,999]⟩) 2 (by kernel_rfl) rfl ?_⟩
   refine WI.runT cok tab11 hnt [] 5 7 ((fun (Z1:Bool)=>(⟨[(0,.ptr 998 0),(3,.own 8 o.length),(4,.i value),(5,.i now),(6,.i n),(7,.ptr 7 0),(29,.ptr 998 0),(30,.i v30),(31,.b Z1),(32,.b Z1),(33,.g Z1 (.i value)),(34,.g Z1 (.b (decide (value < (3 : Int))))),(35,.b (Z1 && (decide (value < (3 : Int)))))],[(7,⟨35,.fix [.i ((1 : Int) + v17),.i (0 : Int),.i (2 : Int),.i (0 : Int),.i now,.i (((2 : Int) * (o.length : Int)) + (1 : Int)),.i (((2 : Int) * (o.length : Int)) + (2 : Int))]⟩),(8,⟨35,.row (.calls o)⟩),(998,⟨44,.fix [.sl (.bytes l),.i q30]⟩)],[30,7,17,8,998,999]⟩:St)) (decide (v30 = (0 : Int))))
    ((fun (Z1:Bool)=>((True ∧ (True ∧ True)) ∧ (True ∧ ((Z1 = true → True) ∧ ((Z1 = true → (((Z1 = true) ∧ True) ∧ (True ∧ True))) ∧ ((True ∧ ((Z1 = true → (Z1 = true) ∧ True) ∧ (Z1 = false → True))) ∧ True)))))) (decide (v30 = (0 : Int)))) (by kernel_rfl) rfl
    ⟨⟨tt,tt,tt⟩,tt,(fun _ => trivial),(fun hG => ⟨⟨hG,tt⟩,tt,tt⟩),⟨tt,(fun hp => ⟨hp,tt⟩),(fun _ => trivial)⟩,tt⟩ ?_
   refine WI.nil rfl (thenQ_normal ?_)
   refine W.keepE [0,3,4,5,6,7,35] [(0,.ptr 998 0),(3,.own 8 o.length),(4,.i value),(5,.i now),(6,.i n),(7,.ptr 7 0),(35,.b ((decide (v30 = (0 : Int))) && (decide (value < (3 : Int)))))] (by kernel_rfl) ?_
   refine W.to (⟨[(0,.ptr 998 0),(3,.own 8 o.length),(4,.i value),(5,.i now),(6,.i n),(7,.ptr 7 0),(35,.b ((decide (v30 = (0 : Int))) && (decide (value < (3 : Int)))))],[(7,⟨35,.fix [.i ((1 : Int) + v17),.i (0 : Int),.i (2 : Int),.i (0 : Int),.i now,.i (((2 : Int) * (o.length : Int)) + (1 : Int)),.i (((2 : Int) * (o.length : Int)) + (2 : Int))]⟩),(8,⟨35,.row (.calls o)⟩),(998,⟨44,.fix [.sl (.bytes l),.i q30]⟩)],[30,7,17,8,998,999]⟩) rfl ?_
   refine W.meetT (ι := Int × Int × Int × Int × Int × Int × Int × Int × Int) (fun (x : Int × Int × Int × Int × Int × Int × Int × Int × Int) => match x with | (value2,now2,f0,f1,f2,f3,f4,f5,f6) => (⟨[(0,.ptr 998 0),(3,.own 8 o.length),(4,.i value2),(5,.i now2),(6,.i n),(7,.ptr 7 0)],[(7,⟨35,.fix [.i f0,.i f1,.i f2,.i f3,.i f4,.i f5,.i f6]⟩),(8,⟨35,.row (.calls o)⟩),(998,⟨44,.fix [.sl (.bytes l),.i q30]⟩)],[7,8,998,999]⟩ : St)) (fun (x : Int × Int × Int × Int × Int × Int × Int × Int × Int) => match x with | (value2,now2,f0,f1,f2,f3,f4,f5,f6) => (0 ≤ value2 ∧ value2 ≤ 3) ∧ (-100 ≤ f5 ∧ f5 ≤ 100 ∧ -100 ≤ f6 ∧ f6 ≤ 100)) ?_ ?_
   ·skip
    refine W.if' ((decide (v30 = (0 : Int))) && (decide (value < (3 : Int)))) (.b ((decide (v30 = (0 : Int))) && (decide (value < (3 : Int))))) (by kernel_rfl) rfl trivial ?_ ?_
    ·intro h35
     have h35_0 : v30 = (0 : Int) := of_decide_eq_true (and_l h35)
     have h35_1 : value < (3 : Int) := of_decide_eq_true (and_r h35)
     refine Kk cok tab11 hnt [] [0,3,4,6,7] (⟨[(0,.ptr 998 0),(3,.own 8 o.length),(4,.i (value + (1 : Int))),(6,.i n),(7,.ptr 7 0)],[(7,⟨35,.fix [.i ((1 : Int) + v17),.i (0 : Int),.i (2 : Int),.i (0 : Int),.i now,.i (((2 : Int) * (o.length : Int)) + (1 : Int)),.i (((2 : Int) * (o.length : Int)) + (2 : Int))]⟩),(8,⟨35,.row (.calls o)⟩),(998,⟨44,.fix [.sl (.bytes l),.i q30]⟩)],[30,7,17,8,998,999]⟩)
      (True ∧ (True ∧ True ∧ (Fits .i64 (value + (1 : Int)))) ∧ True ∧ True)
      ⟨tt,⟨tt,tt,(by exact fits_i64 (by omega) (by omega))⟩,tt,tt⟩ ?_
     refine Kk cok tab11 hnt [] [0,3,4,5,6,7] (⟨[(0,.ptr 998 0),(3,.own 8 o.length),(4,.i (value + (1 : Int))),(5,.i (value + (1 : Int))),(6,.i n),(7,.ptr 7 0)],[(7,⟨35,.fix [.i ((1 : Int) + v17),.i (0 : Int),.i (2 : Int),.i (0 : Int),.i now,.i (((2 : Int) * (o.length : Int)) + (1 : Int)),.i (((2 : Int) * (o.length : Int)) + (2 : Int))]⟩),(8,⟨35,.row (.calls o)⟩),(998,⟨44,.fix [.sl (.bytes l),.i q30]⟩)],[30,7,17,8,998,999]⟩)
      (True ∧ True ∧ True)
      ⟨tt,tt,tt⟩ ?_
     refine Lk cok tab11 hnt [] (⟨[(0,.ptr 998 0),(3,.own 8 o.length),(4,.i (value + (1 : Int))),(5,.i (value + (1 : Int))),(6,.i n),(7,.ptr 7 0),(39,.i (value + (1 : Int))),(40,.own 8 o.length),(41,.i (o.length : Int)),(42,.i ((2 : Int) * (o.length : Int))),(43,.i (((2 : Int) * (o.length : Int)) + (1 : Int))),(44,.own 8 o.length),(45,.i (o.length : Int)),(46,.i ((2 : Int) * (o.length : Int))),(47,.i (((2 : Int) * (o.length : Int)) + (2 : Int))),(48,.agg [.i (0 : Int),.i (0 : Int),.i (0 : Int),.i (value + (1 : Int)),.i (0 : Int),.i (((2 : Int) * (o.length : Int)) + (1 : Int)),.i (((2 : Int) * (o.length : Int)) + (2 : Int))])],[(7,⟨35,.fix [.i (0 : Int),.i (0 : Int),.i (0 : Int),.i (value + (1 : Int)),.i (0 : Int),.i (((2 : Int) * (o.length : Int)) + (1 : Int)),.i (((2 : Int) * (o.length : Int)) + (2 : Int))]⟩),(8,⟨35,.row (.calls o)⟩),(998,⟨44,.fix [.sl (.bytes l),.i q30]⟩)],[30,7,17,8,998,999]⟩)
      (True ∧ True ∧ True ∧ (True ∧ True ∧ (Fits .i64 ((2 : Int) * (o.length : Int)))) ∧ (True ∧ True ∧ (Fits .i64 (((2 : Int) * (o.length : Int)) + (1 : Int)))) ∧ True ∧ True ∧ (True ∧ True ∧ (Fits .i64 ((2 : Int) * (o.length : Int)))) ∧ (True ∧ True ∧ (Fits .i64 (((2 : Int) * (o.length : Int)) + (2 : Int)))) ∧ (True ∧ True ∧ True ∧ True ∧ True) ∧ (True ∧ True) ∧ True)
      ⟨tt,tt,tt,⟨tt,tt,(by exact fits_i64 (by omega) (by omega))⟩,⟨tt,tt,(by exact fits_i64 (by omega) (by omega))⟩,tt,tt,⟨tt,tt,(by exact fits_i64 (by omega) (by omega))⟩,⟨tt,tt,(by exact fits_i64 (by omega) (by omega))⟩,⟨tt,tt,tt,tt,tt⟩,⟨tt,tt⟩,tt⟩ ?_
     refine thenQ_normal ?_
     refine ⟨((value + (1 : Int)),(value + (1 : Int)),(0 : Int),(0 : Int),(0 : Int),(value + (1 : Int)),(0 : Int),(((2 : Int) * (o.length : Int)) + (1 : Int)),(((2 : Int) * (o.length : Int)) + (2 : Int))),(show (0 ≤ (value + (1 : Int)) ∧ (value + (1 : Int)) ≤ 3) ∧ (-100 ≤ (((2 : Int) * (o.length : Int)) + (1 : Int)) ∧ (((2 : Int) * (o.length : Int)) + (1 : Int)) ≤ 100 ∧ -100 ≤ (((2 : Int) * (o.length : Int)) + (2 : Int)) ∧ (((2 : Int) * (o.length : Int)) + (2 : Int)) ≤ 100) from ⟨(by first | assumption | omega | rfl | (intro _ hjj; omega) | (simp; done) | (simp; omega)),(by first | assumption | omega | rfl | (intro _ hjj; omega) | (simp; done) | (simp; omega))⟩),?_⟩
     exact Sub.of [] (@cast (((((998 : Nat) = 998) ∧ ((0 : Nat) = 0) ∧ ((998 : Nat) ∈ ([7,8,998,999] : List Nat))) ∧ (((8 : Nat) = 8) ∧ (o.length = o.length) ∧ ((8 : Nat) ∈ ([7,8,998,999] : List Nat))) ∧ (Si (value + (1 : Int))) ∧ (Si (value + (1 : Int))) ∧ (Si n) ∧ (((7 : Nat) = 7) ∧ ((0 : Nat) = 0) ∧ ((7 : Nat) ∈ ([7,8,998,999] : List Nat))) ∧ True) ∧ ((((35 : Nat) = 35) ∧ ((Si (0 : Int)) ∧ (Si (0 : Int)) ∧ (Si (0 : Int)) ∧ (Si (value + (1 : Int))) ∧ (Si (0 : Int)) ∧ (Si (((2 : Int) * (o.length : Int)) + (1 : Int))) ∧ (Si (((2 : Int) * (o.length : Int)) + (2 : Int))) ∧ True) ∧ ((7 : Nat) ∈ ([7,8,998,999] : List Nat))) ∧ (((35 : Nat) = 35) ∧ (Sd (.calls o)) ∧ ((8 : Nat) ∈ ([7,8,998,999] : List Nat))) ∧ (((44 : Nat) = 44) ∧ ((Sd (.bytes l)) ∧ (Si q30) ∧ True) ∧ ((998 : Nat) ∈ ([7,8,998,999] : List Nat))) ∧ True) ∧ (true = true) ∧ (true = true)) _ (by kernel_rfl) ⟨⟨⟨rfl,rfl,(by decide)⟩,⟨rfl,rfl,(by decide)⟩,rfl,rfl,rfl,⟨rfl,rfl,(by decide)⟩,tt⟩,⟨⟨rfl,⟨rfl,rfl,rfl,rfl,rfl,rfl,rfl,tt⟩,(by decide)⟩,⟨rfl,rfl,(by decide)⟩,⟨rfl,⟨rfl,rfl,tt⟩,(by decide)⟩,tt⟩,rfl,rfl⟩)
    ·intro n35
     refine W.skip (thenQ_normal ?_)
     refine ⟨(value,now,((1 : Int) + v17),(0 : Int),(2 : Int),(0 : Int),now,(((2 : Int) * (o.length : Int)) + (1 : Int)),(((2 : Int) * (o.length : Int)) + (2 : Int))),(show (0 ≤ value ∧ value ≤ 3) ∧ (-100 ≤ (((2 : Int) * (o.length : Int)) + (1 : Int)) ∧ (((2 : Int) * (o.length : Int)) + (1 : Int)) ≤ 100 ∧ -100 ≤ (((2 : Int) * (o.length : Int)) + (2 : Int)) ∧ (((2 : Int) * (o.length : Int)) + (2 : Int)) ≤ 100) from ⟨(by first | assumption | omega | rfl | (intro _ hjj; omega) | (simp; done) | (simp; omega)),(by first | assumption | omega | rfl | (intro _ hjj; omega) | (simp; done) | (simp; omega))⟩),?_⟩
     exact Sub.of [] (@cast (((((998 : Nat) = 998) ∧ ((0 : Nat) = 0) ∧ ((998 : Nat) ∈ ([7,8,998,999] : List Nat))) ∧ (((8 : Nat) = 8) ∧ (o.length = o.length) ∧ ((8 : Nat) ∈ ([7,8,998,999] : List Nat))) ∧ (Si value) ∧ (Si now) ∧ (Si n) ∧ (((7 : Nat) = 7) ∧ ((0 : Nat) = 0) ∧ ((7 : Nat) ∈ ([7,8,998,999] : List Nat))) ∧ True) ∧ ((((35 : Nat) = 35) ∧ ((Si ((1 : Int) + v17)) ∧ (Si (0 : Int)) ∧ (Si (2 : Int)) ∧ (Si (0 : Int)) ∧ (Si now) ∧ (Si (((2 : Int) * (o.length : Int)) + (1 : Int))) ∧ (Si (((2 : Int) * (o.length : Int)) + (2 : Int))) ∧ True) ∧ ((7 : Nat) ∈ ([7,8,998,999] : List Nat))) ∧ (((35 : Nat) = 35) ∧ (Sd (.calls o)) ∧ ((8 : Nat) ∈ ([7,8,998,999] : List Nat))) ∧ (((44 : Nat) = 44) ∧ ((Sd (.bytes l)) ∧ (Si q30) ∧ True) ∧ ((998 : Nat) ∈ ([7,8,998,999] : List Nat))) ∧ True) ∧ (true = true) ∧ (true = true)) _ (by kernel_rfl) ⟨⟨⟨rfl,rfl,(by decide)⟩,⟨rfl,rfl,(by decide)⟩,rfl,rfl,rfl,⟨rfl,rfl,(by decide)⟩,tt⟩,⟨⟨rfl,⟨rfl,rfl,rfl,rfl,rfl,rfl,rfl,tt⟩,(by decide)⟩,⟨rfl,rfl,(by decide)⟩,⟨rfl,⟨rfl,rfl,tt⟩,(by decide)⟩,tt⟩,rfl,rfl⟩)
   ·rintro ⟨value2,now2,f0,f1,f2,f3,f4,f5,f6⟩ hC0
    have hC : (0 ≤ value2 ∧ value2 ≤ 3) ∧ (-100 ≤ f5 ∧ f5 ≤ 100 ∧ -100 ≤ f6 ∧ f6 ≤ 100) := hC0
    clear hC0
    obtain ⟨hv2,hf⟩ := hC
    refine W.to (⟨[(0,.ptr 998 0),(3,.own 8 o.length),(4,.i value2),(5,.i now2),(6,.i n),(7,.ptr 7 0)],[(7,⟨35,.fix [.i f0,.i f1,.i f2,.i f3,.i f4,.i f5,.i f6]⟩),(8,⟨35,.row (.calls o)⟩),(998,⟨44,.fix [.sl (.bytes l),.i q30]⟩)],[7,8,998,999]⟩) rfl ?_
    refine W.seq ?_
    refine W.seq (W.wi ?_)
    refine WI.runT cok tab11 hnt [] 5 5 ((fun (Z1:Bool)=>(⟨[(0,.ptr 998 0),(3,.own 8 o.length),(4,.i value2),(5,.i now2),(6,.i n),(7,.ptr 7 0),(49,.ptr 7 2),(50,.i f2),(51,.b Z1),(52,.b Z1),(53,.g Z1 (.ptr 998 0))],[(7,⟨35,.fix [.i f0,.i f1,.i f2,.i f3,.i f4,.i f5,.i f6]⟩),(8,⟨35,.row (.calls o)⟩),(998,⟨44,.fix [.sl (.bytes l),.i q30]⟩)],[7,8,998,999]⟩:St)) (decide (f2 = (2 : Int))))
     (True ∧ True ∧ (True ∧ True ∧ True) ∧ True ∧ ((decide (f2 = (2 : Int))) = true → True) ∧ True) (by kernel_rfl) rfl
     ⟨tt,tt,⟨tt,tt,tt⟩,tt,(fun _ => trivial),tt⟩ ?_
    rcases Bool.eq_false_or_eq_true (decide (f2 = (2 : Int))) with hT54 | hT54
    ·skip
     have hT54_0 : f2 = (2 : Int) := of_decide_eq_true hT54
     refine WI.to (⟨[(0,.ptr 998 0),(3,.own 8 o.length),(4,.i value2),(5,.i now2),(6,.i n),(7,.ptr 7 0),(49,.ptr 7 2),(50,.i f2),(51,.b true),(52,.b true),(53,.g true (.ptr 998 0))],[(7,⟨35,.fix [.i f0,.i f1,.i f2,.i f3,.i f4,.i f5,.i f6]⟩),(8,⟨35,.row (.calls o)⟩),(998,⟨44,.fix [.sl (.bytes l),.i q30]⟩)],[7,8,998,999]⟩) 5 (congrArg (fun z => (⟨[(0,.ptr 998 0),(3,.own 8 o.length),(4,.i value2),(5,.i now2),(6,.i n),(7,.ptr 7 0),(49,.ptr 7 2),(50,.i f2),(51,.b z),(52,.b z),(53,.g z (.ptr 998 0))],[(7,⟨35,.fix [.i f0,.i f1,.i f2,.i f3,.i f4,.i f5,.i f6]⟩),(8,⟨35,.row (.calls o)⟩),(998,⟨44,.fix [.sl (.bytes l),.i q30]⟩)],[7,8,998,999]⟩ : St)) hT54) rfl ?_
     refine WI.call [.g true (.ptr 998 0),.i (4 : Int)] [.sl (.bytes l),.i q30] [.i (4 : Int)] [.i (4 : Int)] (some (44,998)) ((true = true) ∧ True) (True ∧ True) none rok21 ent21 hnt rfl rfl (wanted_if (t := 52) (gx := .b true) rfl rfl (by kernel_rfl) (by kernel_rfl)) (by kernel_rfl) (by kernel_rfl) (by kernel_rfl) ⟨⟨rfl,tt⟩,tt,tt⟩
      (@cast (0 ≤ q30 ∧ q30 ≤ 1000000) _ (by kernel_rfl) (by omega)) (Or.inl rfl) rfl ?_
     rintro r bl fx2 hR
     obtain ⟨⟨v54,q54⟩,hq54,rfl,rfl,rfl⟩ := (@cast _ (∃ x : Int × Int,((0 ≤ x.1 ∧ x.1 < max (4 : Int) 1) ∧ (x.2 = q30 + 1)) ∧ r = (.i x.1) ∧ bl = ([]) ∧ fx2 = ([.sl (.bytes l),.i x.2])) (by kernel_rfl) hR)
     clear hR
     replace hq54 : (0 ≤ v54 ∧ v54 < max (4 : Int) 1) ∧ (q54 = q30 + 1) := hq54
     obtain ⟨hv54,hq154⟩ := hq54
     refine ⟨by kernel_rfl,WI.to (⟨[(0,.ptr 998 0),(3,.own 8 o.length),(4,.i value2),(5,.i now2),(6,.i n),(7,.ptr 7 0),(49,.ptr 7 2),(50,.i f2),(51,.b true),(52,.b true),(53,.g true (.ptr 998 0)),(54,.i v54)],[(7,⟨35,.fix [.i f0,.i f1,.i f2,.i f3,.i f4,.i f5,.i f6]⟩),(8,⟨35,.row (.calls o)⟩),(998,⟨44,.fix [.sl (.bytes l),.i q54]⟩)],[54,7,8,998,999]⟩) 6 (by kernel_rfl) rfl ?_⟩
     refine WI.runT cok tab11 hnt [] 1 7 (⟨[(0,.ptr 998 0),(3,.own 8 o.length),(4,.i value2),(5,.i now2),(6,.i n),(7,.ptr 7 0),(49,.ptr 7 2),(50,.i f2),(51,.b true),(52,.b true),(53,.g true (.ptr 998 0)),(54,.i v54),(55,.g true (.b (decide (v54 = (0 : Int)))))],[(7,⟨35,.fix [.i f0,.i f1,.i f2,.i f3,.i f4,.i f5,.i f6]⟩),(8,⟨35,.row (.calls o)⟩),(998,⟨44,.fix [.sl (.bytes l),.i q54]⟩)],[54,7,8,998,999]⟩)
      ((true = true → (True ∧ (True ∧ True))) ∧ True) (by kernel_rfl) rfl
      ⟨(fun _ => ⟨tt,tt,tt⟩),tt⟩ ?_
     refine WI.pickL true (.b true) (.g true (.b (decide (v54 = (0 : Int))))) rfl hnt (wanted_none rfl) rfl (by kernel_rfl) rfl trivial (by kernel_rfl) ⟨rfl,tt⟩ rfl ?_
     refine WI.to (⟨[(0,.ptr 998 0),(3,.own 8 o.length),(4,.i value2),(5,.i now2),(6,.i n),(7,.ptr 7 0),(49,.ptr 7 2),(50,.i f2),(51,.b true),(52,.b true),(53,.g true (.ptr 998 0)),(54,.i v54),(55,.g true (.b (decide (v54 = (0 : Int))))),(56,.b (decide (v54 = (0 : Int))))],[(7,⟨35,.fix [.i f0,.i f1,.i f2,.i f3,.i f4,.i f5,.i f6]⟩),(8,⟨35,.row (.calls o)⟩),(998,⟨44,.fix [.sl (.bytes l),.i q54]⟩)],[54,7,8,998,999]⟩) 8 (by kernel_rfl) rfl ?_
     refine WI.nil rfl (thenQ_normal ?_)
     refine W.keepE [0,3,4,5,6,7,56] [(0,.ptr 998 0),(3,.own 8 o.length),(4,.i value2),(5,.i now2),(6,.i n),(7,.ptr 7 0),(56,.b (decide (v54 = (0 : Int))))] (by kernel_rfl) ?_
     refine W.to (⟨[(0,.ptr 998 0),(3,.own 8 o.length),(4,.i value2),(5,.i now2),(6,.i n),(7,.ptr 7 0),(56,.b (decide (v54 = (0 : Int))))],[(7,⟨35,.fix [.i f0,.i f1,.i f2,.i f3,.i f4,.i f5,.i f6]⟩),(8,⟨35,.row (.calls o)⟩),(998,⟨44,.fix [.sl (.bytes l),.i q54]⟩)],[54,7,8,998,999]⟩) rfl ?_
     refine W.ifP (v54 = (0 : Int)) (.b (decide (v54 = (0 : Int)))) (by kernel_rfl) rfl trivial ?_ ?_
     ·intro h56
      refine W.wi ?_
      refine WI.runT cok tab11 hnt [] 3 3 (⟨[(0,.ptr 998 0),(3,.own 8 o.length),(4,.i value2),(5,.i now2),(6,.i n),(7,.ptr 7 0),(56,.b (decide (v54 = (0 : Int)))),(57,.ptr 998 0),(58,.i value2),(59,.i (value2 + (2 : Int)))],[(7,⟨35,.fix [.i f0,.i f1,.i f2,.i f3,.i f4,.i f5,.i f6]⟩),(8,⟨35,.row (.calls o)⟩),(998,⟨44,.fix [.sl (.bytes l),.i q54]⟩)],[54,7,8,998,999]⟩)
       (True ∧ True ∧ (True ∧ True ∧ (Fits .i64 (value2 + (2 : Int)))) ∧ True) (by kernel_rfl) rfl
       ⟨tt,tt,⟨tt,tt,(by exact fits_i64 (by omega) (by omega))⟩,tt⟩ ?_
      refine WI.call [.ptr 998 0,.i (value2 + (2 : Int))] [.sl (.bytes l),.i q54] [.i (value2 + (2 : Int))] [.i (value2 + (2 : Int))] (some (44,998)) (True) (True ∧ True) none rok21 ent21 hnt rfl rfl (wanted_none rfl) (by kernel_rfl) (by kernel_rfl) (by kernel_rfl) ⟨tt,tt,tt⟩
       (@cast (0 ≤ q54 ∧ q54 ≤ 1000000) _ (by kernel_rfl) (by omega)) (Or.inl rfl) rfl ?_
      rintro r bl fx2 hR
      obtain ⟨⟨v60,q60⟩,hq60,rfl,rfl,rfl⟩ := (@cast _ (∃ x : Int × Int,((0 ≤ x.1 ∧ x.1 < max (value2 + (2 : Int)) 1) ∧ (x.2 = q54 + 1)) ∧ r = (.i x.1) ∧ bl = ([]) ∧ fx2 = ([.sl (.bytes l),.i x.2])) (by kernel_rfl) hR)
      clear hR
      replace hq60 : (0 ≤ v60 ∧ v60 < max (value2 + (2 : Int)) 1) ∧ (q60 = q54 + 1) := hq60
      obtain ⟨hv60,hq160⟩ := hq60
      refine ⟨by kernel_rfl,WI.to (⟨[(0,.ptr 998 0),(3,.own 8 o.length),(4,.i value2),(5,.i now2),(6,.i n),(7,.ptr 7 0),(56,.b (decide (v54 = (0 : Int)))),(57,.ptr 998 0),(58,.i value2),(59,.i (value2 + (2 : Int))),(60,.i v60)],[(7,⟨35,.fix [.i f0,.i f1,.i f2,.i f3,.i f4,.i f5,.i f6]⟩),(8,⟨35,.row (.calls o)⟩),(998,⟨44,.fix [.sl (.bytes l),.i q60]⟩)],[60,54,7,8,998,999]⟩) 4 (by kernel_rfl) rfl ?_⟩
      refine WI.runT cok tab11 hnt [] 2 6 (⟨[(0,.ptr 998 0),(3,.own 8 o.length),(4,.i value2),(5,.i now2),(6,.i n),(7,.ptr 7 0),(56,.b (decide (v54 = (0 : Int)))),(57,.ptr 998 0),(58,.i value2),(59,.i (value2 + (2 : Int))),(60,.i v60),(61,.ptr 7 4)],[(7,⟨35,.fix [.i f0,.i f1,.i f2,.i f3,.i v60,.i f5,.i f6]⟩),(8,⟨35,.row (.calls o)⟩),(998,⟨44,.fix [.sl (.bytes l),.i q60]⟩)],[60,54,7,8,998,999]⟩)
       (True ∧ (True ∧ True) ∧ True) (by kernel_rfl) rfl
       ⟨tt,⟨tt,tt⟩,tt⟩ ?_
      refine WI.nil rfl ?_
      refine thenQ_normal ?_
      refine Lk cok tab11 hnt [65] (⟨[(0,.ptr 998 0),(3,.own 65 (List.length (o ++ ([(⟨f0,f1,f2,f3,v60,f5,f6⟩ : CallD)])))),(4,.i value2),(5,.i now2),(6,.i n),(7,.ptr 7 0),(56,.b (decide (v54 = (0 : Int)))),(57,.ptr 998 0),(58,.i value2),(59,.i (value2 + (2 : Int))),(60,.i v60),(61,.ptr 7 4),(62,.own 8 o.length),(63,.agg [.i f0,.i f1,.i f2,.i f3,.i v60,.i f5,.i f6]),(64,.sl (.calls ([(⟨f0,f1,f2,f3,v60,f5,f6⟩ : CallD)]))),(65,.own 65 (List.length (o ++ ([(⟨f0,f1,f2,f3,v60,f5,f6⟩ : CallD)]))))],[(7,⟨35,.fix [.i f0,.i f1,.i f2,.i f3,.i v60,.i f5,.i f6]⟩),(65,⟨35,.row (.calls (o ++ ([(⟨f0,f1,f2,f3,v60,f5,f6⟩ : CallD)])))⟩),(998,⟨44,.fix [.sl (.bytes l),.i q60]⟩)],[65,64,60,54,7,8,998,999]⟩)
       (True ∧ True ∧ (True ∧ True) ∧ ((True ∧ (o.length = o.length)) ∧ True ∧ ((o.length + (List.length ([(⟨f0,f1,f2,f3,v60,f5,f6⟩ : CallD)]))) * 56 ≤ 140737488355328)) ∧ True ∧ True)
       ⟨tt,tt,⟨tt,tt⟩,⟨⟨tt,rfl⟩,tt,(by (first | omega | (simp only [List.length_set]; done) | (simp only [List.length_append,List.length_cons,List.length_nil,List.length_take,List.length_drop,List.length_set,List.length_replicate,List.length_map] at *; omega) | assumption))⟩,tt,tt⟩ ?_
      refine blockQ_normal (thenQ_normal ?_)
      refine Lk cok tab11 hnt [] (⟨[(0,.ptr 998 0),(3,.own 65 (List.length (o ++ ([(⟨f0,f1,f2,f3,v60,f5,f6⟩ : CallD)])))),(4,.i value2),(5,.i now2),(6,.i (n - (1 : Int))),(7,.ptr 7 0),(14,.i n),(15,.i (n - (1 : Int))),(56,.b (decide (v54 = (0 : Int)))),(57,.ptr 998 0),(58,.i value2),(59,.i (value2 + (2 : Int))),(60,.i v60),(61,.ptr 7 4),(62,.own 8 o.length),(63,.agg [.i f0,.i f1,.i f2,.i f3,.i v60,.i f5,.i f6]),(64,.sl (.calls ([(⟨f0,f1,f2,f3,v60,f5,f6⟩ : CallD)]))),(65,.own 65 (List.length (o ++ ([(⟨f0,f1,f2,f3,v60,f5,f6⟩ : CallD)]))))],[(7,⟨35,.fix [.i f0,.i f1,.i f2,.i f3,.i v60,.i f5,.i f6]⟩),(65,⟨35,.row (.calls (o ++ ([(⟨f0,f1,f2,f3,v60,f5,f6⟩ : CallD)])))⟩),(998,⟨44,.fix [.sl (.bytes l),.i q60]⟩)],[65,64,60,54,7,8,998,999]⟩)
       (True ∧ (True ∧ True ∧ (Fits .i64 (n - (1 : Int)))) ∧ True ∧ True)
       ⟨tt,⟨tt,tt,(by exact fits_i64 (by omega) (by omega))⟩,tt,tt⟩ ?_
      refine thenQ_normal ?_
      refine ⟨((o ++ ([(⟨f0,f1,f2,f3,v60,f5,f6⟩ : CallD)])),value2,now2,(n - (1 : Int)),q60),(show (GoodH (o ++ ([(⟨f0,f1,f2,f3,v60,f5,f6⟩ : CallD)]))) ∧ ((n - (1 : Int)) + (o ++ ([(⟨f0,f1,f2,f3,v60,f5,f6⟩ : CallD)])).length ≤ 6) ∧ (0 ≤ value2 ∧ value2 ≤ 3) ∧ (p + 1 ≤ q60 ∧ q60 ≤ p + 1 + 6 * (o ++ ([(⟨f0,f1,f2,f3,v60,f5,f6⟩ : CallD)])).length) from ⟨(by exact ho.snoc (by omega) (by unfold smallC; simp only; omega)),(by simp only [List.length_append,List.length_cons,List.length_nil]; omega),(by first | assumption | omega | rfl | (intro _ hjj; omega) | (simp; done) | (simp; omega)),(by simp only [List.length_append,List.length_cons,List.length_nil]; omega)⟩),(show (n - (1 : Int)).toNat < n.toNat from (by first | omega | (simp_all; omega))),?_⟩
      exact Sub.of [(8,65)] (@cast (((((998 : Nat) = 998) ∧ ((0 : Nat) = 0) ∧ ((998 : Nat) ∈ ([8,998,999] : List Nat))) ∧ (((65 : Nat) = 65) ∧ ((List.length (o ++ ([(⟨f0,f1,f2,f3,v60,f5,f6⟩ : CallD)]))) = (List.length (o ++ ([(⟨f0,f1,f2,f3,v60,f5,f6⟩ : CallD)])))) ∧ ((8 : Nat) ∈ ([8,998,999] : List Nat))) ∧ (Si value2) ∧ (Si now2) ∧ (Si (n - (1 : Int))) ∧ True) ∧ ((((35 : Nat) = 35) ∧ (Sd (.calls (o ++ ([(⟨f0,f1,f2,f3,v60,f5,f6⟩ : CallD)])))) ∧ ((8 : Nat) ∈ ([8,998,999] : List Nat))) ∧ (((44 : Nat) = 44) ∧ ((Sd (.bytes l)) ∧ (Si q60) ∧ True) ∧ ((998 : Nat) ∈ ([8,998,999] : List Nat))) ∧ True) ∧ (true = true) ∧ (true = true)) _ (by kernel_rfl) ⟨⟨⟨rfl,rfl,(by decide)⟩,⟨rfl,rfl,(by decide)⟩,rfl,rfl,rfl,tt⟩,⟨⟨rfl,rfl,(by decide)⟩,⟨rfl,⟨rfl,rfl,tt⟩,(by decide)⟩,tt⟩,rfl,rfl⟩)
     ·intro n56
      refine W.skip (thenQ_normal ?_)
      refine Lk cok tab11 hnt [65] (⟨[(0,.ptr 998 0),(3,.own 65 (List.length (o ++ ([(⟨f0,f1,f2,f3,f4,f5,f6⟩ : CallD)])))),(4,.i value2),(5,.i now2),(6,.i n),(7,.ptr 7 0),(56,.b (decide (v54 = (0 : Int)))),(62,.own 8 o.length),(63,.agg [.i f0,.i f1,.i f2,.i f3,.i f4,.i f5,.i f6]),(64,.sl (.calls ([(⟨f0,f1,f2,f3,f4,f5,f6⟩ : CallD)]))),(65,.own 65 (List.length (o ++ ([(⟨f0,f1,f2,f3,f4,f5,f6⟩ : CallD)]))))],[(7,⟨35,.fix [.i f0,.i f1,.i f2,.i f3,.i f4,.i f5,.i f6]⟩),(65,⟨35,.row (.calls (o ++ ([(⟨f0,f1,f2,f3,f4,f5,f6⟩ : CallD)])))⟩),(998,⟨44,.fix [.sl (.bytes l),.i q54]⟩)],[65,64,54,7,8,998,999]⟩)
       (True ∧ True ∧ (True ∧ True) ∧ ((True ∧ (o.length = o.length)) ∧ True ∧ ((o.length + (List.length ([(⟨f0,f1,f2,f3,f4,f5,f6⟩ : CallD)]))) * 56 ≤ 140737488355328)) ∧ True ∧ True)
       ⟨tt,tt,⟨tt,tt⟩,⟨⟨tt,rfl⟩,tt,(by (first | omega | (simp only [List.length_set]; done) | (simp only [List.length_append,List.length_cons,List.length_nil,List.length_take,List.length_drop,List.length_set,List.length_replicate,List.length_map] at *; omega) | assumption))⟩,tt,tt⟩ ?_
      refine blockQ_normal (thenQ_normal ?_)
      refine Lk cok tab11 hnt [] (⟨[(0,.ptr 998 0),(3,.own 65 (List.length (o ++ ([(⟨f0,f1,f2,f3,f4,f5,f6⟩ : CallD)])))),(4,.i value2),(5,.i now2),(6,.i (n - (1 : Int))),(7,.ptr 7 0),(14,.i n),(15,.i (n - (1 : Int))),(56,.b (decide (v54 = (0 : Int)))),(62,.own 8 o.length),(63,.agg [.i f0,.i f1,.i f2,.i f3,.i f4,.i f5,.i f6]),(64,.sl (.calls ([(⟨f0,f1,f2,f3,f4,f5,f6⟩ : CallD)]))),(65,.own 65 (List.length (o ++ ([(⟨f0,f1,f2,f3,f4,f5,f6⟩ : CallD)]))))],[(7,⟨35,.fix [.i f0,.i f1,.i f2,.i f3,.i f4,.i f5,.i f6]⟩),(65,⟨35,.row (.calls (o ++ ([(⟨f0,f1,f2,f3,f4,f5,f6⟩ : CallD)])))⟩),(998,⟨44,.fix [.sl (.bytes l),.i q54]⟩)],[65,64,54,7,8,998,999]⟩)
       (True ∧ (True ∧ True ∧ (Fits .i64 (n - (1 : Int)))) ∧ True ∧ True)
       ⟨tt,⟨tt,tt,(by exact fits_i64 (by omega) (by omega))⟩,tt,tt⟩ ?_
      refine thenQ_normal ?_
      refine ⟨((o ++ ([(⟨f0,f1,f2,f3,f4,f5,f6⟩ : CallD)])),value2,now2,(n - (1 : Int)),q54),(show (GoodH (o ++ ([(⟨f0,f1,f2,f3,f4,f5,f6⟩ : CallD)]))) ∧ ((n - (1 : Int)) + (o ++ ([(⟨f0,f1,f2,f3,f4,f5,f6⟩ : CallD)])).length ≤ 6) ∧ (0 ≤ value2 ∧ value2 ≤ 3) ∧ (p + 1 ≤ q54 ∧ q54 ≤ p + 1 + 6 * (o ++ ([(⟨f0,f1,f2,f3,f4,f5,f6⟩ : CallD)])).length) from ⟨(by exact ho.snoc (by omega) (by unfold smallC; simp only; omega)),(by simp only [List.length_append,List.length_cons,List.length_nil]; omega),(by first | assumption | omega | rfl | (intro _ hjj; omega) | (simp; done) | (simp; omega)),(by simp only [List.length_append,List.length_cons,List.length_nil]; omega)⟩),(show (n - (1 : Int)).toNat < n.toNat from (by first | omega | (simp_all; omega))),?_⟩
      exact Sub.of [(8,65)] (@cast (((((998 : Nat) = 998) ∧ ((0 : Nat) = 0) ∧ ((998 : Nat) ∈ ([8,998,999] : List Nat))) ∧ (((65 : Nat) = 65) ∧ ((List.length (o ++ ([(⟨f0,f1,f2,f3,f4,f5,f6⟩ : CallD)]))) = (List.length (o ++ ([(⟨f0,f1,f2,f3,f4,f5,f6⟩ : CallD)])))) ∧ ((8 : Nat) ∈ ([8,998,999] : List Nat))) ∧ (Si value2) ∧ (Si now2) ∧ (Si (n - (1 : Int))) ∧ True) ∧ ((((35 : Nat) = 35) ∧ (Sd (.calls (o ++ ([(⟨f0,f1,f2,f3,f4,f5,f6⟩ : CallD)])))) ∧ ((8 : Nat) ∈ ([8,998,999] : List Nat))) ∧ (((44 : Nat) = 44) ∧ ((Sd (.bytes l)) ∧ (Si q54) ∧ True) ∧ ((998 : Nat) ∈ ([8,998,999] : List Nat))) ∧ True) ∧ (true = true) ∧ (true = true)) _ (by kernel_rfl) ⟨⟨⟨rfl,rfl,(by decide)⟩,⟨rfl,rfl,(by decide)⟩,rfl,rfl,rfl,tt⟩,⟨⟨rfl,rfl,(by decide)⟩,⟨rfl,⟨rfl,rfl,tt⟩,(by decide)⟩,tt⟩,rfl,rfl⟩)
    ·skip
     have hT54_0 : ¬ (f2 = (2 : Int)) := of_decide_eq_false hT54
     refine WI.to (⟨[(0,.ptr 998 0),(3,.own 8 o.length),(4,.i value2),(5,.i now2),(6,.i n),(7,.ptr 7 0),(49,.ptr 7 2),(50,.i f2),(51,.b false),(52,.b false),(53,.g false (.ptr 998 0))],[(7,⟨35,.fix [.i f0,.i f1,.i f2,.i f3,.i f4,.i f5,.i f6]⟩),(8,⟨35,.row (.calls o)⟩),(998,⟨44,.fix [.sl (.bytes l),.i q30]⟩)],[7,8,998,999]⟩) 5 (congrArg (fun z => (⟨[(0,.ptr 998 0),(3,.own 8 o.length),(4,.i value2),(5,.i now2),(6,.i n),(7,.ptr 7 0),(49,.ptr 7 2),(50,.i f2),(51,.b z),(52,.b z),(53,.g z (.ptr 998 0))],[(7,⟨35,.fix [.i f0,.i f1,.i f2,.i f3,.i f4,.i f5,.i f6]⟩),(8,⟨35,.row (.calls o)⟩),(998,⟨44,.fix [.sl (.bytes l),.i q30]⟩)],[7,8,998,999]⟩ : St)) hT54) rfl ?_
     refine WI.pass rfl hnt (wanted_if (t := 52) (gx := .b false) rfl rfl (by kernel_rfl) (by kernel_rfl)) rfl ?_
     refine WI.to (⟨[(0,.ptr 998 0),(3,.own 8 o.length),(4,.i value2),(5,.i now2),(6,.i n),(7,.ptr 7 0),(49,.ptr 7 2),(50,.i f2),(51,.b false),(52,.b false),(53,.g false (.ptr 998 0)),(54,.any)],[(7,⟨35,.fix [.i f0,.i f1,.i f2,.i f3,.i f4,.i f5,.i f6]⟩),(8,⟨35,.row (.calls o)⟩),(998,⟨44,.fix [.sl (.bytes l),.i q30]⟩)],[7,8,998,999]⟩) 6 (by kernel_rfl) rfl ?_
     refine WI.pass rfl hnt (wanted_if (t := 52) (gx := .b false) rfl rfl (by kernel_rfl) (by kernel_rfl)) rfl ?_
     refine WI.to (⟨[(0,.ptr 998 0),(3,.own 8 o.length),(4,.i value2),(5,.i now2),(6,.i n),(7,.ptr 7 0),(49,.ptr 7 2),(50,.i f2),(51,.b false),(52,.b false),(53,.g false (.ptr 998 0)),(54,.any),(55,.any)],[(7,⟨35,.fix [.i f0,.i f1,.i f2,.i f3,.i f4,.i f5,.i f6]⟩),(8,⟨35,.row (.calls o)⟩),(998,⟨44,.fix [.sl (.bytes l),.i q30]⟩)],[7,8,998,999]⟩) 7 (by kernel_rfl) rfl ?_
     refine WI.pickL false (.b false) (.b false) rfl hnt (wanted_none rfl) rfl (by kernel_rfl) rfl trivial (by kernel_rfl) trivial rfl ?_
     refine WI.to (⟨[(0,.ptr 998 0),(3,.own 8 o.length),(4,.i value2),(5,.i now2),(6,.i n),(7,.ptr 7 0),(49,.ptr 7 2),(50,.i f2),(51,.b false),(52,.b false),(53,.g false (.ptr 998 0)),(54,.any),(55,.any),(56,.b false)],[(7,⟨35,.fix [.i f0,.i f1,.i f2,.i f3,.i f4,.i f5,.i f6]⟩),(8,⟨35,.row (.calls o)⟩),(998,⟨44,.fix [.sl (.bytes l),.i q30]⟩)],[7,8,998,999]⟩) 8 (by kernel_rfl) rfl ?_
     refine WI.nil rfl (thenQ_normal ?_)
     refine W.keepE [0,3,4,5,6,7,56] [(0,.ptr 998 0),(3,.own 8 o.length),(4,.i value2),(5,.i now2),(6,.i n),(7,.ptr 7 0),(56,.b false)] (by kernel_rfl) ?_
     refine W.to (⟨[(0,.ptr 998 0),(3,.own 8 o.length),(4,.i value2),(5,.i now2),(6,.i n),(7,.ptr 7 0),(56,.b false)],[(7,⟨35,.fix [.i f0,.i f1,.i f2,.i f3,.i f4,.i f5,.i f6]⟩),(8,⟨35,.row (.calls o)⟩),(998,⟨44,.fix [.sl (.bytes l),.i q30]⟩)],[7,8,998,999]⟩) rfl ?_
     refine W.ifF (.b false) (by kernel_rfl) rfl trivial ?_
     refine W.skip (thenQ_normal ?_)
     refine Lk cok tab11 hnt [65] (⟨[(0,.ptr 998 0),(3,.own 65 (List.length (o ++ ([(⟨f0,f1,f2,f3,f4,f5,f6⟩ : CallD)])))),(4,.i value2),(5,.i now2),(6,.i n),(7,.ptr 7 0),(56,.b false),(62,.own 8 o.length),(63,.agg [.i f0,.i f1,.i f2,.i f3,.i f4,.i f5,.i f6]),(64,.sl (.calls ([(⟨f0,f1,f2,f3,f4,f5,f6⟩ : CallD)]))),(65,.own 65 (List.length (o ++ ([(⟨f0,f1,f2,f3,f4,f5,f6⟩ : CallD)]))))],[(7,⟨35,.fix [.i f0,.i f1,.i f2,.i f3,.i f4,.i f5,.i f6]⟩),(65,⟨35,.row (.calls (o ++ ([(⟨f0,f1,f2,f3,f4,f5,f6⟩ : CallD)])))⟩),(998,⟨44,.fix [.sl (.bytes l),.i q30]⟩)],[65,64,7,8,998,999]⟩)
      (True ∧ True ∧ (True ∧ True) ∧ ((True ∧ (o.length = o.length)) ∧ True ∧ ((o.length + (List.length ([(⟨f0,f1,f2,f3,f4,f5,f6⟩ : CallD)]))) * 56 ≤ 140737488355328)) ∧ True ∧ True)
      ⟨tt,tt,⟨tt,tt⟩,⟨⟨tt,rfl⟩,tt,(by (first | omega | (simp only [List.length_set]; done) | (simp only [List.length_append,List.length_cons,List.length_nil,List.length_take,List.length_drop,List.length_set,List.length_replicate,List.length_map] at *; omega) | assumption))⟩,tt,tt⟩ ?_
     refine blockQ_normal (thenQ_normal ?_)
     refine Lk cok tab11 hnt [] (⟨[(0,.ptr 998 0),(3,.own 65 (List.length (o ++ ([(⟨f0,f1,f2,f3,f4,f5,f6⟩ : CallD)])))),(4,.i value2),(5,.i now2),(6,.i (n - (1 : Int))),(7,.ptr 7 0),(14,.i n),(15,.i (n - (1 : Int))),(56,.b false),(62,.own 8 o.length),(63,.agg [.i f0,.i f1,.i f2,.i f3,.i f4,.i f5,.i f6]),(64,.sl (.calls ([(⟨f0,f1,f2,f3,f4,f5,f6⟩ : CallD)]))),(65,.own 65 (List.length (o ++ ([(⟨f0,f1,f2,f3,f4,f5,f6⟩ : CallD)]))))],[(7,⟨35,.fix [.i f0,.i f1,.i f2,.i f3,.i f4,.i f5,.i f6]⟩),(65,⟨35,.row (.calls (o ++ ([(⟨f0,f1,f2,f3,f4,f5,f6⟩ : CallD)])))⟩),(998,⟨44,.fix [.sl (.bytes l),.i q30]⟩)],[65,64,7,8,998,999]⟩)
      (True ∧ (True ∧ True ∧ (Fits .i64 (n - (1 : Int)))) ∧ True ∧ True)
      ⟨tt,⟨tt,tt,(by exact fits_i64 (by omega) (by omega))⟩,tt,tt⟩ ?_
     refine thenQ_normal ?_
     refine ⟨((o ++ ([(⟨f0,f1,f2,f3,f4,f5,f6⟩ : CallD)])),value2,now2,(n - (1 : Int)),q30),(show (GoodH (o ++ ([(⟨f0,f1,f2,f3,f4,f5,f6⟩ : CallD)]))) ∧ ((n - (1 : Int)) + (o ++ ([(⟨f0,f1,f2,f3,f4,f5,f6⟩ : CallD)])).length ≤ 6) ∧ (0 ≤ value2 ∧ value2 ≤ 3) ∧ (p + 1 ≤ q30 ∧ q30 ≤ p + 1 + 6 * (o ++ ([(⟨f0,f1,f2,f3,f4,f5,f6⟩ : CallD)])).length) from ⟨(by exact ho.snoc (by omega) (by unfold smallC; simp only; omega)),(by simp only [List.length_append,List.length_cons,List.length_nil]; omega),(by first | assumption | omega | rfl | (intro _ hjj; omega) | (simp; done) | (simp; omega)),(by simp only [List.length_append,List.length_cons,List.length_nil]; omega)⟩),(show (n - (1 : Int)).toNat < n.toNat from (by first | omega | (simp_all; omega))),?_⟩
     exact Sub.of [(8,65)] (@cast (((((998 : Nat) = 998) ∧ ((0 : Nat) = 0) ∧ ((998 : Nat) ∈ ([8,998,999] : List Nat))) ∧ (((65 : Nat) = 65) ∧ ((List.length (o ++ ([(⟨f0,f1,f2,f3,f4,f5,f6⟩ : CallD)]))) = (List.length (o ++ ([(⟨f0,f1,f2,f3,f4,f5,f6⟩ : CallD)])))) ∧ ((8 : Nat) ∈ ([8,998,999] : List Nat))) ∧ (Si value2) ∧ (Si now2) ∧ (Si (n - (1 : Int))) ∧ True) ∧ ((((35 : Nat) = 35) ∧ (Sd (.calls (o ++ ([(⟨f0,f1,f2,f3,f4,f5,f6⟩ : CallD)])))) ∧ ((8 : Nat) ∈ ([8,998,999] : List Nat))) ∧ (((44 : Nat) = 44) ∧ ((Sd (.bytes l)) ∧ (Si q30) ∧ True) ∧ ((998 : Nat) ∈ ([8,998,999] : List Nat))) ∧ True) ∧ (true = true) ∧ (true = true)) _ (by kernel_rfl) ⟨⟨⟨rfl,rfl,(by decide)⟩,⟨rfl,rfl,(by decide)⟩,rfl,rfl,rfl,tt⟩,⟨⟨rfl,rfl,(by decide)⟩,⟨rfl,⟨rfl,rfl,tt⟩,(by decide)⟩,tt⟩,rfl,rfl⟩)
  ·intro n13
   refine W.exit (thenQ_exit (thenQ_exit (blockQ_hit ?_)))
   refine thenQ_normal ?_
   refine W.seq (W.wi ?_)
   refine WI.runT cok tab11 hnt [] 3 3 (⟨[(0,.ptr 998 0),(3,.own 8 o.length),(4,.i value),(5,.i now),(6,.i n),(13,.b (decide ((0 : Int) < n))),(66,.ptr 998 0),(67,.ptr 998 0),(68,.own 8 o.length)],[(8,⟨35,.row (.calls o)⟩),(998,⟨44,.fix [.sl (.bytes l),.i p1]⟩)],[8,998,999]⟩)
    (True ∧ True ∧ True ∧ True) (by kernel_rfl) rfl
    ⟨tt,tt,tt,tt⟩ ?_
   refine WI.call [.ptr 998 0,.own 8 o.length] [.sl (.bytes l),.i p1] [.own 8 o.length] [.sl (.calls o)] (some (44,998)) (True) ((True ∧ (o.length = o.length)) ∧ True) (some 8) rok23 ent23 hnt rfl rfl (wanted_none rfl) (by kernel_rfl) (by kernel_rfl) (by kernel_rfl) ⟨tt,⟨tt,rfl⟩,tt⟩
    (@cast ((0 ≤ p1 ∧ p1 ≤ 900000) ∧ (GoodH o)) _ (by kernel_rfl) ⟨(by omega),(by omega)⟩) (Or.inr (by decide)) rfl ?_
   rintro r bl fx2 hR
   obtain ⟨⟨g69,q69⟩,hq69,rfl,rfl,rfl⟩ := (@cast _ (∃ x : (List CallD) × Int,((GoodH x.1) ∧ (p1 ≤ x.2 ∧ x.2 ≤ p1 + 1000)) ∧ r = (.own 1 (List.length x.1)) ∧ bl = ([⟨35,.row (.calls x.1)⟩]) ∧ fx2 = ([.sl (.bytes l),.i x.2])) (by kernel_rfl) hR)
   clear hR
   replace hq69 : (GoodH g69) ∧ (p1 ≤ q69 ∧ q69 ≤ p1 + 1000) := hq69
   obtain ⟨hg69,hq169⟩ := hq69
   refine ⟨by kernel_rfl,WI.to (⟨[(0,.ptr 998 0),(3,.own 8 o.length),(4,.i value),(5,.i now),(6,.i n),(13,.b (decide ((0 : Int) < n))),(66,.ptr 998 0),(67,.ptr 998 0),(68,.own 8 o.length),(69,.own 1069 g69.length)],[(998,⟨44,.fix [.sl (.bytes l),.i q69]⟩),(1069,⟨35,.row (.calls g69)⟩)],[1069,69,8,998,999]⟩) 4 (by kernel_rfl) rfl ?_⟩
   refine WI.call [.ptr 998 0,.own 1069 g69.length] [.sl (.bytes l),.i q69] [.own 1069 g69.length] [.sl (.calls g69)] (some (44,998)) (True) ((True ∧ (g69.length = g69.length)) ∧ True) (some 1069) rok23 ent23 hnt rfl rfl (wanted_none rfl) (by kernel_rfl) (by kernel_rfl) (by kernel_rfl) ⟨tt,⟨tt,rfl⟩,tt⟩
    (@cast ((0 ≤ q69 ∧ q69 ≤ 900000) ∧ (GoodH g69)) _ (by kernel_rfl) ⟨(by omega),(by omega)⟩) (Or.inr (by decide)) rfl ?_
   rintro r bl fx2 hR
   obtain ⟨⟨g70,q70⟩,hq70,rfl,rfl,rfl⟩ := (@cast _ (∃ x : (List CallD) × Int,((GoodH x.1) ∧ (q69 ≤ x.2 ∧ x.2 ≤ q69 + 1000)) ∧ r = (.own 1 (List.length x.1)) ∧ bl = ([⟨35,.row (.calls x.1)⟩]) ∧ fx2 = ([.sl (.bytes l),.i x.2])) (by kernel_rfl) hR)
   clear hR
   replace hq70 : (GoodH g70) ∧ (q69 ≤ q70 ∧ q70 ≤ q69 + 1000) := hq70
   obtain ⟨hg70,hq170⟩ := hq70
   refine ⟨by kernel_rfl,WI.to (⟨[(0,.ptr 998 0),(3,.own 8 o.length),(4,.i value),(5,.i now),(6,.i n),(13,.b (decide ((0 : Int) < n))),(66,.ptr 998 0),(67,.ptr 998 0),(68,.own 8 o.length),(69,.own 1069 g69.length),(70,.own 1070 g70.length)],[(998,⟨44,.fix [.sl (.bytes l),.i q70]⟩),(1070,⟨35,.row (.calls g70)⟩)],[1070,70,1069,69,8,998,999]⟩) 5 (by kernel_rfl) rfl ?_⟩
   refine WI.runT cok tab11 hnt [] 1 6 (⟨[(0,.ptr 998 0),(3,.own 1070 g70.length),(4,.i value),(5,.i now),(6,.i n),(13,.b (decide ((0 : Int) < n))),(66,.ptr 998 0),(67,.ptr 998 0),(68,.own 8 o.length),(69,.own 1069 g69.length),(70,.own 1070 g70.length)],[(998,⟨44,.fix [.sl (.bytes l),.i q70]⟩),(1070,⟨35,.row (.calls g70)⟩)],[1070,70,1069,69,8,998,999]⟩)
    (True ∧ True) (by kernel_rfl) rfl
    ⟨tt,tt⟩ ?_
   refine WI.nil rfl (thenQ_normal ?_)
   refine W.keepE [0,3] [(0,.ptr 998 0),(3,.own 1070 g70.length)] (by kernel_rfl) ?_
   refine W.to (⟨[(0,.ptr 998 0),(3,.own 1070 g70.length)],[(998,⟨44,.fix [.sl (.bytes l),.i q70]⟩),(1070,⟨35,.row (.calls g70)⟩)],[1070,70,1069,69,8,998,999]⟩) rfl ?_
   refine W.seq ?_
   refine W.seq (W.wi ?_)
   refine WI.runT cok tab11 hnt [] 1 1 (⟨[(0,.ptr 998 0),(3,.own 1070 g70.length),(71,.ptr 998 0)],[(998,⟨44,.fix [.sl (.bytes l),.i q70]⟩),(1070,⟨35,.row (.calls g70)⟩)],[1070,70,1069,69,8,998,999]⟩)
    (True ∧ True) (by kernel_rfl) rfl
    ⟨tt,tt⟩ ?_
   refine WI.call [.ptr 998 0,.i (16 : Int)] [.sl (.bytes l),.i q70] [.i (16 : Int)] [.i (16 : Int)] (some (44,998)) (True) (True ∧ True) none rok21 ent21 hnt rfl rfl (wanted_none rfl) (by kernel_rfl) (by kernel_rfl) (by kernel_rfl) ⟨tt,tt,tt⟩
    (@cast (0 ≤ q70 ∧ q70 ≤ 1000000) _ (by kernel_rfl) (by omega)) (Or.inl rfl) rfl ?_
   rintro r bl fx2 hR
   obtain ⟨⟨v72,q72⟩,hq72,rfl,rfl,rfl⟩ := (@cast _ (∃ x : Int × Int,((0 ≤ x.1 ∧ x.1 < max (16 : Int) 1) ∧ (x.2 = q70 + 1)) ∧ r = (.i x.1) ∧ bl = ([]) ∧ fx2 = ([.sl (.bytes l),.i x.2])) (by kernel_rfl) hR)
   clear hR
   replace hq72 : (0 ≤ v72 ∧ v72 < max (16 : Int) 1) ∧ (q72 = q70 + 1) := hq72
   obtain ⟨hv72,hq172⟩ := hq72
   refine ⟨by kernel_rfl,WI.to (⟨[(0,.ptr 998 0),(3,.own 1070 g70.length),(71,.ptr 998 0),(72,.i v72)],[(998,⟨44,.fix [.sl (.bytes l),.i q72]⟩),(1070,⟨35,.row (.calls g70)⟩)],[72,1070,70,1069,69,8,998,999]⟩) 2 (by kernel_rfl) rfl ?_⟩
   refine WI.runT cok tab11 hnt [] 1 3 (⟨[(0,.ptr 998 0),(3,.own 1070 g70.length),(71,.ptr 998 0),(72,.i v72),(73,.b (decide (v72 = (0 : Int))))],[(998,⟨44,.fix [.sl (.bytes l),.i q72]⟩),(1070,⟨35,.row (.calls g70)⟩)],[72,1070,70,1069,69,8,998,999]⟩)
    ((True ∧ True ∧ True) ∧ True) (by kernel_rfl) rfl
    ⟨⟨tt,tt,tt⟩,tt⟩ ?_
   refine WI.nil rfl (thenQ_normal ?_)
   refine W.keepE [0,3,73] [(0,.ptr 998 0),(3,.own 1070 g70.length),(73,.b (decide (v72 = (0 : Int))))] (by kernel_rfl) ?_
   refine W.to (⟨[(0,.ptr 998 0),(3,.own 1070 g70.length),(73,.b (decide (v72 = (0 : Int))))],[(998,⟨44,.fix [.sl (.bytes l),.i q72]⟩),(1070,⟨35,.row (.calls g70)⟩)],[72,1070,70,1069,69,8,998,999]⟩) rfl ?_
   refine W.ifP (v72 = (0 : Int)) (.b (decide (v72 = (0 : Int)))) (by kernel_rfl) rfl trivial ?_ ?_
   ·intro h73
    refine W.seq (W.wi ?_)
    refine WI.runT cok tab11 hnt [] 2 2 (⟨[(0,.ptr 998 0),(3,.own 1070 g70.length),(73,.b (decide (v72 = (0 : Int)))),(74,.ptr 998 0),(75,.ptr 998 0)],[(998,⟨44,.fix [.sl (.bytes l),.i q72]⟩),(1070,⟨35,.row (.calls g70)⟩)],[72,1070,70,1069,69,8,998,999]⟩)
     (True ∧ True ∧ True) (by kernel_rfl) rfl
     ⟨tt,tt,tt⟩ ?_
    refine WI.call [.ptr 998 0,.v (.string nRegister)] [.sl (.bytes l),.i q72] [.v (.string nRegister)] [.v (.string nRegister)] (some (44,998)) (True) (True ∧ True) none rok25 ent25 hnt rfl rfl (wanted_none rfl) (by kernel_rfl) (by kernel_rfl) (by kernel_rfl) ⟨tt,tt,tt⟩
     (@cast (0 ≤ q72 ∧ q72 ≤ 800000) _ (by kernel_rfl) (by omega)) (Or.inl rfl) rfl ?_
    rintro r bl fx2 hR
    obtain ⟨⟨g76,q76⟩,hq76,rfl,rfl,rfl⟩ := (@cast _ (∃ x : (List CallD) × Int,((GoodH x.1) ∧ (q72 ≤ x.2 ∧ x.2 ≤ q72 + 1200)) ∧ r = (.own 1 (List.length x.1)) ∧ bl = ([⟨35,.row (.calls x.1)⟩]) ∧ fx2 = ([.sl (.bytes l),.i x.2])) (by kernel_rfl) hR)
    clear hR
    replace hq76 : (GoodH g76) ∧ (q72 ≤ q76 ∧ q76 ≤ q72 + 1200) := hq76
    obtain ⟨hg76,hq176⟩ := hq76
    refine ⟨by kernel_rfl,WI.to (⟨[(0,.ptr 998 0),(3,.own 1070 g70.length),(73,.b (decide (v72 = (0 : Int)))),(74,.ptr 998 0),(75,.ptr 998 0),(76,.own 1076 g76.length)],[(998,⟨44,.fix [.sl (.bytes l),.i q76]⟩),(1070,⟨35,.row (.calls g70)⟩),(1076,⟨35,.row (.calls g76)⟩)],[1076,76,72,1070,70,1069,69,8,998,999]⟩) 3 (by kernel_rfl) rfl ?_⟩
    refine WI.call [.ptr 998 0,.own 1076 g76.length] [.sl (.bytes l),.i q76] [.own 1076 g76.length] [.sl (.calls g76)] (some (44,998)) (True) ((True ∧ (g76.length = g76.length)) ∧ True) (some 1076) rok24 ent24 hnt rfl rfl (wanted_none rfl) (by kernel_rfl) (by kernel_rfl) (by kernel_rfl) ⟨tt,⟨tt,rfl⟩,tt⟩
     (@cast ((0 ≤ q76 ∧ q76 ≤ 900000) ∧ (GoodH g76)) _ (by kernel_rfl) ⟨(by omega),(by omega)⟩) (Or.inr (by decide)) rfl ?_
    rintro r bl fx2 hR
    obtain ⟨⟨g77,q77⟩,hq77,rfl,rfl,rfl⟩ := (@cast _ (∃ x : (List CallD) × Int,((x.1.length = g76.length) ∧ (q76 ≤ x.2 ∧ x.2 ≤ q76 + 10)) ∧ r = (.own 1 (List.length x.1)) ∧ bl = ([⟨35,.row (.calls x.1)⟩]) ∧ fx2 = ([.sl (.bytes l),.i x.2])) (by kernel_rfl) hR)
    clear hR
    replace hq77 : (g77.length = g76.length) ∧ (q76 ≤ q77 ∧ q77 ≤ q76 + 10) := hq77
    obtain ⟨hg77,hq177⟩ := hq77
    refine ⟨by kernel_rfl,WI.to (⟨[(0,.ptr 998 0),(3,.own 1070 g70.length),(73,.b (decide (v72 = (0 : Int)))),(74,.ptr 998 0),(75,.ptr 998 0),(76,.own 1076 g76.length),(77,.own 1077 g77.length)],[(998,⟨44,.fix [.sl (.bytes l),.i q77]⟩),(1070,⟨35,.row (.calls g70)⟩),(1077,⟨35,.row (.calls g77)⟩)],[1077,77,1076,76,72,1070,70,1069,69,8,998,999]⟩) 4 (by kernel_rfl) rfl ?_⟩
    refine WI.runT cok tab11 hnt [] 1 5 (⟨[(0,.ptr 998 0),(2,.own 1077 g77.length),(3,.own 1070 g70.length),(73,.b (decide (v72 = (0 : Int)))),(74,.ptr 998 0),(75,.ptr 998 0),(76,.own 1076 g76.length),(77,.own 1077 g77.length)],[(998,⟨44,.fix [.sl (.bytes l),.i q77]⟩),(1070,⟨35,.row (.calls g70)⟩),(1077,⟨35,.row (.calls g77)⟩)],[1077,77,1076,76,72,1070,70,1069,69,8,998,999]⟩)
     (True ∧ True) (by kernel_rfl) rfl
     ⟨tt,tt⟩ ?_
    refine WI.nil rfl (thenQ_normal ?_)
    refine W.keepE [2] [(2,.own 1077 g77.length)] (by kernel_rfl) ?_
    refine W.to (⟨[(2,.own 1077 g77.length)],[(998,⟨44,.fix [.sl (.bytes l),.i q77]⟩),(1070,⟨35,.row (.calls g70)⟩),(1077,⟨35,.row (.calls g77)⟩)],[1077,77,1076,76,72,1070,70,1069,69,8,998,999]⟩) rfl ?_
    refine W.ret (thenQ_ret ?_)
    exact endP_ret (g77,q77) (show (g77.length ≤ 6) ∧ (p ≤ q77 ∧ q77 ≤ p + 5000) from ⟨(by have hh := hg76.1; omega),(by first | assumption | omega | rfl | (simp; done) | (simp; omega))⟩) [(1,1077),(0,998)] (.own 1077 g77.length) (by kernel_rfl) (@cast ((((1077 : Nat) = 1077) ∧ (g77.length = g77.length) ∧ ((1 : Nat) ∈ ([0,1] : List Nat))) ∧ ((((44 : Nat) = 44) ∧ ((Sd (.bytes l)) ∧ (Si q77) ∧ True) ∧ ((0 : Nat) ∈ ([0,1] : List Nat))) ∧ (((35 : Nat) = 35) ∧ (Sd (.calls g77)) ∧ ((1 : Nat) ∈ ([0,1] : List Nat))) ∧ True) ∧ (true = true) ∧ ((([] : List Nat) = []) ∧ True) ∧ (true = true → (998 : Nat) = 998)) _ (by kernel_rfl) ⟨⟨rfl,rfl,(by decide)⟩,⟨⟨rfl,⟨rfl,rfl,tt⟩,(by decide)⟩,⟨rfl,rfl,(by decide)⟩,tt⟩,rfl,⟨rfl,tt⟩,(fun _ => rfl)⟩)
   ·intro n73
    refine W.skip (thenQ_normal ?_)
    refine Kk cok tab11 hnt [] [2] (⟨[(2,.own 1070 g70.length)],[(998,⟨44,.fix [.sl (.bytes l),.i q72]⟩),(1070,⟨35,.row (.calls g70)⟩)],[72,1070,70,1069,69,8,998,999]⟩)
     (True ∧ True ∧ True)
     ⟨tt,tt,tt⟩ ?_
    refine W.ret ?_
    exact endP_ret (g70,q72) (show (g70.length ≤ 6) ∧ (p ≤ q72 ∧ q72 ≤ p + 5000) from ⟨(by exact hg70.1),(by first | assumption | omega | rfl | (simp; done) | (simp; omega))⟩) [(1,1070),(0,998)] (.own 1070 g70.length) (by kernel_rfl) (@cast ((((1070 : Nat) = 1070) ∧ (g70.length = g70.length) ∧ ((1 : Nat) ∈ ([0,1] : List Nat))) ∧ ((((44 : Nat) = 44) ∧ ((Sd (.bytes l)) ∧ (Si q72) ∧ True) ∧ ((0 : Nat) ∈ ([0,1] : List Nat))) ∧ (((35 : Nat) = 35) ∧ (Sd (.calls g70)) ∧ ((1 : Nat) ∈ ([0,1] : List Nat))) ∧ True) ∧ (true = true) ∧ ((([] : List Nat) = []) ∧ True) ∧ (true = true → (998 : Nat) = 998)) _ (by kernel_rfl) ⟨⟨rfl,rfl,(by decide)⟩,⟨⟨rfl,⟨rfl,rfl,tt⟩,(by decide)⟩,⟨rfl,rfl,(by decide)⟩,tt⟩,rfl,⟨rfl,tt⟩,(fun _ => rfl)⟩)
theorem ent11 : Entr prog 11 := ⟨_,func11,rfl,by decide⟩
end Go.Proofs.Try

set_option linter.unusedSimpArgs false
set_option linter.unusedVariables false
namespace Go.Proofs.Try
open Go.Ab Go.RowKit
def pre4 : List AV → List AV → Prop := preP [.bytes] [] (fun (code,_) _ => True)
def rel4 : RelS := relP [.bytes] [] (ι := ByteArray × (List CallD)) (fun (code,_) _ (nm,g) => (g.length ≤ 6)) (fun (code,_) _ (nm,g) => (.tup [.v (.string nm),.sl (.calls g)],[],[]))
abbrev T4 : Tab := lk []
theorem tab4 : TabOK prog T4 := TabOK.nil
set_option maxRecDepth 100000 in
set_option maxHeartbeats 1000000 in
theorem rok4 : RelOK prog 4 none [.s .bytes] pre4 rel4 := by
 refine RelOK.mk cok func4 rfl rfl rfl ?_
 rintro ⟨(code : List UInt8),_⟩ _ hpre F hnt0
 have hnt : F.nt = 12 := hnt0.trans ntmps4
 clear hpre
 refine W.to (⟨[(0,.sl (.bytes code))],[],[998,999]⟩) rfl ?_
 refine Kk cok tab4 hnt [] [0] (⟨[(0,.sl (.bytes code))],[],[998,999]⟩)
  (True ∧ True ∧ True)
  ⟨tt,tt,tt⟩ ?_
 refine W.seq (W.wi ?_)
 refine WI.runT cok tab4 hnt [] 1 1 (⟨[(0,.sl (.bytes code)),(5,.sl (.bytes code))],[],[998,999]⟩)
  (True ∧ True) (by kernel_rfl) rfl
  ⟨tt,tt⟩ ?_
 refine WI.call [.sl (.bytes code)] [] [.sl (.bytes code)] [.sl (.bytes code)] none (True) (True ∧ True) none rok9 ent9 hnt rfl rfl (wanted_none rfl) (by kernel_rfl) (by kernel_rfl) (by kernel_rfl) ⟨tt,tt,tt⟩
  (@cast (True) _ (by kernel_rfl) trivial) (Or.inl rfl) rfl ?_
 rintro r bl fx2 hR
 obtain ⟨l6,hq6,rfl,rfl,rfl⟩ := (@cast _ (∃ x : (List UInt8),(True) ∧ r = (.ptr 0 0) ∧ bl = ([⟨44,.fix [.sl (.bytes x),.i (0 : Int)]⟩]) ∧ fx2 = ([])) (by kernel_rfl) hR)
 clear hR
 replace hq6 : True := hq6
 refine ⟨by kernel_rfl,WI.to (⟨[(0,.sl (.bytes code)),(5,.sl (.bytes code)),(6,.ptr 6 0)],[(6,⟨44,.fix [.sl (.bytes l6),.i (0 : Int)]⟩)],[6,998,999]⟩) 2 (by kernel_rfl) rfl ?_⟩
 refine WI.runT cok tab4 hnt [] 1 3 (⟨[(0,.sl (.bytes code)),(4,.ptr 6 0),(5,.sl (.bytes code)),(6,.ptr 6 0)],[(6,⟨44,.fix [.sl (.bytes l6),.i (0 : Int)]⟩)],[6,998,999]⟩)
  (True ∧ True) (by kernel_rfl) rfl
  ⟨tt,tt⟩ ?_
 refine WI.nil rfl (thenQ_normal ?_)
 refine W.keepE [4] [(4,.ptr 6 0)] (by kernel_rfl) ?_
 refine W.to (⟨[(4,.ptr 6 0)],[(6,⟨44,.fix [.sl (.bytes l6),.i (0 : Int)]⟩)],[6,998,999]⟩) rfl ?_
 refine W.seq (W.wi ?_)
 refine WI.runT cok tab4 hnt [] 2 2 (⟨[(4,.ptr 6 0),(7,.ptr 6 0),(8,.sl (.strs ([nAtomic,nRegular,nSafe,nAtomic,nRegular,nSafe,nEmpty])))],[(6,⟨44,.fix [.sl (.bytes l6),.i (0 : Int)]⟩)],[8,6,998,999]⟩)
  (True ∧ (True ∧ True ∧ True ∧ True ∧ True ∧ True ∧ True ∧ True) ∧ True) (by kernel_rfl) rfl
  ⟨tt,⟨tt,tt,tt,tt,tt,tt,tt,tt⟩,tt⟩ ?_
 refine WI.call [.ptr 6 0,.sl (.strs ([nAtomic,nRegular,nSafe,nAtomic,nRegular,nSafe,nEmpty]))] [.sl (.bytes l6),.i (0 : Int)] [.sl (.strs ([nAtomic,nRegular,nSafe,nAtomic,nRegular,nSafe,nEmpty]))] [.sl (.strs ([nAtomic,nRegular,nSafe,nAtomic,nRegular,nSafe,nEmpty]))] (some (44,6)) (True) (True ∧ True) none rok10 ent10 hnt rfl rfl (wanted_none rfl) (by kernel_rfl) (by kernel_rfl) (by kernel_rfl) ⟨tt,tt,tt⟩
  (@cast ((0 ≤ (0 : Int) ∧ (0 : Int) ≤ 1000000) ∧ (0 < ([nAtomic,nRegular,nSafe,nAtomic,nRegular,nSafe,nEmpty]).length) ∧ (([nAtomic,nRegular,nSafe,nAtomic,nRegular,nSafe,nEmpty]).length ≤ 1000)) _ (by kernel_rfl) ⟨(by omega),⟨(by (first | omega | (simp only [List.length_set]; done) | (simp only [List.length_append,List.length_cons,List.length_nil,List.length_take,List.length_drop,List.length_set,List.length_replicate,List.length_map] at *; omega) | assumption)),(by (first | omega | (simp only [List.length_set]; done) | (simp only [List.length_append,List.length_cons,List.length_nil,List.length_take,List.length_drop,List.length_set,List.length_replicate,List.length_map] at *; omega) | assumption))⟩⟩) (Or.inl rfl) rfl ?_
 rintro r bl fx2 hR
 obtain ⟨⟨v9,q9⟩,hq9,rfl,rfl,rfl⟩ := (@cast _ (∃ x : ByteArray × Int,((x.1 ∈ ([nAtomic,nRegular,nSafe,nAtomic,nRegular,nSafe,nEmpty])) ∧ (x.2 = (0 : Int) + 1)) ∧ r = (.v (.string x.1)) ∧ bl = ([]) ∧ fx2 = ([.sl (.bytes l6),.i x.2])) (by kernel_rfl) hR)
 clear hR
 replace hq9 : (v9 ∈ ([nAtomic,nRegular,nSafe,nAtomic,nRegular,nSafe,nEmpty])) ∧ (q9 = (0 : Int) + 1) := hq9
 obtain ⟨hv9,hq19⟩ := hq9
 simp only [List.mem_cons,List.not_mem_nil,or_false] at hv9
 refine ⟨by kernel_rfl,WI.to (⟨[(4,.ptr 6 0),(7,.ptr 6 0),(8,.sl (.strs ([nAtomic,nRegular,nSafe,nAtomic,nRegular,nSafe,nEmpty]))),(9,.v (.string v9))],[(6,⟨44,.fix [.sl (.bytes l6),.i q9]⟩)],[9,8,6,998,999]⟩) 3 (by kernel_rfl) rfl ?_⟩
 refine WI.runT cok tab4 hnt [] 1 4 (⟨[(4,.ptr 6 0),(7,.ptr 6 0),(8,.sl (.strs ([nAtomic,nRegular,nSafe,nAtomic,nRegular,nSafe,nEmpty]))),(9,.v (.string v9)),(10,.ptr 6 0)],[(6,⟨44,.fix [.sl (.bytes l6),.i q9]⟩)],[9,8,6,998,999]⟩)
  (True ∧ True) (by kernel_rfl) rfl
  ⟨tt,tt⟩ ?_
 refine WI.call [.ptr 6 0] [.sl (.bytes l6),.i q9] [] [] (some (44,6)) (True) (True) none rok11 ent11 hnt rfl rfl (wanted_none rfl) (by kernel_rfl) (by kernel_rfl) (by kernel_rfl) ⟨tt,tt⟩
  (@cast (0 ≤ q9 ∧ q9 ≤ 700000) _ (by kernel_rfl) (by omega)) (Or.inl rfl) rfl ?_
 rintro r bl fx2 hR
 obtain ⟨⟨g11,q11⟩,hq11,rfl,rfl,rfl⟩ := (@cast _ (∃ x : (List CallD) × Int,((x.1.length ≤ 6) ∧ (q9 ≤ x.2 ∧ x.2 ≤ q9 + 5000)) ∧ r = (.own 1 (List.length x.1)) ∧ bl = ([⟨35,.row (.calls x.1)⟩]) ∧ fx2 = ([.sl (.bytes l6),.i x.2])) (by kernel_rfl) hR)
 clear hR
 replace hq11 : (g11.length ≤ 6) ∧ (q9 ≤ q11 ∧ q11 ≤ q9 + 5000) := hq11
 obtain ⟨hg11,hq111⟩ := hq11
 refine ⟨by kernel_rfl,WI.to (⟨[(4,.ptr 6 0),(7,.ptr 6 0),(8,.sl (.strs ([nAtomic,nRegular,nSafe,nAtomic,nRegular,nSafe,nEmpty]))),(9,.v (.string v9)),(10,.ptr 6 0),(11,.own 1011 g11.length)],[(6,⟨44,.fix [.sl (.bytes l6),.i q11]⟩),(1011,⟨35,.row (.calls g11)⟩)],[1011,11,9,8,6,998,999]⟩) 5 (by kernel_rfl) rfl ?_⟩
 refine WI.runT cok tab4 hnt [] 2 7 (⟨[(2,.v (.string v9)),(3,.own 1011 g11.length),(4,.ptr 6 0),(7,.ptr 6 0),(8,.sl (.strs ([nAtomic,nRegular,nSafe,nAtomic,nRegular,nSafe,nEmpty]))),(9,.v (.string v9)),(10,.ptr 6 0),(11,.own 1011 g11.length)],[(6,⟨44,.fix [.sl (.bytes l6),.i q11]⟩),(1011,⟨35,.row (.calls g11)⟩)],[1011,11,9,8,6,998,999]⟩)
  (True ∧ True ∧ True) (by kernel_rfl) rfl
  ⟨tt,tt,tt⟩ ?_
 refine WI.nil rfl (thenQ_normal ?_)
 refine W.keepE [2,3] [(2,.v (.string v9)),(3,.own 1011 g11.length)] (by kernel_rfl) ?_
 refine W.to (⟨[(2,.v (.string v9)),(3,.own 1011 g11.length)],[(6,⟨44,.fix [.sl (.bytes l6),.i q11]⟩),(1011,⟨35,.row (.calls g11)⟩)],[1011,11,9,8,6,998,999]⟩) rfl ?_
 refine W.ret ?_
 exact endP_ret (v9,g11) (show (g11.length ≤ 6) from (by first | assumption | omega | rfl | (simp; done) | (simp; omega))) [] (.tup [.v (.string v9),.own 1011 g11.length]) (by kernel_rfl) (@cast (((((.string v9) : Value) = (.string v9)) ∧ ((g11.length = g11.length) ∧ (Sd (.calls g11)) ∧ ((1011 : Nat) ∉ ([] : List Nat))) ∧ True) ∧ True ∧ (true = true) ∧ True ∧ (false = true → (0 : Nat) = 998)) _ (by kernel_rfl) ⟨⟨rfl,⟨rfl,rfl,(by decide)⟩,tt⟩,tt,rfl,tt,(fun h => by cases h)⟩)
theorem ent4 : Entr prog 4 := ⟨_,func4,rfl,by decide⟩
end Go.Proofs.Try

set_option linter.unusedSimpArgs false
set_option linter.unusedVariables false
namespace Go.Proofs.Try
open Go.Ab Go.RowKit
def fs3 : FnS := fnS [.s .bytes] [.bytes] (fun _ (code,_) => (.b true,[],True))
abbrev T3 : Tab := lk [(5,fs5),(6,fs6),(7,fs7),(8,fs8)]
theorem tab3 : TabOK prog T3 := (TabOK.cons ok5 ent5 (TabOK.cons ok6 ent6 (TabOK.cons ok7 ent7 (TabOK.cons ok8 ent8 TabOK.nil))))
set_option maxRecDepth 100000 in
set_option maxHeartbeats 1000000 in
theorem ok3 : FnOK prog 3 fs3 := by
 refine FnOK.mk cok func3 rfl rfl rfl ?_
 rintro fl ⟨(code : List UInt8),_⟩ hpre F hnt0 _
 have hnt : F.nt = 57 := hnt0.trans ntmps3
 clear hpre
 refine W.to (⟨[(0,.sl (.bytes code))],[],[999]⟩) rfl ?_
 refine W.lenOf 0 (.bytes code) (by kernel_rfl) ?_
 intro hl_code; replace hl_code : List.length code ≤ 9223372036854775807 := hl_code
 refine Kk cok tab3 hnt [] [0] (⟨[(0,.sl (.bytes code))],[],[999]⟩)
  (True ∧ True)
  ⟨tt,tt⟩ ?_
 refine W.seq ?_
 refine Kk cok tab3 hnt [] [0,10] (⟨[(0,.sl (.bytes code)),(10,.b (decide ((1048576 : Int) < (code.length : Int))))],[],[999]⟩)
  (True ∧ True ∧ (True ∧ True ∧ True) ∧ True)
  ⟨tt,tt,⟨tt,tt,tt⟩,tt⟩ ?_
 refine W.ifP ((1048576 : Int) < (code.length : Int)) (.b (decide ((1048576 : Int) < (code.length : Int)))) (by kernel_rfl) rfl trivial ?_ ?_
 ·intro h10
  refine Kk cok tab3 hnt [] [2] (⟨[(2,.b true)],[],[999]⟩)
   (True ∧ True)
   ⟨tt,tt⟩ ?_
  refine W.ret (thenQ_ret ?_)
  exact endQ_ret (.b true) (by kernel_rfl) (@cast (Sv (.bool true)) _ (by kernel_rfl) rfl)
 ·intro n10
  refine W.skip (thenQ_normal ?_)
  refine W.seq (W.wi ?_)
  refine WI.runT cok tab3 hnt [] 1 1 (⟨[(0,.sl (.bytes code)),(10,.b (decide ((1048576 : Int) < (code.length : Int)))),(12,.sl (.bytes code))],[],[999]⟩)
   (True ∧ True) (by kernel_rfl) rfl
   ⟨tt,tt⟩ ?_
  refine WI.call [.sl (.bytes code)] [] [.sl (.bytes code)] [.sl (.bytes code)] none (True) (True ∧ True) none rok4 ent4 hnt rfl rfl (wanted_none rfl) (by kernel_rfl) (by kernel_rfl) (by kernel_rfl) ⟨tt,tt,tt⟩
   (@cast (True) _ (by kernel_rfl) trivial) (Or.inl rfl) rfl ?_
  rintro r bl fx2 hR
  obtain ⟨⟨nm13,g13⟩,hq13,rfl,rfl,rfl⟩ := (@cast _ (∃ x : ByteArray × (List CallD),((x.2.length ≤ 6)) ∧ r = (.tup [.v (.string x.1),.sl (.calls x.2)]) ∧ bl = ([]) ∧ fx2 = ([])) (by kernel_rfl) hR)
  clear hR
  replace hq13 : (g13.length ≤ 6) := hq13
  have hg13 := hq13
  refine ⟨by kernel_rfl,WI.to (⟨[(0,.sl (.bytes code)),(10,.b (decide ((1048576 : Int) < (code.length : Int)))),(12,.sl (.bytes code)),(13,.tup [.v (.string nm13),.sl (.calls g13)])],[],[999]⟩) 2 (by kernel_rfl) rfl ?_⟩
  refine WI.runT cok tab3 hnt [] 5 7 (⟨[(0,.sl (.bytes code)),(3,.v (.string nm13)),(4,.sl (.calls g13)),(10,.b (decide ((1048576 : Int) < (code.length : Int)))),(11,.tup [.v (.string nm13),.sl (.calls g13)]),(12,.sl (.bytes code)),(13,.tup [.v (.string nm13),.sl (.calls g13)]),(14,.v (.string nm13)),(15,.sl (.calls g13))],[],[999]⟩)
   (True ∧ True ∧ True ∧ True ∧ True ∧ True) (by kernel_rfl) rfl
   ⟨tt,tt,tt,tt,tt,tt⟩ ?_
  refine WI.nil rfl (thenQ_normal ?_)
  refine W.keepE [3,4] [(3,.v (.string nm13)),(4,.sl (.calls g13))] (by kernel_rfl) ?_
  refine W.to (⟨[(3,.v (.string nm13)),(4,.sl (.calls g13))],[],[999]⟩) rfl ?_
  refine Kk cok tab3 hnt [] [3,4,5] (⟨[(3,.v (.string nm13)),(4,.sl (.calls g13)),(5,.b (keepsRegister nm13 g13))],[],[999]⟩)
   (True ∧ True ∧ (True ∧ (True ∧ True ∧ True) ∧ True) ∧ True ∧ True)
   ⟨tt,tt,⟨tt,⟨tt,tt,tt⟩,tt⟩,tt,tt⟩ ?_
  refine W.seq ?_
  refine Kk cok tab3 hnt [] [3,4,5,28] ((fun (Z1:Bool)=>(⟨[(3,.v (.string nm13)),(4,.sl (.calls g13)),(5,.b Z1),(28,.b ((Z1 != Z1) || (!(oneWriter g13))))],[],[999]⟩:St)) (keepsRegister nm13 g13))
   ((fun (Z1:Bool)=>(True ∧ (True ∧ (True ∧ ((True ∧ ((True ∧ (True ∧ True)) ∧ True)) ∧ ((True ∧ True) ∧ (True ∧ (((!Z1) = true → True) ∧ (((!Z1) = true → (True ∧ (((((!Z1) = true) ∧ True) ∧ True) ∧ True))) ∧ (((!Z1) = true → (((!Z1) = true) ∧ True)) ∧ ((True ∧ ((Z1 = true → True) ∧ (Z1 = false → ((!Z1) = true) ∧ True))) ∧ True))))))))))) ((keepsRegister nm13 g13) != (keepsRegister nm13 g13)))
   ⟨tt,tt,tt,⟨tt,⟨tt,tt,tt⟩,tt⟩,⟨tt,tt⟩,tt,(fun _ => trivial),(fun hG => ⟨tt,⟨⟨hG,tt⟩,tt⟩,tt⟩),(fun hG => ⟨hG,tt⟩),⟨tt,(fun _ => trivial),(fun hp => ⟨(not_t hp),tt⟩)⟩,tt⟩ ?_
  refine W.if' (((keepsRegister nm13 g13) != (keepsRegister nm13 g13)) || (!(oneWriter g13))) (.b (((keepsRegister nm13 g13) != (keepsRegister nm13 g13)) || (!(oneWriter g13)))) (by kernel_rfl) rfl trivial ?_ ?_
  ·intro h28
   refine Kk cok tab3 hnt [] [2] (⟨[(2,.b ((keepsRegister nm13 g13) == (keepsRegister nm13 g13)))],[],[999]⟩)
    (True ∧ True ∧ True ∧ (True ∧ (True ∧ True ∧ True) ∧ True) ∧ (True ∧ True) ∧ True ∧ True)
    ⟨tt,tt,tt,⟨tt,⟨tt,tt,tt⟩,tt⟩,⟨tt,tt⟩,tt,tt⟩ ?_
   refine W.ret (thenQ_ret ?_)
   exact endQ_ret (.b ((keepsRegister nm13 g13) == (keepsRegister nm13 g13))) (by kernel_rfl) (@cast ((.bool ((keepsRegister nm13 g13) == (keepsRegister nm13 g13)) : Value) = .bool true) _ (by kernel_rfl) (congrArg Value.bool (by simp)))
  ·intro n28
   refine W.skip (thenQ_normal ?_)
   refine Kk cok tab3 hnt [] [4,6] (⟨[(4,.sl (.calls g13)),(6,.b (keepsRegister nAtomic g13))],[],[999]⟩)
    (True ∧ (True ∧ (True ∧ True ∧ True) ∧ True) ∧ True ∧ True)
    ⟨tt,⟨tt,⟨tt,tt,tt⟩,tt⟩,tt,tt⟩ ?_
   refine Kk cok tab3 hnt [] [4,6,7] (⟨[(4,.sl (.calls g13)),(6,.b (keepsRegister nAtomic g13)),(7,.b (keepsRegister nRegular g13))],[],[999]⟩)
    (True ∧ (True ∧ (True ∧ True ∧ True) ∧ True) ∧ True ∧ True)
    ⟨tt,⟨tt,⟨tt,tt,tt⟩,tt⟩,tt,tt⟩ ?_
   refine Kk cok tab3 hnt [] [2] (⟨[(2,.b ((((keepsRegister nAtomic g13) == (explains nRegister g13 (aheadF g13))) && ((!(keepsRegister nAtomic g13)) || (keepsRegister nRegular g13))) && ((!(keepsRegister nRegular g13)) || (keepsRegister nSafe g13))))],[],[999]⟩)
    ((fun (Z1:Bool)=>((fun (Z2:Bool)=>((fun (Z3:Bool)=>((fun (Z4:Bool)=>((fun (Z5:Bool)=>(True ∧ (True ∧ ((True ∧ ((True ∧ (True ∧ True)) ∧ True)) ∧ ((True ∧ True) ∧ (True ∧ ((Z3 = true → True) ∧ ((Z3 = true → ((Z3 = true) ∧ True)) ∧ ((Z3 = true → True) ∧ (((Z3 && (Z3 && (!Z1))) = true → True) ∧ ((Z3 = true → (((Z3 = true) ∧ ((Z3 = true) ∧ True)) ∧ ((Z1 = true → True) ∧ (Z1 = false → ((Z3 && (Z3 && (!Z1))) = true) ∧ True)))) ∧ ((True ∧ ((Z3 = true → (Z3 = true) ∧ True) ∧ (Z3 = false → True))) ∧ (True ∧ ((Z4 = true → True) ∧ ((Z4 = true → ((Z4 = true) ∧ True)) ∧ ((Z4 = true → True) ∧ ((Z5 = true → True) ∧ ((Z5 = true → (True ∧ ((True ∧ (((Z5 = true) ∧ True) ∧ True)) ∧ True))) ∧ ((Z4 = true → (((Z4 = true) ∧ ((Z4 = true) ∧ True)) ∧ ((Z2 = true → True) ∧ (Z2 = false → (Z5 = true) ∧ True)))) ∧ ((True ∧ ((Z4 = true → (Z4 = true) ∧ True) ∧ (Z4 = false → True))) ∧ (True ∧ True))))))))))))))))))))) (Z4 && (Z4 && (!Z2))))) (Z3 && (Z1 || (keepsRegister nRegular g13))))) ((keepsRegister nAtomic g13) == (explains nRegister g13 (aheadF g13))))) (!(keepsRegister nRegular g13)))) (!(keepsRegister nAtomic g13)))
    ⟨tt,tt,⟨tt,⟨tt,tt,tt⟩,tt⟩,⟨tt,tt⟩,tt,(fun _ => trivial),(fun hG => ⟨hG,tt⟩),(fun _ => trivial),(fun _ => trivial),(fun hG => ⟨⟨hG,hG,tt⟩,(fun _ => trivial),(fun hp => ⟨(and_t hG (and_t hG (not_t hp))),tt⟩)⟩),⟨tt,(fun hp => ⟨hp,tt⟩),(fun _ => trivial)⟩,tt,(fun _ => trivial),(fun hG => ⟨hG,tt⟩),(fun _ => trivial),(fun _ => trivial),(fun hG => ⟨tt,⟨tt,⟨hG,tt⟩,tt⟩,tt⟩),(fun hG => ⟨⟨hG,hG,tt⟩,(fun _ => trivial),(fun hp => ⟨(and_t hG (and_t hG (not_t hp))),tt⟩)⟩),⟨tt,(fun hp => ⟨hp,tt⟩),(fun _ => trivial)⟩,tt,tt⟩ ?_
   refine W.ret ?_
   exact endQ_ret (.b ((((keepsRegister nAtomic g13) == (explains nRegister g13 (aheadF g13))) && ((!(keepsRegister nAtomic g13)) || (keepsRegister nRegular g13))) && ((!(keepsRegister nRegular g13)) || (keepsRegister nSafe g13)))) (by kernel_rfl) (@cast ((.bool ((((keepsRegister nAtomic g13) == (explains nRegister g13 (aheadF g13))) && ((!(keepsRegister nAtomic g13)) || (keepsRegister nRegular g13))) && ((!(keepsRegister nRegular g13)) || (keepsRegister nSafe g13))) : Value) = .bool true) _ (by kernel_rfl) (congrArg Value.bool (by exact keeps_law (not_g (or_r n28)))))
end Go.Proofs.Try
