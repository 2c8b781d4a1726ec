import Derived.Test.YtodobnkiphpdhaaKF4S0
import Derived.Test.YtodobnkiphpdhaaKF4S8
import Derived.Test.YtodobnkiphpdhaaKF4S10
import Derived.Test.YtodobnkiphpdhaaKF4S1
import Derived.Test.YtodobnkiphpdhaaKF4S4
import Derived.Test.YtodobnkiphpdhaaKF4S7
set_option linter.unusedSimpArgs false
set_option linter.unusedVariables false
namespace Go.Proofs.Try
open Go.Ab Go.RowKit
def pre37 : List AV → List AV → Prop := preP [.calls] [.bytes,.int] (fun (h,_) (l,p,_) => (0 ≤ p ∧ p ≤ 900000) ∧ (GoodH h))
def rel37 : RelS := relP [.calls] [.bytes,.int] (ι := (List CallD) × Int) (fun (h,_) (l,p,_) (g,q) => (g.length = h.length) ∧ (p ≤ q ∧ q ≤ p + 10)) (fun (h,_) (l,p,_) (g,q) => (.own 1 g.length,[⟨49,.row (.calls g)⟩],[.sl (.bytes l),.i q]))
abbrev T37 : Tab := lk []
theorem tab37 : TabOK prog T37 := TabOK.nil
set_option maxRecDepth 100000 in
set_option maxHeartbeats 1000000 in
theorem rok37 : RelOK prog 37 (some 59) [.c .calls 49] pre37 rel37 := by
 refine RelOK.mk cok func37 rfl rfl rfl ?_
 rintro ⟨(h : List CallD),_⟩ ⟨(l : List UInt8),(p : Int),_⟩ hpre F hnt0
 have hnt : F.nt = 79 := hnt0.trans ntmps37
 replace hpre : (0 ≤ p ∧ p ≤ 900000) ∧ (GoodH h) := hpre
 obtain ⟨hp,hG⟩ := hpre
 refine W.to (⟨[(0,.ptr 998 0),(1,.own 999 h.length)],[(998,⟨59,.fix [.sl (.bytes l),.i p]⟩),(999,⟨49,.row (.calls h)⟩)],[998,999]⟩) rfl ?_
 have hl6 := hG.1
 refine W.K cok tab37 hnt [] [0,1] (⟨[(0,.ptr 998 0),(1,.own 999 h.length)],[(998,⟨59,.fix [.sl (.bytes l),.i p]⟩),(999,⟨49,.row (.calls h)⟩)],[998,999]⟩)
  (True ∧ True) (by kernel_rfl)
  ⟨tt,tt⟩ ?_
 refine W.seq ?_
 refine W.seq (W.wi ?_)
 refine WI.runT cok tab37 hnt [] 5 5 (⟨[(0,.ptr 998 0),(1,.own 999 h.length),(6,.own 999 h.length),(7,.i (h.length : Int)),(8,.b (decide ((h.length : Int) = (0 : Int)))),(9,.b (decide ((h.length : Int) = (0 : Int)))),(10,.g (!(decide ((h.length : Int) = (0 : Int)))) (.ptr 998 0))],[(998,⟨59,.fix [.sl (.bytes l),.i p]⟩),(999,⟨49,.row (.calls h)⟩)],[998,999]⟩)
  (True ∧ True ∧ (True ∧ True ∧ True) ∧ True ∧ ((!(decide ((h.length : Int) = (0 : Int)))) = true → True) ∧ True) (by kernel_rfl) rfl
  ⟨tt,tt,⟨tt,tt,tt⟩,tt,(fun _ => trivial),tt⟩ ?_
 rcases Bool.eq_false_or_eq_true (decide ((h.length : Int) = (0 : Int))) with hT11 | hT11
 ·skip
  have hT11_0 : (h.length : Int) = (0 : Int) := of_decide_eq_true hT11
  refine WI.to (⟨[(0,.ptr 998 0),(1,.own 999 h.length),(6,.own 999 h.length),(7,.i (h.length : Int)),(8,.b true),(9,.b true),(10,.g false (.ptr 998 0))],[(998,⟨59,.fix [.sl (.bytes l),.i p]⟩),(999,⟨49,.row (.calls h)⟩)],[998,999]⟩) 5 (congrArg (fun z => (⟨[(0,.ptr 998 0),(1,.own 999 h.length),(6,.own 999 h.length),(7,.i (h.length : Int)),(8,.b z),(9,.b z),(10,.g (!z) (.ptr 998 0))],[(998,⟨59,.fix [.sl (.bytes l),.i p]⟩),(999,⟨49,.row (.calls h)⟩)],[998,999]⟩ : St)) hT11) rfl ?_
  refine WI.pass rfl hnt (wanted_if (t := 9) (gx := .b true) rfl rfl (by kernel_rfl) (by kernel_rfl)) rfl ?_
  refine WI.to (⟨[(0,.ptr 998 0),(1,.own 999 h.length),(6,.own 999 h.length),(7,.i (h.length : Int)),(8,.b true),(9,.b true),(10,.g false (.ptr 998 0)),(11,.any)],[(998,⟨59,.fix [.sl (.bytes l),.i p]⟩),(999,⟨49,.row (.calls h)⟩)],[998,999]⟩) 6 (by kernel_rfl) rfl ?_
  refine WI.pass rfl hnt (wanted_if (t := 9) (gx := .b true) rfl rfl (by kernel_rfl) (by kernel_rfl)) rfl ?_
  refine WI.to (⟨[(0,.ptr 998 0),(1,.own 999 h.length),(6,.own 999 h.length),(7,.i (h.length : Int)),(8,.b true),(9,.b true),(10,.g false (.ptr 998 0)),(11,.any),(12,.any)],[(998,⟨59,.fix [.sl (.bytes l),.i p]⟩),(999,⟨49,.row (.calls h)⟩)],[998,999]⟩) 7 (by kernel_rfl) rfl ?_
  refine WI.pickL true (.b true) (.b true) rfl hnt (wanted_none rfl) rfl (by kernel_rfl) rfl trivial (by kernel_rfl) trivial rfl ?_
  refine WI.to (⟨[(0,.ptr 998 0),(1,.own 999 h.length),(6,.own 999 h.length),(7,.i (h.length : Int)),(8,.b true),(9,.b true),(10,.g false (.ptr 998 0)),(11,.any),(12,.any),(13,.b true)],[(998,⟨59,.fix [.sl (.bytes l),.i p]⟩),(999,⟨49,.row (.calls h)⟩)],[998,999]⟩) 8 (by kernel_rfl) rfl ?_
  refine WI.nil rfl (thenQ_normal ?_)
  refine W.keepE [0,1,13] [(0,.ptr 998 0),(1,.own 999 h.length),(13,.b true)] (by kernel_rfl) ?_
  refine W.to (⟨[(0,.ptr 998 0),(1,.own 999 h.length),(13,.b true)],[(998,⟨59,.fix [.sl (.bytes l),.i p]⟩),(999,⟨49,.row (.calls h)⟩)],[998,999]⟩) rfl ?_
  refine W.ifT (.b true) (by kernel_rfl) rfl trivial ?_
  refine W.K cok tab37 hnt [] [4] (⟨[(4,.own 999 h.length)],[(998,⟨59,.fix [.sl (.bytes l),.i p]⟩),(999,⟨49,.row (.calls h)⟩)],[998,999]⟩)
   (True ∧ True ∧ True) (by kernel_rfl)
   ⟨tt,tt,tt⟩ ?_
  refine W.ret (thenQ_ret ?_)
  exact endP_ret (h,p) (show (h.length = h.length) ∧ (p ≤ p ∧ p ≤ p + 10) from ⟨(by first | rfl | simp),(by first | assumption | omega | rfl | (simp; done) | (simp; omega))⟩) [(1,999),(0,998)] (.own 999 h.length) (by kernel_rfl) (@cast ((((999 : Nat) = 999) ∧ ((h.length = h.length) ∧ ((1 : Nat) ∈ ([0,1] : List Nat)))) ∧ (((((59 : Nat) = 59) ∧ ((((.bytes l : Dat) = .bytes l) ∧ (((.int .i64 p : Value) = .int .i64 p) ∧ True)) ∧ ((0 : Nat) ∈ ([0,1] : List Nat)))) ∧ ((((49 : Nat) = 49) ∧ (((.calls h : Dat) = .calls h) ∧ ((1 : Nat) ∈ ([0,1] : List Nat)))) ∧ True)) ∧ ((true = true) ∧ (((([] : List Nat) = []) ∧ True) ∧ (true = true → (998 : Nat) = 998))))) _ (by kernel_rfl) ⟨⟨rfl,rfl,(by decide)⟩,⟨⟨rfl,⟨rfl,rfl,tt⟩,(by decide)⟩,⟨rfl,rfl,(by decide)⟩,tt⟩,rfl,⟨rfl,tt⟩,(fun _ => rfl)⟩)
 ·skip
  have hT11_0 : ¬ ((h.length : Int) = (0 : Int)) := of_decide_eq_false hT11
  refine WI.to (⟨[(0,.ptr 998 0),(1,.own 999 h.length),(6,.own 999 h.length),(7,.i (h.length : Int)),(8,.b false),(9,.b false),(10,.g true (.ptr 998 0))],[(998,⟨59,.fix [.sl (.bytes l),.i p]⟩),(999,⟨49,.row (.calls h)⟩)],[998,999]⟩) 5 (congrArg (fun z => (⟨[(0,.ptr 998 0),(1,.own 999 h.length),(6,.own 999 h.length),(7,.i (h.length : Int)),(8,.b z),(9,.b z),(10,.g (!z) (.ptr 998 0))],[(998,⟨59,.fix [.sl (.bytes l),.i p]⟩),(999,⟨49,.row (.calls h)⟩)],[998,999]⟩ : St)) hT11) rfl ?_
  refine WI.call [.g true (.ptr 998 0),.i (12 : Int)] [.sl (.bytes l),.i p] [.i (12 : Int)] [.i (12 : Int)] (some (59,998)) ((true = true) ∧ True) (True ∧ True) none rok32 ent32 hnt rfl rfl (wanted_if (t := 9) (gx := .b false) rfl rfl (by kernel_rfl) (by kernel_rfl)) (by kernel_rfl) (by kernel_rfl) (by kernel_rfl) ⟨⟨rfl,tt⟩,tt,tt⟩
   (@cast (0 ≤ p ∧ p ≤ 1000000) _ (by kernel_rfl) (by omega)) (Or.inl rfl) rfl ?_
  rintro r bl fx2 hR
  obtain ⟨⟨v11,q11⟩,hq11,rfl,rfl,rfl⟩ := (@cast _ (∃ x : Int × Int,((0 ≤ x.1 ∧ x.1 < max (12 : Int) 1) ∧ (x.2 = p + 1)) ∧ r = (.i x.1) ∧ bl = ([]) ∧ fx2 = ([.sl (.bytes l),.i x.2])) (by kernel_rfl) hR)
  clear hR
  replace hq11 : (0 ≤ v11 ∧ v11 < max (12 : Int) 1) ∧ (q11 = p + 1) := hq11
  obtain ⟨hv11,hq111⟩ := hq11
  refine ⟨by kernel_rfl,WI.to (⟨[(0,.ptr 998 0),(1,.own 999 h.length),(6,.own 999 h.length),(7,.i (h.length : Int)),(8,.b false),(9,.b false),(10,.g true (.ptr 998 0)),(11,.i v11)],[(998,⟨59,.fix [.sl (.bytes l),.i q11]⟩),(999,⟨49,.row (.calls h)⟩)],[11,998,999]⟩) 6 (by kernel_rfl) rfl ?_⟩
  refine WI.runT cok tab37 hnt [] 1 7 (⟨[(0,.ptr 998 0),(1,.own 999 h.length),(6,.own 999 h.length),(7,.i (h.length : Int)),(8,.b false),(9,.b false),(10,.g true (.ptr 998 0)),(11,.i v11),(12,.g true (.b (decide ((0 : Int) < v11))))],[(998,⟨59,.fix [.sl (.bytes l),.i q11]⟩),(999,⟨49,.row (.calls h)⟩)],[11,998,999]⟩)
   ((true = true → (True ∧ (True ∧ True))) ∧ True) (by kernel_rfl) rfl
   ⟨(fun _ => ⟨tt,tt,tt⟩),tt⟩ ?_
  refine WI.pickL false (.b false) (.g true (.b (decide ((0 : Int) < v11)))) rfl hnt (wanted_none rfl) rfl (by kernel_rfl) rfl trivial (by kernel_rfl) ⟨rfl,tt⟩ rfl ?_
  refine WI.to (⟨[(0,.ptr 998 0),(1,.own 999 h.length),(6,.own 999 h.length),(7,.i (h.length : Int)),(8,.b false),(9,.b false),(10,.g true (.ptr 998 0)),(11,.i v11),(12,.g true (.b (decide ((0 : Int) < v11)))),(13,.b (decide ((0 : Int) < v11)))],[(998,⟨59,.fix [.sl (.bytes l),.i q11]⟩),(999,⟨49,.row (.calls h)⟩)],[11,998,999]⟩) 8 (by kernel_rfl) rfl ?_
  refine WI.nil rfl (thenQ_normal ?_)
  refine W.keepE [0,1,13] [(0,.ptr 998 0),(1,.own 999 h.length),(13,.b (decide ((0 : Int) < v11)))] (by kernel_rfl) ?_
  refine W.to (⟨[(0,.ptr 998 0),(1,.own 999 h.length),(13,.b (decide ((0 : Int) < v11)))],[(998,⟨59,.fix [.sl (.bytes l),.i q11]⟩),(999,⟨49,.row (.calls h)⟩)],[11,998,999]⟩) rfl ?_
  refine W.ifP ((0 : Int) < v11) (.b (decide ((0 : Int) < v11))) (by kernel_rfl) rfl trivial ?_ ?_
  ·intro h13
   refine W.K cok tab37 hnt [] [4] (⟨[(4,.own 999 h.length)],[(998,⟨59,.fix [.sl (.bytes l),.i q11]⟩),(999,⟨49,.row (.calls h)⟩)],[11,998,999]⟩)
    (True ∧ True ∧ True) (by kernel_rfl)
    ⟨tt,tt,tt⟩ ?_
   refine W.ret (thenQ_ret ?_)
   exact endP_ret (h,q11) (show (h.length = h.length) ∧ (p ≤ q11 ∧ q11 ≤ p + 10) from ⟨(by first | rfl | simp),(by first | assumption | omega | rfl | (simp; done) | (simp; omega))⟩) [(1,999),(0,998)] (.own 999 h.length) (by kernel_rfl) (@cast ((((999 : Nat) = 999) ∧ ((h.length = h.length) ∧ ((1 : Nat) ∈ ([0,1] : List Nat)))) ∧ (((((59 : Nat) = 59) ∧ ((((.bytes l : Dat) = .bytes l) ∧ (((.int .i64 q11 : Value) = .int .i64 q11) ∧ True)) ∧ ((0 : Nat) ∈ ([0,1] : List Nat)))) ∧ ((((49 : Nat) = 49) ∧ (((.calls h : Dat) = .calls h) ∧ ((1 : Nat) ∈ ([0,1] : List Nat)))) ∧ True)) ∧ ((true = true) ∧ (((([] : List Nat) = []) ∧ True) ∧ (true = true → (998 : Nat) = 998))))) _ (by kernel_rfl) ⟨⟨rfl,rfl,(by decide)⟩,⟨⟨rfl,⟨rfl,rfl,tt⟩,(by decide)⟩,⟨rfl,rfl,(by decide)⟩,tt⟩,rfl,⟨rfl,tt⟩,(fun _ => rfl)⟩)
  ·intro n13
   refine W.skip (thenQ_normal ?_)
   refine W.seq (W.wi ?_)
   refine WI.runT cok tab37 hnt [] 3 3 (⟨[(0,.ptr 998 0),(1,.own 999 h.length),(13,.b (decide ((0 : Int) < v11))),(15,.ptr 998 0),(16,.own 999 h.length),(17,.i (h.length : Int))],[(998,⟨59,.fix [.sl (.bytes l),.i q11]⟩),(999,⟨49,.row (.calls h)⟩)],[11,998,999]⟩)
    (True ∧ True ∧ True ∧ True) (by kernel_rfl) rfl
    ⟨tt,tt,tt,tt⟩ ?_
   refine WI.call [.ptr 998 0,.i (h.length : Int)] [.sl (.bytes l),.i q11] [.i (h.length : Int)] [.i (h.length : Int)] (some (59,998)) (True) (True ∧ True) none rok32 ent32 hnt rfl rfl (wanted_none rfl) (by kernel_rfl) (by kernel_rfl) (by kernel_rfl) ⟨tt,tt,tt⟩
    (@cast (0 ≤ q11 ∧ q11 ≤ 1000000) _ (by kernel_rfl) (by omega)) (Or.inl rfl) rfl ?_
   rintro r bl fx2 hR
   obtain ⟨⟨v18,q18⟩,hq18,rfl,rfl,rfl⟩ := (@cast _ (∃ x : Int × Int,((0 ≤ x.1 ∧ x.1 < max (h.length : Int) 1) ∧ (x.2 = q11 + 1)) ∧ r = (.i x.1) ∧ bl = ([]) ∧ fx2 = ([.sl (.bytes l),.i x.2])) (by kernel_rfl) hR)
   clear hR
   replace hq18 : (0 ≤ v18 ∧ v18 < max (h.length : Int) 1) ∧ (q18 = q11 + 1) := hq18
   obtain ⟨hv18,hq118⟩ := hq18
   refine ⟨by kernel_rfl,WI.to (⟨[(0,.ptr 998 0),(1,.own 999 h.length),(13,.b (decide ((0 : Int) < v11))),(15,.ptr 998 0),(16,.own 999 h.length),(17,.i (h.length : Int)),(18,.i v18)],[(998,⟨59,.fix [.sl (.bytes l),.i q18]⟩),(999,⟨49,.row (.calls h)⟩)],[18,11,998,999]⟩) 4 (by kernel_rfl) rfl ?_⟩
   refine WI.runT cok tab37 hnt [] 1 5 (⟨[(0,.ptr 998 0),(1,.own 999 h.length),(5,.i v18),(13,.b (decide ((0 : Int) < v11))),(15,.ptr 998 0),(16,.own 999 h.length),(17,.i (h.length : Int)),(18,.i v18)],[(998,⟨59,.fix [.sl (.bytes l),.i q18]⟩),(999,⟨49,.row (.calls h)⟩)],[18,11,998,999]⟩)
    (True ∧ True) (by kernel_rfl) rfl
    ⟨tt,tt⟩ ?_
   refine WI.nil rfl (thenQ_normal ?_)
   refine W.keepE [0,1,5] [(0,.ptr 998 0),(1,.own 999 h.length),(5,.i v18)] (by kernel_rfl) ?_
   refine W.to (⟨[(0,.ptr 998 0),(1,.own 999 h.length),(5,.i v18)],[(998,⟨59,.fix [.sl (.bytes l),.i q18]⟩),(999,⟨49,.row (.calls h)⟩)],[18,11,998,999]⟩) rfl ?_
   refine W.seq ?_
   refine W.seq (W.wi ?_)
   refine WI.runT cok tab37 hnt [] 1 1 (⟨[(0,.ptr 998 0),(1,.own 999 h.length),(5,.i v18),(19,.ptr 998 0)],[(998,⟨59,.fix [.sl (.bytes l),.i q18]⟩),(999,⟨49,.row (.calls h)⟩)],[18,11,998,999]⟩)
    (True ∧ True) (by kernel_rfl) rfl
    ⟨tt,tt⟩ ?_
   refine WI.call [.ptr 998 0,.i (6 : Int)] [.sl (.bytes l),.i q18] [.i (6 : Int)] [.i (6 : Int)] (some (59,998)) (True) (True ∧ True) none rok32 ent32 hnt rfl rfl (wanted_none rfl) (by kernel_rfl) (by kernel_rfl) (by kernel_rfl) ⟨tt,tt,tt⟩
    (@cast (0 ≤ q18 ∧ q18 ≤ 1000000) _ (by kernel_rfl) (by omega)) (Or.inl rfl) rfl ?_
   rintro r bl fx2 hR
   obtain ⟨⟨v20,q20⟩,hq20,rfl,rfl,rfl⟩ := (@cast _ (∃ x : Int × Int,((0 ≤ x.1 ∧ x.1 < max (6 : Int) 1) ∧ (x.2 = q18 + 1)) ∧ r = (.i x.1) ∧ bl = ([]) ∧ fx2 = ([.sl (.bytes l),.i x.2])) (by kernel_rfl) hR)
   clear hR
   replace hq20 : (0 ≤ v20 ∧ v20 < max (6 : Int) 1) ∧ (q20 = q18 + 1) := hq20
   obtain ⟨hv20,hq120⟩ := hq20
   refine ⟨by kernel_rfl,WI.to (⟨[(0,.ptr 998 0),(1,.own 999 h.length),(5,.i v18),(19,.ptr 998 0),(20,.i v20)],[(998,⟨59,.fix [.sl (.bytes l),.i q20]⟩),(999,⟨49,.row (.calls h)⟩)],[20,18,11,998,999]⟩) 2 (by kernel_rfl) rfl ?_⟩
   refine WI.nil rfl (thenQ_normal ?_)
   refine W.keepE [0,1,5,20] [(0,.ptr 998 0),(1,.own 999 h.length),(5,.i v18),(20,.i v20)] (by kernel_rfl) ?_
   refine W.to (⟨[(0,.ptr 998 0),(1,.own 999 h.length),(5,.i v18),(20,.i v20)],[(998,⟨59,.fix [.sl (.bytes l),.i q20]⟩),(999,⟨49,.row (.calls h)⟩)],[20,18,11,998,999]⟩) rfl ?_
   refine W.block ?_
   refine W.K cok tab37 hnt [] [0,1,5,20,28] (⟨[(0,.ptr 998 0),(1,.own 999 h.length),(5,.i v18),(20,.i v20),(28,.b (decide (v20 = (0 : Int))))],[(998,⟨59,.fix [.sl (.bytes l),.i q20]⟩),(999,⟨49,.row (.calls h)⟩)],[20,18,11,998,999]⟩)
    ((True ∧ True ∧ True) ∧ True ∧ True) (by kernel_rfl)
    ⟨⟨tt,tt,tt⟩,tt,tt⟩ ?_
   refine W.ifP (v20 = (0 : Int)) (.b (decide (v20 = (0 : Int)))) (by kernel_rfl) rfl trivial ?_ ?_
   ·intro h28
    refine W.wi ?_
    refine WI.runT cok tab37 hnt [] 4 4 (⟨[(0,.ptr 998 0),(1,.own 999 h.length),(5,.i v18),(20,.i v20),(28,.b (decide (v20 = (0 : Int)))),(30,.own 999 h.length),(31,.i v18),(32,.ptr 998 0),(33,.sl (.ints ([(3 : Int),(-1 : Int),(0 : Int)])))],[(998,⟨59,.fix [.sl (.bytes l),.i q20]⟩),(999,⟨49,.row (.calls h)⟩)],[33,20,18,11,998,999]⟩)
     (True ∧ True ∧ True ∧ (True ∧ True ∧ True ∧ True) ∧ True) (by kernel_rfl) rfl
     ⟨tt,tt,tt,⟨tt,tt,tt,tt⟩,tt⟩ ?_
    refine WI.call [.ptr 998 0,.sl (.ints ([(3 : Int),(-1 : Int),(0 : Int)]))] [.sl (.bytes l),.i q20] [.sl (.ints ([(3 : Int),(-1 : Int),(0 : Int)]))] [.sl (.ints ([(3 : Int),(-1 : Int),(0 : Int)]))] (some (59,998)) (True) (True ∧ True) none rok33 ent33 hnt rfl rfl (wanted_none rfl) (by kernel_rfl) (by kernel_rfl) (by kernel_rfl) ⟨tt,tt,tt⟩
     (@cast ((0 ≤ q20 ∧ q20 ≤ 1000000) ∧ ((0 < ([(3 : Int),(-1 : Int),(0 : Int)]).length) ∧ (([(3 : Int),(-1 : Int),(0 : Int)]).length ≤ 1000))) _ (by kernel_rfl) ⟨(by omega),⟨(by (first | omega | (simp only [List.length_append,List.length_cons,List.length_nil,List.length_take,List.length_drop,List.length_set,List.length_replicate,List.length_map] at *; omega) | assumption)),(by (first | omega | (simp only [List.length_append,List.length_cons,List.length_nil,List.length_take,List.length_drop,List.length_set,List.length_replicate,List.length_map] at *; omega) | assumption))⟩⟩) (Or.inl rfl) rfl ?_
    rintro r bl fx2 hR
    obtain ⟨⟨v34,q34⟩,hq34,rfl,rfl,rfl⟩ := (@cast _ (∃ x : Int × Int,((x.1 ∈ ([(3 : Int),(-1 : Int),(0 : Int)])) ∧ (x.2 = q20 + 1)) ∧ r = (.i x.1) ∧ bl = ([]) ∧ fx2 = ([.sl (.bytes l),.i x.2])) (by kernel_rfl) hR)
    clear hR
    replace hq34 : (v34 ∈ ([(3 : Int),(-1 : Int),(0 : Int)])) ∧ (q34 = q20 + 1) := hq34
    obtain ⟨hv34,hq134⟩ := hq34
    simp only [List.mem_cons,List.not_mem_nil,or_false] at hv34
    refine ⟨by kernel_rfl,WI.to (⟨[(0,.ptr 998 0),(1,.own 999 h.length),(5,.i v18),(20,.i v20),(28,.b (decide (v20 = (0 : Int)))),(30,.own 999 h.length),(31,.i v18),(32,.ptr 998 0),(33,.sl (.ints ([(3 : Int),(-1 : Int),(0 : Int)]))),(34,.i v34)],[(998,⟨59,.fix [.sl (.bytes l),.i q34]⟩),(999,⟨49,.row (.calls h)⟩)],[34,33,20,18,11,998,999]⟩) 5 (by kernel_rfl) rfl ?_⟩
    refine WI.runT cok tab37 hnt [] 3 8 (⟨[(0,.ptr 998 0),(1,.own 999 h.length),(5,.i v18),(20,.i v20),(28,.b (decide (v20 = (0 : Int)))),(30,.own 999 h.length),(31,.i v18),(32,.ptr 998 0),(33,.sl (.ints ([(3 : Int),(-1 : Int),(0 : Int)]))),(34,.i v34),(35,.pel 999 7 (Int.toNat v18) 0),(36,.pel 999 7 (Int.toNat v18) 0)],[(998,⟨59,.fix [.sl (.bytes l),.i q34]⟩),(999,⟨49,.row (.calls (List.set h (Int.toNat v18) ({ h.getD (Int.toNat v18) default with proc := v34 })))⟩)],[34,33,20,18,11,998,999]⟩)
     ((True ∧ True ∧ (0 ≤ v18) ∧ (v18 < (h.length : Int))) ∧ True ∧ (True ∧ True ∧ ((Int.toNat v18) < h.length)) ∧ True) (by kernel_rfl) rfl
     ⟨⟨tt,tt,(by omega),(by omega)⟩,tt,⟨tt,tt,(by omega)⟩,tt⟩ ?_
    refine WI.nil rfl ?_
    refine blockQ_normal (thenQ_normal ?_)
    refine W.K cok tab37 hnt [] [4] (⟨[(4,.own 999 h.length)],[(998,⟨59,.fix [.sl (.bytes l),.i q34]⟩),(999,⟨49,.row (.calls (List.set h (Int.toNat v18) ({ h.getD (Int.toNat v18) default with proc := v34 })))⟩)],[34,33,20,18,11,998,999]⟩)
     (True ∧ True ∧ True) (by kernel_rfl)
     ⟨tt,tt,tt⟩ ?_
    refine W.ret ?_
    exact endP_ret ((List.set h (Int.toNat v18) ({ h.getD (Int.toNat v18) default with proc := v34 })),q34) (show ((List.set h (Int.toNat v18) ({ h.getD (Int.toNat v18) default with proc := v34 })).length = h.length) ∧ (p ≤ q34 ∧ q34 ≤ p + 10) from ⟨(by first | rfl | simp),(by first | assumption | omega | rfl | (simp; done) | (simp; omega))⟩) [(1,999),(0,998)] (.own 999 h.length) (by kernel_rfl) (@cast ((((999 : Nat) = 999) ∧ ((h.length = (List.length (List.set h (Int.toNat v18) ({ h.getD (Int.toNat v18) default with proc := v34 })))) ∧ ((1 : Nat) ∈ ([0,1] : List Nat)))) ∧ (((((59 : Nat) = 59) ∧ ((((.bytes l : Dat) = .bytes l) ∧ (((.int .i64 q34 : Value) = .int .i64 q34) ∧ True)) ∧ ((0 : Nat) ∈ ([0,1] : List Nat)))) ∧ ((((49 : Nat) = 49) ∧ (((.calls (List.set h (Int.toNat v18) ({ h.getD (Int.toNat v18) default with proc := v34 })) : Dat) = .calls (List.set h (Int.toNat v18) ({ h.getD (Int.toNat v18) default with proc := v34 }))) ∧ ((1 : Nat) ∈ ([0,1] : List Nat)))) ∧ True)) ∧ ((true = true) ∧ (((([] : List Nat) = []) ∧ True) ∧ (true = true → (998 : Nat) = 998))))) _ (by kernel_rfl) ⟨⟨rfl,(by first | rfl | omega | assumption | (symm; assumption) | simp | simp_all),(by decide)⟩,⟨⟨rfl,⟨rfl,rfl,tt⟩,(by decide)⟩,⟨rfl,rfl,(by decide)⟩,tt⟩,rfl,⟨rfl,tt⟩,(fun _ => rfl)⟩)
   ·intro n28
    refine W.K cok tab37 hnt [] [0,1,5,20,37] (⟨[(0,.ptr 998 0),(1,.own 999 h.length),(5,.i v18),(20,.i v20),(37,.b (decide (v20 = (1 : Int))))],[(998,⟨59,.fix [.sl (.bytes l),.i q20]⟩),(999,⟨49,.row (.calls h)⟩)],[20,18,11,998,999]⟩)
     ((True ∧ True ∧ True) ∧ True ∧ True) (by kernel_rfl)
     ⟨⟨tt,tt,tt⟩,tt,tt⟩ ?_
    refine W.ifP (v20 = (1 : Int)) (.b (decide (v20 = (1 : Int)))) (by kernel_rfl) rfl trivial ?_ ?_
    ·intro h37
     refine W.wi ?_
     refine WI.runT cok tab37 hnt [] 9 9 (⟨[(0,.ptr 998 0),(1,.own 999 h.length),(5,.i v18),(20,.i v20),(37,.b (decide (v20 = (1 : Int)))),(39,.own 999 h.length),(40,.i v18),(41,.ptr 998 0),(42,.own 999 h.length),(43,.i v18),(44,.pel 999 7 (Int.toNat v18) 0),(45,.pel 999 7 (Int.toNat v18) 5),(46,.i ((h.getD (Int.toNat v18) default).frm)),(47,.sl (.ints ([(31 : Int),((h.getD (Int.toNat v18) default).frm),(1 : Int)])))],[(998,⟨59,.fix [.sl (.bytes l),.i q20]⟩),(999,⟨49,.row (.calls h)⟩)],[47,20,18,11,998,999]⟩)
      (True ∧ True ∧ True ∧ True ∧ True ∧ (True ∧ True ∧ (0 ≤ v18) ∧ (v18 < (h.length : Int))) ∧ True ∧ (True ∧ ((Int.toNat v18) < h.length)) ∧ (True ∧ True ∧ True ∧ True) ∧ True) (by kernel_rfl) rfl
      ⟨tt,tt,tt,tt,tt,⟨tt,tt,(by omega),(by omega)⟩,tt,⟨tt,(by omega)⟩,⟨tt,tt,tt,tt⟩,tt⟩ ?_
     refine WI.call [.ptr 998 0,.sl (.ints ([(31 : Int),((h.getD (Int.toNat v18) default).frm),(1 : Int)]))] [.sl (.bytes l),.i q20] [.sl (.ints ([(31 : Int),((h.getD (Int.toNat v18) default).frm),(1 : Int)]))] [.sl (.ints ([(31 : Int),((h.getD (Int.toNat v18) default).frm),(1 : Int)]))] (some (59,998)) (True) (True ∧ True) none rok33 ent33 hnt rfl rfl (wanted_none rfl) (by kernel_rfl) (by kernel_rfl) (by kernel_rfl) ⟨tt,tt,tt⟩
      (@cast ((0 ≤ q20 ∧ q20 ≤ 1000000) ∧ ((0 < ([(31 : Int),((h.getD (Int.toNat v18) default).frm),(1 : Int)]).length) ∧ (([(31 : Int),((h.getD (Int.toNat v18) default).frm),(1 : Int)]).length ≤ 1000))) _ (by kernel_rfl) ⟨(by omega),⟨(by (first | omega | (simp only [List.length_append,List.length_cons,List.length_nil,List.length_take,List.length_drop,List.length_set,List.length_replicate,List.length_map] at *; omega) | assumption)),(by (first | omega | (simp only [List.length_append,List.length_cons,List.length_nil,List.length_take,List.length_drop,List.length_set,List.length_replicate,List.length_map] at *; omega) | assumption))⟩⟩) (Or.inl rfl) rfl ?_
     rintro r bl fx2 hR
     obtain ⟨⟨v48,q48⟩,hq48,rfl,rfl,rfl⟩ := (@cast _ (∃ x : Int × Int,((x.1 ∈ ([(31 : Int),((h.getD (Int.toNat v18) default).frm),(1 : Int)])) ∧ (x.2 = q20 + 1)) ∧ r = (.i x.1) ∧ bl = ([]) ∧ fx2 = ([.sl (.bytes l),.i x.2])) (by kernel_rfl) hR)
     clear hR
     replace hq48 : (v48 ∈ ([(31 : Int),((h.getD (Int.toNat v18) default).frm),(1 : Int)])) ∧ (q48 = q20 + 1) := hq48
     obtain ⟨hv48,hq148⟩ := hq48
     simp only [List.mem_cons,List.not_mem_nil,or_false] at hv48
     refine ⟨by kernel_rfl,WI.to (⟨[(0,.ptr 998 0),(1,.own 999 h.length),(5,.i v18),(20,.i v20),(37,.b (decide (v20 = (1 : Int)))),(39,.own 999 h.length),(40,.i v18),(41,.ptr 998 0),(42,.own 999 h.length),(43,.i v18),(44,.pel 999 7 (Int.toNat v18) 0),(45,.pel 999 7 (Int.toNat v18) 5),(46,.i ((h.getD (Int.toNat v18) default).frm)),(47,.sl (.ints ([(31 : Int),((h.getD (Int.toNat v18) default).frm),(1 : Int)]))),(48,.i v48)],[(998,⟨59,.fix [.sl (.bytes l),.i q48]⟩),(999,⟨49,.row (.calls h)⟩)],[48,47,20,18,11,998,999]⟩) 10 (by kernel_rfl) rfl ?_⟩
     refine WI.runT cok tab37 hnt [] 3 13 (⟨[(0,.ptr 998 0),(1,.own 999 h.length),(5,.i v18),(20,.i v20),(37,.b (decide (v20 = (1 : Int)))),(39,.own 999 h.length),(40,.i v18),(41,.ptr 998 0),(42,.own 999 h.length),(43,.i v18),(44,.pel 999 7 (Int.toNat v18) 0),(45,.pel 999 7 (Int.toNat v18) 5),(46,.i ((h.getD (Int.toNat v18) default).frm)),(47,.sl (.ints ([(31 : Int),((h.getD (Int.toNat v18) default).frm),(1 : Int)]))),(48,.i v48),(49,.pel 999 7 (Int.toNat v18) 0),(50,.pel 999 7 (Int.toNat v18) 6)],[(998,⟨59,.fix [.sl (.bytes l),.i q48]⟩),(999,⟨49,.row (.calls (List.set h (Int.toNat v18) ({ h.getD (Int.toNat v18) default with to := v48 })))⟩)],[48,47,20,18,11,998,999]⟩)
      ((True ∧ True ∧ (0 ≤ v18) ∧ (v18 < (h.length : Int))) ∧ True ∧ (True ∧ True ∧ ((Int.toNat v18) < h.length)) ∧ True) (by kernel_rfl) rfl
      ⟨⟨tt,tt,(by omega),(by omega)⟩,tt,⟨tt,tt,(by omega)⟩,tt⟩ ?_
     refine WI.nil rfl ?_
     refine blockQ_normal (thenQ_normal ?_)
     refine W.K cok tab37 hnt [] [4] (⟨[(4,.own 999 h.length)],[(998,⟨59,.fix [.sl (.bytes l),.i q48]⟩),(999,⟨49,.row (.calls (List.set h (Int.toNat v18) ({ h.getD (Int.toNat v18) default with to := v48 })))⟩)],[48,47,20,18,11,998,999]⟩)
      (True ∧ True ∧ True) (by kernel_rfl)
      ⟨tt,tt,tt⟩ ?_
     refine W.ret ?_
     exact endP_ret ((List.set h (Int.toNat v18) ({ h.getD (Int.toNat v18) default with to := v48 })),q48) (show ((List.set h (Int.toNat v18) ({ h.getD (Int.toNat v18) default with to := v48 })).length = h.length) ∧ (p ≤ q48 ∧ q48 ≤ p + 10) from ⟨(by first | rfl | simp),(by first | assumption | omega | rfl | (simp; done) | (simp; omega))⟩) [(1,999),(0,998)] (.own 999 h.length) (by kernel_rfl) (@cast ((((999 : Nat) = 999) ∧ ((h.length = (List.length (List.set h (Int.toNat v18) ({ h.getD (Int.toNat v18) default with to := v48 })))) ∧ ((1 : Nat) ∈ ([0,1] : List Nat)))) ∧ (((((59 : Nat) = 59) ∧ ((((.bytes l : Dat) = .bytes l) ∧ (((.int .i64 q48 : Value) = .int .i64 q48) ∧ True)) ∧ ((0 : Nat) ∈ ([0,1] : List Nat)))) ∧ ((((49 : Nat) = 49) ∧ (((.calls (List.set h (Int.toNat v18) ({ h.getD (Int.toNat v18) default with to := v48 })) : Dat) = .calls (List.set h (Int.toNat v18) ({ h.getD (Int.toNat v18) default with to := v48 }))) ∧ ((1 : Nat) ∈ ([0,1] : List Nat)))) ∧ True)) ∧ ((true = true) ∧ (((([] : List Nat) = []) ∧ True) ∧ (true = true → (998 : Nat) = 998))))) _ (by kernel_rfl) ⟨⟨rfl,(by first | rfl | omega | assumption | (symm; assumption) | simp | simp_all),(by decide)⟩,⟨⟨rfl,⟨rfl,rfl,tt⟩,(by decide)⟩,⟨rfl,rfl,(by decide)⟩,tt⟩,rfl,⟨rfl,tt⟩,(fun _ => rfl)⟩)
    ·intro n37
     refine W.K cok tab37 hnt [] [0,1,5,20,51] (⟨[(0,.ptr 998 0),(1,.own 999 h.length),(5,.i v18),(20,.i v20),(51,.b (decide (v20 = (2 : Int))))],[(998,⟨59,.fix [.sl (.bytes l),.i q20]⟩),(999,⟨49,.row (.calls h)⟩)],[20,18,11,998,999]⟩)
      ((True ∧ True ∧ True) ∧ True ∧ True) (by kernel_rfl)
      ⟨⟨tt,tt,tt⟩,tt,tt⟩ ?_
     refine W.ifP (v20 = (2 : Int)) (.b (decide (v20 = (2 : Int)))) (by kernel_rfl) rfl trivial ?_ ?_
     ·intro h51
      refine W.wi ?_
      refine WI.runT cok tab37 hnt [] 4 4 (⟨[(0,.ptr 998 0),(1,.own 999 h.length),(5,.i v18),(20,.i v20),(51,.b (decide (v20 = (2 : Int)))),(53,.own 999 h.length),(54,.i v18),(55,.ptr 998 0),(56,.sl (.ints ([(-2 : Int),(21 : Int),(3 : Int)])))],[(998,⟨59,.fix [.sl (.bytes l),.i q20]⟩),(999,⟨49,.row (.calls h)⟩)],[56,20,18,11,998,999]⟩)
       (True ∧ True ∧ True ∧ (True ∧ True ∧ True ∧ True) ∧ True) (by kernel_rfl) rfl
       ⟨tt,tt,tt,⟨tt,tt,tt,tt⟩,tt⟩ ?_
      refine WI.call [.ptr 998 0,.sl (.ints ([(-2 : Int),(21 : Int),(3 : Int)]))] [.sl (.bytes l),.i q20] [.sl (.ints ([(-2 : Int),(21 : Int),(3 : Int)]))] [.sl (.ints ([(-2 : Int),(21 : Int),(3 : Int)]))] (some (59,998)) (True) (True ∧ True) none rok33 ent33 hnt rfl rfl (wanted_none rfl) (by kernel_rfl) (by kernel_rfl) (by kernel_rfl) ⟨tt,tt,tt⟩
       (@cast ((0 ≤ q20 ∧ q20 ≤ 1000000) ∧ ((0 < ([(-2 : Int),(21 : Int),(3 : Int)]).length) ∧ (([(-2 : Int),(21 : Int),(3 : Int)]).length ≤ 1000))) _ (by kernel_rfl) ⟨(by omega),⟨(by (first | omega | (simp only [List.length_append,List.length_cons,List.length_nil,List.length_take,List.length_drop,List.length_set,List.length_replicate,List.length_map] at *; omega) | assumption)),(by (first | omega | (simp only [List.length_append,List.length_cons,List.length_nil,List.length_take,List.length_drop,List.length_set,List.length_replicate,List.length_map] at *; omega) | assumption))⟩⟩) (Or.inl rfl) rfl ?_
      rintro r bl fx2 hR
      obtain ⟨⟨v57,q57⟩,hq57,rfl,rfl,rfl⟩ := (@cast _ (∃ x : Int × Int,((x.1 ∈ ([(-2 : Int),(21 : Int),(3 : Int)])) ∧ (x.2 = q20 + 1)) ∧ r = (.i x.1) ∧ bl = ([]) ∧ fx2 = ([.sl (.bytes l),.i x.2])) (by kernel_rfl) hR)
      clear hR
      replace hq57 : (v57 ∈ ([(-2 : Int),(21 : Int),(3 : Int)])) ∧ (q57 = q20 + 1) := hq57
      obtain ⟨hv57,hq157⟩ := hq57
      simp only [List.mem_cons,List.not_mem_nil,or_false] at hv57
      refine ⟨by kernel_rfl,WI.to (⟨[(0,.ptr 998 0),(1,.own 999 h.length),(5,.i v18),(20,.i v20),(51,.b (decide (v20 = (2 : Int)))),(53,.own 999 h.length),(54,.i v18),(55,.ptr 998 0),(56,.sl (.ints ([(-2 : Int),(21 : Int),(3 : Int)]))),(57,.i v57)],[(998,⟨59,.fix [.sl (.bytes l),.i q57]⟩),(999,⟨49,.row (.calls h)⟩)],[57,56,20,18,11,998,999]⟩) 5 (by kernel_rfl) rfl ?_⟩
      refine WI.runT cok tab37 hnt [] 3 8 (⟨[(0,.ptr 998 0),(1,.own 999 h.length),(5,.i v18),(20,.i v20),(51,.b (decide (v20 = (2 : Int)))),(53,.own 999 h.length),(54,.i v18),(55,.ptr 998 0),(56,.sl (.ints ([(-2 : Int),(21 : Int),(3 : Int)]))),(57,.i v57),(58,.pel 999 7 (Int.toNat v18) 0),(59,.pel 999 7 (Int.toNat v18) 4)],[(998,⟨59,.fix [.sl (.bytes l),.i q57]⟩),(999,⟨49,.row (.calls (List.set h (Int.toNat v18) ({ h.getD (Int.toNat v18) default with ret := v57 })))⟩)],[57,56,20,18,11,998,999]⟩)
       ((True ∧ True ∧ (0 ≤ v18) ∧ (v18 < (h.length : Int))) ∧ True ∧ (True ∧ True ∧ ((Int.toNat v18) < h.length)) ∧ True) (by kernel_rfl) rfl
       ⟨⟨tt,tt,(by omega),(by omega)⟩,tt,⟨tt,tt,(by omega)⟩,tt⟩ ?_
      refine WI.nil rfl ?_
      refine blockQ_normal (thenQ_normal ?_)
      refine W.K cok tab37 hnt [] [4] (⟨[(4,.own 999 h.length)],[(998,⟨59,.fix [.sl (.bytes l),.i q57]⟩),(999,⟨49,.row (.calls (List.set h (Int.toNat v18) ({ h.getD (Int.toNat v18) default with ret := v57 })))⟩)],[57,56,20,18,11,998,999]⟩)
       (True ∧ True ∧ True) (by kernel_rfl)
       ⟨tt,tt,tt⟩ ?_
      refine W.ret ?_
      exact endP_ret ((List.set h (Int.toNat v18) ({ h.getD (Int.toNat v18) default with ret := v57 })),q57) (show ((List.set h (Int.toNat v18) ({ h.getD (Int.toNat v18) default with ret := v57 })).length = h.length) ∧ (p ≤ q57 ∧ q57 ≤ p + 10) from ⟨(by first | rfl | simp),(by first | assumption | omega | rfl | (simp; done) | (simp; omega))⟩) [(1,999),(0,998)] (.own 999 h.length) (by kernel_rfl) (@cast ((((999 : Nat) = 999) ∧ ((h.length = (List.length (List.set h (Int.toNat v18) ({ h.getD (Int.toNat v18) default with ret := v57 })))) ∧ ((1 : Nat) ∈ ([0,1] : List Nat)))) ∧ (((((59 : Nat) = 59) ∧ ((((.bytes l : Dat) = .bytes l) ∧ (((.int .i64 q57 : Value) = .int .i64 q57) ∧ True)) ∧ ((0 : Nat) ∈ ([0,1] : List Nat)))) ∧ ((((49 : Nat) = 49) ∧ (((.calls (List.set h (Int.toNat v18) ({ h.getD (Int.toNat v18) default with ret := v57 })) : Dat) = .calls (List.set h (Int.toNat v18) ({ h.getD (Int.toNat v18) default with ret := v57 }))) ∧ ((1 : Nat) ∈ ([0,1] : List Nat)))) ∧ True)) ∧ ((true = true) ∧ (((([] : List Nat) = []) ∧ True) ∧ (true = true → (998 : Nat) = 998))))) _ (by kernel_rfl) ⟨⟨rfl,(by first | rfl | omega | assumption | (symm; assumption) | simp | simp_all),(by decide)⟩,⟨⟨rfl,⟨rfl,rfl,tt⟩,(by decide)⟩,⟨rfl,rfl,(by decide)⟩,tt⟩,rfl,⟨rfl,tt⟩,(fun _ => rfl)⟩)
     ·intro n51
      refine W.K cok tab37 hnt [] [0,1,5,20,60] (⟨[(0,.ptr 998 0),(1,.own 999 h.length),(5,.i v18),(20,.i v20),(60,.b (decide (v20 = (3 : Int))))],[(998,⟨59,.fix [.sl (.bytes l),.i q20]⟩),(999,⟨49,.row (.calls h)⟩)],[20,18,11,998,999]⟩)
       ((True ∧ True ∧ True) ∧ True ∧ True) (by kernel_rfl)
       ⟨⟨tt,tt,tt⟩,tt,tt⟩ ?_
      refine W.ifP (v20 = (3 : Int)) (.b (decide (v20 = (3 : Int)))) (by kernel_rfl) rfl trivial ?_ ?_
      ·intro h60
       refine W.wi ?_
       refine WI.runT cok tab37 hnt [] 4 4 (⟨[(0,.ptr 998 0),(1,.own 999 h.length),(5,.i v18),(20,.i v20),(60,.b (decide (v20 = (3 : Int)))),(62,.own 999 h.length),(63,.i v18),(64,.ptr 998 0),(65,.sl (.ints ([(-1 : Int),(4 : Int)])))],[(998,⟨59,.fix [.sl (.bytes l),.i q20]⟩),(999,⟨49,.row (.calls h)⟩)],[65,20,18,11,998,999]⟩)
        (True ∧ True ∧ True ∧ (True ∧ True ∧ True) ∧ True) (by kernel_rfl) rfl
        ⟨tt,tt,tt,⟨tt,tt,tt⟩,tt⟩ ?_
       refine WI.call [.ptr 998 0,.sl (.ints ([(-1 : Int),(4 : Int)]))] [.sl (.bytes l),.i q20] [.sl (.ints ([(-1 : Int),(4 : Int)]))] [.sl (.ints ([(-1 : Int),(4 : Int)]))] (some (59,998)) (True) (True ∧ True) none rok33 ent33 hnt rfl rfl (wanted_none rfl) (by kernel_rfl) (by kernel_rfl) (by kernel_rfl) ⟨tt,tt,tt⟩
        (@cast ((0 ≤ q20 ∧ q20 ≤ 1000000) ∧ ((0 < ([(-1 : Int),(4 : Int)]).length) ∧ (([(-1 : Int),(4 : Int)]).length ≤ 1000))) _ (by kernel_rfl) ⟨(by omega),⟨(by (first | omega | (simp only [List.length_append,List.length_cons,List.length_nil,List.length_take,List.length_drop,List.length_set,List.length_replicate,List.length_map] at *; omega) | assumption)),(by (first | omega | (simp only [List.length_append,List.length_cons,List.length_nil,List.length_take,List.length_drop,List.length_set,List.length_replicate,List.length_map] at *; omega) | assumption))⟩⟩) (Or.inl rfl) rfl ?_
       rintro r bl fx2 hR
       obtain ⟨⟨v66,q66⟩,hq66,rfl,rfl,rfl⟩ := (@cast _ (∃ x : Int × Int,((x.1 ∈ ([(-1 : Int),(4 : Int)])) ∧ (x.2 = q20 + 1)) ∧ r = (.i x.1) ∧ bl = ([]) ∧ fx2 = ([.sl (.bytes l),.i x.2])) (by kernel_rfl) hR)
       clear hR
       replace hq66 : (v66 ∈ ([(-1 : Int),(4 : Int)])) ∧ (q66 = q20 + 1) := hq66
       obtain ⟨hv66,hq166⟩ := hq66
       simp only [List.mem_cons,List.not_mem_nil,or_false] at hv66
       refine ⟨by kernel_rfl,WI.to (⟨[(0,.ptr 998 0),(1,.own 999 h.length),(5,.i v18),(20,.i v20),(60,.b (decide (v20 = (3 : Int)))),(62,.own 999 h.length),(63,.i v18),(64,.ptr 998 0),(65,.sl (.ints ([(-1 : Int),(4 : Int)]))),(66,.i v66)],[(998,⟨59,.fix [.sl (.bytes l),.i q66]⟩),(999,⟨49,.row (.calls h)⟩)],[66,65,20,18,11,998,999]⟩) 5 (by kernel_rfl) rfl ?_⟩
       refine WI.runT cok tab37 hnt [] 3 8 (⟨[(0,.ptr 998 0),(1,.own 999 h.length),(5,.i v18),(20,.i v20),(60,.b (decide (v20 = (3 : Int)))),(62,.own 999 h.length),(63,.i v18),(64,.ptr 998 0),(65,.sl (.ints ([(-1 : Int),(4 : Int)]))),(66,.i v66),(67,.pel 999 7 (Int.toNat v18) 0),(68,.pel 999 7 (Int.toNat v18) 3)],[(998,⟨59,.fix [.sl (.bytes l),.i q66]⟩),(999,⟨49,.row (.calls (List.set h (Int.toNat v18) ({ h.getD (Int.toNat v18) default with arg := v66 })))⟩)],[66,65,20,18,11,998,999]⟩)
        ((True ∧ True ∧ (0 ≤ v18) ∧ (v18 < (h.length : Int))) ∧ True ∧ (True ∧ True ∧ ((Int.toNat v18) < h.length)) ∧ True) (by kernel_rfl) rfl
        ⟨⟨tt,tt,(by omega),(by omega)⟩,tt,⟨tt,tt,(by omega)⟩,tt⟩ ?_
       refine WI.nil rfl ?_
       refine blockQ_normal (thenQ_normal ?_)
       refine W.K cok tab37 hnt [] [4] (⟨[(4,.own 999 h.length)],[(998,⟨59,.fix [.sl (.bytes l),.i q66]⟩),(999,⟨49,.row (.calls (List.set h (Int.toNat v18) ({ h.getD (Int.toNat v18) default with arg := v66 })))⟩)],[66,65,20,18,11,998,999]⟩)
        (True ∧ True ∧ True) (by kernel_rfl)
        ⟨tt,tt,tt⟩ ?_
       refine W.ret ?_
       exact endP_ret ((List.set h (Int.toNat v18) ({ h.getD (Int.toNat v18) default with arg := v66 })),q66) (show ((List.set h (Int.toNat v18) ({ h.getD (Int.toNat v18) default with arg := v66 })).length = h.length) ∧ (p ≤ q66 ∧ q66 ≤ p + 10) from ⟨(by first | rfl | simp),(by first | assumption | omega | rfl | (simp; done) | (simp; omega))⟩) [(1,999),(0,998)] (.own 999 h.length) (by kernel_rfl) (@cast ((((999 : Nat) = 999) ∧ ((h.length = (List.length (List.set h (Int.toNat v18) ({ h.getD (Int.toNat v18) default with arg := v66 })))) ∧ ((1 : Nat) ∈ ([0,1] : List Nat)))) ∧ (((((59 : Nat) = 59) ∧ ((((.bytes l : Dat) = .bytes l) ∧ (((.int .i64 q66 : Value) = .int .i64 q66) ∧ True)) ∧ ((0 : Nat) ∈ ([0,1] : List Nat)))) ∧ ((((49 : Nat) = 49) ∧ (((.calls (List.set h (Int.toNat v18) ({ h.getD (Int.toNat v18) default with arg := v66 })) : Dat) = .calls (List.set h (Int.toNat v18) ({ h.getD (Int.toNat v18) default with arg := v66 }))) ∧ ((1 : Nat) ∈ ([0,1] : List Nat)))) ∧ True)) ∧ ((true = true) ∧ (((([] : List Nat) = []) ∧ True) ∧ (true = true → (998 : Nat) = 998))))) _ (by kernel_rfl) ⟨⟨rfl,(by first | rfl | omega | assumption | (symm; assumption) | simp | simp_all),(by decide)⟩,⟨⟨rfl,⟨rfl,rfl,tt⟩,(by decide)⟩,⟨rfl,rfl,(by decide)⟩,tt⟩,rfl,⟨rfl,tt⟩,(fun _ => rfl)⟩)
      ·intro n60
       refine W.K cok tab37 hnt [] [0,1,5,69] (⟨[(0,.ptr 998 0),(1,.own 999 h.length),(5,.i v18),(69,.b (decide (v20 = (4 : Int))))],[(998,⟨59,.fix [.sl (.bytes l),.i q20]⟩),(999,⟨49,.row (.calls h)⟩)],[20,18,11,998,999]⟩)
        ((True ∧ True ∧ True) ∧ True ∧ True) (by kernel_rfl)
        ⟨⟨tt,tt,tt⟩,tt,tt⟩ ?_
       refine W.ifP (v20 = (4 : Int)) (.b (decide (v20 = (4 : Int)))) (by kernel_rfl) rfl trivial ?_ ?_
       ·intro h69
        refine W.wi ?_
        refine WI.runT cok tab37 hnt [] 4 4 (⟨[(0,.ptr 998 0),(1,.own 999 h.length),(5,.i v18),(69,.b (decide (v20 = (4 : Int)))),(71,.own 999 h.length),(72,.i v18),(73,.ptr 998 0),(74,.sl (.ints ([(2 : Int),(-1 : Int),(1 : Int)])))],[(998,⟨59,.fix [.sl (.bytes l),.i q20]⟩),(999,⟨49,.row (.calls h)⟩)],[74,20,18,11,998,999]⟩)
         (True ∧ True ∧ True ∧ (True ∧ True ∧ True ∧ True) ∧ True) (by kernel_rfl) rfl
         ⟨tt,tt,tt,⟨tt,tt,tt,tt⟩,tt⟩ ?_
        refine WI.call [.ptr 998 0,.sl (.ints ([(2 : Int),(-1 : Int),(1 : Int)]))] [.sl (.bytes l),.i q20] [.sl (.ints ([(2 : Int),(-1 : Int),(1 : Int)]))] [.sl (.ints ([(2 : Int),(-1 : Int),(1 : Int)]))] (some (59,998)) (True) (True ∧ True) none rok33 ent33 hnt rfl rfl (wanted_none rfl) (by kernel_rfl) (by kernel_rfl) (by kernel_rfl) ⟨tt,tt,tt⟩
         (@cast ((0 ≤ q20 ∧ q20 ≤ 1000000) ∧ ((0 < ([(2 : Int),(-1 : Int),(1 : Int)]).length) ∧ (([(2 : Int),(-1 : Int),(1 : Int)]).length ≤ 1000))) _ (by kernel_rfl) ⟨(by omega),⟨(by (first | omega | (simp only [List.length_append,List.length_cons,List.length_nil,List.length_take,List.length_drop,List.length_set,List.length_replicate,List.length_map] at *; omega) | assumption)),(by (first | omega | (simp only [List.length_append,List.length_cons,List.length_nil,List.length_take,List.length_drop,List.length_set,List.length_replicate,List.length_map] at *; omega) | assumption))⟩⟩) (Or.inl rfl) rfl ?_
        rintro r bl fx2 hR
        obtain ⟨⟨v75,q75⟩,hq75,rfl,rfl,rfl⟩ := (@cast _ (∃ x : Int × Int,((x.1 ∈ ([(2 : Int),(-1 : Int),(1 : Int)])) ∧ (x.2 = q20 + 1)) ∧ r = (.i x.1) ∧ bl = ([]) ∧ fx2 = ([.sl (.bytes l),.i x.2])) (by kernel_rfl) hR)
        clear hR
        replace hq75 : (v75 ∈ ([(2 : Int),(-1 : Int),(1 : Int)])) ∧ (q75 = q20 + 1) := hq75
        obtain ⟨hv75,hq175⟩ := hq75
        simp only [List.mem_cons,List.not_mem_nil,or_false] at hv75
        refine ⟨by kernel_rfl,WI.to (⟨[(0,.ptr 998 0),(1,.own 999 h.length),(5,.i v18),(69,.b (decide (v20 = (4 : Int)))),(71,.own 999 h.length),(72,.i v18),(73,.ptr 998 0),(74,.sl (.ints ([(2 : Int),(-1 : Int),(1 : Int)]))),(75,.i v75)],[(998,⟨59,.fix [.sl (.bytes l),.i q75]⟩),(999,⟨49,.row (.calls h)⟩)],[75,74,20,18,11,998,999]⟩) 5 (by kernel_rfl) rfl ?_⟩
        refine WI.runT cok tab37 hnt [] 3 8 (⟨[(0,.ptr 998 0),(1,.own 999 h.length),(5,.i v18),(69,.b (decide (v20 = (4 : Int)))),(71,.own 999 h.length),(72,.i v18),(73,.ptr 998 0),(74,.sl (.ints ([(2 : Int),(-1 : Int),(1 : Int)]))),(75,.i v75),(76,.pel 999 7 (Int.toNat v18) 0),(77,.pel 999 7 (Int.toNat v18) 1)],[(998,⟨59,.fix [.sl (.bytes l),.i q75]⟩),(999,⟨49,.row (.calls (List.set h (Int.toNat v18) ({ h.getD (Int.toNat v18) default with obj := v75 })))⟩)],[75,74,20,18,11,998,999]⟩)
         ((True ∧ True ∧ (0 ≤ v18) ∧ (v18 < (h.length : Int))) ∧ True ∧ (True ∧ True ∧ ((Int.toNat v18) < h.length)) ∧ True) (by kernel_rfl) rfl
         ⟨⟨tt,tt,(by omega),(by omega)⟩,tt,⟨tt,tt,(by omega)⟩,tt⟩ ?_
        refine WI.nil rfl ?_
        refine blockQ_normal (thenQ_normal ?_)
        refine W.K cok tab37 hnt [] [4] (⟨[(4,.own 999 h.length)],[(998,⟨59,.fix [.sl (.bytes l),.i q75]⟩),(999,⟨49,.row (.calls (List.set h (Int.toNat v18) ({ h.getD (Int.toNat v18) default with obj := v75 })))⟩)],[75,74,20,18,11,998,999]⟩)
         (True ∧ True ∧ True) (by kernel_rfl)
         ⟨tt,tt,tt⟩ ?_
        refine W.ret ?_
        exact endP_ret ((List.set h (Int.toNat v18) ({ h.getD (Int.toNat v18) default with obj := v75 })),q75) (show ((List.set h (Int.toNat v18) ({ h.getD (Int.toNat v18) default with obj := v75 })).length = h.length) ∧ (p ≤ q75 ∧ q75 ≤ p + 10) from ⟨(by first | rfl | simp),(by first | assumption | omega | rfl | (simp; done) | (simp; omega))⟩) [(1,999),(0,998)] (.own 999 h.length) (by kernel_rfl) (@cast ((((999 : Nat) = 999) ∧ ((h.length = (List.length (List.set h (Int.toNat v18) ({ h.getD (Int.toNat v18) default with obj := v75 })))) ∧ ((1 : Nat) ∈ ([0,1] : List Nat)))) ∧ (((((59 : Nat) = 59) ∧ ((((.bytes l : Dat) = .bytes l) ∧ (((.int .i64 q75 : Value) = .int .i64 q75) ∧ True)) ∧ ((0 : Nat) ∈ ([0,1] : List Nat)))) ∧ ((((49 : Nat) = 49) ∧ (((.calls (List.set h (Int.toNat v18) ({ h.getD (Int.toNat v18) default with obj := v75 })) : Dat) = .calls (List.set h (Int.toNat v18) ({ h.getD (Int.toNat v18) default with obj := v75 }))) ∧ ((1 : Nat) ∈ ([0,1] : List Nat)))) ∧ True)) ∧ ((true = true) ∧ (((([] : List Nat) = []) ∧ True) ∧ (true = true → (998 : Nat) = 998))))) _ (by kernel_rfl) ⟨⟨rfl,(by first | rfl | omega | assumption | (symm; assumption) | simp | simp_all),(by decide)⟩,⟨⟨rfl,⟨rfl,rfl,tt⟩,(by decide)⟩,⟨rfl,rfl,(by decide)⟩,tt⟩,rfl,⟨rfl,tt⟩,(fun _ => rfl)⟩)
       ·intro n69
        refine W.wi ?_
        refine WI.runT cok tab37 hnt [] 4 4 (⟨[(0,.ptr 998 0),(1,.own 999 h.length),(5,.i v18),(21,.own 999 h.length),(22,.i v18),(23,.ptr 998 0),(24,.sl (.ints ([(3 : Int),(-1 : Int),(0 : Int)]))),(69,.b (decide (v20 = (4 : Int))))],[(998,⟨59,.fix [.sl (.bytes l),.i q20]⟩),(999,⟨49,.row (.calls h)⟩)],[24,20,18,11,998,999]⟩)
         (True ∧ True ∧ True ∧ (True ∧ True ∧ True ∧ True) ∧ True) (by kernel_rfl) rfl
         ⟨tt,tt,tt,⟨tt,tt,tt,tt⟩,tt⟩ ?_
        refine WI.call [.ptr 998 0,.sl (.ints ([(3 : Int),(-1 : Int),(0 : Int)]))] [.sl (.bytes l),.i q20] [.sl (.ints ([(3 : Int),(-1 : Int),(0 : Int)]))] [.sl (.ints ([(3 : Int),(-1 : Int),(0 : Int)]))] (some (59,998)) (True) (True ∧ True) none rok33 ent33 hnt rfl rfl (wanted_none rfl) (by kernel_rfl) (by kernel_rfl) (by kernel_rfl) ⟨tt,tt,tt⟩
         (@cast ((0 ≤ q20 ∧ q20 ≤ 1000000) ∧ ((0 < ([(3 : Int),(-1 : Int),(0 : Int)]).length) ∧ (([(3 : Int),(-1 : Int),(0 : Int)]).length ≤ 1000))) _ (by kernel_rfl) ⟨(by omega),⟨(by (first | omega | (simp only [List.length_append,List.length_cons,List.length_nil,List.length_take,List.length_drop,List.length_set,List.length_replicate,List.length_map] at *; omega) | assumption)),(by (first | omega | (simp only [List.length_append,List.length_cons,List.length_nil,List.length_take,List.length_drop,List.length_set,List.length_replicate,List.length_map] at *; omega) | assumption))⟩⟩) (Or.inl rfl) rfl ?_
        rintro r bl fx2 hR
        obtain ⟨⟨v25,q25⟩,hq25,rfl,rfl,rfl⟩ := (@cast _ (∃ x : Int × Int,((x.1 ∈ ([(3 : Int),(-1 : Int),(0 : Int)])) ∧ (x.2 = q20 + 1)) ∧ r = (.i x.1) ∧ bl = ([]) ∧ fx2 = ([.sl (.bytes l),.i x.2])) (by kernel_rfl) hR)
        clear hR
        replace hq25 : (v25 ∈ ([(3 : Int),(-1 : Int),(0 : Int)])) ∧ (q25 = q20 + 1) := hq25
        obtain ⟨hv25,hq125⟩ := hq25
        simp only [List.mem_cons,List.not_mem_nil,or_false] at hv25
        refine ⟨by kernel_rfl,WI.to (⟨[(0,.ptr 998 0),(1,.own 999 h.length),(5,.i v18),(21,.own 999 h.length),(22,.i v18),(23,.ptr 998 0),(24,.sl (.ints ([(3 : Int),(-1 : Int),(0 : Int)]))),(25,.i v25),(69,.b (decide (v20 = (4 : Int))))],[(998,⟨59,.fix [.sl (.bytes l),.i q25]⟩),(999,⟨49,.row (.calls h)⟩)],[25,24,20,18,11,998,999]⟩) 5 (by kernel_rfl) rfl ?_⟩
        refine WI.runT cok tab37 hnt [] 3 8 (⟨[(0,.ptr 998 0),(1,.own 999 h.length),(5,.i v18),(21,.own 999 h.length),(22,.i v18),(23,.ptr 998 0),(24,.sl (.ints ([(3 : Int),(-1 : Int),(0 : Int)]))),(25,.i v25),(26,.pel 999 7 (Int.toNat v18) 0),(27,.pel 999 7 (Int.toNat v18) 2),(69,.b (decide (v20 = (4 : Int))))],[(998,⟨59,.fix [.sl (.bytes l),.i q25]⟩),(999,⟨49,.row (.calls (List.set h (Int.toNat v18) ({ h.getD (Int.toNat v18) default with kind := v25 })))⟩)],[25,24,20,18,11,998,999]⟩)
         ((True ∧ True ∧ (0 ≤ v18) ∧ (v18 < (h.length : Int))) ∧ True ∧ (True ∧ True ∧ ((Int.toNat v18) < h.length)) ∧ True) (by kernel_rfl) rfl
         ⟨⟨tt,tt,(by omega),(by omega)⟩,tt,⟨tt,tt,(by omega)⟩,tt⟩ ?_
        refine WI.nil rfl ?_
        refine blockQ_normal (thenQ_normal ?_)
        refine W.K cok tab37 hnt [] [4] (⟨[(4,.own 999 h.length)],[(998,⟨59,.fix [.sl (.bytes l),.i q25]⟩),(999,⟨49,.row (.calls (List.set h (Int.toNat v18) ({ h.getD (Int.toNat v18) default with kind := v25 })))⟩)],[25,24,20,18,11,998,999]⟩)
         (True ∧ True ∧ True) (by kernel_rfl)
         ⟨tt,tt,tt⟩ ?_
        refine W.ret ?_
        exact endP_ret ((List.set h (Int.toNat v18) ({ h.getD (Int.toNat v18) default with kind := v25 })),q25) (show ((List.set h (Int.toNat v18) ({ h.getD (Int.toNat v18) default with kind := v25 })).length = h.length) ∧ (p ≤ q25 ∧ q25 ≤ p + 10) from ⟨(by first | rfl | simp),(by first | assumption | omega | rfl | (simp; done) | (simp; omega))⟩) [(1,999),(0,998)] (.own 999 h.length) (by kernel_rfl) (@cast ((((999 : Nat) = 999) ∧ ((h.length = (List.length (List.set h (Int.toNat v18) ({ h.getD (Int.toNat v18) default with kind := v25 })))) ∧ ((1 : Nat) ∈ ([0,1] : List Nat)))) ∧ (((((59 : Nat) = 59) ∧ ((((.bytes l : Dat) = .bytes l) ∧ (((.int .i64 q25 : Value) = .int .i64 q25) ∧ True)) ∧ ((0 : Nat) ∈ ([0,1] : List Nat)))) ∧ ((((49 : Nat) = 49) ∧ (((.calls (List.set h (Int.toNat v18) ({ h.getD (Int.toNat v18) default with kind := v25 })) : Dat) = .calls (List.set h (Int.toNat v18) ({ h.getD (Int.toNat v18) default with kind := v25 }))) ∧ ((1 : Nat) ∈ ([0,1] : List Nat)))) ∧ True)) ∧ ((true = true) ∧ (((([] : List Nat) = []) ∧ True) ∧ (true = true → (998 : Nat) = 998))))) _ (by kernel_rfl) ⟨⟨rfl,(by first | rfl | omega | assumption | (symm; assumption) | simp | simp_all),(by decide)⟩,⟨⟨rfl,⟨rfl,rfl,tt⟩,(by decide)⟩,⟨rfl,rfl,(by decide)⟩,tt⟩,rfl,⟨rfl,tt⟩,(fun _ => rfl)⟩)
theorem ent37 : Entr prog 37 := ⟨_,func37,rfl,by decide⟩
end Go.Proofs.Try

set_option linter.unusedSimpArgs false
set_option linter.unusedVariables false
namespace Go.Proofs.Try
open Go.Ab Go.RowKit
def pre20 : List AV → List AV → Prop := preP [] [.bytes,.int] (fun _ (l,p,_) => (0 ≤ p ∧ p ≤ 600000))
def rel20 : RelS := relP [] [.bytes,.int] (ι := ByteArray × (List CallD) × Int) (fun _ (l,p,_) (nm,g,q) => (g.length ≤ 6) ∧ (p ≤ q ∧ q ≤ p + 1300)) (fun _ (l,p,_) (nm,g,q) => (.tup [.v (.string nm),.own 1 g.length],[⟨49,.row (.calls g)⟩],[.sl (.bytes l),.i q]))
abbrev T20 : Tab := lk []
theorem tab20 : TabOK prog T20 := TabOK.nil
set_option maxRecDepth 100000 in
set_option maxHeartbeats 1000000 in
theorem rok20 : RelOK prog 20 (some 59) [] pre20 rel20 := by
 refine RelOK.mk cok func20 rfl rfl rfl ?_
 rintro _ ⟨(l : List UInt8),(p : Int),_⟩ hpre F hnt0
 have hnt : F.nt = 13 := hnt0.trans ntmps20
 replace hpre : (0 ≤ p ∧ p ≤ 600000) := hpre
 have hp := hpre
 refine W.to (⟨[(0,.ptr 998 0)],[(998,⟨59,.fix [.sl (.bytes l),.i p]⟩)],[998,999]⟩) rfl ?_
 refine W.K cok tab20 hnt [] [0] (⟨[(0,.ptr 998 0)],[(998,⟨59,.fix [.sl (.bytes l),.i p]⟩)],[998,999]⟩)
  (True ∧ True ∧ True) (by kernel_rfl)
  ⟨tt,tt,tt⟩ ?_
 refine W.seq (W.wi ?_)
 refine WI.runT cok tab20 hnt [] 1 1 (⟨[(0,.ptr 998 0),(5,.ptr 998 0)],[(998,⟨59,.fix [.sl (.bytes l),.i p]⟩)],[998,999]⟩)
  (True ∧ True) (by kernel_rfl) rfl
  ⟨tt,tt⟩ ?_
 refine WI.call [.ptr 998 0] [.sl (.bytes l),.i p] [] [] (some (59,998)) (True) (True) none rok36 ent36 hnt rfl rfl (wanted_none rfl) (by kernel_rfl) (by kernel_rfl) (by kernel_rfl) ⟨tt,tt⟩
  (@cast (0 ≤ p ∧ p ≤ 1000000) _ (by kernel_rfl) (by omega)) (Or.inl rfl) rfl ?_
 rintro r bl fx2 hR
 obtain ⟨⟨v6,q6⟩,hq6,rfl,rfl,rfl⟩ := (@cast _ (∃ x : ByteArray × Int,((x.2 = p + 1)) ∧ r = (.v (.string x.1)) ∧ bl = ([]) ∧ fx2 = ([.sl (.bytes l),.i x.2])) (by kernel_rfl) hR)
 clear hR
 replace hq6 : (q6 = p + 1) := hq6
 have hq16 := hq6
 refine ⟨by kernel_rfl,WI.to (⟨[(0,.ptr 998 0),(5,.ptr 998 0),(6,.v (.string v6))],[(998,⟨59,.fix [.sl (.bytes l),.i q6]⟩)],[6,998,999]⟩) 2 (by kernel_rfl) rfl ?_⟩
 refine WI.runT cok tab20 hnt [] 1 3 (⟨[(0,.ptr 998 0),(4,.v (.string v6)),(5,.ptr 998 0),(6,.v (.string v6))],[(998,⟨59,.fix [.sl (.bytes l),.i q6]⟩)],[6,998,999]⟩)
  (True ∧ True) (by kernel_rfl) rfl
  ⟨tt,tt⟩ ?_
 refine WI.nil rfl (thenQ_normal ?_)
 refine W.keepE [0,4] [(0,.ptr 998 0),(4,.v (.string v6))] (by kernel_rfl) ?_
 refine W.to (⟨[(0,.ptr 998 0),(4,.v (.string v6))],[(998,⟨59,.fix [.sl (.bytes l),.i q6]⟩)],[6,998,999]⟩) rfl ?_
 refine W.seq (W.wi ?_)
 refine WI.runT cok tab20 hnt [] 4 4 (⟨[(0,.ptr 998 0),(4,.v (.string v6)),(7,.v (.string v6)),(8,.ptr 998 0),(9,.ptr 998 0),(10,.v (.string v6))],[(998,⟨59,.fix [.sl (.bytes l),.i q6]⟩)],[6,998,999]⟩)
  (True ∧ True ∧ True ∧ True ∧ True) (by kernel_rfl) rfl
  ⟨tt,tt,tt,tt,tt⟩ ?_
 refine WI.call [.ptr 998 0,.v (.string v6)] [.sl (.bytes l),.i q6] [.v (.string v6)] [.v (.string v6)] (some (59,998)) (True) (True ∧ True) none rok38 ent38 hnt rfl rfl (wanted_none rfl) (by kernel_rfl) (by kernel_rfl) (by kernel_rfl) ⟨tt,tt,tt⟩
  (@cast (0 ≤ q6 ∧ q6 ≤ 800000) _ (by kernel_rfl) (by omega)) (Or.inl rfl) rfl ?_
 rintro r bl fx2 hR
 obtain ⟨⟨g11,q11⟩,hq11,rfl,rfl,rfl⟩ := (@cast _ (∃ x : (List CallD) × Int,((GoodH x.1) ∧ (q6 ≤ x.2 ∧ x.2 ≤ q6 + 1200)) ∧ r = (.own 1 (List.length x.1)) ∧ bl = ([⟨49,.row (.calls x.1)⟩]) ∧ fx2 = ([.sl (.bytes l),.i x.2])) (by kernel_rfl) hR)
 clear hR
 replace hq11 : (GoodH g11) ∧ (q6 ≤ q11 ∧ q11 ≤ q6 + 1200) := hq11
 obtain ⟨hg11,hq111⟩ := hq11
 refine ⟨by kernel_rfl,WI.to (⟨[(0,.ptr 998 0),(4,.v (.string v6)),(7,.v (.string v6)),(8,.ptr 998 0),(9,.ptr 998 0),(10,.v (.string v6)),(11,.own 1011 g11.length)],[(998,⟨59,.fix [.sl (.bytes l),.i q11]⟩),(1011,⟨49,.row (.calls g11)⟩)],[1011,11,6,998,999]⟩) 5 (by kernel_rfl) rfl ?_⟩
 refine WI.call [.ptr 998 0,.own 1011 g11.length] [.sl (.bytes l),.i q11] [.own 1011 g11.length] [.sl (.calls g11)] (some (59,998)) (True) ((True ∧ (g11.length = g11.length)) ∧ True) (some 1011) rok37 ent37 hnt rfl rfl (wanted_none rfl) (by kernel_rfl) (by kernel_rfl) (by kernel_rfl) ⟨tt,⟨tt,rfl⟩,tt⟩
  (@cast ((0 ≤ q11 ∧ q11 ≤ 900000) ∧ (GoodH g11)) _ (by kernel_rfl) ⟨(by omega),(by omega)⟩) (Or.inr (by decide)) rfl ?_
 rintro r bl fx2 hR
 obtain ⟨⟨g12,q12⟩,hq12,rfl,rfl,rfl⟩ := (@cast _ (∃ x : (List CallD) × Int,((x.1.length = g11.length) ∧ (q11 ≤ x.2 ∧ x.2 ≤ q11 + 10)) ∧ r = (.own 1 (List.length x.1)) ∧ bl = ([⟨49,.row (.calls x.1)⟩]) ∧ fx2 = ([.sl (.bytes l),.i x.2])) (by kernel_rfl) hR)
 clear hR
 replace hq12 : (g12.length = g11.length) ∧ (q11 ≤ q12 ∧ q12 ≤ q11 + 10) := hq12
 obtain ⟨hg12,hq112⟩ := hq12
 refine ⟨by kernel_rfl,WI.to (⟨[(0,.ptr 998 0),(4,.v (.string v6)),(7,.v (.string v6)),(8,.ptr 998 0),(9,.ptr 998 0),(10,.v (.string v6)),(11,.own 1011 g11.length),(12,.own 1012 g12.length)],[(998,⟨59,.fix [.sl (.bytes l),.i q12]⟩),(1012,⟨49,.row (.calls g12)⟩)],[1012,12,1011,11,6,998,999]⟩) 6 (by kernel_rfl) rfl ?_⟩
 refine WI.runT cok tab20 hnt [] 2 8 (⟨[(0,.ptr 998 0),(2,.v (.string v6)),(3,.own 1012 g12.length),(4,.v (.string v6)),(7,.v (.string v6)),(8,.ptr 998 0),(9,.ptr 998 0),(10,.v (.string v6)),(11,.own 1011 g11.length),(12,.own 1012 g12.length)],[(998,⟨59,.fix [.sl (.bytes l),.i q12]⟩),(1012,⟨49,.row (.calls g12)⟩)],[1012,12,1011,11,6,998,999]⟩)
  (True ∧ True ∧ True) (by kernel_rfl) rfl
  ⟨tt,tt,tt⟩ ?_
 refine WI.nil rfl (thenQ_normal ?_)
 refine W.keepE [2,3] [(2,.v (.string v6)),(3,.own 1012 g12.length)] (by kernel_rfl) ?_
 refine W.to (⟨[(2,.v (.string v6)),(3,.own 1012 g12.length)],[(998,⟨59,.fix [.sl (.bytes l),.i q12]⟩),(1012,⟨49,.row (.calls g12)⟩)],[1012,12,1011,11,6,998,999]⟩) rfl ?_
 refine W.ret ?_
 exact endP_ret (v6,g12,q12) (show (g12.length ≤ 6) ∧ (p ≤ q12 ∧ q12 ≤ p + 1300) from ⟨(by have hh := hg11.1; omega),(by first | assumption | omega | rfl | (simp; done) | (simp; omega))⟩) [(1,1012),(0,998)] (.tup [.v (.string v6),.own 1012 g12.length]) (by kernel_rfl) (@cast (((((.string v6) : Value) = (.string v6)) ∧ ((((1012 : Nat) = 1012) ∧ ((g12.length = g12.length) ∧ ((1 : Nat) ∈ ([0,1] : List Nat)))) ∧ True)) ∧ (((((59 : Nat) = 59) ∧ ((((.bytes l : Dat) = .bytes l) ∧ (((.int .i64 q12 : Value) = .int .i64 q12) ∧ True)) ∧ ((0 : Nat) ∈ ([0,1] : List Nat)))) ∧ ((((49 : Nat) = 49) ∧ (((.calls g12 : Dat) = .calls g12) ∧ ((1 : Nat) ∈ ([0,1] : List Nat)))) ∧ True)) ∧ ((true = true) ∧ (((([] : List Nat) = []) ∧ True) ∧ (true = true → (998 : Nat) = 998))))) _ (by kernel_rfl) ⟨⟨rfl,⟨rfl,rfl,(by decide)⟩,tt⟩,⟨⟨rfl,⟨rfl,rfl,tt⟩,(by decide)⟩,⟨rfl,rfl,(by decide)⟩,tt⟩,rfl,⟨rfl,tt⟩,(fun _ => rfl)⟩)
theorem ent20 : Entr prog 20 := ⟨_,func20,rfl,by decide⟩
end Go.Proofs.Try

set_option linter.unusedSimpArgs false
set_option linter.unusedVariables false
namespace Go.Proofs.Try
open Go.Ab Go.RowKit
def pre13 : List AV → List AV → Prop := preP [.bytes] [] (fun (code,_) _ => True)
def rel13 : RelS := relP [.bytes] [] (ι := ByteArray × (List CallD)) (fun (code,_) _ (nm,g) => (g.length ≤ 6)) (fun (code,_) _ (nm,g) => (.tup [.v (.string nm),.sl (.calls g)],[],[]))
abbrev T13 : Tab := lk []
theorem tab13 : TabOK prog T13 := TabOK.nil
set_option maxRecDepth 100000 in
set_option maxHeartbeats 1000000 in
theorem rok13 : RelOK prog 13 none [.s .bytes] pre13 rel13 := by
 refine RelOK.mk cok func13 rfl rfl rfl ?_
 rintro ⟨(code : List UInt8),_⟩ _ hpre F hnt0
 have hnt : F.nt = 34 := hnt0.trans ntmps13
 clear hpre
 refine W.to (⟨[(0,.sl (.bytes code))],[],[998,999]⟩) rfl ?_
 refine W.K cok tab13 hnt [] [0] (⟨[(0,.sl (.bytes code))],[],[998,999]⟩)
  (True ∧ True ∧ True) (by kernel_rfl)
  ⟨tt,tt,tt⟩ ?_
 refine W.seq (W.wi ?_)
 refine WI.runT cok tab13 hnt [] 1 1 (⟨[(0,.sl (.bytes code)),(7,.sl (.bytes code))],[],[998,999]⟩)
  (True ∧ True) (by kernel_rfl) rfl
  ⟨tt,tt⟩ ?_
 refine WI.call [.sl (.bytes code)] [] [.sl (.bytes code)] [.sl (.bytes code)] none (True) (True ∧ True) none rok21 ent21 hnt rfl rfl (wanted_none rfl) (by kernel_rfl) (by kernel_rfl) (by kernel_rfl) ⟨tt,tt,tt⟩
  (@cast (True) _ (by kernel_rfl) trivial) (Or.inl rfl) rfl ?_
 rintro r bl fx2 hR
 obtain ⟨l8,hq8,rfl,rfl,rfl⟩ := (@cast _ (∃ x : (List UInt8),(True) ∧ r = (.ptr 0 0) ∧ bl = ([⟨59,.fix [.sl (.bytes x),.i (0 : Int)]⟩]) ∧ fx2 = ([])) (by kernel_rfl) hR)
 clear hR
 replace hq8 : True := hq8
 refine ⟨by kernel_rfl,WI.to (⟨[(0,.sl (.bytes code)),(7,.sl (.bytes code)),(8,.ptr 8 0)],[(8,⟨59,.fix [.sl (.bytes l8),.i (0 : Int)]⟩)],[8,998,999]⟩) 2 (by kernel_rfl) rfl ?_⟩
 refine WI.runT cok tab13 hnt [] 1 3 (⟨[(0,.sl (.bytes code)),(4,.ptr 8 0),(7,.sl (.bytes code)),(8,.ptr 8 0)],[(8,⟨59,.fix [.sl (.bytes l8),.i (0 : Int)]⟩)],[8,998,999]⟩)
  (True ∧ True) (by kernel_rfl) rfl
  ⟨tt,tt⟩ ?_
 refine WI.nil rfl (thenQ_normal ?_)
 refine W.keepE [4] [(4,.ptr 8 0)] (by kernel_rfl) ?_
 refine W.to (⟨[(4,.ptr 8 0)],[(8,⟨59,.fix [.sl (.bytes l8),.i (0 : Int)]⟩)],[8,998,999]⟩) rfl ?_
 refine W.seq (W.wi ?_)
 refine WI.runT cok tab13 hnt [] 1 1 (⟨[(4,.ptr 8 0),(10,.ptr 8 0)],[(8,⟨59,.fix [.sl (.bytes l8),.i (0 : Int)]⟩)],[8,998,999]⟩)
  (True ∧ True) (by kernel_rfl) rfl
  ⟨tt,tt⟩ ?_
 refine WI.call [.ptr 8 0] [.sl (.bytes l8),.i (0 : Int)] [] [] (some (59,8)) (True) (True) none rok20 ent20 hnt rfl rfl (wanted_none rfl) (by kernel_rfl) (by kernel_rfl) (by kernel_rfl) ⟨tt,tt⟩
  (@cast (0 ≤ (0 : Int) ∧ (0 : Int) ≤ 600000) _ (by kernel_rfl) (by omega)) (Or.inl rfl) rfl ?_
 rintro r bl fx2 hR
 obtain ⟨⟨nm11,g11,q11⟩,hq11,rfl,rfl,rfl⟩ := (@cast _ (∃ x : ByteArray × (List CallD) × Int,((x.2.1.length ≤ 6) ∧ ((0 : Int) ≤ x.2.2 ∧ x.2.2 ≤ (0 : Int) + 1300)) ∧ r = (.tup [.v (.string x.1),.own 1 (List.length x.2.1)]) ∧ bl = ([⟨49,.row (.calls x.2.1)⟩]) ∧ fx2 = ([.sl (.bytes l8),.i x.2.2])) (by kernel_rfl) hR)
 clear hR
 replace hq11 : (g11.length ≤ 6) ∧ ((0 : Int) ≤ q11 ∧ q11 ≤ (0 : Int) + 1300) := hq11
 obtain ⟨hg11,hq111⟩ := hq11
 refine ⟨by kernel_rfl,WI.to (⟨[(4,.ptr 8 0),(10,.ptr 8 0),(11,.tup [.v (.string nm11),.own 1011 g11.length])],[(8,⟨59,.fix [.sl (.bytes l8),.i q11]⟩),(1011,⟨49,.row (.calls g11)⟩)],[1011,11,8,998,999]⟩) 2 (by kernel_rfl) rfl ?_⟩
 refine WI.runT cok tab13 hnt [] 5 7 (⟨[(4,.ptr 8 0),(5,.v (.string nm11)),(6,.own 1011 g11.length),(9,.tup [.v (.string nm11),.own 1011 g11.length]),(10,.ptr 8 0),(11,.tup [.v (.string nm11),.own 1011 g11.length]),(12,.v (.string nm11)),(13,.own 1011 g11.length)],[(8,⟨59,.fix [.sl (.bytes l8),.i q11]⟩),(1011,⟨49,.row (.calls g11)⟩)],[1011,11,8,998,999]⟩)
  (True ∧ True ∧ True ∧ True ∧ True ∧ True) (by kernel_rfl) rfl
  ⟨tt,tt,tt,tt,tt,tt⟩ ?_
 refine WI.nil rfl (thenQ_normal ?_)
 refine W.keepE [4,5,6] [(4,.ptr 8 0),(5,.v (.string nm11)),(6,.own 1011 g11.length)] (by kernel_rfl) ?_
 refine W.to (⟨[(4,.ptr 8 0),(5,.v (.string nm11)),(6,.own 1011 g11.length)],[(8,⟨59,.fix [.sl (.bytes l8),.i q11]⟩),(1011,⟨49,.row (.calls g11)⟩)],[1011,11,8,998,999]⟩) rfl ?_
 refine W.seq ?_
 refine W.seq (W.wi ?_)
 refine WI.runT cok tab13 hnt [] 5 5 (⟨[(4,.ptr 8 0),(5,.v (.string nm11)),(6,.own 1011 g11.length),(14,.own 1011 g11.length),(15,.i (g11.length : Int)),(16,.b (decide ((0 : Int) < (g11.length : Int)))),(17,.b (decide ((0 : Int) < (g11.length : Int)))),(18,.g (decide ((0 : Int) < (g11.length : Int))) (.ptr 8 0))],[(8,⟨59,.fix [.sl (.bytes l8),.i q11]⟩),(1011,⟨49,.row (.calls g11)⟩)],[1011,11,8,998,999]⟩)
  (True ∧ True ∧ (True ∧ True ∧ True) ∧ True ∧ ((decide ((0 : Int) < (g11.length : Int))) = true → True) ∧ True) (by kernel_rfl) rfl
  ⟨tt,tt,⟨tt,tt,tt⟩,tt,(fun _ => trivial),tt⟩ ?_
 rcases Bool.eq_false_or_eq_true (decide ((0 : Int) < (g11.length : Int))) with hT19 | hT19
 ·skip
  have hT19_0 : (0 : Int) < (g11.length : Int) := of_decide_eq_true hT19
  refine WI.to (⟨[(4,.ptr 8 0),(5,.v (.string nm11)),(6,.own 1011 g11.length),(14,.own 1011 g11.length),(15,.i (g11.length : Int)),(16,.b true),(17,.b true),(18,.g true (.ptr 8 0))],[(8,⟨59,.fix [.sl (.bytes l8),.i q11]⟩),(1011,⟨49,.row (.calls g11)⟩)],[1011,11,8,998,999]⟩) 5 (congrArg (fun z => (⟨[(4,.ptr 8 0),(5,.v (.string nm11)),(6,.own 1011 g11.length),(14,.own 1011 g11.length),(15,.i (g11.length : Int)),(16,.b z),(17,.b z),(18,.g z (.ptr 8 0))],[(8,⟨59,.fix [.sl (.bytes l8),.i q11]⟩),(1011,⟨49,.row (.calls g11)⟩)],[1011,11,8,998,999]⟩ : St)) hT19) rfl ?_
  refine WI.call [.g true (.ptr 8 0),.i (2 : Int)] [.sl (.bytes l8),.i q11] [.i (2 : Int)] [.i (2 : Int)] (some (59,8)) ((true = true) ∧ True) (True ∧ True) none rok32 ent32 hnt rfl rfl (wanted_if (t := 17) (gx := .b true) rfl rfl (by kernel_rfl) (by kernel_rfl)) (by kernel_rfl) (by kernel_rfl) (by kernel_rfl) ⟨⟨rfl,tt⟩,tt,tt⟩
   (@cast (0 ≤ q11 ∧ q11 ≤ 1000000) _ (by kernel_rfl) (by omega)) (Or.inl rfl) rfl ?_
  rintro r bl fx2 hR
  obtain ⟨⟨v19,q19⟩,hq19,rfl,rfl,rfl⟩ := (@cast _ (∃ x : Int × Int,((0 ≤ x.1 ∧ x.1 < max (2 : Int) 1) ∧ (x.2 = q11 + 1)) ∧ r = (.i x.1) ∧ bl = ([]) ∧ fx2 = ([.sl (.bytes l8),.i x.2])) (by kernel_rfl) hR)
  clear hR
  replace hq19 : (0 ≤ v19 ∧ v19 < max (2 : Int) 1) ∧ (q19 = q11 + 1) := hq19
  obtain ⟨hv19,hq119⟩ := hq19
  refine ⟨by kernel_rfl,WI.to (⟨[(4,.ptr 8 0),(5,.v (.string nm11)),(6,.own 1011 g11.length),(14,.own 1011 g11.length),(15,.i (g11.length : Int)),(16,.b true),(17,.b true),(18,.g true (.ptr 8 0)),(19,.i v19)],[(8,⟨59,.fix [.sl (.bytes l8),.i q19]⟩),(1011,⟨49,.row (.calls g11)⟩)],[19,1011,11,8,998,999]⟩) 6 (by kernel_rfl) rfl ?_⟩
  refine WI.runT cok tab13 hnt [] 1 7 (⟨[(4,.ptr 8 0),(5,.v (.string nm11)),(6,.own 1011 g11.length),(14,.own 1011 g11.length),(15,.i (g11.length : Int)),(16,.b true),(17,.b true),(18,.g true (.ptr 8 0)),(19,.i v19),(20,.g true (.b (decide (v19 = (0 : Int)))))],[(8,⟨59,.fix [.sl (.bytes l8),.i q19]⟩),(1011,⟨49,.row (.calls g11)⟩)],[19,1011,11,8,998,999]⟩)
   ((true = true → (True ∧ (True ∧ True))) ∧ True) (by kernel_rfl) rfl
   ⟨(fun _ => ⟨tt,tt,tt⟩),tt⟩ ?_
  refine WI.pickL true (.b true) (.g true (.b (decide (v19 = (0 : Int))))) rfl hnt (wanted_none rfl) rfl (by kernel_rfl) rfl trivial (by kernel_rfl) ⟨rfl,tt⟩ rfl ?_
  refine WI.to (⟨[(4,.ptr 8 0),(5,.v (.string nm11)),(6,.own 1011 g11.length),(14,.own 1011 g11.length),(15,.i (g11.length : Int)),(16,.b true),(17,.b true),(18,.g true (.ptr 8 0)),(19,.i v19),(20,.g true (.b (decide (v19 = (0 : Int))))),(21,.b (decide (v19 = (0 : Int))))],[(8,⟨59,.fix [.sl (.bytes l8),.i q19]⟩),(1011,⟨49,.row (.calls g11)⟩)],[19,1011,11,8,998,999]⟩) 8 (by kernel_rfl) rfl ?_
  refine WI.nil rfl (thenQ_normal ?_)
  refine W.keepE [4,5,6,21] [(4,.ptr 8 0),(5,.v (.string nm11)),(6,.own 1011 g11.length),(21,.b (decide (v19 = (0 : Int))))] (by kernel_rfl) ?_
  refine W.to (⟨[(4,.ptr 8 0),(5,.v (.string nm11)),(6,.own 1011 g11.length),(21,.b (decide (v19 = (0 : Int))))],[(8,⟨59,.fix [.sl (.bytes l8),.i q19]⟩),(1011,⟨49,.row (.calls g11)⟩)],[19,1011,11,8,998,999]⟩) rfl ?_
  refine W.ifP (v19 = (0 : Int)) (.b (decide (v19 = (0 : Int)))) (by kernel_rfl) rfl trivial ?_ ?_
  ·intro h21
   refine W.wi ?_
   refine WI.runT cok tab13 hnt [] 4 4 (⟨[(4,.ptr 8 0),(5,.v (.string nm11)),(6,.own 1011 g11.length),(21,.b (decide (v19 = (0 : Int)))),(22,.own 1011 g11.length),(23,.ptr 8 0),(24,.own 1011 g11.length),(25,.i (g11.length : Int))],[(8,⟨59,.fix [.sl (.bytes l8),.i q19]⟩),(1011,⟨49,.row (.calls g11)⟩)],[19,1011,11,8,998,999]⟩)
    (True ∧ True ∧ True ∧ True ∧ True) (by kernel_rfl) rfl
    ⟨tt,tt,tt,tt,tt⟩ ?_
   refine WI.call [.ptr 8 0,.i (g11.length : Int)] [.sl (.bytes l8),.i q19] [.i (g11.length : Int)] [.i (g11.length : Int)] (some (59,8)) (True) (True ∧ True) none rok32 ent32 hnt rfl rfl (wanted_none rfl) (by kernel_rfl) (by kernel_rfl) (by kernel_rfl) ⟨tt,tt,tt⟩
    (@cast (0 ≤ q19 ∧ q19 ≤ 1000000) _ (by kernel_rfl) (by omega)) (Or.inl rfl) rfl ?_
   rintro r bl fx2 hR
   obtain ⟨⟨v26,q26⟩,hq26,rfl,rfl,rfl⟩ := (@cast _ (∃ x : Int × Int,((0 ≤ x.1 ∧ x.1 < max (g11.length : Int) 1) ∧ (x.2 = q19 + 1)) ∧ r = (.i x.1) ∧ bl = ([]) ∧ fx2 = ([.sl (.bytes l8),.i x.2])) (by kernel_rfl) hR)
   clear hR
   replace hq26 : (0 ≤ v26 ∧ v26 < max (g11.length : Int) 1) ∧ (q26 = q19 + 1) := hq26
   obtain ⟨hv26,hq126⟩ := hq26
   refine ⟨by kernel_rfl,WI.to (⟨[(4,.ptr 8 0),(5,.v (.string nm11)),(6,.own 1011 g11.length),(21,.b (decide (v19 = (0 : Int)))),(22,.own 1011 g11.length),(23,.ptr 8 0),(24,.own 1011 g11.length),(25,.i (g11.length : Int)),(26,.i v26)],[(8,⟨59,.fix [.sl (.bytes l8),.i q26]⟩),(1011,⟨49,.row (.calls g11)⟩)],[26,19,1011,11,8,998,999]⟩) 5 (by kernel_rfl) rfl ?_⟩
   refine WI.runT cok tab13 hnt [] 2 7 (⟨[(4,.ptr 8 0),(5,.v (.string nm11)),(6,.own 1011 g11.length),(21,.b (decide (v19 = (0 : Int)))),(22,.own 1011 g11.length),(23,.ptr 8 0),(24,.own 1011 g11.length),(25,.i (g11.length : Int)),(26,.i v26),(27,.ptr 8 0),(28,.sl (.ints ([(3 : Int),(2 : Int),(-1 : Int),(1 : Int)])))],[(8,⟨59,.fix [.sl (.bytes l8),.i q26]⟩),(1011,⟨49,.row (.calls g11)⟩)],[28,26,19,1011,11,8,998,999]⟩)
    (True ∧ (True ∧ True ∧ True ∧ True ∧ True) ∧ True) (by kernel_rfl) rfl
    ⟨tt,⟨tt,tt,tt,tt,tt⟩,tt⟩ ?_
   refine WI.call [.ptr 8 0,.sl (.ints ([(3 : Int),(2 : Int),(-1 : Int),(1 : Int)]))] [.sl (.bytes l8),.i q26] [.sl (.ints ([(3 : Int),(2 : Int),(-1 : Int),(1 : Int)]))] [.sl (.ints ([(3 : Int),(2 : Int),(-1 : Int),(1 : Int)]))] (some (59,8)) (True) (True ∧ True) none rok33 ent33 hnt rfl rfl (wanted_none rfl) (by kernel_rfl) (by kernel_rfl) (by kernel_rfl) ⟨tt,tt,tt⟩
    (@cast ((0 ≤ q26 ∧ q26 ≤ 1000000) ∧ ((0 < ([(3 : Int),(2 : Int),(-1 : Int),(1 : Int)]).length) ∧ (([(3 : Int),(2 : Int),(-1 : Int),(1 : Int)]).length ≤ 1000))) _ (by kernel_rfl) ⟨(by omega),⟨(by (first | omega | (simp only [List.length_append,List.length_cons,List.length_nil,List.length_take,List.length_drop,List.length_set,List.length_replicate,List.length_map] at *; omega) | assumption)),(by (first | omega | (simp only [List.length_append,List.length_cons,List.length_nil,List.length_take,List.length_drop,List.length_set,List.length_replicate,List.length_map] at *; omega) | assumption))⟩⟩) (Or.inl rfl) rfl ?_
   rintro r bl fx2 hR
   obtain ⟨⟨v29,q29⟩,hq29,rfl,rfl,rfl⟩ := (@cast _ (∃ x : Int × Int,((x.1 ∈ ([(3 : Int),(2 : Int),(-1 : Int),(1 : Int)])) ∧ (x.2 = q26 + 1)) ∧ r = (.i x.1) ∧ bl = ([]) ∧ fx2 = ([.sl (.bytes l8),.i x.2])) (by kernel_rfl) hR)
   clear hR
   replace hq29 : (v29 ∈ ([(3 : Int),(2 : Int),(-1 : Int),(1 : Int)])) ∧ (q29 = q26 + 1) := hq29
   obtain ⟨hv29,hq129⟩ := hq29
   simp only [List.mem_cons,List.not_mem_nil,or_false] at hv29
   refine ⟨by kernel_rfl,WI.to (⟨[(4,.ptr 8 0),(5,.v (.string nm11)),(6,.own 1011 g11.length),(21,.b (decide (v19 = (0 : Int)))),(22,.own 1011 g11.length),(23,.ptr 8 0),(24,.own 1011 g11.length),(25,.i (g11.length : Int)),(26,.i v26),(27,.ptr 8 0),(28,.sl (.ints ([(3 : Int),(2 : Int),(-1 : Int),(1 : Int)]))),(29,.i v29)],[(8,⟨59,.fix [.sl (.bytes l8),.i q29]⟩),(1011,⟨49,.row (.calls g11)⟩)],[29,28,26,19,1011,11,8,998,999]⟩) 8 (by kernel_rfl) rfl ?_⟩
   refine WI.runT cok tab13 hnt [] 3 11 (⟨[(4,.ptr 8 0),(5,.v (.string nm11)),(6,.own 1011 g11.length),(21,.b (decide (v19 = (0 : Int)))),(22,.own 1011 g11.length),(23,.ptr 8 0),(24,.own 1011 g11.length),(25,.i (g11.length : Int)),(26,.i v26),(27,.ptr 8 0),(28,.sl (.ints ([(3 : Int),(2 : Int),(-1 : Int),(1 : Int)]))),(29,.i v29),(30,.pel 1011 7 (Int.toNat v26) 0),(31,.pel 1011 7 (Int.toNat v26) 4)],[(8,⟨59,.fix [.sl (.bytes l8),.i q29]⟩),(1011,⟨49,.row (.calls (List.set g11 (Int.toNat v26) ({ g11.getD (Int.toNat v26) default with ret := v29 })))⟩)],[29,28,26,19,1011,11,8,998,999]⟩)
    ((True ∧ True ∧ (0 ≤ v26) ∧ (v26 < (g11.length : Int))) ∧ True ∧ (True ∧ True ∧ ((Int.toNat v26) < g11.length)) ∧ True) (by kernel_rfl) rfl
    ⟨⟨tt,tt,(by omega),(by omega)⟩,tt,⟨tt,tt,(by omega)⟩,tt⟩ ?_
   refine WI.nil rfl ?_
   refine thenQ_normal ?_
   refine W.K cok tab13 hnt [] [2,3] (⟨[(2,.v (.string nm11)),(3,.own 1011 g11.length)],[(8,⟨59,.fix [.sl (.bytes l8),.i q29]⟩),(1011,⟨49,.row (.calls (List.set g11 (Int.toNat v26) ({ g11.getD (Int.toNat v26) default with ret := v29 })))⟩)],[29,28,26,19,1011,11,8,998,999]⟩)
    (True ∧ True ∧ True ∧ True ∧ True) (by kernel_rfl)
    ⟨tt,tt,tt,tt,tt⟩ ?_
   refine W.ret ?_
   exact endP_ret (nm11,(List.set g11 (Int.toNat v26) ({ g11.getD (Int.toNat v26) default with ret := v29 }))) (show ((List.set g11 (Int.toNat v26) ({ g11.getD (Int.toNat v26) default with ret := v29 })).length ≤ 6) from (by first | assumption | omega | rfl | (simp; done) | (simp; omega))) [] (.tup [.v (.string nm11),.own 1011 g11.length]) (by kernel_rfl) (@cast (((((.string nm11) : Value) = (.string nm11)) ∧ (((g11.length = (List.length (List.set g11 (Int.toNat v26) ({ g11.getD (Int.toNat v26) default with ret := v29 })))) ∧ (((.calls (List.set g11 (Int.toNat v26) ({ g11.getD (Int.toNat v26) default with ret := v29 })) : Dat) = .calls (List.set g11 (Int.toNat v26) ({ g11.getD (Int.toNat v26) default with ret := v29 }))) ∧ ((1011 : Nat) ∉ ([] : List Nat)))) ∧ True)) ∧ (True ∧ ((true = true) ∧ (True ∧ (false = true → (0 : Nat) = 998))))) _ (by kernel_rfl) ⟨⟨rfl,⟨(by first | rfl | omega | assumption | (symm; assumption) | simp | simp_all),rfl,(by decide)⟩,tt⟩,tt,rfl,tt,(fun h => by cases h)⟩)
  ·intro n21
   refine W.skip (thenQ_normal ?_)
   refine W.K cok tab13 hnt [] [2,3] (⟨[(2,.v (.string nm11)),(3,.own 1011 g11.length)],[(8,⟨59,.fix [.sl (.bytes l8),.i q19]⟩),(1011,⟨49,.row (.calls g11)⟩)],[19,1011,11,8,998,999]⟩)
    (True ∧ True ∧ True ∧ True ∧ True) (by kernel_rfl)
    ⟨tt,tt,tt,tt,tt⟩ ?_
   refine W.ret ?_
   exact endP_ret (nm11,g11) (show (g11.length ≤ 6) from (by first | assumption | omega | rfl | (simp; done) | (simp; omega))) [] (.tup [.v (.string nm11),.own 1011 g11.length]) (by kernel_rfl) (@cast (((((.string nm11) : Value) = (.string nm11)) ∧ (((g11.length = g11.length) ∧ (((.calls g11 : Dat) = .calls g11) ∧ ((1011 : Nat) ∉ ([] : List Nat)))) ∧ True)) ∧ (True ∧ ((true = true) ∧ (True ∧ (false = true → (0 : Nat) = 998))))) _ (by kernel_rfl) ⟨⟨rfl,⟨rfl,rfl,(by decide)⟩,tt⟩,tt,rfl,tt,(fun h => by cases h)⟩)
 ·skip
  have hT19_0 : ¬ ((0 : Int) < (g11.length : Int)) := of_decide_eq_false hT19
  refine WI.to (⟨[(4,.ptr 8 0),(5,.v (.string nm11)),(6,.own 1011 g11.length),(14,.own 1011 g11.length),(15,.i (g11.length : Int)),(16,.b false),(17,.b false),(18,.g false (.ptr 8 0))],[(8,⟨59,.fix [.sl (.bytes l8),.i q11]⟩),(1011,⟨49,.row (.calls g11)⟩)],[1011,11,8,998,999]⟩) 5 (congrArg (fun z => (⟨[(4,.ptr 8 0),(5,.v (.string nm11)),(6,.own 1011 g11.length),(14,.own 1011 g11.length),(15,.i (g11.length : Int)),(16,.b z),(17,.b z),(18,.g z (.ptr 8 0))],[(8,⟨59,.fix [.sl (.bytes l8),.i q11]⟩),(1011,⟨49,.row (.calls g11)⟩)],[1011,11,8,998,999]⟩ : St)) hT19) rfl ?_
  refine WI.pass rfl hnt (wanted_if (t := 17) (gx := .b false) rfl rfl (by kernel_rfl) (by kernel_rfl)) rfl ?_
  refine WI.to (⟨[(4,.ptr 8 0),(5,.v (.string nm11)),(6,.own 1011 g11.length),(14,.own 1011 g11.length),(15,.i (g11.length : Int)),(16,.b false),(17,.b false),(18,.g false (.ptr 8 0)),(19,.any)],[(8,⟨59,.fix [.sl (.bytes l8),.i q11]⟩),(1011,⟨49,.row (.calls g11)⟩)],[1011,11,8,998,999]⟩) 6 (by kernel_rfl) rfl ?_
  refine WI.pass rfl hnt (wanted_if (t := 17) (gx := .b false) rfl rfl (by kernel_rfl) (by kernel_rfl)) rfl ?_
  refine WI.to (⟨[(4,.ptr 8 0),(5,.v (.string nm11)),(6,.own 1011 g11.length),(14,.own 1011 g11.length),(15,.i (g11.length : Int)),(16,.b false),(17,.b false),(18,.g false (.ptr 8 0)),(19,.any),(20,.any)],[(8,⟨59,.fix [.sl (.bytes l8),.i q11]⟩),(1011,⟨49,.row (.calls g11)⟩)],[1011,11,8,998,999]⟩) 7 (by kernel_rfl) rfl ?_
  refine WI.pickL false (.b false) (.b false) rfl hnt (wanted_none rfl) rfl (by kernel_rfl) rfl trivial (by kernel_rfl) trivial rfl ?_
  refine WI.to (⟨[(4,.ptr 8 0),(5,.v (.string nm11)),(6,.own 1011 g11.length),(14,.own 1011 g11.length),(15,.i (g11.length : Int)),(16,.b false),(17,.b false),(18,.g false (.ptr 8 0)),(19,.any),(20,.any),(21,.b false)],[(8,⟨59,.fix [.sl (.bytes l8),.i q11]⟩),(1011,⟨49,.row (.calls g11)⟩)],[1011,11,8,998,999]⟩) 8 (by kernel_rfl) rfl ?_
  refine WI.nil rfl (thenQ_normal ?_)
  refine W.keepE [4,5,6,21] [(4,.ptr 8 0),(5,.v (.string nm11)),(6,.own 1011 g11.length),(21,.b false)] (by kernel_rfl) ?_
  refine W.to (⟨[(4,.ptr 8 0),(5,.v (.string nm11)),(6,.own 1011 g11.length),(21,.b false)],[(8,⟨59,.fix [.sl (.bytes l8),.i q11]⟩),(1011,⟨49,.row (.calls g11)⟩)],[1011,11,8,998,999]⟩) rfl ?_
  refine W.ifF (.b false) (by kernel_rfl) rfl trivial ?_
  refine W.skip (thenQ_normal ?_)
  refine W.K cok tab13 hnt [] [2,3] (⟨[(2,.v (.string nm11)),(3,.own 1011 g11.length)],[(8,⟨59,.fix [.sl (.bytes l8),.i q11]⟩),(1011,⟨49,.row (.calls g11)⟩)],[1011,11,8,998,999]⟩)
   (True ∧ True ∧ True ∧ True ∧ True) (by kernel_rfl)
   ⟨tt,tt,tt,tt,tt⟩ ?_
  refine W.ret ?_
  exact endP_ret (nm11,g11) (show (g11.length ≤ 6) from (by first | assumption | omega | rfl | (simp; done) | (simp; omega))) [] (.tup [.v (.string nm11),.own 1011 g11.length]) (by kernel_rfl) (@cast (((((.string nm11) : Value) = (.string nm11)) ∧ (((g11.length = g11.length) ∧ (((.calls g11 : Dat) = .calls g11) ∧ ((1011 : Nat) ∉ ([] : List Nat)))) ∧ True)) ∧ (True ∧ ((true = true) ∧ (True ∧ (false = true → (0 : Nat) = 998))))) _ (by kernel_rfl) ⟨⟨rfl,⟨rfl,rfl,(by decide)⟩,tt⟩,tt,rfl,tt,(fun h => by cases h)⟩)
theorem ent13 : Entr prog 13 := ⟨_,func13,rfl,by decide⟩
end Go.Proofs.Try

set_option linter.unusedSimpArgs false
set_option linter.unusedVariables false
namespace Go.Proofs.Try
open Go.Ab Go.RowKit
def fs4 : FnS := fnS [.s .bytes] [.bytes] (fun _ (code,_) => (.b true,[],True))
abbrev T4 : Tab := lk [(14,fs14),(15,fs15),(16,fs16),(17,fs17),(18,fs18),(19,fs19)]
theorem tab4 : TabOK prog T4 := (TabOK.cons ok14 ent14 (TabOK.cons ok15 ent15 (TabOK.cons ok16 ent16 (TabOK.cons ok17 ent17 (TabOK.cons ok18 ent18 (TabOK.cons ok19 ent19 TabOK.nil))))))
set_option maxRecDepth 100000 in
set_option maxHeartbeats 1000000 in
theorem ok4 : FnOK prog 4 fs4 := by
 refine FnOK.mk cok func4 rfl rfl rfl ?_
 rintro fl ⟨(code : List UInt8),_⟩ hpre F hnt0 _
 have hnt : F.nt = 71 := hnt0.trans ntmps4
 clear hpre
 refine W.to (⟨[(0,.sl (.bytes code))],[],[999]⟩) rfl ?_
 refine W.lenOf 0 (.bytes code) (by kernel_rfl) ?_
 intro hl_code; replace hl_code : List.length code ≤ 9223372036854775807 := hl_code
 refine W.K cok tab4 hnt [] [0] (⟨[(0,.sl (.bytes code))],[],[999]⟩)
  (True ∧ True) (by kernel_rfl)
  ⟨tt,tt⟩ ?_
 refine W.seq ?_
 refine W.K cok tab4 hnt [] [0,11] (⟨[(0,.sl (.bytes code)),(11,.b (decide ((1048576 : Int) < (code.length : Int))))],[],[999]⟩)
  (True ∧ True ∧ (True ∧ True ∧ True) ∧ True) (by kernel_rfl)
  ⟨tt,tt,⟨tt,tt,tt⟩,tt⟩ ?_
 refine W.ifP ((1048576 : Int) < (code.length : Int)) (.b (decide ((1048576 : Int) < (code.length : Int)))) (by kernel_rfl) rfl trivial ?_ ?_
 ·intro h11
  refine W.K cok tab4 hnt [] [2] (⟨[(2,.b true)],[],[999]⟩)
   (True ∧ True) (by kernel_rfl)
   ⟨tt,tt⟩ ?_
  refine W.ret (thenQ_ret ?_)
  exact endQ_ret (.b true) (by kernel_rfl) (@cast ((.bool true : Value) = .bool true) _ (by kernel_rfl) rfl)
 ·intro n11
  refine W.skip (thenQ_normal ?_)
  refine W.seq (W.wi ?_)
  refine WI.runT cok tab4 hnt [] 1 1 (⟨[(0,.sl (.bytes code)),(11,.b (decide ((1048576 : Int) < (code.length : Int)))),(13,.sl (.bytes code))],[],[999]⟩)
   (True ∧ True) (by kernel_rfl) rfl
   ⟨tt,tt⟩ ?_
  refine WI.call [.sl (.bytes code)] [] [.sl (.bytes code)] [.sl (.bytes code)] none (True) (True ∧ True) none rok13 ent13 hnt rfl rfl (wanted_none rfl) (by kernel_rfl) (by kernel_rfl) (by kernel_rfl) ⟨tt,tt,tt⟩
   (@cast (True) _ (by kernel_rfl) trivial) (Or.inl rfl) rfl ?_
  rintro r bl fx2 hR
  obtain ⟨⟨nm14,g14⟩,hq14,rfl,rfl,rfl⟩ := (@cast _ (∃ x : ByteArray × (List CallD),((x.2.length ≤ 6)) ∧ r = (.tup [.v (.string x.1),.sl (.calls x.2)]) ∧ bl = ([]) ∧ fx2 = ([])) (by kernel_rfl) hR)
  clear hR
  replace hq14 : (g14.length ≤ 6) := hq14
  have hg14 := hq14
  refine ⟨by kernel_rfl,WI.to (⟨[(0,.sl (.bytes code)),(11,.b (decide ((1048576 : Int) < (code.length : Int)))),(13,.sl (.bytes code)),(14,.tup [.v (.string nm14),.sl (.calls g14)])],[],[999]⟩) 2 (by kernel_rfl) rfl ?_⟩
  refine WI.runT cok tab4 hnt [] 5 7 (⟨[(0,.sl (.bytes code)),(3,.v (.string nm14)),(4,.sl (.calls g14)),(11,.b (decide ((1048576 : Int) < (code.length : Int)))),(12,.tup [.v (.string nm14),.sl (.calls g14)]),(13,.sl (.bytes code)),(14,.tup [.v (.string nm14),.sl (.calls g14)]),(15,.v (.string nm14)),(16,.sl (.calls g14))],[],[999]⟩)
   (True ∧ True ∧ True ∧ True ∧ True ∧ True) (by kernel_rfl) rfl
   ⟨tt,tt,tt,tt,tt,tt⟩ ?_
  refine WI.nil rfl (thenQ_normal ?_)
  refine W.keepE [3,4] [(3,.v (.string nm14)),(4,.sl (.calls g14))] (by kernel_rfl) ?_
  refine W.to (⟨[(3,.v (.string nm14)),(4,.sl (.calls g14))],[],[999]⟩) rfl ?_
  refine W.K cok tab4 hnt [] [3,4,5,6] (⟨[(3,.v (.string nm14)),(4,.sl (.calls g14)),(5,.sl (.ints ((blameP nm14 g14).1))),(6,.b ((blameP nm14 g14).2))],[],[999]⟩)
   (True ∧ True ∧ (True ∧ (True ∧ True ∧ True) ∧ True) ∧ True ∧ True ∧ True ∧ True ∧ True ∧ True) (by kernel_rfl)
   ⟨tt,tt,⟨tt,⟨tt,tt,tt⟩,tt⟩,tt,tt,tt,tt,tt,tt⟩ ?_
  refine W.K cok tab4 hnt [] [3,4,5,6,7,8] (⟨[(3,.v (.string nm14)),(4,.sl (.calls g14)),(5,.sl (.ints ((blameP nm14 g14).1))),(6,.b ((blameP nm14 g14).2)),(7,.sl (.ints ((blameP nm14 g14).1))),(8,.b ((blameP nm14 g14).2))],[],[999]⟩)
   (True ∧ True ∧ (True ∧ (True ∧ True ∧ True) ∧ True) ∧ True ∧ True ∧ True ∧ True ∧ True ∧ True) (by kernel_rfl)
   ⟨tt,tt,⟨tt,⟨tt,tt,tt⟩,tt⟩,tt,tt,tt,tt,tt,tt⟩ ?_
  refine W.seq ?_
  refine W.K cok tab4 hnt [] [3,4,5,6,7,8,41] (⟨[(3,.v (.string nm14)),(4,.sl (.calls g14)),(5,.sl (.ints ((blameP nm14 g14).1))),(6,.b ((blameP nm14 g14).2)),(7,.sl (.ints ((blameP nm14 g14).1))),(8,.b ((blameP nm14 g14).2)),(41,.b (((!(decide (((blameP nm14 g14).1) = ((blameP nm14 g14).1)))) || (((blameP nm14 g14).2) != ((blameP nm14 g14).2))) || (!((blameP nm14 g14).2))))],[],[999]⟩)
   (True ∧ True ∧ (True ∧ (True ∧ True ∧ True) ∧ True) ∧ True ∧ True ∧ ((!(!(decide (((blameP nm14 g14).1) = ((blameP nm14 g14).1))))) = true → True) ∧ ((!(!(decide (((blameP nm14 g14).1) = ((blameP nm14 g14).1))))) = true → True) ∧ ((!(!(decide (((blameP nm14 g14).1) = ((blameP nm14 g14).1))))) = true → ((((!(!(decide (((blameP nm14 g14).1) = ((blameP nm14 g14).1))))) = true) ∧ True) ∧ ((!(!(decide (((blameP nm14 g14).1) = ((blameP nm14 g14).1))))) = true) ∧ True)) ∧ (True ∧ ((!(decide (((blameP nm14 g14).1) = ((blameP nm14 g14).1)))) = true → True) ∧ ((!(decide (((blameP nm14 g14).1) = ((blameP nm14 g14).1)))) = false → ((!(!(decide (((blameP nm14 g14).1) = ((blameP nm14 g14).1))))) = true) ∧ True)) ∧ True ∧ ((!((!(decide (((blameP nm14 g14).1) = ((blameP nm14 g14).1)))) || (((blameP nm14 g14).2) != ((blameP nm14 g14).2)))) = true → True) ∧ ((!((!(decide (((blameP nm14 g14).1) = ((blameP nm14 g14).1)))) || (((blameP nm14 g14).2) != ((blameP nm14 g14).2)))) = true → (((!((!(decide (((blameP nm14 g14).1) = ((blameP nm14 g14).1)))) || (((blameP nm14 g14).2) != ((blameP nm14 g14).2)))) = true) ∧ True)) ∧ (True ∧ (((!(decide (((blameP nm14 g14).1) = ((blameP nm14 g14).1)))) || (((blameP nm14 g14).2) != ((blameP nm14 g14).2))) = true → True) ∧ (((!(decide (((blameP nm14 g14).1) = ((blameP nm14 g14).1)))) || (((blameP nm14 g14).2) != ((blameP nm14 g14).2))) = false → ((!((!(decide (((blameP nm14 g14).1) = ((blameP nm14 g14).1)))) || (((blameP nm14 g14).2) != ((blameP nm14 g14).2)))) = true) ∧ True)) ∧ True) (by kernel_rfl)
   ⟨tt,tt,⟨tt,⟨tt,tt,tt⟩,tt⟩,tt,tt,(fun _ => trivial),(fun _ => trivial),(fun hG => ⟨⟨hG,tt⟩,hG,tt⟩),⟨tt,(fun _ => trivial),(fun hp => ⟨(not_t hp),tt⟩)⟩,tt,(fun _ => trivial),(fun hG => ⟨hG,tt⟩),⟨tt,(fun _ => trivial),(fun hp => ⟨(not_t hp),tt⟩)⟩,tt⟩ ?_
  refine W.if' (((!(decide (((blameP nm14 g14).1) = ((blameP nm14 g14).1)))) || (((blameP nm14 g14).2) != ((blameP nm14 g14).2))) || (!((blameP nm14 g14).2))) (.b (((!(decide (((blameP nm14 g14).1) = ((blameP nm14 g14).1)))) || (((blameP nm14 g14).2) != ((blameP nm14 g14).2))) || (!((blameP nm14 g14).2)))) (by kernel_rfl) rfl trivial ?_ ?_
  ·intro h41
   refine W.K cok tab4 hnt [] [2] (⟨[(2,.b ((decide (((blameP nm14 g14).1) = ((blameP nm14 g14).1))) && (((blameP nm14 g14).2) == ((blameP nm14 g14).2))))],[],[999]⟩)
    (True ∧ True ∧ (True ∧ (True ∧ True ∧ True) ∧ True) ∧ True ∧ ((decide (((blameP nm14 g14).1) = ((blameP nm14 g14).1))) = true → True) ∧ ((decide (((blameP nm14 g14).1) = ((blameP nm14 g14).1))) = true → True) ∧ ((decide (((blameP nm14 g14).1) = ((blameP nm14 g14).1))) = true → ((((decide (((blameP nm14 g14).1) = ((blameP nm14 g14).1))) = true) ∧ True) ∧ ((decide (((blameP nm14 g14).1) = ((blameP nm14 g14).1))) = true) ∧ True)) ∧ (True ∧ ((decide (((blameP nm14 g14).1) = ((blameP nm14 g14).1))) = true → ((decide (((blameP nm14 g14).1) = ((blameP nm14 g14).1))) = true) ∧ True) ∧ ((decide (((blameP nm14 g14).1) = ((blameP nm14 g14).1))) = false → True)) ∧ True ∧ True) (by kernel_rfl)
    ⟨tt,tt,⟨tt,⟨tt,tt,tt⟩,tt⟩,tt,(fun _ => trivial),(fun _ => trivial),(fun hG => ⟨⟨hG,tt⟩,hG,tt⟩),⟨tt,(fun hp => ⟨hp,tt⟩),(fun _ => trivial)⟩,tt,tt⟩ ?_
   refine W.ret (thenQ_ret ?_)
   exact endQ_ret (.b ((decide (((blameP nm14 g14).1) = ((blameP nm14 g14).1))) && (((blameP nm14 g14).2) == ((blameP nm14 g14).2)))) (by kernel_rfl) (@cast ((.bool ((decide (((blameP nm14 g14).1) = ((blameP nm14 g14).1))) && (((blameP nm14 g14).2) == ((blameP nm14 g14).2))) : Value) = .bool true) _ (by kernel_rfl) (congrArg Value.bool (by simp)))
  ·intro n41
   refine W.skip (thenQ_normal ?_)
   refine W.K cok tab4 hnt [] [2] (⟨[(2,.b ((((ascends ((blameP nm14 g14).1)) && (decide ((0 : Int) < (((List.length ((blameP nm14 g14).1)) : Nat) : Int)))) && (!(explains nm14 (pickC g14 ((blameP nm14 g14).1)) (aheadF (pickC g14 ((blameP nm14 g14).1)))))) && (!(explains nm14 g14 (aheadF g14)))))],[],[999]⟩)
    (True ∧ (True ∧ (True ∧ True) ∧ True) ∧ True ∧ ((ascends ((blameP nm14 g14).1)) = true → True) ∧ ((ascends ((blameP nm14 g14).1)) = true → (((ascends ((blameP nm14 g14).1)) = true) ∧ True)) ∧ ((ascends ((blameP nm14 g14).1)) = true → ((((ascends ((blameP nm14 g14).1)) = true) ∧ True) ∧ True ∧ True)) ∧ (True ∧ ((ascends ((blameP nm14 g14).1)) = true → ((ascends ((blameP nm14 g14).1)) = true) ∧ True) ∧ ((ascends ((blameP nm14 g14).1)) = false → True)) ∧ True ∧ (((ascends ((blameP nm14 g14).1)) && (decide ((0 : Int) < (((List.length ((blameP nm14 g14).1)) : Nat) : Int)))) = true → True) ∧ (((ascends ((blameP nm14 g14).1)) && (decide ((0 : Int) < (((List.length ((blameP nm14 g14).1)) : Nat) : Int)))) = true → True) ∧ (((ascends ((blameP nm14 g14).1)) && (decide ((0 : Int) < (((List.length ((blameP nm14 g14).1)) : Nat) : Int)))) = true → True) ∧ (((ascends ((blameP nm14 g14).1)) && (decide ((0 : Int) < (((List.length ((blameP nm14 g14).1)) : Nat) : Int)))) = true → (True ∧ (((((ascends ((blameP nm14 g14).1)) && (decide ((0 : Int) < (((List.length ((blameP nm14 g14).1)) : Nat) : Int)))) = true) ∧ True) ∧ ((((ascends ((blameP nm14 g14).1)) && (decide ((0 : Int) < (((List.length ((blameP nm14 g14).1)) : Nat) : Int)))) = true) ∧ True) ∧ True) ∧ (((blameP nm14 g14).1).length ≤ 1000) ∧ (∀ x ∈ ((blameP nm14 g14).1),0 ≤ x ∧ x < (g14.length : Int)))) ∧ (((ascends ((blameP nm14 g14).1)) && (decide ((0 : Int) < (((List.length ((blameP nm14 g14).1)) : Nat) : Int)))) = true → (True ∧ (((((ascends ((blameP nm14 g14).1)) && (decide ((0 : Int) < (((List.length ((blameP nm14 g14).1)) : Nat) : Int)))) = true) ∧ True) ∧ ((((ascends ((blameP nm14 g14).1)) && (decide ((0 : Int) < (((List.length ((blameP nm14 g14).1)) : Nat) : Int)))) = true) ∧ True) ∧ True) ∧ True)) ∧ (((ascends ((blameP nm14 g14).1)) && (decide ((0 : Int) < (((List.length ((blameP nm14 g14).1)) : Nat) : Int)))) = true → ((((ascends ((blameP nm14 g14).1)) && (decide ((0 : Int) < (((List.length ((blameP nm14 g14).1)) : Nat) : Int)))) = true) ∧ True)) ∧ (True ∧ (((ascends ((blameP nm14 g14).1)) && (decide ((0 : Int) < (((List.length ((blameP nm14 g14).1)) : Nat) : Int)))) = true → (((ascends ((blameP nm14 g14).1)) && (decide ((0 : Int) < (((List.length ((blameP nm14 g14).1)) : Nat) : Int)))) = true) ∧ True) ∧ (((ascends ((blameP nm14 g14).1)) && (decide ((0 : Int) < (((List.length ((blameP nm14 g14).1)) : Nat) : Int)))) = false → True)) ∧ True ∧ ((((ascends ((blameP nm14 g14).1)) && (decide ((0 : Int) < (((List.length ((blameP nm14 g14).1)) : Nat) : Int)))) && (!(explains nm14 (pickC g14 ((blameP nm14 g14).1)) (aheadF (pickC g14 ((blameP nm14 g14).1)))))) = true → True) ∧ ((((ascends ((blameP nm14 g14).1)) && (decide ((0 : Int) < (((List.length ((blameP nm14 g14).1)) : Nat) : Int)))) && (!(explains nm14 (pickC g14 ((blameP nm14 g14).1)) (aheadF (pickC g14 ((blameP nm14 g14).1)))))) = true → True) ∧ ((((ascends ((blameP nm14 g14).1)) && (decide ((0 : Int) < (((List.length ((blameP nm14 g14).1)) : Nat) : Int)))) && (!(explains nm14 (pickC g14 ((blameP nm14 g14).1)) (aheadF (pickC g14 ((blameP nm14 g14).1)))))) = true → (True ∧ ((((((ascends ((blameP nm14 g14).1)) && (decide ((0 : Int) < (((List.length ((blameP nm14 g14).1)) : Nat) : Int)))) && (!(explains nm14 (pickC g14 ((blameP nm14 g14).1)) (aheadF (pickC g14 ((blameP nm14 g14).1)))))) = true) ∧ True) ∧ (((((ascends ((blameP nm14 g14).1)) && (decide ((0 : Int) < (((List.length ((blameP nm14 g14).1)) : Nat) : Int)))) && (!(explains nm14 (pickC g14 ((blameP nm14 g14).1)) (aheadF (pickC g14 ((blameP nm14 g14).1)))))) = true) ∧ True) ∧ True) ∧ True)) ∧ ((((ascends ((blameP nm14 g14).1)) && (decide ((0 : Int) < (((List.length ((blameP nm14 g14).1)) : Nat) : Int)))) && (!(explains nm14 (pickC g14 ((blameP nm14 g14).1)) (aheadF (pickC g14 ((blameP nm14 g14).1)))))) = true → (((((ascends ((blameP nm14 g14).1)) && (decide ((0 : Int) < (((List.length ((blameP nm14 g14).1)) : Nat) : Int)))) && (!(explains nm14 (pickC g14 ((blameP nm14 g14).1)) (aheadF (pickC g14 ((blameP nm14 g14).1)))))) = true) ∧ True)) ∧ (True ∧ ((((ascends ((blameP nm14 g14).1)) && (decide ((0 : Int) < (((List.length ((blameP nm14 g14).1)) : Nat) : Int)))) && (!(explains nm14 (pickC g14 ((blameP nm14 g14).1)) (aheadF (pickC g14 ((blameP nm14 g14).1)))))) = true → ((((ascends ((blameP nm14 g14).1)) && (decide ((0 : Int) < (((List.length ((blameP nm14 g14).1)) : Nat) : Int)))) && (!(explains nm14 (pickC g14 ((blameP nm14 g14).1)) (aheadF (pickC g14 ((blameP nm14 g14).1)))))) = true) ∧ True) ∧ ((((ascends ((blameP nm14 g14).1)) && (decide ((0 : Int) < (((List.length ((blameP nm14 g14).1)) : Nat) : Int)))) && (!(explains nm14 (pickC g14 ((blameP nm14 g14).1)) (aheadF (pickC g14 ((blameP nm14 g14).1)))))) = false → True)) ∧ True ∧ True) (by kernel_rfl)
    ⟨tt,⟨tt,⟨tt,tt⟩,tt⟩,tt,(fun _ => trivial),(fun hG => ⟨hG,tt⟩),(fun hG => ⟨⟨hG,tt⟩,tt,tt⟩),⟨tt,(fun hp => ⟨hp,tt⟩),(fun _ => trivial)⟩,tt,(fun _ => trivial),(fun _ => trivial),(fun _ => trivial),(fun hG => ⟨tt,⟨⟨hG,tt⟩,⟨hG,tt⟩,tt⟩,(by have hg0 : (0 : Int) < (((List.length ((blameP nm14 g14).1)) : Nat) : Int) := of_decide_eq_true (and_r hG); have h9 : (blameP nm14 g14).1.length ≤ g14.length := blame1_len; omega),(by have hg0 : (0 : Int) < (((List.length ((blameP nm14 g14).1)) : Nat) : Int) := of_decide_eq_true (and_r hG); exact blame1_in)⟩),(fun hG => ⟨tt,⟨⟨hG,tt⟩,⟨hG,tt⟩,tt⟩,tt⟩),(fun hG => ⟨hG,tt⟩),⟨tt,(fun hp => ⟨hp,tt⟩),(fun _ => trivial)⟩,tt,(fun _ => trivial),(fun _ => trivial),(fun hG => ⟨tt,⟨⟨hG,tt⟩,⟨hG,tt⟩,tt⟩,tt⟩),(fun hG => ⟨hG,tt⟩),⟨tt,(fun hp => ⟨hp,tt⟩),(fun _ => trivial)⟩,tt,tt⟩ ?_
   refine W.ret ?_
   exact endQ_ret (.b ((((ascends ((blameP nm14 g14).1)) && (decide ((0 : Int) < (((List.length ((blameP nm14 g14).1)) : Nat) : Int)))) && (!(explains nm14 (pickC g14 ((blameP nm14 g14).1)) (aheadF (pickC g14 ((blameP nm14 g14).1)))))) && (!(explains nm14 g14 (aheadF g14))))) (by kernel_rfl) (@cast ((.bool ((((ascends ((blameP nm14 g14).1)) && (decide ((0 : Int) < (((List.length ((blameP nm14 g14).1)) : Nat) : Int)))) && (!(explains nm14 (pickC g14 ((blameP nm14 g14).1)) (aheadF (pickC g14 ((blameP nm14 g14).1)))))) && (!(explains nm14 g14 (aheadF g14)))) : Value) = .bool true) _ (by kernel_rfl) (congrArg Value.bool (by exact blame_law (not_g (or_r n41)))))
end Go.Proofs.Try
