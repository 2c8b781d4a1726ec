import Derived.Test.YtjcapebfkgoicaaDoorTF4S0
import Derived.Test.YtjcapebfkgoicaaDoorTF4S4
import Derived.Test.YtjcapebfkgoicaaDoorTF4S5
import Derived.Test.YtjcapebfkgoicaaDoorTF4S7
import Derived.Test.YtjcapebfkgoicaaDoorTF4S3
import Derived.Test.YtjcapebfkgoicaaDoorTF4S1
import Derived.Test.YtjcapebfkgoicaaDoorTF4S2
set_option linter.unusedSimpArgs false
set_option linter.unusedVariables false
namespace Go.Proofs.Tryd
open Go.Ab Go.RowKit
def pre43 : List AV → List AV → Prop := preP [.calls] [.bytes,.int] (fun (h,_) (l,p,_) => (0 ≤ p ∧ p ≤ 900000) ∧ (GoodH h))
def rel43 : RelS := relP [.calls] [.bytes,.int] (ι := (List CallD) × Int) (fun (h,_) (l,p,_) (g,q) => (g.length = h.length) ∧ (p ≤ q ∧ q ≤ p + 10)) (fun (h,_) (l,p,_) (g,q) => (.own 1 g.length,[⟨40,.row (.calls g)⟩],[.sl (.bytes l),.i q]))
abbrev T43 : Tab := lk []
theorem tab43 : TabOK prog T43 := TabOK.nil
set_option maxRecDepth 100000 in
set_option maxHeartbeats 1000000 in
theorem rok43 : RelOK prog 43 (some 68) [.c .calls 40] pre43 rel43 := by
 refine RelOK.mk cok func43 rfl rfl rfl ?_
 rintro ⟨(h : List CallD),_⟩ ⟨(l : List UInt8),(p : Int),_⟩ hpre F hnt0
 have hnt : F.nt = 79 := hnt0.trans ntmps43
 replace hpre : (0 ≤ p ∧ p ≤ 900000) ∧ (GoodH h) := hpre
 obtain ⟨hp,hG⟩ := hpre
 refine W.to (⟨[(0,.ptr 998 0),(1,.own 999 h.length)],[(998,⟨68,.fix [.sl (.bytes l),.i p]⟩),(999,⟨40,.row (.calls h)⟩)],[998,999]⟩) rfl ?_
 have hl6 := hG.1
 refine Kk cok tab43 hnt [] [0,1] (⟨[(0,.ptr 998 0),(1,.own 999 h.length)],[(998,⟨68,.fix [.sl (.bytes l),.i p]⟩),(999,⟨40,.row (.calls h)⟩)],[998,999]⟩)
  (True ∧ True)
  ⟨tt,tt⟩ ?_
 refine W.seq ?_
 refine W.seq (W.wi ?_)
 refine WI.runT cok tab43 hnt [] 5 5 ((fun (Z1:Bool)=>(⟨[(0,.ptr 998 0),(1,.own 999 h.length),(6,.own 999 h.length),(7,.i (h.length : Int)),(8,.b Z1),(9,.b Z1),(10,.g (!Z1) (.ptr 998 0))],[(998,⟨68,.fix [.sl (.bytes l),.i p]⟩),(999,⟨40,.row (.calls h)⟩)],[998,999]⟩:St)) (decide ((h.length : Int) = (0 : Int))))
  (True ∧ True ∧ (True ∧ True ∧ True) ∧ True ∧ ((!(decide ((h.length : Int) = (0 : Int)))) = true → True) ∧ True) (by kernel_rfl) rfl
  ⟨tt,tt,⟨tt,tt,tt⟩,tt,(fun _ => trivial),tt⟩ ?_
 rcases Bool.eq_false_or_eq_true (decide ((h.length : Int) = (0 : Int))) with hT11 | hT11
 ·skip
  have hT11_0 : (h.length : Int) = (0 : Int) := of_decide_eq_true hT11
  refine WI.to (⟨[(0,.ptr 998 0),(1,.own 999 h.length),(6,.own 999 h.length),(7,.i (h.length : Int)),(8,.b true),(9,.b true),(10,.g false (.ptr 998 0))],[(998,⟨68,.fix [.sl (.bytes l),.i p]⟩),(999,⟨40,.row (.calls h)⟩)],[998,999]⟩) 5 (congrArg (fun z => (⟨[(0,.ptr 998 0),(1,.own 999 h.length),(6,.own 999 h.length),(7,.i (h.length : Int)),(8,.b z),(9,.b z),(10,.g (!z) (.ptr 998 0))],[(998,⟨68,.fix [.sl (.bytes l),.i p]⟩),(999,⟨40,.row (.calls h)⟩)],[998,999]⟩ : St)) hT11) rfl ?_
  refine WI.pass rfl hnt (wanted_if (t := 9) (gx := .b true) rfl rfl (by kernel_rfl) (by kernel_rfl)) rfl ?_
  refine WI.to (⟨[(0,.ptr 998 0),(1,.own 999 h.length),(6,.own 999 h.length),(7,.i (h.length : Int)),(8,.b true),(9,.b true),(10,.g false (.ptr 998 0)),(11,.any)],[(998,⟨68,.fix [.sl (.bytes l),.i p]⟩),(999,⟨40,.row (.calls h)⟩)],[998,999]⟩) 6 (by kernel_rfl) rfl ?_
  refine WI.pass rfl hnt (wanted_if (t := 9) (gx := .b true) rfl rfl (by kernel_rfl) (by kernel_rfl)) rfl ?_
  refine WI.to (⟨[(0,.ptr 998 0),(1,.own 999 h.length),(6,.own 999 h.length),(7,.i (h.length : Int)),(8,.b true),(9,.b true),(10,.g false (.ptr 998 0)),(11,.any),(12,.any)],[(998,⟨68,.fix [.sl (.bytes l),.i p]⟩),(999,⟨40,.row (.calls h)⟩)],[998,999]⟩) 7 (by kernel_rfl) rfl ?_
  refine WI.pickL true (.b true) (.b true) rfl hnt (wanted_none rfl) rfl (by kernel_rfl) rfl trivial (by kernel_rfl) trivial rfl ?_
  refine WI.to (⟨[(0,.ptr 998 0),(1,.own 999 h.length),(6,.own 999 h.length),(7,.i (h.length : Int)),(8,.b true),(9,.b true),(10,.g false (.ptr 998 0)),(11,.any),(12,.any),(13,.b true)],[(998,⟨68,.fix [.sl (.bytes l),.i p]⟩),(999,⟨40,.row (.calls h)⟩)],[998,999]⟩) 8 (by kernel_rfl) rfl ?_
  refine WI.nil rfl (thenQ_normal ?_)
  refine W.keepE [0,1,13] [(0,.ptr 998 0),(1,.own 999 h.length),(13,.b true)] (by kernel_rfl) ?_
  refine W.to (⟨[(0,.ptr 998 0),(1,.own 999 h.length),(13,.b true)],[(998,⟨68,.fix [.sl (.bytes l),.i p]⟩),(999,⟨40,.row (.calls h)⟩)],[998,999]⟩) rfl ?_
  refine W.ifT (.b true) (by kernel_rfl) rfl trivial ?_
  refine Kk cok tab43 hnt [] [4] (⟨[(4,.own 999 h.length)],[(998,⟨68,.fix [.sl (.bytes l),.i p]⟩),(999,⟨40,.row (.calls h)⟩)],[998,999]⟩)
   (True ∧ True ∧ True)
   ⟨tt,tt,tt⟩ ?_
  refine W.ret (thenQ_ret ?_)
  exact endP_ret (h,p) (show (h.length = h.length) ∧ (p ≤ p ∧ p ≤ p + 10) from ⟨(by first | rfl | simp),(by first | assumption | omega | rfl | (simp; done) | (simp; omega))⟩) [(1,999),(0,998)] (.own 999 h.length) (by kernel_rfl) (@cast ((((999 : Nat) = 999) ∧ (h.length = h.length) ∧ ((1 : Nat) ∈ ([0,1] : List Nat))) ∧ ((((68 : Nat) = 68) ∧ ((Sd (.bytes l)) ∧ (Si p) ∧ True) ∧ ((0 : Nat) ∈ ([0,1] : List Nat))) ∧ (((40 : Nat) = 40) ∧ (Sd (.calls h)) ∧ ((1 : Nat) ∈ ([0,1] : List Nat))) ∧ True) ∧ (true = true) ∧ ((([] : List Nat) = []) ∧ True) ∧ (true = true → (998 : Nat) = 998)) _ (by kernel_rfl) ⟨⟨rfl,rfl,(by decide)⟩,⟨⟨rfl,⟨rfl,rfl,tt⟩,(by decide)⟩,⟨rfl,rfl,(by decide)⟩,tt⟩,rfl,⟨rfl,tt⟩,(fun _ => rfl)⟩)
 ·skip
  have hT11_0 : ¬ ((h.length : Int) = (0 : Int)) := of_decide_eq_false hT11
  refine WI.to (⟨[(0,.ptr 998 0),(1,.own 999 h.length),(6,.own 999 h.length),(7,.i (h.length : Int)),(8,.b false),(9,.b false),(10,.g true (.ptr 998 0))],[(998,⟨68,.fix [.sl (.bytes l),.i p]⟩),(999,⟨40,.row (.calls h)⟩)],[998,999]⟩) 5 (congrArg (fun z => (⟨[(0,.ptr 998 0),(1,.own 999 h.length),(6,.own 999 h.length),(7,.i (h.length : Int)),(8,.b z),(9,.b z),(10,.g (!z) (.ptr 998 0))],[(998,⟨68,.fix [.sl (.bytes l),.i p]⟩),(999,⟨40,.row (.calls h)⟩)],[998,999]⟩ : St)) hT11) rfl ?_
  refine WI.call [.g true (.ptr 998 0),.i (12 : Int)] [.sl (.bytes l),.i p] [.i (12 : Int)] [.i (12 : Int)] (some (68,998)) ((true = true) ∧ True) (True ∧ True) none rok34 ent34 hnt rfl rfl (wanted_if (t := 9) (gx := .b false) rfl rfl (by kernel_rfl) (by kernel_rfl)) (by kernel_rfl) (by kernel_rfl) (by kernel_rfl) ⟨⟨rfl,tt⟩,tt,tt⟩
   (@cast (0 ≤ p ∧ p ≤ 1000000) _ (by kernel_rfl) (by omega)) (Or.inl rfl) rfl ?_
  rintro r bl fx2 hR
  obtain ⟨⟨v11,q11⟩,hq11,rfl,rfl,rfl⟩ := (@cast _ (∃ x : Int × Int,((0 ≤ x.1 ∧ x.1 < max (12 : Int) 1) ∧ (x.2 = p + 1)) ∧ r = (.i x.1) ∧ bl = ([]) ∧ fx2 = ([.sl (.bytes l),.i x.2])) (by kernel_rfl) hR)
  clear hR
  replace hq11 : (0 ≤ v11 ∧ v11 < max (12 : Int) 1) ∧ (q11 = p + 1) := hq11
  obtain ⟨hv11,hq111⟩ := hq11
  refine ⟨by kernel_rfl,WI.to (⟨[(0,.ptr 998 0),(1,.own 999 h.length),(6,.own 999 h.length),(7,.i (h.length : Int)),(8,.b false),(9,.b false),(10,.g true (.ptr 998 0)),(11,.i v11)],[(998,⟨68,.fix [.sl (.bytes l),.i q11]⟩),(999,⟨40,.row (.calls h)⟩)],[11,998,999]⟩) 6 (by kernel_rfl) rfl ?_⟩
  refine WI.runT cok tab43 hnt [] 1 7 (⟨[(0,.ptr 998 0),(1,.own 999 h.length),(6,.own 999 h.length),(7,.i (h.length : Int)),(8,.b false),(9,.b false),(10,.g true (.ptr 998 0)),(11,.i v11),(12,.g true (.b (decide ((0 : Int) < v11))))],[(998,⟨68,.fix [.sl (.bytes l),.i q11]⟩),(999,⟨40,.row (.calls h)⟩)],[11,998,999]⟩)
   ((true = true → (True ∧ (True ∧ True))) ∧ True) (by kernel_rfl) rfl
   ⟨(fun _ => ⟨tt,tt,tt⟩),tt⟩ ?_
  refine WI.pickL false (.b false) (.g true (.b (decide ((0 : Int) < v11)))) rfl hnt (wanted_none rfl) rfl (by kernel_rfl) rfl trivial (by kernel_rfl) ⟨rfl,tt⟩ rfl ?_
  refine WI.to (⟨[(0,.ptr 998 0),(1,.own 999 h.length),(6,.own 999 h.length),(7,.i (h.length : Int)),(8,.b false),(9,.b false),(10,.g true (.ptr 998 0)),(11,.i v11),(12,.g true (.b (decide ((0 : Int) < v11)))),(13,.b (decide ((0 : Int) < v11)))],[(998,⟨68,.fix [.sl (.bytes l),.i q11]⟩),(999,⟨40,.row (.calls h)⟩)],[11,998,999]⟩) 8 (by kernel_rfl) rfl ?_
  refine WI.nil rfl (thenQ_normal ?_)
  refine W.keepE [0,1,13] [(0,.ptr 998 0),(1,.own 999 h.length),(13,.b (decide ((0 : Int) < v11)))] (by kernel_rfl) ?_
  refine W.to (⟨[(0,.ptr 998 0),(1,.own 999 h.length),(13,.b (decide ((0 : Int) < v11)))],[(998,⟨68,.fix [.sl (.bytes l),.i q11]⟩),(999,⟨40,.row (.calls h)⟩)],[11,998,999]⟩) rfl ?_
  refine W.ifP ((0 : Int) < v11) (.b (decide ((0 : Int) < v11))) (by kernel_rfl) rfl trivial ?_ ?_
  ·intro h13
   refine Kk cok tab43 hnt [] [4] (⟨[(4,.own 999 h.length)],[(998,⟨68,.fix [.sl (.bytes l),.i q11]⟩),(999,⟨40,.row (.calls h)⟩)],[11,998,999]⟩)
    (True ∧ True ∧ True)
    ⟨tt,tt,tt⟩ ?_
   refine W.ret (thenQ_ret ?_)
   exact endP_ret (h,q11) (show (h.length = h.length) ∧ (p ≤ q11 ∧ q11 ≤ p + 10) from ⟨(by first | rfl | simp),(by first | assumption | omega | rfl | (simp; done) | (simp; omega))⟩) [(1,999),(0,998)] (.own 999 h.length) (by kernel_rfl) (@cast ((((999 : Nat) = 999) ∧ (h.length = h.length) ∧ ((1 : Nat) ∈ ([0,1] : List Nat))) ∧ ((((68 : Nat) = 68) ∧ ((Sd (.bytes l)) ∧ (Si q11) ∧ True) ∧ ((0 : Nat) ∈ ([0,1] : List Nat))) ∧ (((40 : Nat) = 40) ∧ (Sd (.calls h)) ∧ ((1 : Nat) ∈ ([0,1] : List Nat))) ∧ True) ∧ (true = true) ∧ ((([] : List Nat) = []) ∧ True) ∧ (true = true → (998 : Nat) = 998)) _ (by kernel_rfl) ⟨⟨rfl,rfl,(by decide)⟩,⟨⟨rfl,⟨rfl,rfl,tt⟩,(by decide)⟩,⟨rfl,rfl,(by decide)⟩,tt⟩,rfl,⟨rfl,tt⟩,(fun _ => rfl)⟩)
  ·intro n13
   refine W.skip (thenQ_normal ?_)
   refine W.seq (W.wi ?_)
   refine WI.runT cok tab43 hnt [] 3 3 (⟨[(0,.ptr 998 0),(1,.own 999 h.length),(13,.b (decide ((0 : Int) < v11))),(15,.ptr 998 0),(16,.own 999 h.length),(17,.i (h.length : Int))],[(998,⟨68,.fix [.sl (.bytes l),.i q11]⟩),(999,⟨40,.row (.calls h)⟩)],[11,998,999]⟩)
    (True ∧ True ∧ True ∧ True) (by kernel_rfl) rfl
    ⟨tt,tt,tt,tt⟩ ?_
   refine WI.call [.ptr 998 0,.i (h.length : Int)] [.sl (.bytes l),.i q11] [.i (h.length : Int)] [.i (h.length : Int)] (some (68,998)) (True) (True ∧ True) none rok34 ent34 hnt rfl rfl (wanted_none rfl) (by kernel_rfl) (by kernel_rfl) (by kernel_rfl) ⟨tt,tt,tt⟩
    (@cast (0 ≤ q11 ∧ q11 ≤ 1000000) _ (by kernel_rfl) (by omega)) (Or.inl rfl) rfl ?_
   rintro r bl fx2 hR
   obtain ⟨⟨v18,q18⟩,hq18,rfl,rfl,rfl⟩ := (@cast _ (∃ x : Int × Int,((0 ≤ x.1 ∧ x.1 < max (h.length : Int) 1) ∧ (x.2 = q11 + 1)) ∧ r = (.i x.1) ∧ bl = ([]) ∧ fx2 = ([.sl (.bytes l),.i x.2])) (by kernel_rfl) hR)
   clear hR
   replace hq18 : (0 ≤ v18 ∧ v18 < max (h.length : Int) 1) ∧ (q18 = q11 + 1) := hq18
   obtain ⟨hv18,hq118⟩ := hq18
   refine ⟨by kernel_rfl,WI.to (⟨[(0,.ptr 998 0),(1,.own 999 h.length),(13,.b (decide ((0 : Int) < v11))),(15,.ptr 998 0),(16,.own 999 h.length),(17,.i (h.length : Int)),(18,.i v18)],[(998,⟨68,.fix [.sl (.bytes l),.i q18]⟩),(999,⟨40,.row (.calls h)⟩)],[18,11,998,999]⟩) 4 (by kernel_rfl) rfl ?_⟩
   refine WI.runT cok tab43 hnt [] 1 5 (⟨[(0,.ptr 998 0),(1,.own 999 h.length),(5,.i v18),(13,.b (decide ((0 : Int) < v11))),(15,.ptr 998 0),(16,.own 999 h.length),(17,.i (h.length : Int)),(18,.i v18)],[(998,⟨68,.fix [.sl (.bytes l),.i q18]⟩),(999,⟨40,.row (.calls h)⟩)],[18,11,998,999]⟩)
    (True ∧ True) (by kernel_rfl) rfl
    ⟨tt,tt⟩ ?_
   refine WI.nil rfl (thenQ_normal ?_)
   refine W.keepE [0,1,5] [(0,.ptr 998 0),(1,.own 999 h.length),(5,.i v18)] (by kernel_rfl) ?_
   refine W.to (⟨[(0,.ptr 998 0),(1,.own 999 h.length),(5,.i v18)],[(998,⟨68,.fix [.sl (.bytes l),.i q18]⟩),(999,⟨40,.row (.calls h)⟩)],[18,11,998,999]⟩) rfl ?_
   refine W.seq ?_
   refine W.seq (W.wi ?_)
   refine WI.runT cok tab43 hnt [] 1 1 (⟨[(0,.ptr 998 0),(1,.own 999 h.length),(5,.i v18),(19,.ptr 998 0)],[(998,⟨68,.fix [.sl (.bytes l),.i q18]⟩),(999,⟨40,.row (.calls h)⟩)],[18,11,998,999]⟩)
    (True ∧ True) (by kernel_rfl) rfl
    ⟨tt,tt⟩ ?_
   refine WI.call [.ptr 998 0,.i (6 : Int)] [.sl (.bytes l),.i q18] [.i (6 : Int)] [.i (6 : Int)] (some (68,998)) (True) (True ∧ True) none rok34 ent34 hnt rfl rfl (wanted_none rfl) (by kernel_rfl) (by kernel_rfl) (by kernel_rfl) ⟨tt,tt,tt⟩
    (@cast (0 ≤ q18 ∧ q18 ≤ 1000000) _ (by kernel_rfl) (by omega)) (Or.inl rfl) rfl ?_
   rintro r bl fx2 hR
   obtain ⟨⟨v20,q20⟩,hq20,rfl,rfl,rfl⟩ := (@cast _ (∃ x : Int × Int,((0 ≤ x.1 ∧ x.1 < max (6 : Int) 1) ∧ (x.2 = q18 + 1)) ∧ r = (.i x.1) ∧ bl = ([]) ∧ fx2 = ([.sl (.bytes l),.i x.2])) (by kernel_rfl) hR)
   clear hR
   replace hq20 : (0 ≤ v20 ∧ v20 < max (6 : Int) 1) ∧ (q20 = q18 + 1) := hq20
   obtain ⟨hv20,hq120⟩ := hq20
   refine ⟨by kernel_rfl,WI.to (⟨[(0,.ptr 998 0),(1,.own 999 h.length),(5,.i v18),(19,.ptr 998 0),(20,.i v20)],[(998,⟨68,.fix [.sl (.bytes l),.i q20]⟩),(999,⟨40,.row (.calls h)⟩)],[20,18,11,998,999]⟩) 2 (by kernel_rfl) rfl ?_⟩
   refine WI.nil rfl (thenQ_normal ?_)
   refine W.keepE [0,1,5,20] [(0,.ptr 998 0),(1,.own 999 h.length),(5,.i v18),(20,.i v20)] (by kernel_rfl) ?_
   refine W.to (⟨[(0,.ptr 998 0),(1,.own 999 h.length),(5,.i v18),(20,.i v20)],[(998,⟨68,.fix [.sl (.bytes l),.i q20]⟩),(999,⟨40,.row (.calls h)⟩)],[20,18,11,998,999]⟩) rfl ?_
   refine W.block ?_
   refine Kk cok tab43 hnt [] [0,1,5,20,28] (⟨[(0,.ptr 998 0),(1,.own 999 h.length),(5,.i v18),(20,.i v20),(28,.b (decide (v20 = (0 : Int))))],[(998,⟨68,.fix [.sl (.bytes l),.i q20]⟩),(999,⟨40,.row (.calls h)⟩)],[20,18,11,998,999]⟩)
    ((True ∧ True ∧ True) ∧ True ∧ True)
    ⟨⟨tt,tt,tt⟩,tt,tt⟩ ?_
   refine W.ifP (v20 = (0 : Int)) (.b (decide (v20 = (0 : Int)))) (by kernel_rfl) rfl trivial ?_ ?_
   ·intro h28
    refine W.wi ?_
    refine WI.runT cok tab43 hnt [] 4 4 (⟨[(0,.ptr 998 0),(1,.own 999 h.length),(5,.i v18),(20,.i v20),(28,.b (decide (v20 = (0 : Int)))),(30,.own 999 h.length),(31,.i v18),(32,.ptr 998 0),(33,.sl (.ints ([(3 : Int),(-1 : Int),(0 : Int)])))],[(998,⟨68,.fix [.sl (.bytes l),.i q20]⟩),(999,⟨40,.row (.calls h)⟩)],[33,20,18,11,998,999]⟩)
     (True ∧ True ∧ True ∧ (True ∧ True ∧ True ∧ True) ∧ True) (by kernel_rfl) rfl
     ⟨tt,tt,tt,⟨tt,tt,tt,tt⟩,tt⟩ ?_
    refine WI.call [.ptr 998 0,.sl (.ints ([(3 : Int),(-1 : Int),(0 : Int)]))] [.sl (.bytes l),.i q20] [.sl (.ints ([(3 : Int),(-1 : Int),(0 : Int)]))] [.sl (.ints ([(3 : Int),(-1 : Int),(0 : Int)]))] (some (68,998)) (True) (True ∧ True) none rok59 ent59 hnt rfl rfl (wanted_none rfl) (by kernel_rfl) (by kernel_rfl) (by kernel_rfl) ⟨tt,tt,tt⟩
     (@cast ((0 ≤ q20 ∧ q20 ≤ 1000000) ∧ (0 < ([(3 : Int),(-1 : Int),(0 : Int)]).length) ∧ (([(3 : Int),(-1 : Int),(0 : Int)]).length ≤ 1000)) _ (by kernel_rfl) ⟨(by omega),⟨(by (first | omega | (simp only [List.length_set]; done) | (simp only [List.length_append,List.length_cons,List.length_nil,List.length_take,List.length_drop,List.length_set,List.length_replicate,List.length_map] at *; omega) | assumption)),(by (first | omega | (simp only [List.length_set]; done) | (simp only [List.length_append,List.length_cons,List.length_nil,List.length_take,List.length_drop,List.length_set,List.length_replicate,List.length_map] at *; omega) | assumption))⟩⟩) (Or.inl rfl) rfl ?_
    rintro r bl fx2 hR
    obtain ⟨⟨v34,q34⟩,hq34,rfl,rfl,rfl⟩ := (@cast _ (∃ x : Int × Int,((x.1 ∈ ([(3 : Int),(-1 : Int),(0 : Int)])) ∧ (x.2 = q20 + 1)) ∧ r = (.i x.1) ∧ bl = ([]) ∧ fx2 = ([.sl (.bytes l),.i x.2])) (by kernel_rfl) hR)
    clear hR
    replace hq34 : (v34 ∈ ([(3 : Int),(-1 : Int),(0 : Int)])) ∧ (q34 = q20 + 1) := hq34
    obtain ⟨hv34,hq134⟩ := hq34
    simp only [List.mem_cons,List.not_mem_nil,or_false] at hv34
    refine ⟨by kernel_rfl,WI.to (⟨[(0,.ptr 998 0),(1,.own 999 h.length),(5,.i v18),(20,.i v20),(28,.b (decide (v20 = (0 : Int)))),(30,.own 999 h.length),(31,.i v18),(32,.ptr 998 0),(33,.sl (.ints ([(3 : Int),(-1 : Int),(0 : Int)]))),(34,.i v34)],[(998,⟨68,.fix [.sl (.bytes l),.i q34]⟩),(999,⟨40,.row (.calls h)⟩)],[34,33,20,18,11,998,999]⟩) 5 (by kernel_rfl) rfl ?_⟩
    refine WI.runT cok tab43 hnt [] 3 8 (⟨[(0,.ptr 998 0),(1,.own 999 h.length),(5,.i v18),(20,.i v20),(28,.b (decide (v20 = (0 : Int)))),(30,.own 999 h.length),(31,.i v18),(32,.ptr 998 0),(33,.sl (.ints ([(3 : Int),(-1 : Int),(0 : Int)]))),(34,.i v34),(35,.pel 999 7 (Int.toNat v18) 0),(36,.pel 999 7 (Int.toNat v18) 0)],[(998,⟨68,.fix [.sl (.bytes l),.i q34]⟩),(999,⟨40,.row (.calls (List.set h (Int.toNat v18) ({ h.getD (Int.toNat v18) default with proc := v34 })))⟩)],[34,33,20,18,11,998,999]⟩)
     ((True ∧ True ∧ (0 ≤ v18) ∧ (v18 < (h.length : Int))) ∧ True ∧ (True ∧ True ∧ ((Int.toNat v18) < h.length)) ∧ True) (by kernel_rfl) rfl
     ⟨⟨tt,tt,(by omega),(by omega)⟩,tt,⟨tt,tt,(by omega)⟩,tt⟩ ?_
    refine WI.nil rfl ?_
    refine blockQ_normal (thenQ_normal ?_)
    refine Kk cok tab43 hnt [] [4] (⟨[(4,.own 999 h.length)],[(998,⟨68,.fix [.sl (.bytes l),.i q34]⟩),(999,⟨40,.row (.calls (List.set h (Int.toNat v18) ({ h.getD (Int.toNat v18) default with proc := v34 })))⟩)],[34,33,20,18,11,998,999]⟩)
     (True ∧ True ∧ True)
     ⟨tt,tt,tt⟩ ?_
    refine W.ret ?_
    exact endP_ret ((List.set h (Int.toNat v18) ({ h.getD (Int.toNat v18) default with proc := v34 })),q34) (show ((List.set h (Int.toNat v18) ({ h.getD (Int.toNat v18) default with proc := v34 })).length = h.length) ∧ (p ≤ q34 ∧ q34 ≤ p + 10) from ⟨(by first | rfl | simp),(by first | assumption | omega | rfl | (simp; done) | (simp; omega))⟩) [(1,999),(0,998)] (.own 999 h.length) (by kernel_rfl) (@cast ((((999 : Nat) = 999) ∧ (h.length = (List.length (List.set h (Int.toNat v18) ({ h.getD (Int.toNat v18) default with proc := v34 })))) ∧ ((1 : Nat) ∈ ([0,1] : List Nat))) ∧ ((((68 : Nat) = 68) ∧ ((Sd (.bytes l)) ∧ (Si q34) ∧ True) ∧ ((0 : Nat) ∈ ([0,1] : List Nat))) ∧ (((40 : Nat) = 40) ∧ (Sd (.calls (List.set h (Int.toNat v18) ({ h.getD (Int.toNat v18) default with proc := v34 })))) ∧ ((1 : Nat) ∈ ([0,1] : List Nat))) ∧ True) ∧ (true = true) ∧ ((([] : List Nat) = []) ∧ True) ∧ (true = true → (998 : Nat) = 998)) _ (by kernel_rfl) ⟨⟨rfl,(by first | rfl | omega | assumption | (symm; assumption) | simp | simp_all),(by decide)⟩,⟨⟨rfl,⟨rfl,rfl,tt⟩,(by decide)⟩,⟨rfl,rfl,(by decide)⟩,tt⟩,rfl,⟨rfl,tt⟩,(fun _ => rfl)⟩)
   ·intro n28
    refine Kk cok tab43 hnt [] [0,1,5,20,37] (⟨[(0,.ptr 998 0),(1,.own 999 h.length),(5,.i v18),(20,.i v20),(37,.b (decide (v20 = (1 : Int))))],[(998,⟨68,.fix [.sl (.bytes l),.i q20]⟩),(999,⟨40,.row (.calls h)⟩)],[20,18,11,998,999]⟩)
     ((True ∧ True ∧ True) ∧ True ∧ True)
     ⟨⟨tt,tt,tt⟩,tt,tt⟩ ?_
    refine W.ifP (v20 = (1 : Int)) (.b (decide (v20 = (1 : Int)))) (by kernel_rfl) rfl trivial ?_ ?_
    ·intro h37
     refine W.wi ?_
     refine WI.runT cok tab43 hnt [] 9 9 (⟨[(0,.ptr 998 0),(1,.own 999 h.length),(5,.i v18),(20,.i v20),(37,.b (decide (v20 = (1 : Int)))),(39,.own 999 h.length),(40,.i v18),(41,.ptr 998 0),(42,.own 999 h.length),(43,.i v18),(44,.pel 999 7 (Int.toNat v18) 0),(45,.pel 999 7 (Int.toNat v18) 5),(46,.i ((h.getD (Int.toNat v18) default).frm)),(47,.sl (.ints ([(31 : Int),((h.getD (Int.toNat v18) default).frm),(1 : Int)])))],[(998,⟨68,.fix [.sl (.bytes l),.i q20]⟩),(999,⟨40,.row (.calls h)⟩)],[47,20,18,11,998,999]⟩)
      (True ∧ True ∧ True ∧ True ∧ True ∧ (True ∧ True ∧ (0 ≤ v18) ∧ (v18 < (h.length : Int))) ∧ True ∧ (True ∧ ((Int.toNat v18) < h.length)) ∧ (True ∧ True ∧ True ∧ True) ∧ True) (by kernel_rfl) rfl
      ⟨tt,tt,tt,tt,tt,⟨tt,tt,(by omega),(by omega)⟩,tt,⟨tt,(by omega)⟩,⟨tt,tt,tt,tt⟩,tt⟩ ?_
     refine WI.call [.ptr 998 0,.sl (.ints ([(31 : Int),((h.getD (Int.toNat v18) default).frm),(1 : Int)]))] [.sl (.bytes l),.i q20] [.sl (.ints ([(31 : Int),((h.getD (Int.toNat v18) default).frm),(1 : Int)]))] [.sl (.ints ([(31 : Int),((h.getD (Int.toNat v18) default).frm),(1 : Int)]))] (some (68,998)) (True) (True ∧ True) none rok59 ent59 hnt rfl rfl (wanted_none rfl) (by kernel_rfl) (by kernel_rfl) (by kernel_rfl) ⟨tt,tt,tt⟩
      (@cast ((0 ≤ q20 ∧ q20 ≤ 1000000) ∧ (0 < ([(31 : Int),((h.getD (Int.toNat v18) default).frm),(1 : Int)]).length) ∧ (([(31 : Int),((h.getD (Int.toNat v18) default).frm),(1 : Int)]).length ≤ 1000)) _ (by kernel_rfl) ⟨(by omega),⟨(by (first | omega | (simp only [List.length_set]; done) | (simp only [List.length_append,List.length_cons,List.length_nil,List.length_take,List.length_drop,List.length_set,List.length_replicate,List.length_map] at *; omega) | assumption)),(by (first | omega | (simp only [List.length_set]; done) | (simp only [List.length_append,List.length_cons,List.length_nil,List.length_take,List.length_drop,List.length_set,List.length_replicate,List.length_map] at *; omega) | assumption))⟩⟩) (Or.inl rfl) rfl ?_
     rintro r bl fx2 hR
     obtain ⟨⟨v48,q48⟩,hq48,rfl,rfl,rfl⟩ := (@cast _ (∃ x : Int × Int,((x.1 ∈ ([(31 : Int),((h.getD (Int.toNat v18) default).frm),(1 : Int)])) ∧ (x.2 = q20 + 1)) ∧ r = (.i x.1) ∧ bl = ([]) ∧ fx2 = ([.sl (.bytes l),.i x.2])) (by kernel_rfl) hR)
     clear hR
     replace hq48 : (v48 ∈ ([(31 : Int),((h.getD (Int.toNat v18) default).frm),(1 : Int)])) ∧ (q48 = q20 + 1) := hq48
     obtain ⟨hv48,hq148⟩ := hq48
     simp only [List.mem_cons,List.not_mem_nil,or_false] at hv48
     refine ⟨by kernel_rfl,WI.to (⟨[(0,.ptr 998 0),(1,.own 999 h.length),(5,.i v18),(20,.i v20),(37,.b (decide (v20 = (1 : Int)))),(39,.own 999 h.length),(40,.i v18),(41,.ptr 998 0),(42,.own 999 h.length),(43,.i v18),(44,.pel 999 7 (Int.toNat v18) 0),(45,.pel 999 7 (Int.toNat v18) 5),(46,.i ((h.getD (Int.toNat v18) default).frm)),(47,.sl (.ints ([(31 : Int),((h.getD (Int.toNat v18) default).frm),(1 : Int)]))),(48,.i v48)],[(998,⟨68,.fix [.sl (.bytes l),.i q48]⟩),(999,⟨40,.row (.calls h)⟩)],[48,47,20,18,11,998,999]⟩) 10 (by kernel_rfl) rfl ?_⟩
     refine WI.runT cok tab43 hnt [] 3 13 (⟨[(0,.ptr 998 0),(1,.own 999 h.length),(5,.i v18),(20,.i v20),(37,.b (decide (v20 = (1 : Int)))),(39,.own 999 h.length),(40,.i v18),(41,.ptr 998 0),(42,.own 999 h.length),(43,.i v18),(44,.pel 999 7 (Int.toNat v18) 0),(45,.pel 999 7 (Int.toNat v18) 5),(46,.i ((h.getD (Int.toNat v18) default).frm)),(47,.sl (.ints ([(31 : Int),((h.getD (Int.toNat v18) default).frm),(1 : Int)]))),(48,.i v48),(49,.pel 999 7 (Int.toNat v18) 0),(50,.pel 999 7 (Int.toNat v18) 6)],[(998,⟨68,.fix [.sl (.bytes l),.i q48]⟩),(999,⟨40,.row (.calls (List.set h (Int.toNat v18) ({ h.getD (Int.toNat v18) default with to := v48 })))⟩)],[48,47,20,18,11,998,999]⟩)
      ((True ∧ True ∧ (0 ≤ v18) ∧ (v18 < (h.length : Int))) ∧ True ∧ (True ∧ True ∧ ((Int.toNat v18) < h.length)) ∧ True) (by kernel_rfl) rfl
      ⟨⟨tt,tt,(by omega),(by omega)⟩,tt,⟨tt,tt,(by omega)⟩,tt⟩ ?_
     refine WI.nil rfl ?_
     refine blockQ_normal (thenQ_normal ?_)
     refine Kk cok tab43 hnt [] [4] (⟨[(4,.own 999 h.length)],[(998,⟨68,.fix [.sl (.bytes l),.i q48]⟩),(999,⟨40,.row (.calls (List.set h (Int.toNat v18) ({ h.getD (Int.toNat v18) default with to := v48 })))⟩)],[48,47,20,18,11,998,999]⟩)
      (True ∧ True ∧ True)
      ⟨tt,tt,tt⟩ ?_
     refine W.ret ?_
     exact endP_ret ((List.set h (Int.toNat v18) ({ h.getD (Int.toNat v18) default with to := v48 })),q48) (show ((List.set h (Int.toNat v18) ({ h.getD (Int.toNat v18) default with to := v48 })).length = h.length) ∧ (p ≤ q48 ∧ q48 ≤ p + 10) from ⟨(by first | rfl | simp),(by first | assumption | omega | rfl | (simp; done) | (simp; omega))⟩) [(1,999),(0,998)] (.own 999 h.length) (by kernel_rfl) (@cast ((((999 : Nat) = 999) ∧ (h.length = (List.length (List.set h (Int.toNat v18) ({ h.getD (Int.toNat v18) default with to := v48 })))) ∧ ((1 : Nat) ∈ ([0,1] : List Nat))) ∧ ((((68 : Nat) = 68) ∧ ((Sd (.bytes l)) ∧ (Si q48) ∧ True) ∧ ((0 : Nat) ∈ ([0,1] : List Nat))) ∧ (((40 : Nat) = 40) ∧ (Sd (.calls (List.set h (Int.toNat v18) ({ h.getD (Int.toNat v18) default with to := v48 })))) ∧ ((1 : Nat) ∈ ([0,1] : List Nat))) ∧ True) ∧ (true = true) ∧ ((([] : List Nat) = []) ∧ True) ∧ (true = true → (998 : Nat) = 998)) _ (by kernel_rfl) ⟨⟨rfl,(by first | rfl | omega | assumption | (symm; assumption) | simp | simp_all),(by decide)⟩,⟨⟨rfl,⟨rfl,rfl,tt⟩,(by decide)⟩,⟨rfl,rfl,(by decide)⟩,tt⟩,rfl,⟨rfl,tt⟩,(fun _ => rfl)⟩)
    ·intro n37
     refine Kk cok tab43 hnt [] [0,1,5,20,51] (⟨[(0,.ptr 998 0),(1,.own 999 h.length),(5,.i v18),(20,.i v20),(51,.b (decide (v20 = (2 : Int))))],[(998,⟨68,.fix [.sl (.bytes l),.i q20]⟩),(999,⟨40,.row (.calls h)⟩)],[20,18,11,998,999]⟩)
      ((True ∧ True ∧ True) ∧ True ∧ True)
      ⟨⟨tt,tt,tt⟩,tt,tt⟩ ?_
     refine W.ifP (v20 = (2 : Int)) (.b (decide (v20 = (2 : Int)))) (by kernel_rfl) rfl trivial ?_ ?_
     ·intro h51
      refine W.wi ?_
      refine WI.runT cok tab43 hnt [] 4 4 (⟨[(0,.ptr 998 0),(1,.own 999 h.length),(5,.i v18),(20,.i v20),(51,.b (decide (v20 = (2 : Int)))),(53,.own 999 h.length),(54,.i v18),(55,.ptr 998 0),(56,.sl (.ints ([(-2 : Int),(21 : Int),(3 : Int)])))],[(998,⟨68,.fix [.sl (.bytes l),.i q20]⟩),(999,⟨40,.row (.calls h)⟩)],[56,20,18,11,998,999]⟩)
       (True ∧ True ∧ True ∧ (True ∧ True ∧ True ∧ True) ∧ True) (by kernel_rfl) rfl
       ⟨tt,tt,tt,⟨tt,tt,tt,tt⟩,tt⟩ ?_
      refine WI.call [.ptr 998 0,.sl (.ints ([(-2 : Int),(21 : Int),(3 : Int)]))] [.sl (.bytes l),.i q20] [.sl (.ints ([(-2 : Int),(21 : Int),(3 : Int)]))] [.sl (.ints ([(-2 : Int),(21 : Int),(3 : Int)]))] (some (68,998)) (True) (True ∧ True) none rok59 ent59 hnt rfl rfl (wanted_none rfl) (by kernel_rfl) (by kernel_rfl) (by kernel_rfl) ⟨tt,tt,tt⟩
       (@cast ((0 ≤ q20 ∧ q20 ≤ 1000000) ∧ (0 < ([(-2 : Int),(21 : Int),(3 : Int)]).length) ∧ (([(-2 : Int),(21 : Int),(3 : Int)]).length ≤ 1000)) _ (by kernel_rfl) ⟨(by omega),⟨(by (first | omega | (simp only [List.length_set]; done) | (simp only [List.length_append,List.length_cons,List.length_nil,List.length_take,List.length_drop,List.length_set,List.length_replicate,List.length_map] at *; omega) | assumption)),(by (first | omega | (simp only [List.length_set]; done) | (simp only [List.length_append,List.length_cons,List.length_nil,List.length_take,List.length_drop,List.length_set,List.length_replicate,List.length_map] at *; omega) | assumption))⟩⟩) (Or.inl rfl) rfl ?_
      rintro r bl fx2 hR
      obtain ⟨⟨v57,q57⟩,hq57,rfl,rfl,rfl⟩ := (@cast _ (∃ x : Int × Int,((x.1 ∈ ([(-2 : Int),(21 : Int),(3 : Int)])) ∧ (x.2 = q20 + 1)) ∧ r = (.i x.1) ∧ bl = ([]) ∧ fx2 = ([.sl (.bytes l),.i x.2])) (by kernel_rfl) hR)
      clear hR
      replace hq57 : (v57 ∈ ([(-2 : Int),(21 : Int),(3 : Int)])) ∧ (q57 = q20 + 1) := hq57
      obtain ⟨hv57,hq157⟩ := hq57
      simp only [List.mem_cons,List.not_mem_nil,or_false] at hv57
      refine ⟨by kernel_rfl,WI.to (⟨[(0,.ptr 998 0),(1,.own 999 h.length),(5,.i v18),(20,.i v20),(51,.b (decide (v20 = (2 : Int)))),(53,.own 999 h.length),(54,.i v18),(55,.ptr 998 0),(56,.sl (.ints ([(-2 : Int),(21 : Int),(3 : Int)]))),(57,.i v57)],[(998,⟨68,.fix [.sl (.bytes l),.i q57]⟩),(999,⟨40,.row (.calls h)⟩)],[57,56,20,18,11,998,999]⟩) 5 (by kernel_rfl) rfl ?_⟩
      refine WI.runT cok tab43 hnt [] 3 8 (⟨[(0,.ptr 998 0),(1,.own 999 h.length),(5,.i v18),(20,.i v20),(51,.b (decide (v20 = (2 : Int)))),(53,.own 999 h.length),(54,.i v18),(55,.ptr 998 0),(56,.sl (.ints ([(-2 : Int),(21 : Int),(3 : Int)]))),(57,.i v57),(58,.pel 999 7 (Int.toNat v18) 0),(59,.pel 999 7 (Int.toNat v18) 4)],[(998,⟨68,.fix [.sl (.bytes l),.i q57]⟩),(999,⟨40,.row (.calls (List.set h (Int.toNat v18) ({ h.getD (Int.toNat v18) default with ret := v57 })))⟩)],[57,56,20,18,11,998,999]⟩)
       ((True ∧ True ∧ (0 ≤ v18) ∧ (v18 < (h.length : Int))) ∧ True ∧ (True ∧ True ∧ ((Int.toNat v18) < h.length)) ∧ True) (by kernel_rfl) rfl
       ⟨⟨tt,tt,(by omega),(by omega)⟩,tt,⟨tt,tt,(by omega)⟩,tt⟩ ?_
      refine WI.nil rfl ?_
      refine blockQ_normal (thenQ_normal ?_)
      refine Kk cok tab43 hnt [] [4] (⟨[(4,.own 999 h.length)],[(998,⟨68,.fix [.sl (.bytes l),.i q57]⟩),(999,⟨40,.row (.calls (List.set h (Int.toNat v18) ({ h.getD (Int.toNat v18) default with ret := v57 })))⟩)],[57,56,20,18,11,998,999]⟩)
       (True ∧ True ∧ True)
       ⟨tt,tt,tt⟩ ?_
      refine W.ret ?_
      exact endP_ret ((List.set h (Int.toNat v18) ({ h.getD (Int.toNat v18) default with ret := v57 })),q57) (show ((List.set h (Int.toNat v18) ({ h.getD (Int.toNat v18) default with ret := v57 })).length = h.length) ∧ (p ≤ q57 ∧ q57 ≤ p + 10) from ⟨(by first | rfl | simp),(by first | assumption | omega | rfl | (simp; done) | (simp; omega))⟩) [(1,999),(0,998)] (.own 999 h.length) (by kernel_rfl) (@cast ((((999 : Nat) = 999) ∧ (h.length = (List.length (List.set h (Int.toNat v18) ({ h.getD (Int.toNat v18) default with ret := v57 })))) ∧ ((1 : Nat) ∈ ([0,1] : List Nat))) ∧ ((((68 : Nat) = 68) ∧ ((Sd (.bytes l)) ∧ (Si q57) ∧ True) ∧ ((0 : Nat) ∈ ([0,1] : List Nat))) ∧ (((40 : Nat) = 40) ∧ (Sd (.calls (List.set h (Int.toNat v18) ({ h.getD (Int.toNat v18) default with ret := v57 })))) ∧ ((1 : Nat) ∈ ([0,1] : List Nat))) ∧ True) ∧ (true = true) ∧ ((([] : List Nat) = []) ∧ True) ∧ (true = true → (998 : Nat) = 998)) _ (by kernel_rfl) ⟨⟨rfl,(by first | rfl | omega | assumption | (symm; assumption) | simp | simp_all),(by decide)⟩,⟨⟨rfl,⟨rfl,rfl,tt⟩,(by decide)⟩,⟨rfl,rfl,(by decide)⟩,tt⟩,rfl,⟨rfl,tt⟩,(fun _ => rfl)⟩)
     ·intro n51
      refine Kk cok tab43 hnt [] [0,1,5,20,60] (⟨[(0,.ptr 998 0),(1,.own 999 h.length),(5,.i v18),(20,.i v20),(60,.b (decide (v20 = (3 : Int))))],[(998,⟨68,.fix [.sl (.bytes l),.i q20]⟩),(999,⟨40,.row (.calls h)⟩)],[20,18,11,998,999]⟩)
       ((True ∧ True ∧ True) ∧ True ∧ True)
       ⟨⟨tt,tt,tt⟩,tt,tt⟩ ?_
      refine W.ifP (v20 = (3 : Int)) (.b (decide (v20 = (3 : Int)))) (by kernel_rfl) rfl trivial ?_ ?_
      ·intro h60
       refine W.wi ?_
       refine WI.runT cok tab43 hnt [] 4 4 (⟨[(0,.ptr 998 0),(1,.own 999 h.length),(5,.i v18),(20,.i v20),(60,.b (decide (v20 = (3 : Int)))),(62,.own 999 h.length),(63,.i v18),(64,.ptr 998 0),(65,.sl (.ints ([(-1 : Int),(4 : Int)])))],[(998,⟨68,.fix [.sl (.bytes l),.i q20]⟩),(999,⟨40,.row (.calls h)⟩)],[65,20,18,11,998,999]⟩)
        (True ∧ True ∧ True ∧ (True ∧ True ∧ True) ∧ True) (by kernel_rfl) rfl
        ⟨tt,tt,tt,⟨tt,tt,tt⟩,tt⟩ ?_
       refine WI.call [.ptr 998 0,.sl (.ints ([(-1 : Int),(4 : Int)]))] [.sl (.bytes l),.i q20] [.sl (.ints ([(-1 : Int),(4 : Int)]))] [.sl (.ints ([(-1 : Int),(4 : Int)]))] (some (68,998)) (True) (True ∧ True) none rok59 ent59 hnt rfl rfl (wanted_none rfl) (by kernel_rfl) (by kernel_rfl) (by kernel_rfl) ⟨tt,tt,tt⟩
        (@cast ((0 ≤ q20 ∧ q20 ≤ 1000000) ∧ (0 < ([(-1 : Int),(4 : Int)]).length) ∧ (([(-1 : Int),(4 : Int)]).length ≤ 1000)) _ (by kernel_rfl) ⟨(by omega),⟨(by (first | omega | (simp only [List.length_set]; done) | (simp only [List.length_append,List.length_cons,List.length_nil,List.length_take,List.length_drop,List.length_set,List.length_replicate,List.length_map] at *; omega) | assumption)),(by (first | omega | (simp only [List.length_set]; done) | (simp only [List.length_append,List.length_cons,List.length_nil,List.length_take,List.length_drop,List.length_set,List.length_replicate,List.length_map] at *; omega) | assumption))⟩⟩) (Or.inl rfl) rfl ?_
       rintro r bl fx2 hR
       obtain ⟨⟨v66,q66⟩,hq66,rfl,rfl,rfl⟩ := (@cast _ (∃ x : Int × Int,((x.1 ∈ ([(-1 : Int),(4 : Int)])) ∧ (x.2 = q20 + 1)) ∧ r = (.i x.1) ∧ bl = ([]) ∧ fx2 = ([.sl (.bytes l),.i x.2])) (by kernel_rfl) hR)
       clear hR
       replace hq66 : (v66 ∈ ([(-1 : Int),(4 : Int)])) ∧ (q66 = q20 + 1) := hq66
       obtain ⟨hv66,hq166⟩ := hq66
       simp only [List.mem_cons,List.not_mem_nil,or_false] at hv66
       refine ⟨by kernel_rfl,WI.to (⟨[(0,.ptr 998 0),(1,.own 999 h.length),(5,.i v18),(20,.i v20),(60,.b (decide (v20 = (3 : Int)))),(62,.own 999 h.length),(63,.i v18),(64,.ptr 998 0),(65,.sl (.ints ([(-1 : Int),(4 : Int)]))),(66,.i v66)],[(998,⟨68,.fix [.sl (.bytes l),.i q66]⟩),(999,⟨40,.row (.calls h)⟩)],[66,65,20,18,11,998,999]⟩) 5 (by kernel_rfl) rfl ?_⟩
       refine WI.runT cok tab43 hnt [] 3 8 (⟨[(0,.ptr 998 0),(1,.own 999 h.length),(5,.i v18),(20,.i v20),(60,.b (decide (v20 = (3 : Int)))),(62,.own 999 h.length),(63,.i v18),(64,.ptr 998 0),(65,.sl (.ints ([(-1 : Int),(4 : Int)]))),(66,.i v66),(67,.pel 999 7 (Int.toNat v18) 0),(68,.pel 999 7 (Int.toNat v18) 3)],[(998,⟨68,.fix [.sl (.bytes l),.i q66]⟩),(999,⟨40,.row (.calls (List.set h (Int.toNat v18) ({ h.getD (Int.toNat v18) default with arg := v66 })))⟩)],[66,65,20,18,11,998,999]⟩)
        ((True ∧ True ∧ (0 ≤ v18) ∧ (v18 < (h.length : Int))) ∧ True ∧ (True ∧ True ∧ ((Int.toNat v18) < h.length)) ∧ True) (by kernel_rfl) rfl
        ⟨⟨tt,tt,(by omega),(by omega)⟩,tt,⟨tt,tt,(by omega)⟩,tt⟩ ?_
       refine WI.nil rfl ?_
       refine blockQ_normal (thenQ_normal ?_)
       refine Kk cok tab43 hnt [] [4] (⟨[(4,.own 999 h.length)],[(998,⟨68,.fix [.sl (.bytes l),.i q66]⟩),(999,⟨40,.row (.calls (List.set h (Int.toNat v18) ({ h.getD (Int.toNat v18) default with arg := v66 })))⟩)],[66,65,20,18,11,998,999]⟩)
        (True ∧ True ∧ True)
        ⟨tt,tt,tt⟩ ?_
       refine W.ret ?_
       exact endP_ret ((List.set h (Int.toNat v18) ({ h.getD (Int.toNat v18) default with arg := v66 })),q66) (show ((List.set h (Int.toNat v18) ({ h.getD (Int.toNat v18) default with arg := v66 })).length = h.length) ∧ (p ≤ q66 ∧ q66 ≤ p + 10) from ⟨(by first | rfl | simp),(by first | assumption | omega | rfl | (simp; done) | (simp; omega))⟩) [(1,999),(0,998)] (.own 999 h.length) (by kernel_rfl) (@cast ((((999 : Nat) = 999) ∧ (h.length = (List.length (List.set h (Int.toNat v18) ({ h.getD (Int.toNat v18) default with arg := v66 })))) ∧ ((1 : Nat) ∈ ([0,1] : List Nat))) ∧ ((((68 : Nat) = 68) ∧ ((Sd (.bytes l)) ∧ (Si q66) ∧ True) ∧ ((0 : Nat) ∈ ([0,1] : List Nat))) ∧ (((40 : Nat) = 40) ∧ (Sd (.calls (List.set h (Int.toNat v18) ({ h.getD (Int.toNat v18) default with arg := v66 })))) ∧ ((1 : Nat) ∈ ([0,1] : List Nat))) ∧ True) ∧ (true = true) ∧ ((([] : List Nat) = []) ∧ True) ∧ (true = true → (998 : Nat) = 998)) _ (by kernel_rfl) ⟨⟨rfl,(by first | rfl | omega | assumption | (symm; assumption) | simp | simp_all),(by decide)⟩,⟨⟨rfl,⟨rfl,rfl,tt⟩,(by decide)⟩,⟨rfl,rfl,(by decide)⟩,tt⟩,rfl,⟨rfl,tt⟩,(fun _ => rfl)⟩)
      ·intro n60
       refine Kk cok tab43 hnt [] [0,1,5,69] (⟨[(0,.ptr 998 0),(1,.own 999 h.length),(5,.i v18),(69,.b (decide (v20 = (4 : Int))))],[(998,⟨68,.fix [.sl (.bytes l),.i q20]⟩),(999,⟨40,.row (.calls h)⟩)],[20,18,11,998,999]⟩)
        ((True ∧ True ∧ True) ∧ True ∧ True)
        ⟨⟨tt,tt,tt⟩,tt,tt⟩ ?_
       refine W.ifP (v20 = (4 : Int)) (.b (decide (v20 = (4 : Int)))) (by kernel_rfl) rfl trivial ?_ ?_
       ·intro h69
        refine W.wi ?_
        refine WI.runT cok tab43 hnt [] 4 4 (⟨[(0,.ptr 998 0),(1,.own 999 h.length),(5,.i v18),(69,.b (decide (v20 = (4 : Int)))),(71,.own 999 h.length),(72,.i v18),(73,.ptr 998 0),(74,.sl (.ints ([(2 : Int),(-1 : Int),(1 : Int)])))],[(998,⟨68,.fix [.sl (.bytes l),.i q20]⟩),(999,⟨40,.row (.calls h)⟩)],[74,20,18,11,998,999]⟩)
         (True ∧ True ∧ True ∧ (True ∧ True ∧ True ∧ True) ∧ True) (by kernel_rfl) rfl
         ⟨tt,tt,tt,⟨tt,tt,tt,tt⟩,tt⟩ ?_
        refine WI.call [.ptr 998 0,.sl (.ints ([(2 : Int),(-1 : Int),(1 : Int)]))] [.sl (.bytes l),.i q20] [.sl (.ints ([(2 : Int),(-1 : Int),(1 : Int)]))] [.sl (.ints ([(2 : Int),(-1 : Int),(1 : Int)]))] (some (68,998)) (True) (True ∧ True) none rok59 ent59 hnt rfl rfl (wanted_none rfl) (by kernel_rfl) (by kernel_rfl) (by kernel_rfl) ⟨tt,tt,tt⟩
         (@cast ((0 ≤ q20 ∧ q20 ≤ 1000000) ∧ (0 < ([(2 : Int),(-1 : Int),(1 : Int)]).length) ∧ (([(2 : Int),(-1 : Int),(1 : Int)]).length ≤ 1000)) _ (by kernel_rfl) ⟨(by omega),⟨(by (first | omega | (simp only [List.length_set]; done) | (simp only [List.length_append,List.length_cons,List.length_nil,List.length_take,List.length_drop,List.length_set,List.length_replicate,List.length_map] at *; omega) | assumption)),(by (first | omega | (simp only [List.length_set]; done) | (simp only [List.length_append,List.length_cons,List.length_nil,List.length_take,List.length_drop,List.length_set,List.length_replicate,List.length_map] at *; omega) | assumption))⟩⟩) (Or.inl rfl) rfl ?_
        rintro r bl fx2 hR
        obtain ⟨⟨v75,q75⟩,hq75,rfl,rfl,rfl⟩ := (@cast _ (∃ x : Int × Int,((x.1 ∈ ([(2 : Int),(-1 : Int),(1 : Int)])) ∧ (x.2 = q20 + 1)) ∧ r = (.i x.1) ∧ bl = ([]) ∧ fx2 = ([.sl (.bytes l),.i x.2])) (by kernel_rfl) hR)
        clear hR
        replace hq75 : (v75 ∈ ([(2 : Int),(-1 : Int),(1 : Int)])) ∧ (q75 = q20 + 1) := hq75
        obtain ⟨hv75,hq175⟩ := hq75
        simp only [List.mem_cons,List.not_mem_nil,or_false] at hv75
        refine ⟨by kernel_rfl,WI.to (⟨[(0,.ptr 998 0),(1,.own 999 h.length),(5,.i v18),(69,.b (decide (v20 = (4 : Int)))),(71,.own 999 h.length),(72,.i v18),(73,.ptr 998 0),(74,.sl (.ints ([(2 : Int),(-1 : Int),(1 : Int)]))),(75,.i v75)],[(998,⟨68,.fix [.sl (.bytes l),.i q75]⟩),(999,⟨40,.row (.calls h)⟩)],[75,74,20,18,11,998,999]⟩) 5 (by kernel_rfl) rfl ?_⟩
        refine WI.runT cok tab43 hnt [] 3 8 (⟨[(0,.ptr 998 0),(1,.own 999 h.length),(5,.i v18),(69,.b (decide (v20 = (4 : Int)))),(71,.own 999 h.length),(72,.i v18),(73,.ptr 998 0),(74,.sl (.ints ([(2 : Int),(-1 : Int),(1 : Int)]))),(75,.i v75),(76,.pel 999 7 (Int.toNat v18) 0),(77,.pel 999 7 (Int.toNat v18) 1)],[(998,⟨68,.fix [.sl (.bytes l),.i q75]⟩),(999,⟨40,.row (.calls (List.set h (Int.toNat v18) ({ h.getD (Int.toNat v18) default with obj := v75 })))⟩)],[75,74,20,18,11,998,999]⟩)
         ((True ∧ True ∧ (0 ≤ v18) ∧ (v18 < (h.length : Int))) ∧ True ∧ (True ∧ True ∧ ((Int.toNat v18) < h.length)) ∧ True) (by kernel_rfl) rfl
         ⟨⟨tt,tt,(by omega),(by omega)⟩,tt,⟨tt,tt,(by omega)⟩,tt⟩ ?_
        refine WI.nil rfl ?_
        refine blockQ_normal (thenQ_normal ?_)
        refine Kk cok tab43 hnt [] [4] (⟨[(4,.own 999 h.length)],[(998,⟨68,.fix [.sl (.bytes l),.i q75]⟩),(999,⟨40,.row (.calls (List.set h (Int.toNat v18) ({ h.getD (Int.toNat v18) default with obj := v75 })))⟩)],[75,74,20,18,11,998,999]⟩)
         (True ∧ True ∧ True)
         ⟨tt,tt,tt⟩ ?_
        refine W.ret ?_
        exact endP_ret ((List.set h (Int.toNat v18) ({ h.getD (Int.toNat v18) default with obj := v75 })),q75) (show ((List.set h (Int.toNat v18) ({ h.getD (Int.toNat v18) default with obj := v75 })).length = h.length) ∧ (p ≤ q75 ∧ q75 ≤ p + 10) from ⟨(by first | rfl | simp),(by first | assumption | omega | rfl | (simp; done) | (simp; omega))⟩) [(1,999),(0,998)] (.own 999 h.length) (by kernel_rfl) (@cast ((((999 : Nat) = 999) ∧ (h.length = (List.length (List.set h (Int.toNat v18) ({ h.getD (Int.toNat v18) default with obj := v75 })))) ∧ ((1 : Nat) ∈ ([0,1] : List Nat))) ∧ ((((68 : Nat) = 68) ∧ ((Sd (.bytes l)) ∧ (Si q75) ∧ True) ∧ ((0 : Nat) ∈ ([0,1] : List Nat))) ∧ (((40 : Nat) = 40) ∧ (Sd (.calls (List.set h (Int.toNat v18) ({ h.getD (Int.toNat v18) default with obj := v75 })))) ∧ ((1 : Nat) ∈ ([0,1] : List Nat))) ∧ True) ∧ (true = true) ∧ ((([] : List Nat) = []) ∧ True) ∧ (true = true → (998 : Nat) = 998)) _ (by kernel_rfl) ⟨⟨rfl,(by first | rfl | omega | assumption | (symm; assumption) | simp | simp_all),(by decide)⟩,⟨⟨rfl,⟨rfl,rfl,tt⟩,(by decide)⟩,⟨rfl,rfl,(by decide)⟩,tt⟩,rfl,⟨rfl,tt⟩,(fun _ => rfl)⟩)
       ·intro n69
        refine W.wi ?_
        refine WI.runT cok tab43 hnt [] 4 4 (⟨[(0,.ptr 998 0),(1,.own 999 h.length),(5,.i v18),(21,.own 999 h.length),(22,.i v18),(23,.ptr 998 0),(24,.sl (.ints ([(3 : Int),(-1 : Int),(0 : Int)]))),(69,.b (decide (v20 = (4 : Int))))],[(998,⟨68,.fix [.sl (.bytes l),.i q20]⟩),(999,⟨40,.row (.calls h)⟩)],[24,20,18,11,998,999]⟩)
         (True ∧ True ∧ True ∧ (True ∧ True ∧ True ∧ True) ∧ True) (by kernel_rfl) rfl
         ⟨tt,tt,tt,⟨tt,tt,tt,tt⟩,tt⟩ ?_
        refine WI.call [.ptr 998 0,.sl (.ints ([(3 : Int),(-1 : Int),(0 : Int)]))] [.sl (.bytes l),.i q20] [.sl (.ints ([(3 : Int),(-1 : Int),(0 : Int)]))] [.sl (.ints ([(3 : Int),(-1 : Int),(0 : Int)]))] (some (68,998)) (True) (True ∧ True) none rok59 ent59 hnt rfl rfl (wanted_none rfl) (by kernel_rfl) (by kernel_rfl) (by kernel_rfl) ⟨tt,tt,tt⟩
         (@cast ((0 ≤ q20 ∧ q20 ≤ 1000000) ∧ (0 < ([(3 : Int),(-1 : Int),(0 : Int)]).length) ∧ (([(3 : Int),(-1 : Int),(0 : Int)]).length ≤ 1000)) _ (by kernel_rfl) ⟨(by omega),⟨(by (first | omega | (simp only [List.length_set]; done) | (simp only [List.length_append,List.length_cons,List.length_nil,List.length_take,List.length_drop,List.length_set,List.length_replicate,List.length_map] at *; omega) | assumption)),(by (first | omega | (simp only [List.length_set]; done) | (simp only [List.length_append,List.length_cons,List.length_nil,List.length_take,List.length_drop,List.length_set,List.length_replicate,List.length_map] at *; omega) | assumption))⟩⟩) (Or.inl rfl) rfl ?_
        rintro r bl fx2 hR
        obtain ⟨⟨v25,q25⟩,hq25,rfl,rfl,rfl⟩ := (@cast _ (∃ x : Int × Int,((x.1 ∈ ([(3 : Int),(-1 : Int),(0 : Int)])) ∧ (x.2 = q20 + 1)) ∧ r = (.i x.1) ∧ bl = ([]) ∧ fx2 = ([.sl (.bytes l),.i x.2])) (by kernel_rfl) hR)
        clear hR
        replace hq25 : (v25 ∈ ([(3 : Int),(-1 : Int),(0 : Int)])) ∧ (q25 = q20 + 1) := hq25
        obtain ⟨hv25,hq125⟩ := hq25
        simp only [List.mem_cons,List.not_mem_nil,or_false] at hv25
        refine ⟨by kernel_rfl,WI.to (⟨[(0,.ptr 998 0),(1,.own 999 h.length),(5,.i v18),(21,.own 999 h.length),(22,.i v18),(23,.ptr 998 0),(24,.sl (.ints ([(3 : Int),(-1 : Int),(0 : Int)]))),(25,.i v25),(69,.b (decide (v20 = (4 : Int))))],[(998,⟨68,.fix [.sl (.bytes l),.i q25]⟩),(999,⟨40,.row (.calls h)⟩)],[25,24,20,18,11,998,999]⟩) 5 (by kernel_rfl) rfl ?_⟩
        refine WI.runT cok tab43 hnt [] 3 8 (⟨[(0,.ptr 998 0),(1,.own 999 h.length),(5,.i v18),(21,.own 999 h.length),(22,.i v18),(23,.ptr 998 0),(24,.sl (.ints ([(3 : Int),(-1 : Int),(0 : Int)]))),(25,.i v25),(26,.pel 999 7 (Int.toNat v18) 0),(27,.pel 999 7 (Int.toNat v18) 2),(69,.b (decide (v20 = (4 : Int))))],[(998,⟨68,.fix [.sl (.bytes l),.i q25]⟩),(999,⟨40,.row (.calls (List.set h (Int.toNat v18) ({ h.getD (Int.toNat v18) default with kind := v25 })))⟩)],[25,24,20,18,11,998,999]⟩)
         ((True ∧ True ∧ (0 ≤ v18) ∧ (v18 < (h.length : Int))) ∧ True ∧ (True ∧ True ∧ ((Int.toNat v18) < h.length)) ∧ True) (by kernel_rfl) rfl
         ⟨⟨tt,tt,(by omega),(by omega)⟩,tt,⟨tt,tt,(by omega)⟩,tt⟩ ?_
        refine WI.nil rfl ?_
        refine blockQ_normal (thenQ_normal ?_)
        refine Kk cok tab43 hnt [] [4] (⟨[(4,.own 999 h.length)],[(998,⟨68,.fix [.sl (.bytes l),.i q25]⟩),(999,⟨40,.row (.calls (List.set h (Int.toNat v18) ({ h.getD (Int.toNat v18) default with kind := v25 })))⟩)],[25,24,20,18,11,998,999]⟩)
         (True ∧ True ∧ True)
         ⟨tt,tt,tt⟩ ?_
        refine W.ret ?_
        exact endP_ret ((List.set h (Int.toNat v18) ({ h.getD (Int.toNat v18) default with kind := v25 })),q25) (show ((List.set h (Int.toNat v18) ({ h.getD (Int.toNat v18) default with kind := v25 })).length = h.length) ∧ (p ≤ q25 ∧ q25 ≤ p + 10) from ⟨(by first | rfl | simp),(by first | assumption | omega | rfl | (simp; done) | (simp; omega))⟩) [(1,999),(0,998)] (.own 999 h.length) (by kernel_rfl) (@cast ((((999 : Nat) = 999) ∧ (h.length = (List.length (List.set h (Int.toNat v18) ({ h.getD (Int.toNat v18) default with kind := v25 })))) ∧ ((1 : Nat) ∈ ([0,1] : List Nat))) ∧ ((((68 : Nat) = 68) ∧ ((Sd (.bytes l)) ∧ (Si q25) ∧ True) ∧ ((0 : Nat) ∈ ([0,1] : List Nat))) ∧ (((40 : Nat) = 40) ∧ (Sd (.calls (List.set h (Int.toNat v18) ({ h.getD (Int.toNat v18) default with kind := v25 })))) ∧ ((1 : Nat) ∈ ([0,1] : List Nat))) ∧ True) ∧ (true = true) ∧ ((([] : List Nat) = []) ∧ True) ∧ (true = true → (998 : Nat) = 998)) _ (by kernel_rfl) ⟨⟨rfl,(by first | rfl | omega | assumption | (symm; assumption) | simp | simp_all),(by decide)⟩,⟨⟨rfl,⟨rfl,rfl,tt⟩,(by decide)⟩,⟨rfl,rfl,(by decide)⟩,tt⟩,rfl,⟨rfl,tt⟩,(fun _ => rfl)⟩)
theorem ent43 : Entr prog 43 := ⟨_,func43,rfl,by decide⟩
end Go.Proofs.Tryd

set_option linter.unusedSimpArgs false
set_option linter.unusedVariables false
namespace Go.Proofs.Tryd
open Go.Ab Go.RowKit
def pre26 : List AV → List AV → Prop := preP [] [.bytes,.int] (fun _ (l,p,_) => (0 ≤ p ∧ p ≤ 700000))
def rel26 : RelS := relP [] [.bytes,.int] (ι := (List CallD) × Int) (fun _ (l,p,_) (g,q) => (g.length ≤ 6) ∧ (p ≤ q ∧ q ≤ p + 1300)) (fun _ (l,p,_) (g,q) => (.own 1 g.length,[⟨40,.row (.calls g)⟩],[.sl (.bytes l),.i q]))
abbrev T26 : Tab := lk []
theorem tab26 : TabOK prog T26 := TabOK.nil
set_option maxRecDepth 100000 in
set_option maxHeartbeats 1000000 in
theorem rok26 : RelOK prog 26 (some 68) [] pre26 rel26 := by
 refine RelOK.mk cok func26 rfl rfl rfl ?_
 rintro _ ⟨(l : List UInt8),(p : Int),_⟩ hpre F hnt0
 have hnt : F.nt = 9 := hnt0.trans ntmps26
 replace hpre : (0 ≤ p ∧ p ≤ 700000) := hpre
 have hp := hpre
 refine W.to (⟨[(0,.ptr 998 0)],[(998,⟨68,.fix [.sl (.bytes l),.i p]⟩)],[998,999]⟩) rfl ?_
 refine Kk cok tab26 hnt [] [0] (⟨[(0,.ptr 998 0)],[(998,⟨68,.fix [.sl (.bytes l),.i p]⟩)],[998,999]⟩)
  (True ∧ True)
  ⟨tt,tt⟩ ?_
 refine W.seq (W.wi ?_)
 refine WI.runT cok tab26 hnt [] 3 3 (⟨[(0,.ptr 998 0),(3,.ptr 998 0),(4,.ptr 998 0),(5,.ptr 998 0)],[(998,⟨68,.fix [.sl (.bytes l),.i p]⟩)],[998,999]⟩)
  (True ∧ True ∧ True ∧ True) (by kernel_rfl) rfl
  ⟨tt,tt,tt,tt⟩ ?_
 refine WI.call [.ptr 998 0] [.sl (.bytes l),.i p] [] [] (some (68,998)) (True) (True) none rok33 ent33 hnt rfl rfl (wanted_none rfl) (by kernel_rfl) (by kernel_rfl) (by kernel_rfl) ⟨tt,tt⟩
  (@cast (0 ≤ p ∧ p ≤ 1000000) _ (by kernel_rfl) (by omega)) (Or.inl rfl) rfl ?_
 rintro r bl fx2 hR
 obtain ⟨⟨v6,q6⟩,hq6,rfl,rfl,rfl⟩ := (@cast _ (∃ x : ByteArray × Int,((x.2 = p + 1)) ∧ r = (.v (.string x.1)) ∧ bl = ([]) ∧ fx2 = ([.sl (.bytes l),.i x.2])) (by kernel_rfl) hR)
 clear hR
 replace hq6 : (q6 = p + 1) := hq6
 have hq16 := hq6
 refine ⟨by kernel_rfl,WI.to (⟨[(0,.ptr 998 0),(3,.ptr 998 0),(4,.ptr 998 0),(5,.ptr 998 0),(6,.v (.string v6))],[(998,⟨68,.fix [.sl (.bytes l),.i q6]⟩)],[6,998,999]⟩) 4 (by kernel_rfl) rfl ?_⟩
 refine WI.call [.ptr 998 0,.v (.string v6)] [.sl (.bytes l),.i q6] [.v (.string v6)] [.v (.string v6)] (some (68,998)) (True) (True ∧ True) none rok32 ent32 hnt rfl rfl (wanted_none rfl) (by kernel_rfl) (by kernel_rfl) (by kernel_rfl) ⟨tt,tt,tt⟩
  (@cast (0 ≤ q6 ∧ q6 ≤ 800000) _ (by kernel_rfl) (by omega)) (Or.inl rfl) rfl ?_
 rintro r bl fx2 hR
 obtain ⟨⟨g7,q7⟩,hq7,rfl,rfl,rfl⟩ := (@cast _ (∃ x : (List CallD) × Int,((GoodH x.1) ∧ (q6 ≤ x.2 ∧ x.2 ≤ q6 + 1200)) ∧ r = (.own 1 (List.length x.1)) ∧ bl = ([⟨40,.row (.calls x.1)⟩]) ∧ fx2 = ([.sl (.bytes l),.i x.2])) (by kernel_rfl) hR)
 clear hR
 replace hq7 : (GoodH g7) ∧ (q6 ≤ q7 ∧ q7 ≤ q6 + 1200) := hq7
 obtain ⟨hg7,hq17⟩ := hq7
 refine ⟨by kernel_rfl,WI.to (⟨[(0,.ptr 998 0),(3,.ptr 998 0),(4,.ptr 998 0),(5,.ptr 998 0),(6,.v (.string v6)),(7,.own 1007 g7.length)],[(998,⟨68,.fix [.sl (.bytes l),.i q7]⟩),(1007,⟨40,.row (.calls g7)⟩)],[1007,7,6,998,999]⟩) 5 (by kernel_rfl) rfl ?_⟩
 refine WI.call [.ptr 998 0,.own 1007 g7.length] [.sl (.bytes l),.i q7] [.own 1007 g7.length] [.sl (.calls g7)] (some (68,998)) (True) ((True ∧ (g7.length = g7.length)) ∧ True) (some 1007) rok43 ent43 hnt rfl rfl (wanted_none rfl) (by kernel_rfl) (by kernel_rfl) (by kernel_rfl) ⟨tt,⟨tt,rfl⟩,tt⟩
  (@cast ((0 ≤ q7 ∧ q7 ≤ 900000) ∧ (GoodH g7)) _ (by kernel_rfl) ⟨(by omega),(by omega)⟩) (Or.inr (by decide)) rfl ?_
 rintro r bl fx2 hR
 obtain ⟨⟨g8,q8⟩,hq8,rfl,rfl,rfl⟩ := (@cast _ (∃ x : (List CallD) × Int,((x.1.length = g7.length) ∧ (q7 ≤ x.2 ∧ x.2 ≤ q7 + 10)) ∧ r = (.own 1 (List.length x.1)) ∧ bl = ([⟨40,.row (.calls x.1)⟩]) ∧ fx2 = ([.sl (.bytes l),.i x.2])) (by kernel_rfl) hR)
 clear hR
 replace hq8 : (g8.length = g7.length) ∧ (q7 ≤ q8 ∧ q8 ≤ q7 + 10) := hq8
 obtain ⟨hg8,hq18⟩ := hq8
 refine ⟨by kernel_rfl,WI.to (⟨[(0,.ptr 998 0),(3,.ptr 998 0),(4,.ptr 998 0),(5,.ptr 998 0),(6,.v (.string v6)),(7,.own 1007 g7.length),(8,.own 1008 g8.length)],[(998,⟨68,.fix [.sl (.bytes l),.i q8]⟩),(1008,⟨40,.row (.calls g8)⟩)],[1008,8,1007,7,6,998,999]⟩) 6 (by kernel_rfl) rfl ?_⟩
 refine WI.runT cok tab26 hnt [] 1 7 (⟨[(0,.ptr 998 0),(2,.own 1008 g8.length),(3,.ptr 998 0),(4,.ptr 998 0),(5,.ptr 998 0),(6,.v (.string v6)),(7,.own 1007 g7.length),(8,.own 1008 g8.length)],[(998,⟨68,.fix [.sl (.bytes l),.i q8]⟩),(1008,⟨40,.row (.calls g8)⟩)],[1008,8,1007,7,6,998,999]⟩)
  (True ∧ True) (by kernel_rfl) rfl
  ⟨tt,tt⟩ ?_
 refine WI.nil rfl (thenQ_normal ?_)
 refine W.keepE [2] [(2,.own 1008 g8.length)] (by kernel_rfl) ?_
 refine W.to (⟨[(2,.own 1008 g8.length)],[(998,⟨68,.fix [.sl (.bytes l),.i q8]⟩),(1008,⟨40,.row (.calls g8)⟩)],[1008,8,1007,7,6,998,999]⟩) rfl ?_
 refine W.ret ?_
 exact endP_ret (g8,q8) (show (g8.length ≤ 6) ∧ (p ≤ q8 ∧ q8 ≤ p + 1300) from ⟨(by have hh := hg7.1; omega),(by first | assumption | omega | rfl | (simp; done) | (simp; omega))⟩) [(1,1008),(0,998)] (.own 1008 g8.length) (by kernel_rfl) (@cast ((((1008 : Nat) = 1008) ∧ (g8.length = g8.length) ∧ ((1 : Nat) ∈ ([0,1] : List Nat))) ∧ ((((68 : Nat) = 68) ∧ ((Sd (.bytes l)) ∧ (Si q8) ∧ True) ∧ ((0 : Nat) ∈ ([0,1] : List Nat))) ∧ (((40 : Nat) = 40) ∧ (Sd (.calls g8)) ∧ ((1 : Nat) ∈ ([0,1] : List Nat))) ∧ True) ∧ (true = true) ∧ ((([] : List Nat) = []) ∧ True) ∧ (true = true → (998 : Nat) = 998)) _ (by kernel_rfl) ⟨⟨rfl,rfl,(by decide)⟩,⟨⟨rfl,⟨rfl,rfl,tt⟩,(by decide)⟩,⟨rfl,rfl,(by decide)⟩,tt⟩,rfl,⟨rfl,tt⟩,(fun _ => rfl)⟩)
theorem ent26 : Entr prog 26 := ⟨_,func26,rfl,by decide⟩
end Go.Proofs.Tryd

set_option linter.unusedSimpArgs false
set_option linter.unusedVariables false
namespace Go.Proofs.Tryd
open Go.Ab Go.RowKit
def pre12 : List AV → List AV → Prop := preP [.bytes] [] (fun (code,_) _ => True)
def rel12 : RelS := relP [.bytes] [] (ι := (List CallD)) (fun (code,_) _ g => (g.length ≤ 6)) (fun (code,_) _ g => (.sl (.calls g),[],[]))
abbrev T12 : Tab := lk []
theorem tab12 : TabOK prog T12 := TabOK.nil
set_option maxRecDepth 100000 in
set_option maxHeartbeats 1000000 in
theorem rok12 : RelOK prog 12 none [.s .bytes] pre12 rel12 := by
 refine RelOK.mk cok func12 rfl rfl rfl ?_
 rintro ⟨(code : List UInt8),_⟩ _ hpre F hnt0
 have hnt : F.nt = 6 := hnt0.trans ntmps12
 clear hpre
 refine W.to (⟨[(0,.sl (.bytes code))],[],[998,999]⟩) rfl ?_
 refine Kk cok tab12 hnt [] [0] (⟨[(0,.sl (.bytes code))],[],[998,999]⟩)
  (True ∧ True)
  ⟨tt,tt⟩ ?_
 refine W.seq (W.wi ?_)
 refine WI.runT cok tab12 hnt [] 1 1 (⟨[(0,.sl (.bytes code)),(3,.sl (.bytes code))],[],[998,999]⟩)
  (True ∧ True) (by kernel_rfl) rfl
  ⟨tt,tt⟩ ?_
 refine WI.call [.sl (.bytes code)] [] [.sl (.bytes code)] [.sl (.bytes code)] none (True) (True ∧ True) none rok27 ent27 hnt rfl rfl (wanted_none rfl) (by kernel_rfl) (by kernel_rfl) (by kernel_rfl) ⟨tt,tt,tt⟩
  (@cast (True) _ (by kernel_rfl) trivial) (Or.inl rfl) rfl ?_
 rintro r bl fx2 hR
 obtain ⟨l4,hq4,rfl,rfl,rfl⟩ := (@cast _ (∃ x : (List UInt8),(True) ∧ r = (.ptr 0 0) ∧ bl = ([⟨68,.fix [.sl (.bytes x),.i (0 : Int)]⟩]) ∧ fx2 = ([])) (by kernel_rfl) hR)
 clear hR
 replace hq4 : True := hq4
 refine ⟨by kernel_rfl,WI.to (⟨[(0,.sl (.bytes code)),(3,.sl (.bytes code)),(4,.ptr 4 0)],[(4,⟨68,.fix [.sl (.bytes l4),.i (0 : Int)]⟩)],[4,998,999]⟩) 2 (by kernel_rfl) rfl ?_⟩
 refine WI.call [.ptr 4 0] [.sl (.bytes l4),.i (0 : Int)] [] [] (some (68,4)) (True) (True) none rok26 ent26 hnt rfl rfl (wanted_none rfl) (by kernel_rfl) (by kernel_rfl) (by kernel_rfl) ⟨tt,tt⟩
  (@cast (0 ≤ (0 : Int) ∧ (0 : Int) ≤ 700000) _ (by kernel_rfl) (by omega)) (Or.inl rfl) rfl ?_
 rintro r bl fx2 hR
 obtain ⟨⟨g5,q5⟩,hq5,rfl,rfl,rfl⟩ := (@cast _ (∃ x : (List CallD) × Int,((x.1.length ≤ 6) ∧ ((0 : Int) ≤ x.2 ∧ x.2 ≤ (0 : Int) + 1300)) ∧ r = (.own 1 (List.length x.1)) ∧ bl = ([⟨40,.row (.calls x.1)⟩]) ∧ fx2 = ([.sl (.bytes l4),.i x.2])) (by kernel_rfl) hR)
 clear hR
 replace hq5 : (g5.length ≤ 6) ∧ ((0 : Int) ≤ q5 ∧ q5 ≤ (0 : Int) + 1300) := hq5
 obtain ⟨hg5,hq15⟩ := hq5
 refine ⟨by kernel_rfl,WI.to (⟨[(0,.sl (.bytes code)),(3,.sl (.bytes code)),(4,.ptr 4 0),(5,.own 1005 g5.length)],[(4,⟨68,.fix [.sl (.bytes l4),.i q5]⟩),(1005,⟨40,.row (.calls g5)⟩)],[1005,5,4,998,999]⟩) 3 (by kernel_rfl) rfl ?_⟩
 refine WI.runT cok tab12 hnt [] 1 4 (⟨[(0,.sl (.bytes code)),(2,.own 1005 g5.length),(3,.sl (.bytes code)),(4,.ptr 4 0),(5,.own 1005 g5.length)],[(4,⟨68,.fix [.sl (.bytes l4),.i q5]⟩),(1005,⟨40,.row (.calls g5)⟩)],[1005,5,4,998,999]⟩)
  (True ∧ True) (by kernel_rfl) rfl
  ⟨tt,tt⟩ ?_
 refine WI.nil rfl (thenQ_normal ?_)
 refine W.keepE [2] [(2,.own 1005 g5.length)] (by kernel_rfl) ?_
 refine W.to (⟨[(2,.own 1005 g5.length)],[(4,⟨68,.fix [.sl (.bytes l4),.i q5]⟩),(1005,⟨40,.row (.calls g5)⟩)],[1005,5,4,998,999]⟩) rfl ?_
 refine W.ret ?_
 exact endP_ret (g5) (show (g5.length ≤ 6) from (by first | assumption | omega | rfl | (simp; done) | (simp; omega))) [] (.own 1005 g5.length) (by kernel_rfl) (@cast (((g5.length = g5.length) ∧ (Sd (.calls g5)) ∧ ((1005 : Nat) ∉ ([] : List Nat))) ∧ True ∧ (true = true) ∧ True ∧ (false = true → (0 : Nat) = 998)) _ (by kernel_rfl) ⟨⟨rfl,rfl,(by decide)⟩,tt,rfl,tt,(fun h => by cases h)⟩)
theorem ent12 : Entr prog 12 := ⟨_,func12,rfl,by decide⟩
end Go.Proofs.Tryd

set_option linter.unusedSimpArgs false
set_option linter.unusedVariables false
namespace Go.Proofs.Tryd
open Go.Ab Go.RowKit
def fs4 : FnS := fnS [.s .bytes] [.bytes] (fun _ (code,_) => (.b true,[],True))
abbrev T4 : Tab := lk [(8,fs8),(10,fs10),(13,fs13),(14,fs14),(15,fs15)]
theorem tab4 : TabOK prog T4 := (TabOK.cons ok8 ent8 (TabOK.cons ok10 ent10 (TabOK.cons ok13 ent13 (TabOK.cons ok14 ent14 (TabOK.cons ok15 ent15 TabOK.nil)))))
set_option maxRecDepth 100000 in
set_option maxHeartbeats 1000000 in
theorem ok4 : FnOK prog 4 fs4 := by
 refine FnOK.mk cok func4 rfl rfl rfl ?_
 rintro fl ⟨(code : List UInt8),_⟩ hpre F hnt0 _
 have hnt : F.nt = 38 := hnt0.trans ntmps4
 clear hpre
 refine W.to (⟨[(0,.sl (.bytes code))],[],[999]⟩) rfl ?_
 refine W.lenOf 0 (.bytes code) (by kernel_rfl) ?_
 intro hl_code; replace hl_code : List.length code ≤ 9223372036854775807 := hl_code
 refine Kk cok tab4 hnt [] [0] (⟨[(0,.sl (.bytes code))],[],[999]⟩)
  (True ∧ True)
  ⟨tt,tt⟩ ?_
 refine W.seq ?_
 refine Kk cok tab4 hnt [] [0,9] (⟨[(0,.sl (.bytes code)),(9,.b (decide ((1048576 : Int) < (code.length : Int))))],[],[999]⟩)
  (True ∧ True ∧ (True ∧ True ∧ True) ∧ True)
  ⟨tt,tt,⟨tt,tt,tt⟩,tt⟩ ?_
 refine W.ifP ((1048576 : Int) < (code.length : Int)) (.b (decide ((1048576 : Int) < (code.length : Int)))) (by kernel_rfl) rfl trivial ?_ ?_
 ·intro h9
  refine Kk cok tab4 hnt [] [2] (⟨[(2,.b true)],[],[999]⟩)
   (True ∧ True)
   ⟨tt,tt⟩ ?_
  refine W.ret (thenQ_ret ?_)
  exact endQ_ret (.b true) (by kernel_rfl) (@cast (Sv (.bool true)) _ (by kernel_rfl) rfl)
 ·intro n9
  refine W.skip (thenQ_normal ?_)
  refine W.seq (W.wi ?_)
  refine WI.runT cok tab4 hnt [] 1 1 (⟨[(0,.sl (.bytes code)),(9,.b (decide ((1048576 : Int) < (code.length : Int)))),(10,.sl (.bytes code))],[],[999]⟩)
   (True ∧ True) (by kernel_rfl) rfl
   ⟨tt,tt⟩ ?_
  refine WI.call [.sl (.bytes code)] [] [.sl (.bytes code)] [.sl (.bytes code)] none (True) (True ∧ True) none rok12 ent12 hnt rfl rfl (wanted_none rfl) (by kernel_rfl) (by kernel_rfl) (by kernel_rfl) ⟨tt,tt,tt⟩
   (@cast (True) _ (by kernel_rfl) trivial) (Or.inl rfl) rfl ?_
  rintro r bl fx2 hR
  obtain ⟨g11,hq11,rfl,rfl,rfl⟩ := (@cast _ (∃ x : (List CallD),((x.length ≤ 6)) ∧ r = (.sl (.calls x)) ∧ bl = ([]) ∧ fx2 = ([])) (by kernel_rfl) hR)
  clear hR
  replace hq11 : (g11.length ≤ 6) := hq11
  have hg11 := hq11
  refine ⟨by kernel_rfl,WI.to (⟨[(0,.sl (.bytes code)),(9,.b (decide ((1048576 : Int) < (code.length : Int)))),(10,.sl (.bytes code)),(11,.sl (.calls g11))],[],[999]⟩) 2 (by kernel_rfl) rfl ?_⟩
  refine WI.runT cok tab4 hnt [] 1 3 (⟨[(0,.sl (.bytes code)),(3,.sl (.calls g11)),(9,.b (decide ((1048576 : Int) < (code.length : Int)))),(10,.sl (.bytes code)),(11,.sl (.calls g11))],[],[999]⟩)
   (True ∧ True) (by kernel_rfl) rfl
   ⟨tt,tt⟩ ?_
  refine WI.nil rfl (thenQ_normal ?_)
  refine W.keepE [3] [(3,.sl (.calls g11))] (by kernel_rfl) ?_
  refine W.to (⟨[(3,.sl (.calls g11))],[],[999]⟩) rfl ?_
  refine Kk cok tab4 hnt [] [3,4] (⟨[(3,.sl (.calls g11)),(4,.v (.string (histB g11)))],[],[999]⟩)
   (True ∧ (True ∧ (True ∧ True) ∧ True) ∧ True ∧ True)
   ⟨tt,⟨tt,⟨tt,tt⟩,tt⟩,tt,tt⟩ ?_
  refine W.seq ?_
  refine Kk cok tab4 hnt [] [3,4,22] (⟨[(3,.sl (.calls g11)),(4,.v (.string (histB g11))),(22,.b ((!(eqS (histB g11) (histB g11))) || (!(validHistory g11))))],[],[999]⟩)
   ((fun (Z1:Bool)=>(True ∧ (True ∧ ((True ∧ ((True ∧ True) ∧ True)) ∧ ((True ∧ (True ∧ True)) ∧ (True ∧ (((!Z1) = true → True) ∧ (((!Z1) = true → (True ∧ (((((!Z1) = true) ∧ True) ∧ True) ∧ True))) ∧ (((!Z1) = true → (((!Z1) = true) ∧ True)) ∧ ((True ∧ ((Z1 = true → True) ∧ (Z1 = false → ((!Z1) = true) ∧ True))) ∧ True)))))))))) (!(eqS (histB g11) (histB g11))))
   ⟨tt,tt,⟨tt,⟨tt,tt⟩,tt⟩,⟨tt,tt,tt⟩,tt,(fun _ => trivial),(fun hG => ⟨tt,⟨⟨hG,tt⟩,tt⟩,tt⟩),(fun hG => ⟨hG,tt⟩),⟨tt,(fun _ => trivial),(fun hp => ⟨(not_t hp),tt⟩)⟩,tt⟩ ?_
  refine W.if' ((!(eqS (histB g11) (histB g11))) || (!(validHistory g11))) (.b ((!(eqS (histB g11) (histB g11))) || (!(validHistory g11)))) (by kernel_rfl) rfl trivial ?_ ?_
  ·intro h22
   refine Kk cok tab4 hnt [] [2] (⟨[(2,.b (eqS (histB g11) (histB g11)))],[],[999]⟩)
    (True ∧ True ∧ (True ∧ (True ∧ True) ∧ True) ∧ (True ∧ True ∧ True) ∧ True ∧ True)
    ⟨tt,tt,⟨tt,⟨tt,tt⟩,tt⟩,⟨tt,tt,tt⟩,tt,tt⟩ ?_
   refine W.ret (thenQ_ret ?_)
   exact endQ_ret (.b (eqS (histB g11) (histB g11))) (by kernel_rfl) (@cast ((.bool (eqS (histB g11) (histB g11)) : Value) = .bool true) _ (by kernel_rfl) (congrArg Value.bool (by simp [eqB_self])))
  ·intro n22
   refine W.skip (thenQ_normal ?_)
   refine Kk cok tab4 hnt [] [3,5,6] (⟨[(3,.sl (.calls g11)),(5,.own 29 (List.length ((parseI (histB g11).data.toList).1))),(6,.b ((parseI (histB g11).data.toList).2))],[(29,⟨40,.row (.calls ((parseI (histB g11).data.toList).1))⟩)],[29,999]⟩)
    (True ∧ (True ∧ (True ∧ True) ∧ ((histB g11).size ≤ 1999999)) ∧ True ∧ True ∧ True ∧ True ∧ True ∧ True)
    ⟨tt,⟨tt,⟨tt,tt⟩,(by have h8 := hist_le g11; omega)⟩,tt,tt,tt,tt,tt,tt⟩ ?_
   refine Kk cok tab4 hnt [] [2] (⟨[(2,.b (((parseI (histB g11).data.toList).2) && (decide (((parseI (histB g11).data.toList).1) = g11))))],[(29,⟨40,.row (.calls ((parseI (histB g11).data.toList).1))⟩)],[29,999]⟩)
    ((fun (Z1:Bool)=>(True ∧ (True ∧ ((Z1 = true → True) ∧ ((Z1 = true → True) ∧ ((Z1 = true → (True ∧ (((((Z1 = true) ∧ True) ∧ ((List.length ((parseI (histB g11).data.toList).1)) = (List.length ((parseI (histB g11).data.toList).1)))) ∧ (((Z1 = true) ∧ True) ∧ True)) ∧ True))) ∧ ((True ∧ ((Z1 = true → (Z1 = true) ∧ True) ∧ (Z1 = false → True))) ∧ (True ∧ True)))))))) ((parseI (histB g11).data.toList).2))
    ⟨tt,tt,(fun _ => trivial),(fun _ => trivial),(fun hG => ⟨tt,⟨⟨⟨hG,tt⟩,rfl⟩,⟨hG,tt⟩,tt⟩,tt⟩),⟨tt,(fun hp => ⟨hp,tt⟩),(fun _ => trivial)⟩,tt,tt⟩ ?_
   refine W.ret ?_
   exact endQ_ret (.b (((parseI (histB g11).data.toList).2) && (decide (((parseI (histB g11).data.toList).1) = g11)))) (by kernel_rfl) (@cast ((.bool (((parseI (histB g11).data.toList).2) && (decide (((parseI (histB g11).data.toList).1) = g11))) : Value) = .bool true) _ (by kernel_rfl) (congrArg Value.bool (by rw [hist_law (by simpa [eqB_self] using n22)]; simp)))
end Go.Proofs.Tryd
