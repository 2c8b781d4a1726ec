import Derived.Test.YtbeabmgjecndnaaPF3S0
import Derived.Test.YtbeabmgjecndnaaPF3S11
import Derived.Test.YtbeabmgjecndnaaPF3S9
import Derived.Test.YtbeabmgjecndnaaPF3S8
set_option linter.unusedSimpArgs false
set_option linter.unusedVariables false
namespace Go.Proofs.Try
open Go.Ab Go.RowKit
def pre25 : List AV → List AV → Prop := preP [.str] [.bytes,.int] (fun (name,_) (l,p,_) => (0 ≤ p ∧ p ≤ 800000))
def rel25 : RelS := relP [.str] [.bytes,.int] (ι := (List CallD) × Int) (fun (name,_) (l,p,_) (g,q) => (GoodH g) ∧ (p ≤ q ∧ q ≤ p + 1200)) (fun (name,_) (l,p,_) (g,q) => (.own 1 g.length,[⟨35,.row (.calls g)⟩],[.sl (.bytes l),.i q]))
abbrev T25 : Tab := lk []
theorem tab25 : TabOK prog T25 := TabOK.nil
set_option maxRecDepth 100000 in
set_option maxHeartbeats 1000000 in
theorem rok25 : RelOK prog 25 (some 44) [.o] pre25 rel25 := by
 refine RelOK.mk cok func25 rfl rfl rfl ?_
 rintro ⟨(name : ByteArray),_⟩ ⟨(l : List UInt8),(p : Int),_⟩ hpre F hnt0
 have hnt : F.nt = 10 := hnt0.trans ntmps25
 replace hpre : (0 ≤ p ∧ p ≤ 800000) := hpre
 have hp := hpre
 refine W.to (⟨[(0,.ptr 998 0),(1,.v (.string name))],[(998,⟨44,.fix [.sl (.bytes l),.i p]⟩)],[998,999]⟩) rfl ?_
 refine Kk cok tab25 hnt [] [0,1] (⟨[(0,.ptr 998 0),(1,.v (.string name))],[(998,⟨44,.fix [.sl (.bytes l),.i p]⟩)],[998,999]⟩)
  (True ∧ True)
  ⟨tt,tt⟩ ?_
 refine W.seq (W.wi ?_)
 refine WI.runT cok tab25 hnt [] 3 3 (⟨[(0,.ptr 998 0),(1,.v (.string name)),(5,.ptr 998 0),(6,.ptr 998 0),(7,.v (.string name))],[(998,⟨44,.fix [.sl (.bytes l),.i p]⟩)],[998,999]⟩)
  (True ∧ True ∧ True ∧ True) (by kernel_rfl) rfl
  ⟨tt,tt,tt,tt⟩ ?_
 refine WI.call [.ptr 998 0,.v (.string name),.i (6 : Int)] [.sl (.bytes l),.i p] [.v (.string name),.i (6 : Int)] [.v (.string name),.i (6 : Int)] (some (44,998)) (True) (True ∧ (True ∧ True)) none rok36 ent36 hnt rfl rfl (wanted_none rfl) (by kernel_rfl) (by kernel_rfl) (by kernel_rfl) ⟨tt,tt,tt,tt⟩
  (@cast ((0 ≤ p ∧ p ≤ 900000) ∧ ((6 : Int) = 6)) _ (by kernel_rfl) ⟨(by omega),(by omega)⟩) (Or.inl rfl) rfl ?_
 rintro r bl fx2 hR
 obtain ⟨⟨g8,q8⟩,hq8,rfl,rfl,rfl⟩ := (@cast _ (∃ x : (List CallD) × Int,((GoodH x.1) ∧ (p ≤ x.2 ∧ x.2 ≤ p + 100)) ∧ r = (.own 1 (List.length x.1)) ∧ bl = ([⟨35,.row (.calls x.1)⟩]) ∧ fx2 = ([.sl (.bytes l),.i x.2])) (by kernel_rfl) hR)
 clear hR
 replace hq8 : (GoodH g8) ∧ (p ≤ q8 ∧ q8 ≤ p + 100) := hq8
 obtain ⟨hg8,hq18⟩ := hq8
 refine ⟨by kernel_rfl,WI.to (⟨[(0,.ptr 998 0),(1,.v (.string name)),(5,.ptr 998 0),(6,.ptr 998 0),(7,.v (.string name)),(8,.own 1008 g8.length)],[(998,⟨44,.fix [.sl (.bytes l),.i q8]⟩),(1008,⟨35,.row (.calls g8)⟩)],[1008,8,998,999]⟩) 4 (by kernel_rfl) rfl ?_⟩
 refine WI.call [.ptr 998 0,.own 1008 g8.length] [.sl (.bytes l),.i q8] [.own 1008 g8.length] [.sl (.calls g8)] (some (44,998)) (True) ((True ∧ (g8.length = g8.length)) ∧ True) (some 1008) rok23 ent23 hnt rfl rfl (wanted_none rfl) (by kernel_rfl) (by kernel_rfl) (by kernel_rfl) ⟨tt,⟨tt,rfl⟩,tt⟩
  (@cast ((0 ≤ q8 ∧ q8 ≤ 900000) ∧ (GoodH g8)) _ (by kernel_rfl) ⟨(by omega),(by omega)⟩) (Or.inr (by decide)) rfl ?_
 rintro r bl fx2 hR
 obtain ⟨⟨g9,q9⟩,hq9,rfl,rfl,rfl⟩ := (@cast _ (∃ x : (List CallD) × Int,((GoodH x.1) ∧ (q8 ≤ x.2 ∧ x.2 ≤ q8 + 1000)) ∧ r = (.own 1 (List.length x.1)) ∧ bl = ([⟨35,.row (.calls x.1)⟩]) ∧ fx2 = ([.sl (.bytes l),.i x.2])) (by kernel_rfl) hR)
 clear hR
 replace hq9 : (GoodH g9) ∧ (q8 ≤ q9 ∧ q9 ≤ q8 + 1000) := hq9
 obtain ⟨hg9,hq19⟩ := hq9
 refine ⟨by kernel_rfl,WI.to (⟨[(0,.ptr 998 0),(1,.v (.string name)),(5,.ptr 998 0),(6,.ptr 998 0),(7,.v (.string name)),(8,.own 1008 g8.length),(9,.own 1009 g9.length)],[(998,⟨44,.fix [.sl (.bytes l),.i q9]⟩),(1009,⟨35,.row (.calls g9)⟩)],[1009,9,1008,8,998,999]⟩) 5 (by kernel_rfl) rfl ?_⟩
 refine WI.runT cok tab25 hnt [] 1 6 (⟨[(0,.ptr 998 0),(1,.v (.string name)),(4,.own 1009 g9.length),(5,.ptr 998 0),(6,.ptr 998 0),(7,.v (.string name)),(8,.own 1008 g8.length),(9,.own 1009 g9.length)],[(998,⟨44,.fix [.sl (.bytes l),.i q9]⟩),(1009,⟨35,.row (.calls g9)⟩)],[1009,9,1008,8,998,999]⟩)
  (True ∧ True) (by kernel_rfl) rfl
  ⟨tt,tt⟩ ?_
 refine WI.nil rfl (thenQ_normal ?_)
 refine W.keepE [4] [(4,.own 1009 g9.length)] (by kernel_rfl) ?_
 refine W.to (⟨[(4,.own 1009 g9.length)],[(998,⟨44,.fix [.sl (.bytes l),.i q9]⟩),(1009,⟨35,.row (.calls g9)⟩)],[1009,9,1008,8,998,999]⟩) rfl ?_
 refine W.ret ?_
 exact endP_ret (g9,q9) (show (GoodH g9) ∧ (p ≤ q9 ∧ q9 ≤ p + 1200) from ⟨(by first | assumption | omega | rfl | (simp; done) | (simp; omega)),(by first | assumption | omega | rfl | (simp; done) | (simp; omega))⟩) [(1,1009),(0,998)] (.own 1009 g9.length) (by kernel_rfl) (@cast ((((1009 : Nat) = 1009) ∧ (g9.length = g9.length) ∧ ((1 : Nat) ∈ ([0,1] : List Nat))) ∧ ((((44 : Nat) = 44) ∧ ((Sd (.bytes l)) ∧ (Si q9) ∧ True) ∧ ((0 : Nat) ∈ ([0,1] : List Nat))) ∧ (((35 : Nat) = 35) ∧ (Sd (.calls g9)) ∧ ((1 : Nat) ∈ ([0,1] : List Nat))) ∧ True) ∧ (true = true) ∧ ((([] : List Nat) = []) ∧ True) ∧ (true = true → (998 : Nat) = 998)) _ (by kernel_rfl) ⟨⟨rfl,rfl,(by decide)⟩,⟨⟨rfl,⟨rfl,rfl,tt⟩,(by decide)⟩,⟨rfl,rfl,(by decide)⟩,tt⟩,rfl,⟨rfl,tt⟩,(fun _ => rfl)⟩)
theorem ent25 : Entr prog 25 := ⟨_,func25,rfl,by decide⟩
end Go.Proofs.Try

set_option linter.unusedSimpArgs false
set_option linter.unusedVariables false
namespace Go.Proofs.Try
open Go.Ab Go.RowKit
def pre24 : List AV → List AV → Prop := preP [.calls] [.bytes,.int] (fun (h,_) (l,p,_) => (0 ≤ p ∧ p ≤ 900000) ∧ (GoodH h))
def rel24 : RelS := relP [.calls] [.bytes,.int] (ι := (List CallD) × Int) (fun (h,_) (l,p,_) (g,q) => (g.length = h.length) ∧ (p ≤ q ∧ q ≤ p + 10)) (fun (h,_) (l,p,_) (g,q) => (.own 1 g.length,[⟨35,.row (.calls g)⟩],[.sl (.bytes l),.i q]))
abbrev T24 : Tab := lk []
theorem tab24 : TabOK prog T24 := TabOK.nil
set_option maxRecDepth 100000 in
set_option maxHeartbeats 1000000 in
theorem rok24 : RelOK prog 24 (some 44) [.c .calls 35] pre24 rel24 := by
 refine RelOK.mk cok func24 rfl rfl rfl ?_
 rintro ⟨(h : List CallD),_⟩ ⟨(l : List UInt8),(p : Int),_⟩ hpre F hnt0
 have hnt : F.nt = 79 := hnt0.trans ntmps24
 replace hpre : (0 ≤ p ∧ p ≤ 900000) ∧ (GoodH h) := hpre
 obtain ⟨hp,hG⟩ := hpre
 refine W.to (⟨[(0,.ptr 998 0),(1,.own 999 h.length)],[(998,⟨44,.fix [.sl (.bytes l),.i p]⟩),(999,⟨35,.row (.calls h)⟩)],[998,999]⟩) rfl ?_
 have hl6 := hG.1
 refine Kk cok tab24 hnt [] [0,1] (⟨[(0,.ptr 998 0),(1,.own 999 h.length)],[(998,⟨44,.fix [.sl (.bytes l),.i p]⟩),(999,⟨35,.row (.calls h)⟩)],[998,999]⟩)
  (True ∧ True)
  ⟨tt,tt⟩ ?_
 refine W.seq ?_
 refine W.seq (W.wi ?_)
 refine WI.runT cok tab24 hnt [] 5 5 ((fun (Z1:Bool)=>(⟨[(0,.ptr 998 0),(1,.own 999 h.length),(6,.own 999 h.length),(7,.i (h.length : Int)),(8,.b Z1),(9,.b Z1),(10,.g (!Z1) (.ptr 998 0))],[(998,⟨44,.fix [.sl (.bytes l),.i p]⟩),(999,⟨35,.row (.calls h)⟩)],[998,999]⟩:St)) (decide ((h.length : Int) = (0 : Int))))
  (True ∧ True ∧ (True ∧ True ∧ True) ∧ True ∧ ((!(decide ((h.length : Int) = (0 : Int)))) = true → True) ∧ True) (by kernel_rfl) rfl
  ⟨tt,tt,⟨tt,tt,tt⟩,tt,(fun _ => trivial),tt⟩ ?_
 rcases Bool.eq_false_or_eq_true (decide ((h.length : Int) = (0 : Int))) with hT11 | hT11
 ·skip
  have hT11_0 : (h.length : Int) = (0 : Int) := of_decide_eq_true hT11
  refine WI.to (⟨[(0,.ptr 998 0),(1,.own 999 h.length),(6,.own 999 h.length),(7,.i (h.length : Int)),(8,.b true),(9,.b true),(10,.g false (.ptr 998 0))],[(998,⟨44,.fix [.sl (.bytes l),.i p]⟩),(999,⟨35,.row (.calls h)⟩)],[998,999]⟩) 5 (congrArg (fun z => (⟨[(0,.ptr 998 0),(1,.own 999 h.length),(6,.own 999 h.length),(7,.i (h.length : Int)),(8,.b z),(9,.b z),(10,.g (!z) (.ptr 998 0))],[(998,⟨44,.fix [.sl (.bytes l),.i p]⟩),(999,⟨35,.row (.calls h)⟩)],[998,999]⟩ : St)) hT11) rfl ?_
  refine WI.pass rfl hnt (wanted_if (t := 9) (gx := .b true) rfl rfl (by kernel_rfl) (by kernel_rfl)) rfl ?_
  refine WI.to (⟨[(0,.ptr 998 0),(1,.own 999 h.length),(6,.own 999 h.length),(7,.i (h.length : Int)),(8,.b true),(9,.b true),(10,.g false (.ptr 998 0)),(11,.any)],[(998,⟨44,.fix [.sl (.bytes l),.i p]⟩),(999,⟨35,.row (.calls h)⟩)],[998,999]⟩) 6 (by kernel_rfl) rfl ?_
  refine WI.pass rfl hnt (wanted_if (t := 9) (gx := .b true) rfl rfl (by kernel_rfl) (by kernel_rfl)) rfl ?_
  refine WI.to (⟨[(0,.ptr 998 0),(1,.own 999 h.length),(6,.own 999 h.length),(7,.i (h.length : Int)),(8,.b true),(9,.b true),(10,.g false (.ptr 998 0)),(11,.any),(12,.any)],[(998,⟨44,.fix [.sl (.bytes l),.i p]⟩),(999,⟨35,.row (.calls h)⟩)],[998,999]⟩) 7 (by kernel_rfl) rfl ?_
  refine WI.pickL true (.b true) (.b true) rfl hnt (wanted_none rfl) rfl (by kernel_rfl) rfl trivial (by kernel_rfl) trivial rfl ?_
  refine WI.to (⟨[(0,.ptr 998 0),(1,.own 999 h.length),(6,.own 999 h.length),(7,.i (h.length : Int)),(8,.b true),(9,.b true),(10,.g false (.ptr 998 0)),(11,.any),(12,.any),(13,.b true)],[(998,⟨44,.fix [.sl (.bytes l),.i p]⟩),(999,⟨35,.row (.calls h)⟩)],[998,999]⟩) 8 (by kernel_rfl) rfl ?_
  refine WI.nil rfl (thenQ_normal ?_)
  refine W.keepE [0,1,13] [(0,.ptr 998 0),(1,.own 999 h.length),(13,.b true)] (by kernel_rfl) ?_
  refine W.to (⟨[(0,.ptr 998 0),(1,.own 999 h.length),(13,.b true)],[(998,⟨44,.fix [.sl (.bytes l),.i p]⟩),(999,⟨35,.row (.calls h)⟩)],[998,999]⟩) rfl ?_
  refine W.ifT (.b true) (by kernel_rfl) rfl trivial ?_
  refine Kk cok tab24 hnt [] [4] (⟨[(4,.own 999 h.length)],[(998,⟨44,.fix [.sl (.bytes l),.i p]⟩),(999,⟨35,.row (.calls h)⟩)],[998,999]⟩)
   (True ∧ True ∧ True)
   ⟨tt,tt,tt⟩ ?_
  refine W.ret (thenQ_ret ?_)
  exact endP_ret (h,p) (show (h.length = h.length) ∧ (p ≤ p ∧ p ≤ p + 10) from ⟨(by first | rfl | simp),(by first | assumption | omega | rfl | (simp; done) | (simp; omega))⟩) [(1,999),(0,998)] (.own 999 h.length) (by kernel_rfl) (@cast ((((999 : Nat) = 999) ∧ (h.length = h.length) ∧ ((1 : Nat) ∈ ([0,1] : List Nat))) ∧ ((((44 : Nat) = 44) ∧ ((Sd (.bytes l)) ∧ (Si p) ∧ True) ∧ ((0 : Nat) ∈ ([0,1] : List Nat))) ∧ (((35 : Nat) = 35) ∧ (Sd (.calls h)) ∧ ((1 : Nat) ∈ ([0,1] : List Nat))) ∧ True) ∧ (true = true) ∧ ((([] : List Nat) = []) ∧ True) ∧ (true = true → (998 : Nat) = 998)) _ (by kernel_rfl) ⟨⟨rfl,rfl,(by decide)⟩,⟨⟨rfl,⟨rfl,rfl,tt⟩,(by decide)⟩,⟨rfl,rfl,(by decide)⟩,tt⟩,rfl,⟨rfl,tt⟩,(fun _ => rfl)⟩)
 ·skip
  have hT11_0 : ¬ ((h.length : Int) = (0 : Int)) := of_decide_eq_false hT11
  refine WI.to (⟨[(0,.ptr 998 0),(1,.own 999 h.length),(6,.own 999 h.length),(7,.i (h.length : Int)),(8,.b false),(9,.b false),(10,.g true (.ptr 998 0))],[(998,⟨44,.fix [.sl (.bytes l),.i p]⟩),(999,⟨35,.row (.calls h)⟩)],[998,999]⟩) 5 (congrArg (fun z => (⟨[(0,.ptr 998 0),(1,.own 999 h.length),(6,.own 999 h.length),(7,.i (h.length : Int)),(8,.b z),(9,.b z),(10,.g (!z) (.ptr 998 0))],[(998,⟨44,.fix [.sl (.bytes l),.i p]⟩),(999,⟨35,.row (.calls h)⟩)],[998,999]⟩ : St)) hT11) rfl ?_
  refine WI.call [.g true (.ptr 998 0),.i (12 : Int)] [.sl (.bytes l),.i p] [.i (12 : Int)] [.i (12 : Int)] (some (44,998)) ((true = true) ∧ True) (True ∧ True) none rok21 ent21 hnt rfl rfl (wanted_if (t := 9) (gx := .b false) rfl rfl (by kernel_rfl) (by kernel_rfl)) (by kernel_rfl) (by kernel_rfl) (by kernel_rfl) ⟨⟨rfl,tt⟩,tt,tt⟩
   (@cast (0 ≤ p ∧ p ≤ 1000000) _ (by kernel_rfl) (by omega)) (Or.inl rfl) rfl ?_
  rintro r bl fx2 hR
  obtain ⟨⟨v11,q11⟩,hq11,rfl,rfl,rfl⟩ := (@cast _ (∃ x : Int × Int,((0 ≤ x.1 ∧ x.1 < max (12 : Int) 1) ∧ (x.2 = p + 1)) ∧ r = (.i x.1) ∧ bl = ([]) ∧ fx2 = ([.sl (.bytes l),.i x.2])) (by kernel_rfl) hR)
  clear hR
  replace hq11 : (0 ≤ v11 ∧ v11 < max (12 : Int) 1) ∧ (q11 = p + 1) := hq11
  obtain ⟨hv11,hq111⟩ := hq11
  refine ⟨by kernel_rfl,WI.to (⟨[(0,.ptr 998 0),(1,.own 999 h.length),(6,.own 999 h.length),(7,.i (h.length : Int)),(8,.b false),(9,.b false),(10,.g true (.ptr 998 0)),(11,.i v11)],[(998,⟨44,.fix [.sl (.bytes l),.i q11]⟩),(999,⟨35,.row (.calls h)⟩)],[11,998,999]⟩) 6 (by kernel_rfl) rfl ?_⟩
  refine WI.runT cok tab24 hnt [] 1 7 (⟨[(0,.ptr 998 0),(1,.own 999 h.length),(6,.own 999 h.length),(7,.i (h.length : Int)),(8,.b false),(9,.b false),(10,.g true (.ptr 998 0)),(11,.i v11),(12,.g true (.b (decide ((0 : Int) < v11))))],[(998,⟨44,.fix [.sl (.bytes l),.i q11]⟩),(999,⟨35,.row (.calls h)⟩)],[11,998,999]⟩)
   ((true = true → (True ∧ (True ∧ True))) ∧ True) (by kernel_rfl) rfl
   ⟨(fun _ => ⟨tt,tt,tt⟩),tt⟩ ?_
  refine WI.pickL false (.b false) (.g true (.b (decide ((0 : Int) < v11)))) rfl hnt (wanted_none rfl) rfl (by kernel_rfl) rfl trivial (by kernel_rfl) ⟨rfl,tt⟩ rfl ?_
  refine WI.to (⟨[(0,.ptr 998 0),(1,.own 999 h.length),(6,.own 999 h.length),(7,.i (h.length : Int)),(8,.b false),(9,.b false),(10,.g true (.ptr 998 0)),(11,.i v11),(12,.g true (.b (decide ((0 : Int) < v11)))),(13,.b (decide ((0 : Int) < v11)))],[(998,⟨44,.fix [.sl (.bytes l),.i q11]⟩),(999,⟨35,.row (.calls h)⟩)],[11,998,999]⟩) 8 (by kernel_rfl) rfl ?_
  refine WI.nil rfl (thenQ_normal ?_)
  refine W.keepE [0,1,13] [(0,.ptr 998 0),(1,.own 999 h.length),(13,.b (decide ((0 : Int) < v11)))] (by kernel_rfl) ?_
  refine W.to (⟨[(0,.ptr 998 0),(1,.own 999 h.length),(13,.b (decide ((0 : Int) < v11)))],[(998,⟨44,.fix [.sl (.bytes l),.i q11]⟩),(999,⟨35,.row (.calls h)⟩)],[11,998,999]⟩) rfl ?_
  refine W.ifP ((0 : Int) < v11) (.b (decide ((0 : Int) < v11))) (by kernel_rfl) rfl trivial ?_ ?_
  ·intro h13
   refine Kk cok tab24 hnt [] [4] (⟨[(4,.own 999 h.length)],[(998,⟨44,.fix [.sl (.bytes l),.i q11]⟩),(999,⟨35,.row (.calls h)⟩)],[11,998,999]⟩)
    (True ∧ True ∧ True)
    ⟨tt,tt,tt⟩ ?_
   refine W.ret (thenQ_ret ?_)
   exact endP_ret (h,q11) (show (h.length = h.length) ∧ (p ≤ q11 ∧ q11 ≤ p + 10) from ⟨(by first | rfl | simp),(by first | assumption | omega | rfl | (simp; done) | (simp; omega))⟩) [(1,999),(0,998)] (.own 999 h.length) (by kernel_rfl) (@cast ((((999 : Nat) = 999) ∧ (h.length = h.length) ∧ ((1 : Nat) ∈ ([0,1] : List Nat))) ∧ ((((44 : Nat) = 44) ∧ ((Sd (.bytes l)) ∧ (Si q11) ∧ True) ∧ ((0 : Nat) ∈ ([0,1] : List Nat))) ∧ (((35 : Nat) = 35) ∧ (Sd (.calls h)) ∧ ((1 : Nat) ∈ ([0,1] : List Nat))) ∧ True) ∧ (true = true) ∧ ((([] : List Nat) = []) ∧ True) ∧ (true = true → (998 : Nat) = 998)) _ (by kernel_rfl) ⟨⟨rfl,rfl,(by decide)⟩,⟨⟨rfl,⟨rfl,rfl,tt⟩,(by decide)⟩,⟨rfl,rfl,(by decide)⟩,tt⟩,rfl,⟨rfl,tt⟩,(fun _ => rfl)⟩)
  ·intro n13
   refine W.skip (thenQ_normal ?_)
   refine W.seq (W.wi ?_)
   refine WI.runT cok tab24 hnt [] 3 3 (⟨[(0,.ptr 998 0),(1,.own 999 h.length),(13,.b (decide ((0 : Int) < v11))),(15,.ptr 998 0),(16,.own 999 h.length),(17,.i (h.length : Int))],[(998,⟨44,.fix [.sl (.bytes l),.i q11]⟩),(999,⟨35,.row (.calls h)⟩)],[11,998,999]⟩)
    (True ∧ True ∧ True ∧ True) (by kernel_rfl) rfl
    ⟨tt,tt,tt,tt⟩ ?_
   refine WI.call [.ptr 998 0,.i (h.length : Int)] [.sl (.bytes l),.i q11] [.i (h.length : Int)] [.i (h.length : Int)] (some (44,998)) (True) (True ∧ True) none rok21 ent21 hnt rfl rfl (wanted_none rfl) (by kernel_rfl) (by kernel_rfl) (by kernel_rfl) ⟨tt,tt,tt⟩
    (@cast (0 ≤ q11 ∧ q11 ≤ 1000000) _ (by kernel_rfl) (by omega)) (Or.inl rfl) rfl ?_
   rintro r bl fx2 hR
   obtain ⟨⟨v18,q18⟩,hq18,rfl,rfl,rfl⟩ := (@cast _ (∃ x : Int × Int,((0 ≤ x.1 ∧ x.1 < max (h.length : Int) 1) ∧ (x.2 = q11 + 1)) ∧ r = (.i x.1) ∧ bl = ([]) ∧ fx2 = ([.sl (.bytes l),.i x.2])) (by kernel_rfl) hR)
   clear hR
   replace hq18 : (0 ≤ v18 ∧ v18 < max (h.length : Int) 1) ∧ (q18 = q11 + 1) := hq18
   obtain ⟨hv18,hq118⟩ := hq18
   refine ⟨by kernel_rfl,WI.to (⟨[(0,.ptr 998 0),(1,.own 999 h.length),(13,.b (decide ((0 : Int) < v11))),(15,.ptr 998 0),(16,.own 999 h.length),(17,.i (h.length : Int)),(18,.i v18)],[(998,⟨44,.fix [.sl (.bytes l),.i q18]⟩),(999,⟨35,.row (.calls h)⟩)],[18,11,998,999]⟩) 4 (by kernel_rfl) rfl ?_⟩
   refine WI.runT cok tab24 hnt [] 1 5 (⟨[(0,.ptr 998 0),(1,.own 999 h.length),(5,.i v18),(13,.b (decide ((0 : Int) < v11))),(15,.ptr 998 0),(16,.own 999 h.length),(17,.i (h.length : Int)),(18,.i v18)],[(998,⟨44,.fix [.sl (.bytes l),.i q18]⟩),(999,⟨35,.row (.calls h)⟩)],[18,11,998,999]⟩)
    (True ∧ True) (by kernel_rfl) rfl
    ⟨tt,tt⟩ ?_
   refine WI.nil rfl (thenQ_normal ?_)
   refine W.keepE [0,1,5] [(0,.ptr 998 0),(1,.own 999 h.length),(5,.i v18)] (by kernel_rfl) ?_
   refine W.to (⟨[(0,.ptr 998 0),(1,.own 999 h.length),(5,.i v18)],[(998,⟨44,.fix [.sl (.bytes l),.i q18]⟩),(999,⟨35,.row (.calls h)⟩)],[18,11,998,999]⟩) rfl ?_
   refine W.seq ?_
   refine W.seq (W.wi ?_)
   refine WI.runT cok tab24 hnt [] 1 1 (⟨[(0,.ptr 998 0),(1,.own 999 h.length),(5,.i v18),(19,.ptr 998 0)],[(998,⟨44,.fix [.sl (.bytes l),.i q18]⟩),(999,⟨35,.row (.calls h)⟩)],[18,11,998,999]⟩)
    (True ∧ True) (by kernel_rfl) rfl
    ⟨tt,tt⟩ ?_
   refine WI.call [.ptr 998 0,.i (6 : Int)] [.sl (.bytes l),.i q18] [.i (6 : Int)] [.i (6 : Int)] (some (44,998)) (True) (True ∧ True) none rok21 ent21 hnt rfl rfl (wanted_none rfl) (by kernel_rfl) (by kernel_rfl) (by kernel_rfl) ⟨tt,tt,tt⟩
    (@cast (0 ≤ q18 ∧ q18 ≤ 1000000) _ (by kernel_rfl) (by omega)) (Or.inl rfl) rfl ?_
   rintro r bl fx2 hR
   obtain ⟨⟨v20,q20⟩,hq20,rfl,rfl,rfl⟩ := (@cast _ (∃ x : Int × Int,((0 ≤ x.1 ∧ x.1 < max (6 : Int) 1) ∧ (x.2 = q18 + 1)) ∧ r = (.i x.1) ∧ bl = ([]) ∧ fx2 = ([.sl (.bytes l),.i x.2])) (by kernel_rfl) hR)
   clear hR
   replace hq20 : (0 ≤ v20 ∧ v20 < max (6 : Int) 1) ∧ (q20 = q18 + 1) := hq20
   obtain ⟨hv20,hq120⟩ := hq20
   refine ⟨by kernel_rfl,WI.to (⟨[(0,.ptr 998 0),(1,.own 999 h.length),(5,.i v18),(19,.ptr 998 0),(20,.i v20)],[(998,⟨44,.fix [.sl (.bytes l),.i q20]⟩),(999,⟨35,.row (.calls h)⟩)],[20,18,11,998,999]⟩) 2 (by kernel_rfl) rfl ?_⟩
   refine WI.nil rfl (thenQ_normal ?_)
   refine W.keepE [0,1,5,20] [(0,.ptr 998 0),(1,.own 999 h.length),(5,.i v18),(20,.i v20)] (by kernel_rfl) ?_
   refine W.to (⟨[(0,.ptr 998 0),(1,.own 999 h.length),(5,.i v18),(20,.i v20)],[(998,⟨44,.fix [.sl (.bytes l),.i q20]⟩),(999,⟨35,.row (.calls h)⟩)],[20,18,11,998,999]⟩) rfl ?_
   refine W.block ?_
   refine Kk cok tab24 hnt [] [0,1,5,20,28] (⟨[(0,.ptr 998 0),(1,.own 999 h.length),(5,.i v18),(20,.i v20),(28,.b (decide (v20 = (0 : Int))))],[(998,⟨44,.fix [.sl (.bytes l),.i q20]⟩),(999,⟨35,.row (.calls h)⟩)],[20,18,11,998,999]⟩)
    ((True ∧ True ∧ True) ∧ True ∧ True)
    ⟨⟨tt,tt,tt⟩,tt,tt⟩ ?_
   refine W.ifP (v20 = (0 : Int)) (.b (decide (v20 = (0 : Int)))) (by kernel_rfl) rfl trivial ?_ ?_
   ·intro h28
    refine W.wi ?_
    refine WI.runT cok tab24 hnt [] 4 4 (⟨[(0,.ptr 998 0),(1,.own 999 h.length),(5,.i v18),(20,.i v20),(28,.b (decide (v20 = (0 : Int)))),(30,.own 999 h.length),(31,.i v18),(32,.ptr 998 0),(33,.sl (.ints ([(3 : Int),(-1 : Int),(0 : Int)])))],[(998,⟨44,.fix [.sl (.bytes l),.i q20]⟩),(999,⟨35,.row (.calls h)⟩)],[33,20,18,11,998,999]⟩)
     (True ∧ True ∧ True ∧ (True ∧ True ∧ True ∧ True) ∧ True) (by kernel_rfl) rfl
     ⟨tt,tt,tt,⟨tt,tt,tt,tt⟩,tt⟩ ?_
    refine WI.call [.ptr 998 0,.sl (.ints ([(3 : Int),(-1 : Int),(0 : Int)]))] [.sl (.bytes l),.i q20] [.sl (.ints ([(3 : Int),(-1 : Int),(0 : Int)]))] [.sl (.ints ([(3 : Int),(-1 : Int),(0 : Int)]))] (some (44,998)) (True) (True ∧ True) none rok22 ent22 hnt rfl rfl (wanted_none rfl) (by kernel_rfl) (by kernel_rfl) (by kernel_rfl) ⟨tt,tt,tt⟩
     (@cast ((0 ≤ q20 ∧ q20 ≤ 1000000) ∧ (0 < ([(3 : Int),(-1 : Int),(0 : Int)]).length) ∧ (([(3 : Int),(-1 : Int),(0 : Int)]).length ≤ 1000)) _ (by kernel_rfl) ⟨(by omega),⟨(by (first | omega | (simp only [List.length_set]; done) | (simp only [List.length_append,List.length_cons,List.length_nil,List.length_take,List.length_drop,List.length_set,List.length_replicate,List.length_map] at *; omega) | assumption)),(by (first | omega | (simp only [List.length_set]; done) | (simp only [List.length_append,List.length_cons,List.length_nil,List.length_take,List.length_drop,List.length_set,List.length_replicate,List.length_map] at *; omega) | assumption))⟩⟩) (Or.inl rfl) rfl ?_
    rintro r bl fx2 hR
    obtain ⟨⟨v34,q34⟩,hq34,rfl,rfl,rfl⟩ := (@cast _ (∃ x : Int × Int,((x.1 ∈ ([(3 : Int),(-1 : Int),(0 : Int)])) ∧ (x.2 = q20 + 1)) ∧ r = (.i x.1) ∧ bl = ([]) ∧ fx2 = ([.sl (.bytes l),.i x.2])) (by kernel_rfl) hR)
    clear hR
    replace hq34 : (v34 ∈ ([(3 : Int),(-1 : Int),(0 : Int)])) ∧ (q34 = q20 + 1) := hq34
    obtain ⟨hv34,hq134⟩ := hq34
    simp only [List.mem_cons,List.not_mem_nil,or_false] at hv34
    refine ⟨by kernel_rfl,WI.to (⟨[(0,.ptr 998 0),(1,.own 999 h.length),(5,.i v18),(20,.i v20),(28,.b (decide (v20 = (0 : Int)))),(30,.own 999 h.length),(31,.i v18),(32,.ptr 998 0),(33,.sl (.ints ([(3 : Int),(-1 : Int),(0 : Int)]))),(34,.i v34)],[(998,⟨44,.fix [.sl (.bytes l),.i q34]⟩),(999,⟨35,.row (.calls h)⟩)],[34,33,20,18,11,998,999]⟩) 5 (by kernel_rfl) rfl ?_⟩
    refine WI.runT cok tab24 hnt [] 3 8 (⟨[(0,.ptr 998 0),(1,.own 999 h.length),(5,.i v18),(20,.i v20),(28,.b (decide (v20 = (0 : Int)))),(30,.own 999 h.length),(31,.i v18),(32,.ptr 998 0),(33,.sl (.ints ([(3 : Int),(-1 : Int),(0 : Int)]))),(34,.i v34),(35,.pel 999 7 (Int.toNat v18) 0),(36,.pel 999 7 (Int.toNat v18) 0)],[(998,⟨44,.fix [.sl (.bytes l),.i q34]⟩),(999,⟨35,.row (.calls (List.set h (Int.toNat v18) ({ h.getD (Int.toNat v18) default with proc := v34 })))⟩)],[34,33,20,18,11,998,999]⟩)
     ((True ∧ True ∧ (0 ≤ v18) ∧ (v18 < (h.length : Int))) ∧ True ∧ (True ∧ True ∧ ((Int.toNat v18) < h.length)) ∧ True) (by kernel_rfl) rfl
     ⟨⟨tt,tt,(by omega),(by omega)⟩,tt,⟨tt,tt,(by omega)⟩,tt⟩ ?_
    refine WI.nil rfl ?_
    refine blockQ_normal (thenQ_normal ?_)
    refine Kk cok tab24 hnt [] [4] (⟨[(4,.own 999 h.length)],[(998,⟨44,.fix [.sl (.bytes l),.i q34]⟩),(999,⟨35,.row (.calls (List.set h (Int.toNat v18) ({ h.getD (Int.toNat v18) default with proc := v34 })))⟩)],[34,33,20,18,11,998,999]⟩)
     (True ∧ True ∧ True)
     ⟨tt,tt,tt⟩ ?_
    refine W.ret ?_
    exact endP_ret ((List.set h (Int.toNat v18) ({ h.getD (Int.toNat v18) default with proc := v34 })),q34) (show ((List.set h (Int.toNat v18) ({ h.getD (Int.toNat v18) default with proc := v34 })).length = h.length) ∧ (p ≤ q34 ∧ q34 ≤ p + 10) from ⟨(by first | rfl | simp),(by first | assumption | omega | rfl | (simp; done) | (simp; omega))⟩) [(1,999),(0,998)] (.own 999 h.length) (by kernel_rfl) (@cast ((((999 : Nat) = 999) ∧ (h.length = (List.length (List.set h (Int.toNat v18) ({ h.getD (Int.toNat v18) default with proc := v34 })))) ∧ ((1 : Nat) ∈ ([0,1] : List Nat))) ∧ ((((44 : Nat) = 44) ∧ ((Sd (.bytes l)) ∧ (Si q34) ∧ True) ∧ ((0 : Nat) ∈ ([0,1] : List Nat))) ∧ (((35 : Nat) = 35) ∧ (Sd (.calls (List.set h (Int.toNat v18) ({ h.getD (Int.toNat v18) default with proc := v34 })))) ∧ ((1 : Nat) ∈ ([0,1] : List Nat))) ∧ True) ∧ (true = true) ∧ ((([] : List Nat) = []) ∧ True) ∧ (true = true → (998 : Nat) = 998)) _ (by kernel_rfl) ⟨⟨rfl,(by first | rfl | omega | assumption | (symm; assumption) | simp | simp_all),(by decide)⟩,⟨⟨rfl,⟨rfl,rfl,tt⟩,(by decide)⟩,⟨rfl,rfl,(by decide)⟩,tt⟩,rfl,⟨rfl,tt⟩,(fun _ => rfl)⟩)
   ·intro n28
    refine Kk cok tab24 hnt [] [0,1,5,20,37] (⟨[(0,.ptr 998 0),(1,.own 999 h.length),(5,.i v18),(20,.i v20),(37,.b (decide (v20 = (1 : Int))))],[(998,⟨44,.fix [.sl (.bytes l),.i q20]⟩),(999,⟨35,.row (.calls h)⟩)],[20,18,11,998,999]⟩)
     ((True ∧ True ∧ True) ∧ True ∧ True)
     ⟨⟨tt,tt,tt⟩,tt,tt⟩ ?_
    refine W.ifP (v20 = (1 : Int)) (.b (decide (v20 = (1 : Int)))) (by kernel_rfl) rfl trivial ?_ ?_
    ·intro h37
     refine W.wi ?_
     refine WI.runT cok tab24 hnt [] 9 9 (⟨[(0,.ptr 998 0),(1,.own 999 h.length),(5,.i v18),(20,.i v20),(37,.b (decide (v20 = (1 : Int)))),(39,.own 999 h.length),(40,.i v18),(41,.ptr 998 0),(42,.own 999 h.length),(43,.i v18),(44,.pel 999 7 (Int.toNat v18) 0),(45,.pel 999 7 (Int.toNat v18) 5),(46,.i ((h.getD (Int.toNat v18) default).frm)),(47,.sl (.ints ([(31 : Int),((h.getD (Int.toNat v18) default).frm),(1 : Int)])))],[(998,⟨44,.fix [.sl (.bytes l),.i q20]⟩),(999,⟨35,.row (.calls h)⟩)],[47,20,18,11,998,999]⟩)
      (True ∧ True ∧ True ∧ True ∧ True ∧ (True ∧ True ∧ (0 ≤ v18) ∧ (v18 < (h.length : Int))) ∧ True ∧ (True ∧ ((Int.toNat v18) < h.length)) ∧ (True ∧ True ∧ True ∧ True) ∧ True) (by kernel_rfl) rfl
      ⟨tt,tt,tt,tt,tt,⟨tt,tt,(by omega),(by omega)⟩,tt,⟨tt,(by omega)⟩,⟨tt,tt,tt,tt⟩,tt⟩ ?_
     refine WI.call [.ptr 998 0,.sl (.ints ([(31 : Int),((h.getD (Int.toNat v18) default).frm),(1 : Int)]))] [.sl (.bytes l),.i q20] [.sl (.ints ([(31 : Int),((h.getD (Int.toNat v18) default).frm),(1 : Int)]))] [.sl (.ints ([(31 : Int),((h.getD (Int.toNat v18) default).frm),(1 : Int)]))] (some (44,998)) (True) (True ∧ True) none rok22 ent22 hnt rfl rfl (wanted_none rfl) (by kernel_rfl) (by kernel_rfl) (by kernel_rfl) ⟨tt,tt,tt⟩
      (@cast ((0 ≤ q20 ∧ q20 ≤ 1000000) ∧ (0 < ([(31 : Int),((h.getD (Int.toNat v18) default).frm),(1 : Int)]).length) ∧ (([(31 : Int),((h.getD (Int.toNat v18) default).frm),(1 : Int)]).length ≤ 1000)) _ (by kernel_rfl) ⟨(by omega),⟨(by (first | omega | (simp only [List.length_set]; done) | (simp only [List.length_append,List.length_cons,List.length_nil,List.length_take,List.length_drop,List.length_set,List.length_replicate,List.length_map] at *; omega) | assumption)),(by (first | omega | (simp only [List.length_set]; done) | (simp only [List.length_append,List.length_cons,List.length_nil,List.length_take,List.length_drop,List.length_set,List.length_replicate,List.length_map] at *; omega) | assumption))⟩⟩) (Or.inl rfl) rfl ?_
     rintro r bl fx2 hR
     obtain ⟨⟨v48,q48⟩,hq48,rfl,rfl,rfl⟩ := (@cast _ (∃ x : Int × Int,((x.1 ∈ ([(31 : Int),((h.getD (Int.toNat v18) default).frm),(1 : Int)])) ∧ (x.2 = q20 + 1)) ∧ r = (.i x.1) ∧ bl = ([]) ∧ fx2 = ([.sl (.bytes l),.i x.2])) (by kernel_rfl) hR)
     clear hR
     replace hq48 : (v48 ∈ ([(31 : Int),((h.getD (Int.toNat v18) default).frm),(1 : Int)])) ∧ (q48 = q20 + 1) := hq48
     obtain ⟨hv48,hq148⟩ := hq48
     simp only [List.mem_cons,List.not_mem_nil,or_false] at hv48
     refine ⟨by kernel_rfl,WI.to (⟨[(0,.ptr 998 0),(1,.own 999 h.length),(5,.i v18),(20,.i v20),(37,.b (decide (v20 = (1 : Int)))),(39,.own 999 h.length),(40,.i v18),(41,.ptr 998 0),(42,.own 999 h.length),(43,.i v18),(44,.pel 999 7 (Int.toNat v18) 0),(45,.pel 999 7 (Int.toNat v18) 5),(46,.i ((h.getD (Int.toNat v18) default).frm)),(47,.sl (.ints ([(31 : Int),((h.getD (Int.toNat v18) default).frm),(1 : Int)]))),(48,.i v48)],[(998,⟨44,.fix [.sl (.bytes l),.i q48]⟩),(999,⟨35,.row (.calls h)⟩)],[48,47,20,18,11,998,999]⟩) 10 (by kernel_rfl) rfl ?_⟩
     refine WI.runT cok tab24 hnt [] 3 13 (⟨[(0,.ptr 998 0),(1,.own 999 h.length),(5,.i v18),(20,.i v20),(37,.b (decide (v20 = (1 : Int)))),(39,.own 999 h.length),(40,.i v18),(41,.ptr 998 0),(42,.own 999 h.length),(43,.i v18),(44,.pel 999 7 (Int.toNat v18) 0),(45,.pel 999 7 (Int.toNat v18) 5),(46,.i ((h.getD (Int.toNat v18) default).frm)),(47,.sl (.ints ([(31 : Int),((h.getD (Int.toNat v18) default).frm),(1 : Int)]))),(48,.i v48),(49,.pel 999 7 (Int.toNat v18) 0),(50,.pel 999 7 (Int.toNat v18) 6)],[(998,⟨44,.fix [.sl (.bytes l),.i q48]⟩),(999,⟨35,.row (.calls (List.set h (Int.toNat v18) ({ h.getD (Int.toNat v18) default with to := v48 })))⟩)],[48,47,20,18,11,998,999]⟩)
      ((True ∧ True ∧ (0 ≤ v18) ∧ (v18 < (h.length : Int))) ∧ True ∧ (True ∧ True ∧ ((Int.toNat v18) < h.length)) ∧ True) (by kernel_rfl) rfl
      ⟨⟨tt,tt,(by omega),(by omega)⟩,tt,⟨tt,tt,(by omega)⟩,tt⟩ ?_
     refine WI.nil rfl ?_
     refine blockQ_normal (thenQ_normal ?_)
     refine Kk cok tab24 hnt [] [4] (⟨[(4,.own 999 h.length)],[(998,⟨44,.fix [.sl (.bytes l),.i q48]⟩),(999,⟨35,.row (.calls (List.set h (Int.toNat v18) ({ h.getD (Int.toNat v18) default with to := v48 })))⟩)],[48,47,20,18,11,998,999]⟩)
      (True ∧ True ∧ True)
      ⟨tt,tt,tt⟩ ?_
     refine W.ret ?_
     exact endP_ret ((List.set h (Int.toNat v18) ({ h.getD (Int.toNat v18) default with to := v48 })),q48) (show ((List.set h (Int.toNat v18) ({ h.getD (Int.toNat v18) default with to := v48 })).length = h.length) ∧ (p ≤ q48 ∧ q48 ≤ p + 10) from ⟨(by first | rfl | simp),(by first | assumption | omega | rfl | (simp; done) | (simp; omega))⟩) [(1,999),(0,998)] (.own 999 h.length) (by kernel_rfl) (@cast ((((999 : Nat) = 999) ∧ (h.length = (List.length (List.set h (Int.toNat v18) ({ h.getD (Int.toNat v18) default with to := v48 })))) ∧ ((1 : Nat) ∈ ([0,1] : List Nat))) ∧ ((((44 : Nat) = 44) ∧ ((Sd (.bytes l)) ∧ (Si q48) ∧ True) ∧ ((0 : Nat) ∈ ([0,1] : List Nat))) ∧ (((35 : Nat) = 35) ∧ (Sd (.calls (List.set h (Int.toNat v18) ({ h.getD (Int.toNat v18) default with to := v48 })))) ∧ ((1 : Nat) ∈ ([0,1] : List Nat))) ∧ True) ∧ (true = true) ∧ ((([] : List Nat) = []) ∧ True) ∧ (true = true → (998 : Nat) = 998)) _ (by kernel_rfl) ⟨⟨rfl,(by first | rfl | omega | assumption | (symm; assumption) | simp | simp_all),(by decide)⟩,⟨⟨rfl,⟨rfl,rfl,tt⟩,(by decide)⟩,⟨rfl,rfl,(by decide)⟩,tt⟩,rfl,⟨rfl,tt⟩,(fun _ => rfl)⟩)
    ·intro n37
     refine Kk cok tab24 hnt [] [0,1,5,20,51] (⟨[(0,.ptr 998 0),(1,.own 999 h.length),(5,.i v18),(20,.i v20),(51,.b (decide (v20 = (2 : Int))))],[(998,⟨44,.fix [.sl (.bytes l),.i q20]⟩),(999,⟨35,.row (.calls h)⟩)],[20,18,11,998,999]⟩)
      ((True ∧ True ∧ True) ∧ True ∧ True)
      ⟨⟨tt,tt,tt⟩,tt,tt⟩ ?_
     refine W.ifP (v20 = (2 : Int)) (.b (decide (v20 = (2 : Int)))) (by kernel_rfl) rfl trivial ?_ ?_
     ·intro h51
      refine W.wi ?_
      refine WI.runT cok tab24 hnt [] 4 4 (⟨[(0,.ptr 998 0),(1,.own 999 h.length),(5,.i v18),(20,.i v20),(51,.b (decide (v20 = (2 : Int)))),(53,.own 999 h.length),(54,.i v18),(55,.ptr 998 0),(56,.sl (.ints ([(-2 : Int),(21 : Int),(3 : Int)])))],[(998,⟨44,.fix [.sl (.bytes l),.i q20]⟩),(999,⟨35,.row (.calls h)⟩)],[56,20,18,11,998,999]⟩)
       (True ∧ True ∧ True ∧ (True ∧ True ∧ True ∧ True) ∧ True) (by kernel_rfl) rfl
       ⟨tt,tt,tt,⟨tt,tt,tt,tt⟩,tt⟩ ?_
      refine WI.call [.ptr 998 0,.sl (.ints ([(-2 : Int),(21 : Int),(3 : Int)]))] [.sl (.bytes l),.i q20] [.sl (.ints ([(-2 : Int),(21 : Int),(3 : Int)]))] [.sl (.ints ([(-2 : Int),(21 : Int),(3 : Int)]))] (some (44,998)) (True) (True ∧ True) none rok22 ent22 hnt rfl rfl (wanted_none rfl) (by kernel_rfl) (by kernel_rfl) (by kernel_rfl) ⟨tt,tt,tt⟩
       (@cast ((0 ≤ q20 ∧ q20 ≤ 1000000) ∧ (0 < ([(-2 : Int),(21 : Int),(3 : Int)]).length) ∧ (([(-2 : Int),(21 : Int),(3 : Int)]).length ≤ 1000)) _ (by kernel_rfl) ⟨(by omega),⟨(by (first | omega | (simp only [List.length_set]; done) | (simp only [List.length_append,List.length_cons,List.length_nil,List.length_take,List.length_drop,List.length_set,List.length_replicate,List.length_map] at *; omega) | assumption)),(by (first | omega | (simp only [List.length_set]; done) | (simp only [List.length_append,List.length_cons,List.length_nil,List.length_take,List.length_drop,List.length_set,List.length_replicate,List.length_map] at *; omega) | assumption))⟩⟩) (Or.inl rfl) rfl ?_
      rintro r bl fx2 hR
      obtain ⟨⟨v57,q57⟩,hq57,rfl,rfl,rfl⟩ := (@cast _ (∃ x : Int × Int,((x.1 ∈ ([(-2 : Int),(21 : Int),(3 : Int)])) ∧ (x.2 = q20 + 1)) ∧ r = (.i x.1) ∧ bl = ([]) ∧ fx2 = ([.sl (.bytes l),.i x.2])) (by kernel_rfl) hR)
      clear hR
      replace hq57 : (v57 ∈ ([(-2 : Int),(21 : Int),(3 : Int)])) ∧ (q57 = q20 + 1) := hq57
      obtain ⟨hv57,hq157⟩ := hq57
      simp only [List.mem_cons,List.not_mem_nil,or_false] at hv57
      refine ⟨by kernel_rfl,WI.to (⟨[(0,.ptr 998 0),(1,.own 999 h.length),(5,.i v18),(20,.i v20),(51,.b (decide (v20 = (2 : Int)))),(53,.own 999 h.length),(54,.i v18),(55,.ptr 998 0),(56,.sl (.ints ([(-2 : Int),(21 : Int),(3 : Int)]))),(57,.i v57)],[(998,⟨44,.fix [.sl (.bytes l),.i q57]⟩),(999,⟨35,.row (.calls h)⟩)],[57,56,20,18,11,998,999]⟩) 5 (by kernel_rfl) rfl ?_⟩
      refine WI.runT cok tab24 hnt [] 3 8 (⟨[(0,.ptr 998 0),(1,.own 999 h.length),(5,.i v18),(20,.i v20),(51,.b (decide (v20 = (2 : Int)))),(53,.own 999 h.length),(54,.i v18),(55,.ptr 998 0),(56,.sl (.ints ([(-2 : Int),(21 : Int),(3 : Int)]))),(57,.i v57),(58,.pel 999 7 (Int.toNat v18) 0),(59,.pel 999 7 (Int.toNat v18) 4)],[(998,⟨44,.fix [.sl (.bytes l),.i q57]⟩),(999,⟨35,.row (.calls (List.set h (Int.toNat v18) ({ h.getD (Int.toNat v18) default with ret := v57 })))⟩)],[57,56,20,18,11,998,999]⟩)
       ((True ∧ True ∧ (0 ≤ v18) ∧ (v18 < (h.length : Int))) ∧ True ∧ (True ∧ True ∧ ((Int.toNat v18) < h.length)) ∧ True) (by kernel_rfl) rfl
       ⟨⟨tt,tt,(by omega),(by omega)⟩,tt,⟨tt,tt,(by omega)⟩,tt⟩ ?_
      refine WI.nil rfl ?_
      refine blockQ_normal (thenQ_normal ?_)
      refine Kk cok tab24 hnt [] [4] (⟨[(4,.own 999 h.length)],[(998,⟨44,.fix [.sl (.bytes l),.i q57]⟩),(999,⟨35,.row (.calls (List.set h (Int.toNat v18) ({ h.getD (Int.toNat v18) default with ret := v57 })))⟩)],[57,56,20,18,11,998,999]⟩)
       (True ∧ True ∧ True)
       ⟨tt,tt,tt⟩ ?_
      refine W.ret ?_
      exact endP_ret ((List.set h (Int.toNat v18) ({ h.getD (Int.toNat v18) default with ret := v57 })),q57) (show ((List.set h (Int.toNat v18) ({ h.getD (Int.toNat v18) default with ret := v57 })).length = h.length) ∧ (p ≤ q57 ∧ q57 ≤ p + 10) from ⟨(by first | rfl | simp),(by first | assumption | omega | rfl | (simp; done) | (simp; omega))⟩) [(1,999),(0,998)] (.own 999 h.length) (by kernel_rfl) (@cast ((((999 : Nat) = 999) ∧ (h.length = (List.length (List.set h (Int.toNat v18) ({ h.getD (Int.toNat v18) default with ret := v57 })))) ∧ ((1 : Nat) ∈ ([0,1] : List Nat))) ∧ ((((44 : Nat) = 44) ∧ ((Sd (.bytes l)) ∧ (Si q57) ∧ True) ∧ ((0 : Nat) ∈ ([0,1] : List Nat))) ∧ (((35 : Nat) = 35) ∧ (Sd (.calls (List.set h (Int.toNat v18) ({ h.getD (Int.toNat v18) default with ret := v57 })))) ∧ ((1 : Nat) ∈ ([0,1] : List Nat))) ∧ True) ∧ (true = true) ∧ ((([] : List Nat) = []) ∧ True) ∧ (true = true → (998 : Nat) = 998)) _ (by kernel_rfl) ⟨⟨rfl,(by first | rfl | omega | assumption | (symm; assumption) | simp | simp_all),(by decide)⟩,⟨⟨rfl,⟨rfl,rfl,tt⟩,(by decide)⟩,⟨rfl,rfl,(by decide)⟩,tt⟩,rfl,⟨rfl,tt⟩,(fun _ => rfl)⟩)
     ·intro n51
      refine Kk cok tab24 hnt [] [0,1,5,20,60] (⟨[(0,.ptr 998 0),(1,.own 999 h.length),(5,.i v18),(20,.i v20),(60,.b (decide (v20 = (3 : Int))))],[(998,⟨44,.fix [.sl (.bytes l),.i q20]⟩),(999,⟨35,.row (.calls h)⟩)],[20,18,11,998,999]⟩)
       ((True ∧ True ∧ True) ∧ True ∧ True)
       ⟨⟨tt,tt,tt⟩,tt,tt⟩ ?_
      refine W.ifP (v20 = (3 : Int)) (.b (decide (v20 = (3 : Int)))) (by kernel_rfl) rfl trivial ?_ ?_
      ·intro h60
       refine W.wi ?_
       refine WI.runT cok tab24 hnt [] 4 4 (⟨[(0,.ptr 998 0),(1,.own 999 h.length),(5,.i v18),(20,.i v20),(60,.b (decide (v20 = (3 : Int)))),(62,.own 999 h.length),(63,.i v18),(64,.ptr 998 0),(65,.sl (.ints ([(-1 : Int),(4 : Int)])))],[(998,⟨44,.fix [.sl (.bytes l),.i q20]⟩),(999,⟨35,.row (.calls h)⟩)],[65,20,18,11,998,999]⟩)
        (True ∧ True ∧ True ∧ (True ∧ True ∧ True) ∧ True) (by kernel_rfl) rfl
        ⟨tt,tt,tt,⟨tt,tt,tt⟩,tt⟩ ?_
       refine WI.call [.ptr 998 0,.sl (.ints ([(-1 : Int),(4 : Int)]))] [.sl (.bytes l),.i q20] [.sl (.ints ([(-1 : Int),(4 : Int)]))] [.sl (.ints ([(-1 : Int),(4 : Int)]))] (some (44,998)) (True) (True ∧ True) none rok22 ent22 hnt rfl rfl (wanted_none rfl) (by kernel_rfl) (by kernel_rfl) (by kernel_rfl) ⟨tt,tt,tt⟩
        (@cast ((0 ≤ q20 ∧ q20 ≤ 1000000) ∧ (0 < ([(-1 : Int),(4 : Int)]).length) ∧ (([(-1 : Int),(4 : Int)]).length ≤ 1000)) _ (by kernel_rfl) ⟨(by omega),⟨(by (first | omega | (simp only [List.length_set]; done) | (simp only [List.length_append,List.length_cons,List.length_nil,List.length_take,List.length_drop,List.length_set,List.length_replicate,List.length_map] at *; omega) | assumption)),(by (first | omega | (simp only [List.length_set]; done) | (simp only [List.length_append,List.length_cons,List.length_nil,List.length_take,List.length_drop,List.length_set,List.length_replicate,List.length_map] at *; omega) | assumption))⟩⟩) (Or.inl rfl) rfl ?_
       rintro r bl fx2 hR
       obtain ⟨⟨v66,q66⟩,hq66,rfl,rfl,rfl⟩ := (@cast _ (∃ x : Int × Int,((x.1 ∈ ([(-1 : Int),(4 : Int)])) ∧ (x.2 = q20 + 1)) ∧ r = (.i x.1) ∧ bl = ([]) ∧ fx2 = ([.sl (.bytes l),.i x.2])) (by kernel_rfl) hR)
       clear hR
       replace hq66 : (v66 ∈ ([(-1 : Int),(4 : Int)])) ∧ (q66 = q20 + 1) := hq66
       obtain ⟨hv66,hq166⟩ := hq66
       simp only [List.mem_cons,List.not_mem_nil,or_false] at hv66
       refine ⟨by kernel_rfl,WI.to (⟨[(0,.ptr 998 0),(1,.own 999 h.length),(5,.i v18),(20,.i v20),(60,.b (decide (v20 = (3 : Int)))),(62,.own 999 h.length),(63,.i v18),(64,.ptr 998 0),(65,.sl (.ints ([(-1 : Int),(4 : Int)]))),(66,.i v66)],[(998,⟨44,.fix [.sl (.bytes l),.i q66]⟩),(999,⟨35,.row (.calls h)⟩)],[66,65,20,18,11,998,999]⟩) 5 (by kernel_rfl) rfl ?_⟩
       refine WI.runT cok tab24 hnt [] 3 8 (⟨[(0,.ptr 998 0),(1,.own 999 h.length),(5,.i v18),(20,.i v20),(60,.b (decide (v20 = (3 : Int)))),(62,.own 999 h.length),(63,.i v18),(64,.ptr 998 0),(65,.sl (.ints ([(-1 : Int),(4 : Int)]))),(66,.i v66),(67,.pel 999 7 (Int.toNat v18) 0),(68,.pel 999 7 (Int.toNat v18) 3)],[(998,⟨44,.fix [.sl (.bytes l),.i q66]⟩),(999,⟨35,.row (.calls (List.set h (Int.toNat v18) ({ h.getD (Int.toNat v18) default with arg := v66 })))⟩)],[66,65,20,18,11,998,999]⟩)
        ((True ∧ True ∧ (0 ≤ v18) ∧ (v18 < (h.length : Int))) ∧ True ∧ (True ∧ True ∧ ((Int.toNat v18) < h.length)) ∧ True) (by kernel_rfl) rfl
        ⟨⟨tt,tt,(by omega),(by omega)⟩,tt,⟨tt,tt,(by omega)⟩,tt⟩ ?_
       refine WI.nil rfl ?_
       refine blockQ_normal (thenQ_normal ?_)
       refine Kk cok tab24 hnt [] [4] (⟨[(4,.own 999 h.length)],[(998,⟨44,.fix [.sl (.bytes l),.i q66]⟩),(999,⟨35,.row (.calls (List.set h (Int.toNat v18) ({ h.getD (Int.toNat v18) default with arg := v66 })))⟩)],[66,65,20,18,11,998,999]⟩)
        (True ∧ True ∧ True)
        ⟨tt,tt,tt⟩ ?_
       refine W.ret ?_
       exact endP_ret ((List.set h (Int.toNat v18) ({ h.getD (Int.toNat v18) default with arg := v66 })),q66) (show ((List.set h (Int.toNat v18) ({ h.getD (Int.toNat v18) default with arg := v66 })).length = h.length) ∧ (p ≤ q66 ∧ q66 ≤ p + 10) from ⟨(by first | rfl | simp),(by first | assumption | omega | rfl | (simp; done) | (simp; omega))⟩) [(1,999),(0,998)] (.own 999 h.length) (by kernel_rfl) (@cast ((((999 : Nat) = 999) ∧ (h.length = (List.length (List.set h (Int.toNat v18) ({ h.getD (Int.toNat v18) default with arg := v66 })))) ∧ ((1 : Nat) ∈ ([0,1] : List Nat))) ∧ ((((44 : Nat) = 44) ∧ ((Sd (.bytes l)) ∧ (Si q66) ∧ True) ∧ ((0 : Nat) ∈ ([0,1] : List Nat))) ∧ (((35 : Nat) = 35) ∧ (Sd (.calls (List.set h (Int.toNat v18) ({ h.getD (Int.toNat v18) default with arg := v66 })))) ∧ ((1 : Nat) ∈ ([0,1] : List Nat))) ∧ True) ∧ (true = true) ∧ ((([] : List Nat) = []) ∧ True) ∧ (true = true → (998 : Nat) = 998)) _ (by kernel_rfl) ⟨⟨rfl,(by first | rfl | omega | assumption | (symm; assumption) | simp | simp_all),(by decide)⟩,⟨⟨rfl,⟨rfl,rfl,tt⟩,(by decide)⟩,⟨rfl,rfl,(by decide)⟩,tt⟩,rfl,⟨rfl,tt⟩,(fun _ => rfl)⟩)
      ·intro n60
       refine Kk cok tab24 hnt [] [0,1,5,69] (⟨[(0,.ptr 998 0),(1,.own 999 h.length),(5,.i v18),(69,.b (decide (v20 = (4 : Int))))],[(998,⟨44,.fix [.sl (.bytes l),.i q20]⟩),(999,⟨35,.row (.calls h)⟩)],[20,18,11,998,999]⟩)
        ((True ∧ True ∧ True) ∧ True ∧ True)
        ⟨⟨tt,tt,tt⟩,tt,tt⟩ ?_
       refine W.ifP (v20 = (4 : Int)) (.b (decide (v20 = (4 : Int)))) (by kernel_rfl) rfl trivial ?_ ?_
       ·intro h69
        refine W.wi ?_
        refine WI.runT cok tab24 hnt [] 4 4 (⟨[(0,.ptr 998 0),(1,.own 999 h.length),(5,.i v18),(69,.b (decide (v20 = (4 : Int)))),(71,.own 999 h.length),(72,.i v18),(73,.ptr 998 0),(74,.sl (.ints ([(2 : Int),(-1 : Int),(1 : Int)])))],[(998,⟨44,.fix [.sl (.bytes l),.i q20]⟩),(999,⟨35,.row (.calls h)⟩)],[74,20,18,11,998,999]⟩)
         (True ∧ True ∧ True ∧ (True ∧ True ∧ True ∧ True) ∧ True) (by kernel_rfl) rfl
         ⟨tt,tt,tt,⟨tt,tt,tt,tt⟩,tt⟩ ?_
        refine WI.call [.ptr 998 0,.sl (.ints ([(2 : Int),(-1 : Int),(1 : Int)]))] [.sl (.bytes l),.i q20] [.sl (.ints ([(2 : Int),(-1 : Int),(1 : Int)]))] [.sl (.ints ([(2 : Int),(-1 : Int),(1 : Int)]))] (some (44,998)) (True) (True ∧ True) none rok22 ent22 hnt rfl rfl (wanted_none rfl) (by kernel_rfl) (by kernel_rfl) (by kernel_rfl) ⟨tt,tt,tt⟩
         (@cast ((0 ≤ q20 ∧ q20 ≤ 1000000) ∧ (0 < ([(2 : Int),(-1 : Int),(1 : Int)]).length) ∧ (([(2 : Int),(-1 : Int),(1 : Int)]).length ≤ 1000)) _ (by kernel_rfl) ⟨(by omega),⟨(by (first | omega | (simp only [List.length_set]; done) | (simp only [List.length_append,List.length_cons,List.length_nil,List.length_take,List.length_drop,List.length_set,List.length_replicate,List.length_map] at *; omega) | assumption)),(by (first | omega | (simp only [List.length_set]; done) | (simp only [List.length_append,List.length_cons,List.length_nil,List.length_take,List.length_drop,List.length_set,List.length_replicate,List.length_map] at *; omega) | assumption))⟩⟩) (Or.inl rfl) rfl ?_
        rintro r bl fx2 hR
        obtain ⟨⟨v75,q75⟩,hq75,rfl,rfl,rfl⟩ := (@cast _ (∃ x : Int × Int,((x.1 ∈ ([(2 : Int),(-1 : Int),(1 : Int)])) ∧ (x.2 = q20 + 1)) ∧ r = (.i x.1) ∧ bl = ([]) ∧ fx2 = ([.sl (.bytes l),.i x.2])) (by kernel_rfl) hR)
        clear hR
        replace hq75 : (v75 ∈ ([(2 : Int),(-1 : Int),(1 : Int)])) ∧ (q75 = q20 + 1) := hq75
        obtain ⟨hv75,hq175⟩ := hq75
        simp only [List.mem_cons,List.not_mem_nil,or_false] at hv75
        refine ⟨by kernel_rfl,WI.to (⟨[(0,.ptr 998 0),(1,.own 999 h.length),(5,.i v18),(69,.b (decide (v20 = (4 : Int)))),(71,.own 999 h.length),(72,.i v18),(73,.ptr 998 0),(74,.sl (.ints ([(2 : Int),(-1 : Int),(1 : Int)]))),(75,.i v75)],[(998,⟨44,.fix [.sl (.bytes l),.i q75]⟩),(999,⟨35,.row (.calls h)⟩)],[75,74,20,18,11,998,999]⟩) 5 (by kernel_rfl) rfl ?_⟩
        refine WI.runT cok tab24 hnt [] 3 8 (⟨[(0,.ptr 998 0),(1,.own 999 h.length),(5,.i v18),(69,.b (decide (v20 = (4 : Int)))),(71,.own 999 h.length),(72,.i v18),(73,.ptr 998 0),(74,.sl (.ints ([(2 : Int),(-1 : Int),(1 : Int)]))),(75,.i v75),(76,.pel 999 7 (Int.toNat v18) 0),(77,.pel 999 7 (Int.toNat v18) 1)],[(998,⟨44,.fix [.sl (.bytes l),.i q75]⟩),(999,⟨35,.row (.calls (List.set h (Int.toNat v18) ({ h.getD (Int.toNat v18) default with obj := v75 })))⟩)],[75,74,20,18,11,998,999]⟩)
         ((True ∧ True ∧ (0 ≤ v18) ∧ (v18 < (h.length : Int))) ∧ True ∧ (True ∧ True ∧ ((Int.toNat v18) < h.length)) ∧ True) (by kernel_rfl) rfl
         ⟨⟨tt,tt,(by omega),(by omega)⟩,tt,⟨tt,tt,(by omega)⟩,tt⟩ ?_
        refine WI.nil rfl ?_
        refine blockQ_normal (thenQ_normal ?_)
        refine Kk cok tab24 hnt [] [4] (⟨[(4,.own 999 h.length)],[(998,⟨44,.fix [.sl (.bytes l),.i q75]⟩),(999,⟨35,.row (.calls (List.set h (Int.toNat v18) ({ h.getD (Int.toNat v18) default with obj := v75 })))⟩)],[75,74,20,18,11,998,999]⟩)
         (True ∧ True ∧ True)
         ⟨tt,tt,tt⟩ ?_
        refine W.ret ?_
        exact endP_ret ((List.set h (Int.toNat v18) ({ h.getD (Int.toNat v18) default with obj := v75 })),q75) (show ((List.set h (Int.toNat v18) ({ h.getD (Int.toNat v18) default with obj := v75 })).length = h.length) ∧ (p ≤ q75 ∧ q75 ≤ p + 10) from ⟨(by first | rfl | simp),(by first | assumption | omega | rfl | (simp; done) | (simp; omega))⟩) [(1,999),(0,998)] (.own 999 h.length) (by kernel_rfl) (@cast ((((999 : Nat) = 999) ∧ (h.length = (List.length (List.set h (Int.toNat v18) ({ h.getD (Int.toNat v18) default with obj := v75 })))) ∧ ((1 : Nat) ∈ ([0,1] : List Nat))) ∧ ((((44 : Nat) = 44) ∧ ((Sd (.bytes l)) ∧ (Si q75) ∧ True) ∧ ((0 : Nat) ∈ ([0,1] : List Nat))) ∧ (((35 : Nat) = 35) ∧ (Sd (.calls (List.set h (Int.toNat v18) ({ h.getD (Int.toNat v18) default with obj := v75 })))) ∧ ((1 : Nat) ∈ ([0,1] : List Nat))) ∧ True) ∧ (true = true) ∧ ((([] : List Nat) = []) ∧ True) ∧ (true = true → (998 : Nat) = 998)) _ (by kernel_rfl) ⟨⟨rfl,(by first | rfl | omega | assumption | (symm; assumption) | simp | simp_all),(by decide)⟩,⟨⟨rfl,⟨rfl,rfl,tt⟩,(by decide)⟩,⟨rfl,rfl,(by decide)⟩,tt⟩,rfl,⟨rfl,tt⟩,(fun _ => rfl)⟩)
       ·intro n69
        refine W.wi ?_
        refine WI.runT cok tab24 hnt [] 4 4 (⟨[(0,.ptr 998 0),(1,.own 999 h.length),(5,.i v18),(21,.own 999 h.length),(22,.i v18),(23,.ptr 998 0),(24,.sl (.ints ([(3 : Int),(-1 : Int),(0 : Int)]))),(69,.b (decide (v20 = (4 : Int))))],[(998,⟨44,.fix [.sl (.bytes l),.i q20]⟩),(999,⟨35,.row (.calls h)⟩)],[24,20,18,11,998,999]⟩)
         (True ∧ True ∧ True ∧ (True ∧ True ∧ True ∧ True) ∧ True) (by kernel_rfl) rfl
         ⟨tt,tt,tt,⟨tt,tt,tt,tt⟩,tt⟩ ?_
        refine WI.call [.ptr 998 0,.sl (.ints ([(3 : Int),(-1 : Int),(0 : Int)]))] [.sl (.bytes l),.i q20] [.sl (.ints ([(3 : Int),(-1 : Int),(0 : Int)]))] [.sl (.ints ([(3 : Int),(-1 : Int),(0 : Int)]))] (some (44,998)) (True) (True ∧ True) none rok22 ent22 hnt rfl rfl (wanted_none rfl) (by kernel_rfl) (by kernel_rfl) (by kernel_rfl) ⟨tt,tt,tt⟩
         (@cast ((0 ≤ q20 ∧ q20 ≤ 1000000) ∧ (0 < ([(3 : Int),(-1 : Int),(0 : Int)]).length) ∧ (([(3 : Int),(-1 : Int),(0 : Int)]).length ≤ 1000)) _ (by kernel_rfl) ⟨(by omega),⟨(by (first | omega | (simp only [List.length_set]; done) | (simp only [List.length_append,List.length_cons,List.length_nil,List.length_take,List.length_drop,List.length_set,List.length_replicate,List.length_map] at *; omega) | assumption)),(by (first | omega | (simp only [List.length_set]; done) | (simp only [List.length_append,List.length_cons,List.length_nil,List.length_take,List.length_drop,List.length_set,List.length_replicate,List.length_map] at *; omega) | assumption))⟩⟩) (Or.inl rfl) rfl ?_
        rintro r bl fx2 hR
        obtain ⟨⟨v25,q25⟩,hq25,rfl,rfl,rfl⟩ := (@cast _ (∃ x : Int × Int,((x.1 ∈ ([(3 : Int),(-1 : Int),(0 : Int)])) ∧ (x.2 = q20 + 1)) ∧ r = (.i x.1) ∧ bl = ([]) ∧ fx2 = ([.sl (.bytes l),.i x.2])) (by kernel_rfl) hR)
        clear hR
        replace hq25 : (v25 ∈ ([(3 : Int),(-1 : Int),(0 : Int)])) ∧ (q25 = q20 + 1) := hq25
        obtain ⟨hv25,hq125⟩ := hq25
        simp only [List.mem_cons,List.not_mem_nil,or_false] at hv25
        refine ⟨by kernel_rfl,WI.to (⟨[(0,.ptr 998 0),(1,.own 999 h.length),(5,.i v18),(21,.own 999 h.length),(22,.i v18),(23,.ptr 998 0),(24,.sl (.ints ([(3 : Int),(-1 : Int),(0 : Int)]))),(25,.i v25),(69,.b (decide (v20 = (4 : Int))))],[(998,⟨44,.fix [.sl (.bytes l),.i q25]⟩),(999,⟨35,.row (.calls h)⟩)],[25,24,20,18,11,998,999]⟩) 5 (by kernel_rfl) rfl ?_⟩
        refine WI.runT cok tab24 hnt [] 3 8 (⟨[(0,.ptr 998 0),(1,.own 999 h.length),(5,.i v18),(21,.own 999 h.length),(22,.i v18),(23,.ptr 998 0),(24,.sl (.ints ([(3 : Int),(-1 : Int),(0 : Int)]))),(25,.i v25),(26,.pel 999 7 (Int.toNat v18) 0),(27,.pel 999 7 (Int.toNat v18) 2),(69,.b (decide (v20 = (4 : Int))))],[(998,⟨44,.fix [.sl (.bytes l),.i q25]⟩),(999,⟨35,.row (.calls (List.set h (Int.toNat v18) ({ h.getD (Int.toNat v18) default with kind := v25 })))⟩)],[25,24,20,18,11,998,999]⟩)
         ((True ∧ True ∧ (0 ≤ v18) ∧ (v18 < (h.length : Int))) ∧ True ∧ (True ∧ True ∧ ((Int.toNat v18) < h.length)) ∧ True) (by kernel_rfl) rfl
         ⟨⟨tt,tt,(by omega),(by omega)⟩,tt,⟨tt,tt,(by omega)⟩,tt⟩ ?_
        refine WI.nil rfl ?_
        refine blockQ_normal (thenQ_normal ?_)
        refine Kk cok tab24 hnt [] [4] (⟨[(4,.own 999 h.length)],[(998,⟨44,.fix [.sl (.bytes l),.i q25]⟩),(999,⟨35,.row (.calls (List.set h (Int.toNat v18) ({ h.getD (Int.toNat v18) default with kind := v25 })))⟩)],[25,24,20,18,11,998,999]⟩)
         (True ∧ True ∧ True)
         ⟨tt,tt,tt⟩ ?_
        refine W.ret ?_
        exact endP_ret ((List.set h (Int.toNat v18) ({ h.getD (Int.toNat v18) default with kind := v25 })),q25) (show ((List.set h (Int.toNat v18) ({ h.getD (Int.toNat v18) default with kind := v25 })).length = h.length) ∧ (p ≤ q25 ∧ q25 ≤ p + 10) from ⟨(by first | rfl | simp),(by first | assumption | omega | rfl | (simp; done) | (simp; omega))⟩) [(1,999),(0,998)] (.own 999 h.length) (by kernel_rfl) (@cast ((((999 : Nat) = 999) ∧ (h.length = (List.length (List.set h (Int.toNat v18) ({ h.getD (Int.toNat v18) default with kind := v25 })))) ∧ ((1 : Nat) ∈ ([0,1] : List Nat))) ∧ ((((44 : Nat) = 44) ∧ ((Sd (.bytes l)) ∧ (Si q25) ∧ True) ∧ ((0 : Nat) ∈ ([0,1] : List Nat))) ∧ (((35 : Nat) = 35) ∧ (Sd (.calls (List.set h (Int.toNat v18) ({ h.getD (Int.toNat v18) default with kind := v25 })))) ∧ ((1 : Nat) ∈ ([0,1] : List Nat))) ∧ True) ∧ (true = true) ∧ ((([] : List Nat) = []) ∧ True) ∧ (true = true → (998 : Nat) = 998)) _ (by kernel_rfl) ⟨⟨rfl,(by first | rfl | omega | assumption | (symm; assumption) | simp | simp_all),(by decide)⟩,⟨⟨rfl,⟨rfl,rfl,tt⟩,(by decide)⟩,⟨rfl,rfl,(by decide)⟩,tt⟩,rfl,⟨rfl,tt⟩,(fun _ => rfl)⟩)
theorem ent24 : Entr prog 24 := ⟨_,func24,rfl,by decide⟩
end Go.Proofs.Try
