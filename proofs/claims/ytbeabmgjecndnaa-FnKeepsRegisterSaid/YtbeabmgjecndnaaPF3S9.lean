import Derived.Test.YtbeabmgjecndnaaPF3S0
import Derived.Test.YtbeabmgjecndnaaPF3S3
import Derived.Test.YtbeabmgjecndnaaPF3S8
set_option linter.unusedSimpArgs false
set_option linter.unusedVariables false
namespace Go.Proofs.Try
open Go.Ab Go.RowKit
def pre23 : List AV → List AV → Prop := preP [.calls] [.bytes,.int] (fun (h,_) (l,p,_) => (0 ≤ p ∧ p ≤ 900000) ∧ (GoodH h))
def rel23 : RelS := relP [.calls] [.bytes,.int] (ι := (List CallD) × Int) (fun (h,_) (l,p,_) (g,q) => (GoodH g) ∧ (p ≤ q ∧ q ≤ p + 1000)) (fun (h,_) (l,p,_) (g,q) => (.own 1 g.length,[⟨35,.row (.calls g)⟩],[.sl (.bytes l),.i q]))
abbrev T23 : Tab := lk [(27,fs27)]
theorem tab23 : TabOK prog T23 := (TabOK.cons ok27 ent27 TabOK.nil)
set_option maxRecDepth 100000 in
set_option maxHeartbeats 1000000 in
theorem rok23 : RelOK prog 23 (some 44) [.c .calls 35] pre23 rel23 := by
 refine RelOK.mk cok func23 rfl rfl rfl ?_
 rintro ⟨(h : List CallD),_⟩ ⟨(l : List UInt8),(p : Int),_⟩ hpre F hnt0
 have hnt : F.nt = 117 := hnt0.trans ntmps23
 replace hpre : (0 ≤ p ∧ p ≤ 900000) ∧ (GoodH h) := hpre
 obtain ⟨hp,hG⟩ := hpre
 refine W.to (⟨[(0,.ptr 998 0),(1,.own 999 h.length)],[(998,⟨44,.fix [.sl (.bytes l),.i p]⟩),(999,⟨35,.row (.calls h)⟩)],[998,999]⟩) rfl ?_
 have hl6 := hG.1
 refine Kk cok tab23 hnt [] [0,1] (⟨[(0,.ptr 998 0),(1,.own 999 h.length)],[(998,⟨44,.fix [.sl (.bytes l),.i p]⟩),(999,⟨35,.row (.calls h)⟩)],[998,999]⟩)
  (True ∧ True)
  ⟨tt,tt⟩ ?_
 refine W.seq ?_
 refine Kk cok tab23 hnt [] [0,1,15] (⟨[(0,.ptr 998 0),(1,.own 999 h.length),(15,.b (decide ((h.length : Int) = (0 : Int))))],[(998,⟨44,.fix [.sl (.bytes l),.i p]⟩),(999,⟨35,.row (.calls h)⟩)],[998,999]⟩)
  (True ∧ True ∧ (True ∧ True ∧ True) ∧ True)
  ⟨tt,tt,⟨tt,tt,tt⟩,tt⟩ ?_
 refine W.ifP ((h.length : Int) = (0 : Int)) (.b (decide ((h.length : Int) = (0 : Int)))) (by kernel_rfl) rfl trivial ?_ ?_
 ·intro h15
  refine Kk cok tab23 hnt [] [4] (⟨[(4,.own 999 h.length)],[(998,⟨44,.fix [.sl (.bytes l),.i p]⟩),(999,⟨35,.row (.calls h)⟩)],[998,999]⟩)
   (True ∧ True ∧ True)
   ⟨tt,tt,tt⟩ ?_
  refine W.ret (thenQ_ret ?_)
  exact endP_ret (h,p) (show (GoodH h) ∧ (p ≤ p ∧ p ≤ p + 1000) from ⟨(by assumption),(by first | assumption | omega | rfl | (simp; done) | (simp; omega))⟩) [(1,999),(0,998)] (.own 999 h.length) (by kernel_rfl) (@cast ((((999 : Nat) = 999) ∧ (h.length = h.length) ∧ ((1 : Nat) ∈ ([0,1] : List Nat))) ∧ ((((44 : Nat) = 44) ∧ ((Sd (.bytes l)) ∧ (Si p) ∧ True) ∧ ((0 : Nat) ∈ ([0,1] : List Nat))) ∧ (((35 : Nat) = 35) ∧ (Sd (.calls h)) ∧ ((1 : Nat) ∈ ([0,1] : List Nat))) ∧ True) ∧ (true = true) ∧ ((([] : List Nat) = []) ∧ True) ∧ (true = true → (998 : Nat) = 998)) _ (by kernel_rfl) ⟨⟨rfl,rfl,(by decide)⟩,⟨⟨rfl,⟨rfl,rfl,tt⟩,(by decide)⟩,⟨rfl,rfl,(by decide)⟩,tt⟩,rfl,⟨rfl,tt⟩,(fun _ => rfl)⟩)
 ·intro n15
  refine W.skip (thenQ_normal ?_)
  refine Kk cok tab23 hnt [17,19] [0,5] (⟨[(0,.ptr 998 0),(5,.own 19 h.length)],[(19,⟨35,.row (.calls h)⟩),(998,⟨44,.fix [.sl (.bytes l),.i p]⟩),(999,⟨35,.row (.calls h)⟩)],[19,17,998,999]⟩)
   (True ∧ True ∧ ((True ∧ ((List.length ([] : List CallD)) = (List.length ([] : List CallD)))) ∧ (True ∧ (h.length = h.length)) ∧ (((List.length ([] : List CallD)) + h.length) * 56 ≤ 140737488355328)) ∧ True ∧ True)
   ⟨tt,tt,⟨⟨tt,rfl⟩,⟨tt,rfl⟩,(by (first | omega | (simp only [List.length_set]; done) | (simp only [List.length_append,List.length_cons,List.length_nil,List.length_take,List.length_drop,List.length_set,List.length_replicate,List.length_map] at *; omega) | assumption))⟩,tt,tt⟩ ?_
  refine W.seq ?_
  refine W.seq (W.wi ?_)
  refine WI.runT cok tab23 hnt [] 2 2 (⟨[(0,.ptr 998 0),(5,.own 19 h.length),(20,.ptr 998 0),(21,.sl (.ints ([(4 : Int),(8 : Int),(2 : Int),(0 : Int),(12 : Int)])))],[(19,⟨35,.row (.calls h)⟩),(998,⟨44,.fix [.sl (.bytes l),.i p]⟩),(999,⟨35,.row (.calls h)⟩)],[21,19,17,998,999]⟩)
   (True ∧ (True ∧ True ∧ True ∧ True ∧ True ∧ True) ∧ True) (by kernel_rfl) rfl
   ⟨tt,⟨tt,tt,tt,tt,tt,tt⟩,tt⟩ ?_
  refine WI.call [.ptr 998 0,.sl (.ints ([(4 : Int),(8 : Int),(2 : Int),(0 : Int),(12 : Int)]))] [.sl (.bytes l),.i p] [.sl (.ints ([(4 : Int),(8 : Int),(2 : Int),(0 : Int),(12 : Int)]))] [.sl (.ints ([(4 : Int),(8 : Int),(2 : Int),(0 : Int),(12 : Int)]))] (some (44,998)) (True) (True ∧ True) none rok22 ent22 hnt rfl rfl (wanted_none rfl) (by kernel_rfl) (by kernel_rfl) (by kernel_rfl) ⟨tt,tt,tt⟩
   (@cast ((0 ≤ p ∧ p ≤ 1000000) ∧ (0 < ([(4 : Int),(8 : Int),(2 : Int),(0 : Int),(12 : Int)]).length) ∧ (([(4 : Int),(8 : Int),(2 : Int),(0 : Int),(12 : Int)]).length ≤ 1000)) _ (by kernel_rfl) ⟨(by omega),⟨(by (first | omega | (simp only [List.length_set]; done) | (simp only [List.length_append,List.length_cons,List.length_nil,List.length_take,List.length_drop,List.length_set,List.length_replicate,List.length_map] at *; omega) | assumption)),(by (first | omega | (simp only [List.length_set]; done) | (simp only [List.length_append,List.length_cons,List.length_nil,List.length_take,List.length_drop,List.length_set,List.length_replicate,List.length_map] at *; omega) | assumption))⟩⟩) (Or.inl rfl) rfl ?_
  rintro r bl fx2 hR
  obtain ⟨⟨v22,q22⟩,hq22,rfl,rfl,rfl⟩ := (@cast _ (∃ x : Int × Int,((x.1 ∈ ([(4 : Int),(8 : Int),(2 : Int),(0 : Int),(12 : Int)])) ∧ (x.2 = p + 1)) ∧ r = (.i x.1) ∧ bl = ([]) ∧ fx2 = ([.sl (.bytes l),.i x.2])) (by kernel_rfl) hR)
  clear hR
  replace hq22 : (v22 ∈ ([(4 : Int),(8 : Int),(2 : Int),(0 : Int),(12 : Int)])) ∧ (q22 = p + 1) := hq22
  obtain ⟨hv22,hq122⟩ := hq22
  simp only [List.mem_cons,List.not_mem_nil,or_false] at hv22
  refine ⟨by kernel_rfl,WI.to (⟨[(0,.ptr 998 0),(5,.own 19 h.length),(20,.ptr 998 0),(21,.sl (.ints ([(4 : Int),(8 : Int),(2 : Int),(0 : Int),(12 : Int)]))),(22,.i v22)],[(19,⟨35,.row (.calls h)⟩),(998,⟨44,.fix [.sl (.bytes l),.i q22]⟩),(999,⟨35,.row (.calls h)⟩)],[22,21,19,17,998,999]⟩) 3 (by kernel_rfl) rfl ?_⟩
  refine WI.runT cok tab23 hnt [] 1 4 (⟨[(0,.ptr 998 0),(5,.own 19 h.length),(6,.i v22),(20,.ptr 998 0),(21,.sl (.ints ([(4 : Int),(8 : Int),(2 : Int),(0 : Int),(12 : Int)]))),(22,.i v22)],[(19,⟨35,.row (.calls h)⟩),(998,⟨44,.fix [.sl (.bytes l),.i q22]⟩),(999,⟨35,.row (.calls h)⟩)],[22,21,19,17,998,999]⟩)
   (True ∧ True) (by kernel_rfl) rfl
   ⟨tt,tt⟩ ?_
  refine WI.nil rfl (thenQ_normal ?_)
  refine W.keepE [0,5,6] [(0,.ptr 998 0),(5,.own 19 h.length),(6,.i v22)] (by kernel_rfl) ?_
  refine W.to (⟨[(0,.ptr 998 0),(5,.own 19 h.length),(6,.i v22)],[(19,⟨35,.row (.calls h)⟩),(998,⟨44,.fix [.sl (.bytes l),.i q22]⟩),(999,⟨35,.row (.calls h)⟩)],[22,21,19,17,998,999]⟩) rfl ?_
  refine W.block ?_
  refine W.loop (ι := (List CallD) × Int × Int) (fun (x : (List CallD) × Int × Int) => match x with | (o,n,p1) => (⟨[(0,.ptr 998 0),(5,.own 19 o.length),(6,.i n)],[(19,⟨35,.row (.calls o)⟩),(998,⟨44,.fix [.sl (.bytes l),.i p1]⟩)],[19,998,999]⟩ : St))
   (fun (x : (List CallD) × Int × Int) => match x with | (o,n,p1) => (n ≤ 12) ∧ (p + 1 ≤ p1 ∧ p1 ≤ p + 1 + 3 * (12 - n) ∧ p1 ≤ p + 900) ∧ (GoodH o) ∧ (o.length = h.length))
   (fun (x : (List CallD) × Int × Int) => match x with | (o,n,p1) => (n.toNat : Nat)) (h,v22,q22) ?_ ?_ ?_
  ·exact (show (v22 ≤ 12) ∧ (p + 1 ≤ q22 ∧ q22 ≤ p + 1 + 3 * (12 - v22) ∧ q22 ≤ p + 900) ∧ (GoodH h) ∧ (h.length = h.length) from ⟨(by omega),(by omega),(by exact hG),(by rfl)⟩)
  ·exact Sub.of [] (@cast (((((998 : Nat) = 998) ∧ ((0 : Nat) = 0) ∧ ((998 : Nat) ∈ ([19,998,999] : List Nat))) ∧ (((19 : Nat) = 19) ∧ (h.length = h.length) ∧ ((19 : Nat) ∈ ([19,998,999] : List Nat))) ∧ (Si v22) ∧ True) ∧ ((((35 : Nat) = 35) ∧ (Sd (.calls h)) ∧ ((19 : Nat) ∈ ([19,998,999] : List Nat))) ∧ (((44 : Nat) = 44) ∧ ((Sd (.bytes l)) ∧ (Si q22) ∧ True) ∧ ((998 : Nat) ∈ ([19,998,999] : List Nat))) ∧ True) ∧ (true = true) ∧ (true = true)) _ (by kernel_rfl) ⟨⟨⟨rfl,rfl,(by decide)⟩,⟨rfl,rfl,(by decide)⟩,rfl,tt⟩,⟨⟨rfl,rfl,(by decide)⟩,⟨rfl,⟨rfl,rfl,tt⟩,(by decide)⟩,tt⟩,rfl,rfl⟩)
  ·rintro ⟨o,n,p1⟩ hC0
   have hC : (n ≤ 12) ∧ (p + 1 ≤ p1 ∧ p1 ≤ p + 1 + 3 * (12 - n) ∧ p1 ≤ p + 900) ∧ (GoodH o) ∧ (o.length = h.length) := hC0
   clear hC0
   obtain ⟨hn,hq,ho,hol⟩ := hC
   refine W.to (⟨[(0,.ptr 998 0),(5,.own 19 o.length),(6,.i n)],[(19,⟨35,.row (.calls o)⟩),(998,⟨44,.fix [.sl (.bytes l),.i p1]⟩)],[19,998,999]⟩) rfl ?_
   have ho6 := ho.1
   refine W.seq ?_
   refine Kk cok tab23 hnt [] [0,5,6,24] (⟨[(0,.ptr 998 0),(5,.own 19 o.length),(6,.i n),(24,.b (decide ((0 : Int) < n)))],[(19,⟨35,.row (.calls o)⟩),(998,⟨44,.fix [.sl (.bytes l),.i p1]⟩)],[19,998,999]⟩)
    (True ∧ (True ∧ True ∧ True) ∧ True)
    ⟨tt,⟨tt,tt,tt⟩,tt⟩ ?_
   refine W.ifP ((0 : Int) < n) (.b (decide ((0 : Int) < n))) (by kernel_rfl) rfl trivial ?_ ?_
   ·intro h24
    refine W.skip (thenQ_normal ?_)
    refine W.seq ?_
    refine W.block ?_
    refine Kk cok tab23 hnt [27,29] [0,5,6,7] (⟨[(0,.ptr 998 0),(5,.own 19 o.length),(6,.i n),(7,.own 29 o.length)],[(19,⟨35,.row (.calls o)⟩),(29,⟨35,.row (.calls o)⟩),(998,⟨44,.fix [.sl (.bytes l),.i p1]⟩)],[29,27,19,998,999]⟩)
     (True ∧ True ∧ ((True ∧ ((List.length ([] : List CallD)) = (List.length ([] : List CallD)))) ∧ (True ∧ (o.length = o.length)) ∧ (((List.length ([] : List CallD)) + o.length) * 56 ≤ 140737488355328)) ∧ True ∧ True)
     ⟨tt,tt,⟨⟨tt,rfl⟩,⟨tt,rfl⟩,(by (first | omega | (simp only [List.length_set]; done) | (simp only [List.length_append,List.length_cons,List.length_nil,List.length_take,List.length_drop,List.length_set,List.length_replicate,List.length_map] at *; omega) | assumption))⟩,tt,tt⟩ ?_
    refine W.seq (W.wi ?_)
    refine WI.runT cok tab23 hnt [] 3 3 (⟨[(0,.ptr 998 0),(5,.own 19 o.length),(6,.i n),(7,.own 29 o.length),(30,.ptr 998 0),(31,.own 29 o.length),(32,.i (o.length : Int))],[(19,⟨35,.row (.calls o)⟩),(29,⟨35,.row (.calls o)⟩),(998,⟨44,.fix [.sl (.bytes l),.i p1]⟩)],[29,27,19,998,999]⟩)
     (True ∧ True ∧ True ∧ True) (by kernel_rfl) rfl
     ⟨tt,tt,tt,tt⟩ ?_
    refine WI.call [.ptr 998 0,.i (o.length : Int)] [.sl (.bytes l),.i p1] [.i (o.length : Int)] [.i (o.length : Int)] (some (44,998)) (True) (True ∧ True) none rok21 ent21 hnt rfl rfl (wanted_none rfl) (by kernel_rfl) (by kernel_rfl) (by kernel_rfl) ⟨tt,tt,tt⟩
     (@cast (0 ≤ p1 ∧ p1 ≤ 1000000) _ (by kernel_rfl) (by omega)) (Or.inl rfl) rfl ?_
    rintro r bl fx2 hR
    obtain ⟨⟨v33,q33⟩,hq33,rfl,rfl,rfl⟩ := (@cast _ (∃ x : Int × Int,((0 ≤ x.1 ∧ x.1 < max (o.length : Int) 1) ∧ (x.2 = p1 + 1)) ∧ r = (.i x.1) ∧ bl = ([]) ∧ fx2 = ([.sl (.bytes l),.i x.2])) (by kernel_rfl) hR)
    clear hR
    replace hq33 : (0 ≤ v33 ∧ v33 < max (o.length : Int) 1) ∧ (q33 = p1 + 1) := hq33
    obtain ⟨hv33,hq133⟩ := hq33
    refine ⟨by kernel_rfl,WI.to (⟨[(0,.ptr 998 0),(5,.own 19 o.length),(6,.i n),(7,.own 29 o.length),(30,.ptr 998 0),(31,.own 29 o.length),(32,.i (o.length : Int)),(33,.i v33)],[(19,⟨35,.row (.calls o)⟩),(29,⟨35,.row (.calls o)⟩),(998,⟨44,.fix [.sl (.bytes l),.i q33]⟩)],[33,29,27,19,998,999]⟩) 4 (by kernel_rfl) rfl ?_⟩
    refine WI.runT cok tab23 hnt [] 1 5 (⟨[(0,.ptr 998 0),(5,.own 19 o.length),(6,.i n),(7,.own 29 o.length),(8,.i v33),(30,.ptr 998 0),(31,.own 29 o.length),(32,.i (o.length : Int)),(33,.i v33)],[(19,⟨35,.row (.calls o)⟩),(29,⟨35,.row (.calls o)⟩),(998,⟨44,.fix [.sl (.bytes l),.i q33]⟩)],[33,29,27,19,998,999]⟩)
     (True ∧ True) (by kernel_rfl) rfl
     ⟨tt,tt⟩ ?_
    refine WI.nil rfl (thenQ_normal ?_)
    refine W.keepE [0,5,6,7,8] [(0,.ptr 998 0),(5,.own 19 o.length),(6,.i n),(7,.own 29 o.length),(8,.i v33)] (by kernel_rfl) ?_
    refine W.to (⟨[(0,.ptr 998 0),(5,.own 19 o.length),(6,.i n),(7,.own 29 o.length),(8,.i v33)],[(19,⟨35,.row (.calls o)⟩),(29,⟨35,.row (.calls o)⟩),(998,⟨44,.fix [.sl (.bytes l),.i q33]⟩)],[33,29,27,19,998,999]⟩) rfl ?_
    refine Kk cok tab23 hnt [] [0,5,6,7,8,9] (⟨[(0,.ptr 998 0),(5,.own 19 o.length),(6,.i n),(7,.own 29 o.length),(8,.i v33),(9,.i ((o.getD (Int.toNat v33) default).frm))],[(19,⟨35,.row (.calls o)⟩),(29,⟨35,.row (.calls o)⟩),(998,⟨44,.fix [.sl (.bytes l),.i q33]⟩)],[33,29,27,19,998,999]⟩)
     (True ∧ True ∧ (True ∧ True ∧ (0 ≤ v33) ∧ (v33 < (o.length : Int))) ∧ True ∧ (True ∧ ((Int.toNat v33) < o.length)) ∧ True ∧ True)
     ⟨tt,tt,⟨tt,tt,(by omega),(by omega)⟩,tt,⟨tt,(by omega)⟩,tt,tt⟩ ?_
    refine Kk cok tab23 hnt [] [0,5,6,7,9,10] (⟨[(0,.ptr 998 0),(5,.own 19 o.length),(6,.i n),(7,.own 29 o.length),(9,.i ((o.getD (Int.toNat v33) default).frm)),(10,.i ((o.getD (Int.toNat v33) default).to))],[(19,⟨35,.row (.calls o)⟩),(29,⟨35,.row (.calls o)⟩),(998,⟨44,.fix [.sl (.bytes l),.i q33]⟩)],[33,29,27,19,998,999]⟩)
     (True ∧ True ∧ (True ∧ True ∧ (0 ≤ v33) ∧ (v33 < (o.length : Int))) ∧ True ∧ (True ∧ ((Int.toNat v33) < o.length)) ∧ True ∧ True)
     ⟨tt,tt,⟨tt,tt,(by omega),(by omega)⟩,tt,⟨tt,(by omega)⟩,tt,tt⟩ ?_
    refine W.seq ?_
    refine W.seq (W.wi ?_)
    refine WI.runT cok tab23 hnt [] 1 1 (⟨[(0,.ptr 998 0),(5,.own 19 o.length),(6,.i n),(7,.own 29 o.length),(9,.i ((o.getD (Int.toNat v33) default).frm)),(10,.i ((o.getD (Int.toNat v33) default).to)),(44,.ptr 998 0)],[(19,⟨35,.row (.calls o)⟩),(29,⟨35,.row (.calls o)⟩),(998,⟨44,.fix [.sl (.bytes l),.i q33]⟩)],[33,29,27,19,998,999]⟩)
     (True ∧ True) (by kernel_rfl) rfl
     ⟨tt,tt⟩ ?_
    refine WI.call [.ptr 998 0,.i (2 : Int)] [.sl (.bytes l),.i q33] [.i (2 : Int)] [.i (2 : Int)] (some (44,998)) (True) (True ∧ True) none rok21 ent21 hnt rfl rfl (wanted_none rfl) (by kernel_rfl) (by kernel_rfl) (by kernel_rfl) ⟨tt,tt,tt⟩
     (@cast (0 ≤ q33 ∧ q33 ≤ 1000000) _ (by kernel_rfl) (by omega)) (Or.inl rfl) rfl ?_
    rintro r bl fx2 hR
    obtain ⟨⟨v45,q45⟩,hq45,rfl,rfl,rfl⟩ := (@cast _ (∃ x : Int × Int,((0 ≤ x.1 ∧ x.1 < max (2 : Int) 1) ∧ (x.2 = q33 + 1)) ∧ r = (.i x.1) ∧ bl = ([]) ∧ fx2 = ([.sl (.bytes l),.i x.2])) (by kernel_rfl) hR)
    clear hR
    replace hq45 : (0 ≤ v45 ∧ v45 < max (2 : Int) 1) ∧ (q45 = q33 + 1) := hq45
    obtain ⟨hv45,hq145⟩ := hq45
    refine ⟨by kernel_rfl,WI.to (⟨[(0,.ptr 998 0),(5,.own 19 o.length),(6,.i n),(7,.own 29 o.length),(9,.i ((o.getD (Int.toNat v33) default).frm)),(10,.i ((o.getD (Int.toNat v33) default).to)),(44,.ptr 998 0),(45,.i v45)],[(19,⟨35,.row (.calls o)⟩),(29,⟨35,.row (.calls o)⟩),(998,⟨44,.fix [.sl (.bytes l),.i q45]⟩)],[45,33,29,27,19,998,999]⟩) 2 (by kernel_rfl) rfl ?_⟩
    refine WI.runT cok tab23 hnt [] 1 3 (⟨[(0,.ptr 998 0),(5,.own 19 o.length),(6,.i n),(7,.own 29 o.length),(9,.i ((o.getD (Int.toNat v33) default).frm)),(10,.i ((o.getD (Int.toNat v33) default).to)),(44,.ptr 998 0),(45,.i v45),(46,.b (decide (v45 = (0 : Int))))],[(19,⟨35,.row (.calls o)⟩),(29,⟨35,.row (.calls o)⟩),(998,⟨44,.fix [.sl (.bytes l),.i q45]⟩)],[45,33,29,27,19,998,999]⟩)
     ((True ∧ True ∧ True) ∧ True) (by kernel_rfl) rfl
     ⟨⟨tt,tt,tt⟩,tt⟩ ?_
    refine WI.nil rfl (thenQ_normal ?_)
    refine W.keepE [0,5,6,7,9,10,46] [(0,.ptr 998 0),(5,.own 19 o.length),(6,.i n),(7,.own 29 o.length),(9,.i ((o.getD (Int.toNat v33) default).frm)),(10,.i ((o.getD (Int.toNat v33) default).to)),(46,.b (decide (v45 = (0 : Int))))] (by kernel_rfl) ?_
    refine W.to (⟨[(0,.ptr 998 0),(5,.own 19 o.length),(6,.i n),(7,.own 29 o.length),(9,.i ((o.getD (Int.toNat v33) default).frm)),(10,.i ((o.getD (Int.toNat v33) default).to)),(46,.b (decide (v45 = (0 : Int))))],[(19,⟨35,.row (.calls o)⟩),(29,⟨35,.row (.calls o)⟩),(998,⟨44,.fix [.sl (.bytes l),.i q45]⟩)],[45,33,29,27,19,998,999]⟩) rfl ?_
    refine W.meetT (ι := Int) (fun (a : Int) => (⟨[(0,.ptr 998 0),(5,.own 19 o.length),(6,.i n),(7,.own 29 o.length),(9,.i a)],[(19,⟨35,.row (.calls o)⟩),(29,⟨35,.row (.calls o)⟩),(998,⟨44,.fix [.sl (.bytes l),.i q45]⟩)],[19,29,998,999]⟩ : St)) (fun (a : Int) => (-100 ≤ a ∧ a ≤ 100)) ?_ ?_
    ·skip
     refine W.ifP (v45 = (0 : Int)) (.b (decide (v45 = (0 : Int)))) (by kernel_rfl) rfl trivial ?_ ?_
     ·intro h46
      refine Lk cok tab23 hnt [] (⟨[(0,.ptr 998 0),(5,.own 19 o.length),(6,.i n),(7,.own 29 o.length),(9,.i ((o.getD (Int.toNat v33) default).to)),(10,.i ((o.getD (Int.toNat v33) default).to)),(46,.b (decide (v45 = (0 : Int)))),(47,.i ((o.getD (Int.toNat v33) default).to))],[(19,⟨35,.row (.calls o)⟩),(29,⟨35,.row (.calls o)⟩),(998,⟨44,.fix [.sl (.bytes l),.i q45]⟩)],[45,33,29,27,19,998,999]⟩)
       (True ∧ True ∧ True)
       ⟨tt,tt,tt⟩ ?_
      refine thenQ_normal ?_
      refine ⟨(((o.getD (Int.toNat v33) default).to)),(show (-100 ≤ ((o.getD (Int.toNat v33) default).to) ∧ ((o.getD (Int.toNat v33) default).to) ≤ 100) from (by have hs := ho.at (i := Int.toNat v33) (by omega); unfold smallC at hs; omega)),?_⟩
      exact Sub.of [] (@cast (((((998 : Nat) = 998) ∧ ((0 : Nat) = 0) ∧ ((998 : Nat) ∈ ([19,29,998,999] : List Nat))) ∧ (((19 : Nat) = 19) ∧ (o.length = o.length) ∧ ((19 : Nat) ∈ ([19,29,998,999] : List Nat))) ∧ (Si n) ∧ (((29 : Nat) = 29) ∧ (o.length = o.length) ∧ ((29 : Nat) ∈ ([19,29,998,999] : List Nat))) ∧ (Si ((o.getD (Int.toNat v33) default).to)) ∧ True) ∧ ((((35 : Nat) = 35) ∧ (Sd (.calls o)) ∧ ((19 : Nat) ∈ ([19,29,998,999] : List Nat))) ∧ (((35 : Nat) = 35) ∧ (Sd (.calls o)) ∧ ((29 : Nat) ∈ ([19,29,998,999] : List Nat))) ∧ (((44 : Nat) = 44) ∧ ((Sd (.bytes l)) ∧ (Si q45) ∧ True) ∧ ((998 : Nat) ∈ ([19,29,998,999] : List Nat))) ∧ True) ∧ (true = true) ∧ (true = true)) _ (by kernel_rfl) ⟨⟨⟨rfl,rfl,(by decide)⟩,⟨rfl,rfl,(by decide)⟩,rfl,⟨rfl,rfl,(by decide)⟩,rfl,tt⟩,⟨⟨rfl,rfl,(by decide)⟩,⟨rfl,rfl,(by decide)⟩,⟨rfl,⟨rfl,rfl,tt⟩,(by decide)⟩,tt⟩,rfl,rfl⟩)
     ·intro n46
      refine W.skip (thenQ_normal ?_)
      refine ⟨(((o.getD (Int.toNat v33) default).frm)),(show (-100 ≤ ((o.getD (Int.toNat v33) default).frm) ∧ ((o.getD (Int.toNat v33) default).frm) ≤ 100) from (by have hs := ho.at (i := Int.toNat v33) (by omega); unfold smallC at hs; omega)),?_⟩
      exact Sub.of [] (@cast (((((998 : Nat) = 998) ∧ ((0 : Nat) = 0) ∧ ((998 : Nat) ∈ ([19,29,998,999] : List Nat))) ∧ (((19 : Nat) = 19) ∧ (o.length = o.length) ∧ ((19 : Nat) ∈ ([19,29,998,999] : List Nat))) ∧ (Si n) ∧ (((29 : Nat) = 29) ∧ (o.length = o.length) ∧ ((29 : Nat) ∈ ([19,29,998,999] : List Nat))) ∧ (Si ((o.getD (Int.toNat v33) default).frm)) ∧ True) ∧ ((((35 : Nat) = 35) ∧ (Sd (.calls o)) ∧ ((19 : Nat) ∈ ([19,29,998,999] : List Nat))) ∧ (((35 : Nat) = 35) ∧ (Sd (.calls o)) ∧ ((29 : Nat) ∈ ([19,29,998,999] : List Nat))) ∧ (((44 : Nat) = 44) ∧ ((Sd (.bytes l)) ∧ (Si q45) ∧ True) ∧ ((998 : Nat) ∈ ([19,29,998,999] : List Nat))) ∧ True) ∧ (true = true) ∧ (true = true)) _ (by kernel_rfl) ⟨⟨⟨rfl,rfl,(by decide)⟩,⟨rfl,rfl,(by decide)⟩,rfl,⟨rfl,rfl,(by decide)⟩,rfl,tt⟩,⟨⟨rfl,rfl,(by decide)⟩,⟨rfl,rfl,(by decide)⟩,⟨rfl,⟨rfl,rfl,tt⟩,(by decide)⟩,tt⟩,rfl,rfl⟩)
    ·rintro a hC0
     have hC : (-100 ≤ a ∧ a ≤ 100) := hC0
     clear hC0
     obtain ha := hC
     refine W.to (⟨[(0,.ptr 998 0),(5,.own 19 o.length),(6,.i n),(7,.own 29 o.length),(9,.i a)],[(19,⟨35,.row (.calls o)⟩),(29,⟨35,.row (.calls o)⟩),(998,⟨44,.fix [.sl (.bytes l),.i q45]⟩)],[19,29,998,999]⟩) rfl ?_
     refine W.seq (W.wi ?_)
     refine WI.runT cok tab23 hnt [] 2 2 (⟨[(0,.ptr 998 0),(5,.own 19 o.length),(6,.i n),(7,.own 29 o.length),(9,.i a),(48,.ptr 998 0),(49,.sl (.ints ([(1 : Int),(-1 : Int)])))],[(19,⟨35,.row (.calls o)⟩),(29,⟨35,.row (.calls o)⟩),(998,⟨44,.fix [.sl (.bytes l),.i q45]⟩)],[49,19,29,998,999]⟩)
      (True ∧ (True ∧ True ∧ True) ∧ True) (by kernel_rfl) rfl
      ⟨tt,⟨tt,tt,tt⟩,tt⟩ ?_
     refine WI.call [.ptr 998 0,.sl (.ints ([(1 : Int),(-1 : Int)]))] [.sl (.bytes l),.i q45] [.sl (.ints ([(1 : Int),(-1 : Int)]))] [.sl (.ints ([(1 : Int),(-1 : Int)]))] (some (44,998)) (True) (True ∧ True) none rok22 ent22 hnt rfl rfl (wanted_none rfl) (by kernel_rfl) (by kernel_rfl) (by kernel_rfl) ⟨tt,tt,tt⟩
      (@cast ((0 ≤ q45 ∧ q45 ≤ 1000000) ∧ (0 < ([(1 : Int),(-1 : Int)]).length) ∧ (([(1 : Int),(-1 : Int)]).length ≤ 1000)) _ (by kernel_rfl) ⟨(by omega),⟨(by (first | omega | (simp only [List.length_set]; done) | (simp only [List.length_append,List.length_cons,List.length_nil,List.length_take,List.length_drop,List.length_set,List.length_replicate,List.length_map] at *; omega) | assumption)),(by (first | omega | (simp only [List.length_set]; done) | (simp only [List.length_append,List.length_cons,List.length_nil,List.length_take,List.length_drop,List.length_set,List.length_replicate,List.length_map] at *; omega) | assumption))⟩⟩) (Or.inl rfl) rfl ?_
     rintro r bl fx2 hR
     obtain ⟨⟨v50,q50⟩,hq50,rfl,rfl,rfl⟩ := (@cast _ (∃ x : Int × Int,((x.1 ∈ ([(1 : Int),(-1 : Int)])) ∧ (x.2 = q45 + 1)) ∧ r = (.i x.1) ∧ bl = ([]) ∧ fx2 = ([.sl (.bytes l),.i x.2])) (by kernel_rfl) hR)
     clear hR
     replace hq50 : (v50 ∈ ([(1 : Int),(-1 : Int)])) ∧ (q50 = q45 + 1) := hq50
     obtain ⟨hv50,hq150⟩ := hq50
     simp only [List.mem_cons,List.not_mem_nil,or_false] at hv50
     refine ⟨by kernel_rfl,WI.to (⟨[(0,.ptr 998 0),(5,.own 19 o.length),(6,.i n),(7,.own 29 o.length),(9,.i a),(48,.ptr 998 0),(49,.sl (.ints ([(1 : Int),(-1 : Int)]))),(50,.i v50)],[(19,⟨35,.row (.calls o)⟩),(29,⟨35,.row (.calls o)⟩),(998,⟨44,.fix [.sl (.bytes l),.i q50]⟩)],[50,49,19,29,998,999]⟩) 3 (by kernel_rfl) rfl ?_⟩
     refine WI.runT cok tab23 hnt [] 1 4 (⟨[(0,.ptr 998 0),(5,.own 19 o.length),(6,.i n),(7,.own 29 o.length),(9,.i a),(11,.i v50),(48,.ptr 998 0),(49,.sl (.ints ([(1 : Int),(-1 : Int)]))),(50,.i v50)],[(19,⟨35,.row (.calls o)⟩),(29,⟨35,.row (.calls o)⟩),(998,⟨44,.fix [.sl (.bytes l),.i q50]⟩)],[50,49,19,29,998,999]⟩)
      (True ∧ True) (by kernel_rfl) rfl
      ⟨tt,tt⟩ ?_
     refine WI.nil rfl (thenQ_normal ?_)
     refine W.keepE [0,5,6,7,9,11] [(0,.ptr 998 0),(5,.own 19 o.length),(6,.i n),(7,.own 29 o.length),(9,.i a),(11,.i v50)] (by kernel_rfl) ?_
     refine W.to (⟨[(0,.ptr 998 0),(5,.own 19 o.length),(6,.i n),(7,.own 29 o.length),(9,.i a),(11,.i v50)],[(19,⟨35,.row (.calls o)⟩),(29,⟨35,.row (.calls o)⟩),(998,⟨44,.fix [.sl (.bytes l),.i q50]⟩)],[50,49,19,29,998,999]⟩) rfl ?_
     refine W.seq ?_
     refine Kk cok tab23 hnt [] [0,5,6,7,9,11,12] (⟨[(0,.ptr 998 0),(5,.own 19 o.length),(6,.i n),(7,.own 29 o.length),(9,.i a),(11,.i v50),(12,.i (0 : Int))],[(19,⟨35,.row (.calls o)⟩),(29,⟨35,.row (.calls o)⟩),(998,⟨44,.fix [.sl (.bytes l),.i q50]⟩)],[50,49,19,29,998,999]⟩)
      (True ∧ True)
      ⟨tt,tt⟩ ?_
     refine W.block ?_
     refine W.loop (ι := Nat × (List CallD)) (fun (x : Nat × (List CallD)) => match x with | (k,xs) => (⟨[(0,.ptr 998 0),(5,.own 19 o.length),(6,.i n),(7,.own 29 o.length),(9,.i a),(11,.i v50),(12,.i ((k : Nat) : Int))],[(19,⟨35,.row (.calls o)⟩),(29,⟨35,.row (.calls xs)⟩),(998,⟨44,.fix [.sl (.bytes l),.i q50]⟩)],[19,29,998,999]⟩ : St))
      (fun (x : Nat × (List CallD)) => match x with | (k,xs) => (k ≤ o.length) ∧ (xs.length = o.length))
      (fun (x : Nat × (List CallD)) => match x with | (k,xs) => (o.length - k : Nat)) (0,o) ?_ ?_ ?_
     ·exact (show (0 ≤ o.length) ∧ (o.length = o.length) from ⟨(by first | assumption | omega | rfl | (intro _ hjj; omega) | (simp; done) | (simp; omega)),(by first | assumption | omega | rfl | (intro _ hjj; omega) | (simp; done) | (simp; omega))⟩)
     ·exact Sub.of [] (@cast (((((998 : Nat) = 998) ∧ ((0 : Nat) = 0) ∧ ((998 : Nat) ∈ ([19,29,998,999] : List Nat))) ∧ (((19 : Nat) = 19) ∧ (o.length = o.length) ∧ ((19 : Nat) ∈ ([19,29,998,999] : List Nat))) ∧ (Si n) ∧ (((29 : Nat) = 29) ∧ (o.length = o.length) ∧ ((29 : Nat) ∈ ([19,29,998,999] : List Nat))) ∧ (Si a) ∧ (Si v50) ∧ ((.int .i64 (0 : Int) : Value) = .int .i64 ((0 : Nat) : Int)) ∧ True) ∧ ((((35 : Nat) = 35) ∧ (Sd (.calls o)) ∧ ((19 : Nat) ∈ ([19,29,998,999] : List Nat))) ∧ (((35 : Nat) = 35) ∧ (Sd (.calls o)) ∧ ((29 : Nat) ∈ ([19,29,998,999] : List Nat))) ∧ (((44 : Nat) = 44) ∧ ((Sd (.bytes l)) ∧ (Si q50) ∧ True) ∧ ((998 : Nat) ∈ ([19,29,998,999] : List Nat))) ∧ True) ∧ (true = true) ∧ (true = true)) _ (by kernel_rfl) ⟨⟨⟨rfl,rfl,(by decide)⟩,⟨rfl,rfl,(by decide)⟩,rfl,⟨rfl,rfl,(by decide)⟩,rfl,rfl,(congrArg (Value.int .i64) (by first | rfl | omega | assumption | simp | simp_all)),tt⟩,⟨⟨rfl,rfl,(by decide)⟩,⟨rfl,rfl,(by decide)⟩,⟨rfl,⟨rfl,rfl,tt⟩,(by decide)⟩,tt⟩,rfl,rfl⟩)
     ·rintro ⟨k,xs⟩ hC0
      have hC : (k ≤ o.length) ∧ (xs.length = o.length) := hC0
      clear hC0
      obtain ⟨hk,hx⟩ := hC
      refine W.to (⟨[(0,.ptr 998 0),(5,.own 19 o.length),(6,.i n),(7,.own 29 o.length),(9,.i a),(11,.i v50),(12,.i ((k : Nat) : Int))],[(19,⟨35,.row (.calls o)⟩),(29,⟨35,.row (.calls xs)⟩),(998,⟨44,.fix [.sl (.bytes l),.i q50]⟩)],[19,29,998,999]⟩) rfl ?_
      refine W.seq ?_
      refine Kk cok tab23 hnt [] [0,5,6,7,9,11,12,54] (⟨[(0,.ptr 998 0),(5,.own 19 o.length),(6,.i n),(7,.own 29 o.length),(9,.i a),(11,.i v50),(12,.i ((k : Nat) : Int)),(54,.b (decide (((k : Nat) : Int) < (o.length : Int))))],[(19,⟨35,.row (.calls o)⟩),(29,⟨35,.row (.calls xs)⟩),(998,⟨44,.fix [.sl (.bytes l),.i q50]⟩)],[19,29,998,999]⟩)
       (True ∧ True ∧ True ∧ (True ∧ True ∧ True) ∧ True)
       ⟨tt,tt,tt,⟨tt,tt,tt⟩,tt⟩ ?_
      refine W.ifP (((k : Nat) : Int) < (o.length : Int)) (.b (decide (((k : Nat) : Int) < (o.length : Int)))) (by kernel_rfl) rfl trivial ?_ ?_
      ·intro h54
       refine W.skip (thenQ_normal ?_)
       refine W.seq ?_
       refine W.block ?_
       refine W.seq ?_
       refine Kk cok tab23 hnt [] [0,5,6,7,9,11,12,65] (⟨[(0,.ptr 998 0),(5,.own 19 o.length),(6,.i n),(7,.own 29 o.length),(9,.i a),(11,.i v50),(12,.i ((k : Nat) : Int)),(65,.b (decide (((xs.getD k default).frm) = (a + v50))))],[(19,⟨35,.row (.calls o)⟩),(29,⟨35,.row (.calls xs)⟩),(998,⟨44,.fix [.sl (.bytes l),.i q50]⟩)],[19,29,998,999]⟩)
        (True ∧ True ∧ (True ∧ True ∧ (0 ≤ ((k : Nat) : Int)) ∧ (((k : Nat) : Int) < (o.length : Int))) ∧ True ∧ (True ∧ (k < xs.length)) ∧ True ∧ True ∧ (True ∧ True ∧ (Fits .i64 (a + v50))) ∧ (True ∧ True ∧ True) ∧ True)
        ⟨tt,tt,⟨tt,tt,(by omega),(by omega)⟩,tt,⟨tt,(by omega)⟩,tt,tt,⟨tt,tt,(by exact fits_i64 (by omega) (by omega))⟩,⟨tt,tt,tt⟩,tt⟩ ?_
       refine W.ifP (((xs.getD k default).frm) = (a + v50)) (.b (decide (((xs.getD k default).frm) = (a + v50)))) (by kernel_rfl) rfl trivial ?_ ?_
       ·intro h65
        refine Lk cok tab23 hnt [] (⟨[(0,.ptr 998 0),(5,.own 19 o.length),(6,.i n),(7,.own 29 o.length),(9,.i a),(11,.i v50),(12,.i ((k : Nat) : Int)),(65,.b (decide (((xs.getD k default).frm) = (a + v50)))),(66,.own 29 o.length),(67,.i ((k : Nat) : Int)),(68,.i a),(69,.pel 29 7 k 0),(70,.pel 29 7 k 5)],[(19,⟨35,.row (.calls o)⟩),(29,⟨35,.row (.calls (List.set xs k ({ xs.getD k default with frm := a })))⟩),(998,⟨44,.fix [.sl (.bytes l),.i q50]⟩)],[19,29,998,999]⟩)
         (True ∧ True ∧ True ∧ (True ∧ True ∧ (0 ≤ ((k : Nat) : Int)) ∧ (((k : Nat) : Int) < (o.length : Int))) ∧ True ∧ (True ∧ True ∧ (k < xs.length)) ∧ True)
         ⟨tt,tt,tt,⟨tt,tt,(by omega),(by omega)⟩,tt,⟨tt,tt,(by omega)⟩,tt⟩ ?_
        refine thenQ_normal ?_
        refine Kk cok tab23 hnt [] [0,5,6,7,9,11,12,93] (⟨[(0,.ptr 998 0),(5,.own 19 o.length),(6,.i n),(7,.own 29 o.length),(9,.i a),(11,.i v50),(12,.i ((k : Nat) : Int)),(93,.b (decide (((List.getD (List.set xs k ({ xs.getD k default with frm := a })) k default).to) = (a + v50))))],[(19,⟨35,.row (.calls o)⟩),(29,⟨35,.row (.calls (List.set xs k ({ xs.getD k default with frm := a })))⟩),(998,⟨44,.fix [.sl (.bytes l),.i q50]⟩)],[19,29,998,999]⟩)
         (True ∧ True ∧ (True ∧ True ∧ (0 ≤ ((k : Nat) : Int)) ∧ (((k : Nat) : Int) < (o.length : Int))) ∧ True ∧ (True ∧ (k < (List.length (List.set xs k ({ xs.getD k default with frm := a }))))) ∧ True ∧ True ∧ (True ∧ True ∧ (Fits .i64 (a + v50))) ∧ (True ∧ True ∧ True) ∧ True)
         ⟨tt,tt,⟨tt,tt,(by omega),(by omega)⟩,tt,⟨tt,(by (first | omega | (simp only [List.length_set]; done) | (simp only [List.length_append,List.length_cons,List.length_nil,List.length_take,List.length_drop,List.length_set,List.length_replicate,List.length_map] at *; omega) | assumption))⟩,tt,tt,⟨tt,tt,(by exact fits_i64 (by omega) (by omega))⟩,⟨tt,tt,tt⟩,tt⟩ ?_
        refine W.ifP (((List.getD (List.set xs k ({ xs.getD k default with frm := a })) k default).to) = (a + v50)) (.b (decide (((List.getD (List.set xs k ({ xs.getD k default with frm := a })) k default).to) = (a + v50)))) (by kernel_rfl) rfl trivial ?_ ?_
        ·intro h93
         refine Lk cok tab23 hnt [] (⟨[(0,.ptr 998 0),(5,.own 19 o.length),(6,.i n),(7,.own 29 o.length),(9,.i a),(11,.i v50),(12,.i ((k : Nat) : Int)),(93,.b (decide (((List.getD (List.set xs k ({ xs.getD k default with frm := a })) k default).to) = (a + v50)))),(94,.own 29 o.length),(95,.i ((k : Nat) : Int)),(96,.i a),(97,.pel 29 7 k 0),(98,.pel 29 7 k 6)],[(19,⟨35,.row (.calls o)⟩),(29,⟨35,.row (.calls (List.set (List.set xs k ({ xs.getD k default with frm := a })) k ({ List.getD (List.set xs k ({ xs.getD k default with frm := a })) k default with to := a })))⟩),(998,⟨44,.fix [.sl (.bytes l),.i q50]⟩)],[19,29,998,999]⟩)
          (True ∧ True ∧ True ∧ (True ∧ True ∧ (0 ≤ ((k : Nat) : Int)) ∧ (((k : Nat) : Int) < (o.length : Int))) ∧ True ∧ (True ∧ True ∧ (k < (List.length (List.set xs k ({ xs.getD k default with frm := a }))))) ∧ True)
          ⟨tt,tt,tt,⟨tt,tt,(by omega),(by omega)⟩,tt,⟨tt,tt,(by (first | omega | (simp only [List.length_set]; done) | (simp only [List.length_append,List.length_cons,List.length_nil,List.length_take,List.length_drop,List.length_set,List.length_replicate,List.length_map] at *; omega) | assumption))⟩,tt⟩ ?_
         refine blockQ_normal (thenQ_normal ?_)
         refine Lk cok tab23 hnt [] (⟨[(0,.ptr 998 0),(5,.own 19 o.length),(6,.i n),(7,.own 29 o.length),(9,.i a),(11,.i v50),(12,.i (((k + 1) : Nat) : Int)),(55,.i ((k : Nat) : Int)),(56,.i (((k + 1) : Nat) : Int)),(93,.b (decide (((List.getD (List.set xs k ({ xs.getD k default with frm := a })) k default).to) = (a + v50)))),(94,.own 29 o.length),(95,.i ((k : Nat) : Int)),(96,.i a),(97,.pel 29 7 k 0),(98,.pel 29 7 k 6)],[(19,⟨35,.row (.calls o)⟩),(29,⟨35,.row (.calls (List.set (List.set xs k ({ xs.getD k default with frm := a })) k ({ List.getD (List.set xs k ({ xs.getD k default with frm := a })) k default with to := a })))⟩),(998,⟨44,.fix [.sl (.bytes l),.i q50]⟩)],[19,29,998,999]⟩)
          (True ∧ (True ∧ True ∧ (Fits .i64 (((k + 1) : Nat) : Int))) ∧ True ∧ True)
          ⟨tt,⟨tt,tt,(by exact fits_i64 (by omega) (by omega))⟩,tt,tt⟩ ?_
         refine thenQ_normal ?_
         refine ⟨((k + 1),(List.set (List.set xs k ({ xs.getD k default with frm := a })) k ({ List.getD (List.set xs k ({ xs.getD k default with frm := a })) k default with to := a }))),(show ((k + 1) ≤ o.length) ∧ ((List.set (List.set xs k ({ xs.getD k default with frm := a })) k ({ List.getD (List.set xs k ({ xs.getD k default with frm := a })) k default with to := a })).length = o.length) from ⟨(by first | assumption | omega | rfl | (intro _ hjj; omega) | (simp; done) | (simp; omega)),(by first | assumption | (simp only [List.length_set]; assumption))⟩),(show o.length - (k + 1) < o.length - k from (by first | omega | (simp_all; omega))),?_⟩
         exact Sub.of [] (@cast (((((998 : Nat) = 998) ∧ ((0 : Nat) = 0) ∧ ((998 : Nat) ∈ ([19,29,998,999] : List Nat))) ∧ (((19 : Nat) = 19) ∧ (o.length = o.length) ∧ ((19 : Nat) ∈ ([19,29,998,999] : List Nat))) ∧ (Si n) ∧ (((29 : Nat) = 29) ∧ (o.length = o.length) ∧ ((29 : Nat) ∈ ([19,29,998,999] : List Nat))) ∧ (Si a) ∧ (Si v50) ∧ (Si (((k + 1) : Nat) : Int)) ∧ True) ∧ ((((35 : Nat) = 35) ∧ (Sd (.calls o)) ∧ ((19 : Nat) ∈ ([19,29,998,999] : List Nat))) ∧ (((35 : Nat) = 35) ∧ (Sd (.calls (List.set (List.set xs k ({ xs.getD k default with frm := a })) k ({ List.getD (List.set xs k ({ xs.getD k default with frm := a })) k default with to := a })))) ∧ ((29 : Nat) ∈ ([19,29,998,999] : List Nat))) ∧ (((44 : Nat) = 44) ∧ ((Sd (.bytes l)) ∧ (Si q50) ∧ True) ∧ ((998 : Nat) ∈ ([19,29,998,999] : List Nat))) ∧ True) ∧ (true = true) ∧ (true = true)) _ (by kernel_rfl) ⟨⟨⟨rfl,rfl,(by decide)⟩,⟨rfl,rfl,(by decide)⟩,rfl,⟨rfl,rfl,(by decide)⟩,rfl,rfl,rfl,tt⟩,⟨⟨rfl,rfl,(by decide)⟩,⟨rfl,rfl,(by decide)⟩,⟨rfl,⟨rfl,rfl,tt⟩,(by decide)⟩,tt⟩,rfl,rfl⟩)
        ·intro n93
         refine Kk cok tab23 hnt [] [0,5,6,7,9,11,12,105] (⟨[(0,.ptr 998 0),(5,.own 19 o.length),(6,.i n),(7,.own 29 o.length),(9,.i a),(11,.i v50),(12,.i ((k : Nat) : Int)),(105,.b (decide (((List.getD (List.set xs k ({ xs.getD k default with frm := a })) k default).to) = a)))],[(19,⟨35,.row (.calls o)⟩),(29,⟨35,.row (.calls (List.set xs k ({ xs.getD k default with frm := a })))⟩),(998,⟨44,.fix [.sl (.bytes l),.i q50]⟩)],[19,29,998,999]⟩)
          (True ∧ True ∧ (True ∧ True ∧ (0 ≤ ((k : Nat) : Int)) ∧ (((k : Nat) : Int) < (o.length : Int))) ∧ True ∧ (True ∧ (k < (List.length (List.set xs k ({ xs.getD k default with frm := a }))))) ∧ True ∧ (True ∧ True ∧ True) ∧ True)
          ⟨tt,tt,⟨tt,tt,(by omega),(by omega)⟩,tt,⟨tt,(by (first | omega | (simp only [List.length_set]; done) | (simp only [List.length_append,List.length_cons,List.length_nil,List.length_take,List.length_drop,List.length_set,List.length_replicate,List.length_map] at *; omega) | assumption))⟩,tt,⟨tt,tt,tt⟩,tt⟩ ?_
         refine W.ifP (((List.getD (List.set xs k ({ xs.getD k default with frm := a })) k default).to) = a) (.b (decide (((List.getD (List.set xs k ({ xs.getD k default with frm := a })) k default).to) = a))) (by kernel_rfl) rfl trivial ?_ ?_
         ·intro h105
          refine Lk cok tab23 hnt [] (⟨[(0,.ptr 998 0),(5,.own 19 o.length),(6,.i n),(7,.own 29 o.length),(9,.i a),(11,.i v50),(12,.i ((k : Nat) : Int)),(105,.b (decide (((List.getD (List.set xs k ({ xs.getD k default with frm := a })) k default).to) = a))),(106,.own 29 o.length),(107,.i ((k : Nat) : Int)),(108,.i a),(109,.i v50),(110,.i (a + v50)),(111,.pel 29 7 k 0),(112,.pel 29 7 k 6)],[(19,⟨35,.row (.calls o)⟩),(29,⟨35,.row (.calls (List.set (List.set xs k ({ xs.getD k default with frm := a })) k ({ List.getD (List.set xs k ({ xs.getD k default with frm := a })) k default with to := (a + v50) })))⟩),(998,⟨44,.fix [.sl (.bytes l),.i q50]⟩)],[19,29,998,999]⟩)
           (True ∧ True ∧ True ∧ True ∧ (True ∧ True ∧ (Fits .i64 (a + v50))) ∧ (True ∧ True ∧ (0 ≤ ((k : Nat) : Int)) ∧ (((k : Nat) : Int) < (o.length : Int))) ∧ True ∧ (True ∧ True ∧ (k < (List.length (List.set xs k ({ xs.getD k default with frm := a }))))) ∧ True)
           ⟨tt,tt,tt,tt,⟨tt,tt,(by exact fits_i64 (by omega) (by omega))⟩,⟨tt,tt,(by omega),(by omega)⟩,tt,⟨tt,tt,(by (first | omega | (simp only [List.length_set]; done) | (simp only [List.length_append,List.length_cons,List.length_nil,List.length_take,List.length_drop,List.length_set,List.length_replicate,List.length_map] at *; omega) | assumption))⟩,tt⟩ ?_
          refine blockQ_normal (thenQ_normal ?_)
          refine Lk cok tab23 hnt [] (⟨[(0,.ptr 998 0),(5,.own 19 o.length),(6,.i n),(7,.own 29 o.length),(9,.i a),(11,.i v50),(12,.i (((k + 1) : Nat) : Int)),(55,.i ((k : Nat) : Int)),(56,.i (((k + 1) : Nat) : Int)),(105,.b (decide (((List.getD (List.set xs k ({ xs.getD k default with frm := a })) k default).to) = a))),(106,.own 29 o.length),(107,.i ((k : Nat) : Int)),(108,.i a),(109,.i v50),(110,.i (a + v50)),(111,.pel 29 7 k 0),(112,.pel 29 7 k 6)],[(19,⟨35,.row (.calls o)⟩),(29,⟨35,.row (.calls (List.set (List.set xs k ({ xs.getD k default with frm := a })) k ({ List.getD (List.set xs k ({ xs.getD k default with frm := a })) k default with to := (a + v50) })))⟩),(998,⟨44,.fix [.sl (.bytes l),.i q50]⟩)],[19,29,998,999]⟩)
           (True ∧ (True ∧ True ∧ (Fits .i64 (((k + 1) : Nat) : Int))) ∧ True ∧ True)
           ⟨tt,⟨tt,tt,(by exact fits_i64 (by omega) (by omega))⟩,tt,tt⟩ ?_
          refine thenQ_normal ?_
          refine ⟨((k + 1),(List.set (List.set xs k ({ xs.getD k default with frm := a })) k ({ List.getD (List.set xs k ({ xs.getD k default with frm := a })) k default with to := (a + v50) }))),(show ((k + 1) ≤ o.length) ∧ ((List.set (List.set xs k ({ xs.getD k default with frm := a })) k ({ List.getD (List.set xs k ({ xs.getD k default with frm := a })) k default with to := (a + v50) })).length = o.length) from ⟨(by first | assumption | omega | rfl | (intro _ hjj; omega) | (simp; done) | (simp; omega)),(by first | assumption | (simp only [List.length_set]; assumption))⟩),(show o.length - (k + 1) < o.length - k from (by first | omega | (simp_all; omega))),?_⟩
          exact Sub.of [] (@cast (((((998 : Nat) = 998) ∧ ((0 : Nat) = 0) ∧ ((998 : Nat) ∈ ([19,29,998,999] : List Nat))) ∧ (((19 : Nat) = 19) ∧ (o.length = o.length) ∧ ((19 : Nat) ∈ ([19,29,998,999] : List Nat))) ∧ (Si n) ∧ (((29 : Nat) = 29) ∧ (o.length = o.length) ∧ ((29 : Nat) ∈ ([19,29,998,999] : List Nat))) ∧ (Si a) ∧ (Si v50) ∧ (Si (((k + 1) : Nat) : Int)) ∧ True) ∧ ((((35 : Nat) = 35) ∧ (Sd (.calls o)) ∧ ((19 : Nat) ∈ ([19,29,998,999] : List Nat))) ∧ (((35 : Nat) = 35) ∧ (Sd (.calls (List.set (List.set xs k ({ xs.getD k default with frm := a })) k ({ List.getD (List.set xs k ({ xs.getD k default with frm := a })) k default with to := (a + v50) })))) ∧ ((29 : Nat) ∈ ([19,29,998,999] : List Nat))) ∧ (((44 : Nat) = 44) ∧ ((Sd (.bytes l)) ∧ (Si q50) ∧ True) ∧ ((998 : Nat) ∈ ([19,29,998,999] : List Nat))) ∧ True) ∧ (true = true) ∧ (true = true)) _ (by kernel_rfl) ⟨⟨⟨rfl,rfl,(by decide)⟩,⟨rfl,rfl,(by decide)⟩,rfl,⟨rfl,rfl,(by decide)⟩,rfl,rfl,rfl,tt⟩,⟨⟨rfl,rfl,(by decide)⟩,⟨rfl,rfl,(by decide)⟩,⟨rfl,⟨rfl,rfl,tt⟩,(by decide)⟩,tt⟩,rfl,rfl⟩)
         ·intro n105
          refine W.skip (blockQ_normal (thenQ_normal ?_))
          refine Lk cok tab23 hnt [] (⟨[(0,.ptr 998 0),(5,.own 19 o.length),(6,.i n),(7,.own 29 o.length),(9,.i a),(11,.i v50),(12,.i (((k + 1) : Nat) : Int)),(55,.i ((k : Nat) : Int)),(56,.i (((k + 1) : Nat) : Int)),(105,.b (decide (((List.getD (List.set xs k ({ xs.getD k default with frm := a })) k default).to) = a)))],[(19,⟨35,.row (.calls o)⟩),(29,⟨35,.row (.calls (List.set xs k ({ xs.getD k default with frm := a })))⟩),(998,⟨44,.fix [.sl (.bytes l),.i q50]⟩)],[19,29,998,999]⟩)
           (True ∧ (True ∧ True ∧ (Fits .i64 (((k + 1) : Nat) : Int))) ∧ True ∧ True)
           ⟨tt,⟨tt,tt,(by exact fits_i64 (by omega) (by omega))⟩,tt,tt⟩ ?_
          refine thenQ_normal ?_
          refine ⟨((k + 1),(List.set xs k ({ xs.getD k default with frm := a }))),(show ((k + 1) ≤ o.length) ∧ ((List.set xs k ({ xs.getD k default with frm := a })).length = o.length) from ⟨(by first | assumption | omega | rfl | (intro _ hjj; omega) | (simp; done) | (simp; omega)),(by first | assumption | (simp only [List.length_set]; assumption))⟩),(show o.length - (k + 1) < o.length - k from (by first | omega | (simp_all; omega))),?_⟩
          exact Sub.of [] (@cast (((((998 : Nat) = 998) ∧ ((0 : Nat) = 0) ∧ ((998 : Nat) ∈ ([19,29,998,999] : List Nat))) ∧ (((19 : Nat) = 19) ∧ (o.length = o.length) ∧ ((19 : Nat) ∈ ([19,29,998,999] : List Nat))) ∧ (Si n) ∧ (((29 : Nat) = 29) ∧ (o.length = o.length) ∧ ((29 : Nat) ∈ ([19,29,998,999] : List Nat))) ∧ (Si a) ∧ (Si v50) ∧ (Si (((k + 1) : Nat) : Int)) ∧ True) ∧ ((((35 : Nat) = 35) ∧ (Sd (.calls o)) ∧ ((19 : Nat) ∈ ([19,29,998,999] : List Nat))) ∧ (((35 : Nat) = 35) ∧ (Sd (.calls (List.set xs k ({ xs.getD k default with frm := a })))) ∧ ((29 : Nat) ∈ ([19,29,998,999] : List Nat))) ∧ (((44 : Nat) = 44) ∧ ((Sd (.bytes l)) ∧ (Si q50) ∧ True) ∧ ((998 : Nat) ∈ ([19,29,998,999] : List Nat))) ∧ True) ∧ (true = true) ∧ (true = true)) _ (by kernel_rfl) ⟨⟨⟨rfl,rfl,(by decide)⟩,⟨rfl,rfl,(by decide)⟩,rfl,⟨rfl,rfl,(by decide)⟩,rfl,rfl,rfl,tt⟩,⟨⟨rfl,rfl,(by decide)⟩,⟨rfl,rfl,(by decide)⟩,⟨rfl,⟨rfl,rfl,tt⟩,(by decide)⟩,tt⟩,rfl,rfl⟩)
       ·intro n65
        refine Kk cok tab23 hnt [] [0,5,6,7,9,11,12,77] (⟨[(0,.ptr 998 0),(5,.own 19 o.length),(6,.i n),(7,.own 29 o.length),(9,.i a),(11,.i v50),(12,.i ((k : Nat) : Int)),(77,.b (decide (((xs.getD k default).frm) = a)))],[(19,⟨35,.row (.calls o)⟩),(29,⟨35,.row (.calls xs)⟩),(998,⟨44,.fix [.sl (.bytes l),.i q50]⟩)],[19,29,998,999]⟩)
         (True ∧ True ∧ (True ∧ True ∧ (0 ≤ ((k : Nat) : Int)) ∧ (((k : Nat) : Int) < (o.length : Int))) ∧ True ∧ (True ∧ (k < xs.length)) ∧ True ∧ (True ∧ True ∧ True) ∧ True)
         ⟨tt,tt,⟨tt,tt,(by omega),(by omega)⟩,tt,⟨tt,(by omega)⟩,tt,⟨tt,tt,tt⟩,tt⟩ ?_
        refine W.ifP (((xs.getD k default).frm) = a) (.b (decide (((xs.getD k default).frm) = a))) (by kernel_rfl) rfl trivial ?_ ?_
        ·intro h77
         refine Lk cok tab23 hnt [] (⟨[(0,.ptr 998 0),(5,.own 19 o.length),(6,.i n),(7,.own 29 o.length),(9,.i a),(11,.i v50),(12,.i ((k : Nat) : Int)),(77,.b (decide (((xs.getD k default).frm) = a))),(78,.own 29 o.length),(79,.i ((k : Nat) : Int)),(80,.i a),(81,.i v50),(82,.i (a + v50)),(83,.pel 29 7 k 0),(84,.pel 29 7 k 5)],[(19,⟨35,.row (.calls o)⟩),(29,⟨35,.row (.calls (List.set xs k ({ xs.getD k default with frm := (a + v50) })))⟩),(998,⟨44,.fix [.sl (.bytes l),.i q50]⟩)],[19,29,998,999]⟩)
          (True ∧ True ∧ True ∧ True ∧ (True ∧ True ∧ (Fits .i64 (a + v50))) ∧ (True ∧ True ∧ (0 ≤ ((k : Nat) : Int)) ∧ (((k : Nat) : Int) < (o.length : Int))) ∧ True ∧ (True ∧ True ∧ (k < xs.length)) ∧ True)
          ⟨tt,tt,tt,tt,⟨tt,tt,(by exact fits_i64 (by omega) (by omega))⟩,⟨tt,tt,(by omega),(by omega)⟩,tt,⟨tt,tt,(by omega)⟩,tt⟩ ?_
         refine thenQ_normal ?_
         refine Kk cok tab23 hnt [] [0,5,6,7,9,11,12,93] (⟨[(0,.ptr 998 0),(5,.own 19 o.length),(6,.i n),(7,.own 29 o.length),(9,.i a),(11,.i v50),(12,.i ((k : Nat) : Int)),(93,.b (decide (((List.getD (List.set xs k ({ xs.getD k default with frm := (a + v50) })) k default).to) = (a + v50))))],[(19,⟨35,.row (.calls o)⟩),(29,⟨35,.row (.calls (List.set xs k ({ xs.getD k default with frm := (a + v50) })))⟩),(998,⟨44,.fix [.sl (.bytes l),.i q50]⟩)],[19,29,998,999]⟩)
          (True ∧ True ∧ (True ∧ True ∧ (0 ≤ ((k : Nat) : Int)) ∧ (((k : Nat) : Int) < (o.length : Int))) ∧ True ∧ (True ∧ (k < (List.length (List.set xs k ({ xs.getD k default with frm := (a + v50) }))))) ∧ True ∧ True ∧ (True ∧ True ∧ (Fits .i64 (a + v50))) ∧ (True ∧ True ∧ True) ∧ True)
          ⟨tt,tt,⟨tt,tt,(by omega),(by omega)⟩,tt,⟨tt,(by (first | omega | (simp only [List.length_set]; done) | (simp only [List.length_append,List.length_cons,List.length_nil,List.length_take,List.length_drop,List.length_set,List.length_replicate,List.length_map] at *; omega) | assumption))⟩,tt,tt,⟨tt,tt,(by exact fits_i64 (by omega) (by omega))⟩,⟨tt,tt,tt⟩,tt⟩ ?_
         refine W.ifP (((List.getD (List.set xs k ({ xs.getD k default with frm := (a + v50) })) k default).to) = (a + v50)) (.b (decide (((List.getD (List.set xs k ({ xs.getD k default with frm := (a + v50) })) k default).to) = (a + v50)))) (by kernel_rfl) rfl trivial ?_ ?_
         ·intro h93
          refine Lk cok tab23 hnt [] (⟨[(0,.ptr 998 0),(5,.own 19 o.length),(6,.i n),(7,.own 29 o.length),(9,.i a),(11,.i v50),(12,.i ((k : Nat) : Int)),(93,.b (decide (((List.getD (List.set xs k ({ xs.getD k default with frm := (a + v50) })) k default).to) = (a + v50)))),(94,.own 29 o.length),(95,.i ((k : Nat) : Int)),(96,.i a),(97,.pel 29 7 k 0),(98,.pel 29 7 k 6)],[(19,⟨35,.row (.calls o)⟩),(29,⟨35,.row (.calls (List.set (List.set xs k ({ xs.getD k default with frm := (a + v50) })) k ({ List.getD (List.set xs k ({ xs.getD k default with frm := (a + v50) })) k default with to := a })))⟩),(998,⟨44,.fix [.sl (.bytes l),.i q50]⟩)],[19,29,998,999]⟩)
           (True ∧ True ∧ True ∧ (True ∧ True ∧ (0 ≤ ((k : Nat) : Int)) ∧ (((k : Nat) : Int) < (o.length : Int))) ∧ True ∧ (True ∧ True ∧ (k < (List.length (List.set xs k ({ xs.getD k default with frm := (a + v50) }))))) ∧ True)
           ⟨tt,tt,tt,⟨tt,tt,(by omega),(by omega)⟩,tt,⟨tt,tt,(by (first | omega | (simp only [List.length_set]; done) | (simp only [List.length_append,List.length_cons,List.length_nil,List.length_take,List.length_drop,List.length_set,List.length_replicate,List.length_map] at *; omega) | assumption))⟩,tt⟩ ?_
          refine blockQ_normal (thenQ_normal ?_)
          refine Lk cok tab23 hnt [] (⟨[(0,.ptr 998 0),(5,.own 19 o.length),(6,.i n),(7,.own 29 o.length),(9,.i a),(11,.i v50),(12,.i (((k + 1) : Nat) : Int)),(55,.i ((k : Nat) : Int)),(56,.i (((k + 1) : Nat) : Int)),(93,.b (decide (((List.getD (List.set xs k ({ xs.getD k default with frm := (a + v50) })) k default).to) = (a + v50)))),(94,.own 29 o.length),(95,.i ((k : Nat) : Int)),(96,.i a),(97,.pel 29 7 k 0),(98,.pel 29 7 k 6)],[(19,⟨35,.row (.calls o)⟩),(29,⟨35,.row (.calls (List.set (List.set xs k ({ xs.getD k default with frm := (a + v50) })) k ({ List.getD (List.set xs k ({ xs.getD k default with frm := (a + v50) })) k default with to := a })))⟩),(998,⟨44,.fix [.sl (.bytes l),.i q50]⟩)],[19,29,998,999]⟩)
           (True ∧ (True ∧ True ∧ (Fits .i64 (((k + 1) : Nat) : Int))) ∧ True ∧ True)
           ⟨tt,⟨tt,tt,(by exact fits_i64 (by omega) (by omega))⟩,tt,tt⟩ ?_
          refine thenQ_normal ?_
          refine ⟨((k + 1),(List.set (List.set xs k ({ xs.getD k default with frm := (a + v50) })) k ({ List.getD (List.set xs k ({ xs.getD k default with frm := (a + v50) })) k default with to := a }))),(show ((k + 1) ≤ o.length) ∧ ((List.set (List.set xs k ({ xs.getD k default with frm := (a + v50) })) k ({ List.getD (List.set xs k ({ xs.getD k default with frm := (a + v50) })) k default with to := a })).length = o.length) from ⟨(by first | assumption | omega | rfl | (intro _ hjj; omega) | (simp; done) | (simp; omega)),(by first | assumption | (simp only [List.length_set]; assumption))⟩),(show o.length - (k + 1) < o.length - k from (by first | omega | (simp_all; omega))),?_⟩
          exact Sub.of [] (@cast (((((998 : Nat) = 998) ∧ ((0 : Nat) = 0) ∧ ((998 : Nat) ∈ ([19,29,998,999] : List Nat))) ∧ (((19 : Nat) = 19) ∧ (o.length = o.length) ∧ ((19 : Nat) ∈ ([19,29,998,999] : List Nat))) ∧ (Si n) ∧ (((29 : Nat) = 29) ∧ (o.length = o.length) ∧ ((29 : Nat) ∈ ([19,29,998,999] : List Nat))) ∧ (Si a) ∧ (Si v50) ∧ (Si (((k + 1) : Nat) : Int)) ∧ True) ∧ ((((35 : Nat) = 35) ∧ (Sd (.calls o)) ∧ ((19 : Nat) ∈ ([19,29,998,999] : List Nat))) ∧ (((35 : Nat) = 35) ∧ (Sd (.calls (List.set (List.set xs k ({ xs.getD k default with frm := (a + v50) })) k ({ List.getD (List.set xs k ({ xs.getD k default with frm := (a + v50) })) k default with to := a })))) ∧ ((29 : Nat) ∈ ([19,29,998,999] : List Nat))) ∧ (((44 : Nat) = 44) ∧ ((Sd (.bytes l)) ∧ (Si q50) ∧ True) ∧ ((998 : Nat) ∈ ([19,29,998,999] : List Nat))) ∧ True) ∧ (true = true) ∧ (true = true)) _ (by kernel_rfl) ⟨⟨⟨rfl,rfl,(by decide)⟩,⟨rfl,rfl,(by decide)⟩,rfl,⟨rfl,rfl,(by decide)⟩,rfl,rfl,rfl,tt⟩,⟨⟨rfl,rfl,(by decide)⟩,⟨rfl,rfl,(by decide)⟩,⟨rfl,⟨rfl,rfl,tt⟩,(by decide)⟩,tt⟩,rfl,rfl⟩)
         ·intro n93
          refine Kk cok tab23 hnt [] [0,5,6,7,9,11,12,105] (⟨[(0,.ptr 998 0),(5,.own 19 o.length),(6,.i n),(7,.own 29 o.length),(9,.i a),(11,.i v50),(12,.i ((k : Nat) : Int)),(105,.b (decide (((List.getD (List.set xs k ({ xs.getD k default with frm := (a + v50) })) k default).to) = a)))],[(19,⟨35,.row (.calls o)⟩),(29,⟨35,.row (.calls (List.set xs k ({ xs.getD k default with frm := (a + v50) })))⟩),(998,⟨44,.fix [.sl (.bytes l),.i q50]⟩)],[19,29,998,999]⟩)
           (True ∧ True ∧ (True ∧ True ∧ (0 ≤ ((k : Nat) : Int)) ∧ (((k : Nat) : Int) < (o.length : Int))) ∧ True ∧ (True ∧ (k < (List.length (List.set xs k ({ xs.getD k default with frm := (a + v50) }))))) ∧ True ∧ (True ∧ True ∧ True) ∧ True)
           ⟨tt,tt,⟨tt,tt,(by omega),(by omega)⟩,tt,⟨tt,(by (first | omega | (simp only [List.length_set]; done) | (simp only [List.length_append,List.length_cons,List.length_nil,List.length_take,List.length_drop,List.length_set,List.length_replicate,List.length_map] at *; omega) | assumption))⟩,tt,⟨tt,tt,tt⟩,tt⟩ ?_
          refine W.ifP (((List.getD (List.set xs k ({ xs.getD k default with frm := (a + v50) })) k default).to) = a) (.b (decide (((List.getD (List.set xs k ({ xs.getD k default with frm := (a + v50) })) k default).to) = a))) (by kernel_rfl) rfl trivial ?_ ?_
          ·intro h105
           refine Lk cok tab23 hnt [] (⟨[(0,.ptr 998 0),(5,.own 19 o.length),(6,.i n),(7,.own 29 o.length),(9,.i a),(11,.i v50),(12,.i ((k : Nat) : Int)),(105,.b (decide (((List.getD (List.set xs k ({ xs.getD k default with frm := (a + v50) })) k default).to) = a))),(106,.own 29 o.length),(107,.i ((k : Nat) : Int)),(108,.i a),(109,.i v50),(110,.i (a + v50)),(111,.pel 29 7 k 0),(112,.pel 29 7 k 6)],[(19,⟨35,.row (.calls o)⟩),(29,⟨35,.row (.calls (List.set (List.set xs k ({ xs.getD k default with frm := (a + v50) })) k ({ List.getD (List.set xs k ({ xs.getD k default with frm := (a + v50) })) k default with to := (a + v50) })))⟩),(998,⟨44,.fix [.sl (.bytes l),.i q50]⟩)],[19,29,998,999]⟩)
            (True ∧ True ∧ True ∧ True ∧ (True ∧ True ∧ (Fits .i64 (a + v50))) ∧ (True ∧ True ∧ (0 ≤ ((k : Nat) : Int)) ∧ (((k : Nat) : Int) < (o.length : Int))) ∧ True ∧ (True ∧ True ∧ (k < (List.length (List.set xs k ({ xs.getD k default with frm := (a + v50) }))))) ∧ True)
            ⟨tt,tt,tt,tt,⟨tt,tt,(by exact fits_i64 (by omega) (by omega))⟩,⟨tt,tt,(by omega),(by omega)⟩,tt,⟨tt,tt,(by (first | omega | (simp only [List.length_set]; done) | (simp only [List.length_append,List.length_cons,List.length_nil,List.length_take,List.length_drop,List.length_set,List.length_replicate,List.length_map] at *; omega) | assumption))⟩,tt⟩ ?_
           refine blockQ_normal (thenQ_normal ?_)
           refine Lk cok tab23 hnt [] (⟨[(0,.ptr 998 0),(5,.own 19 o.length),(6,.i n),(7,.own 29 o.length),(9,.i a),(11,.i v50),(12,.i (((k + 1) : Nat) : Int)),(55,.i ((k : Nat) : Int)),(56,.i (((k + 1) : Nat) : Int)),(105,.b (decide (((List.getD (List.set xs k ({ xs.getD k default with frm := (a + v50) })) k default).to) = a))),(106,.own 29 o.length),(107,.i ((k : Nat) : Int)),(108,.i a),(109,.i v50),(110,.i (a + v50)),(111,.pel 29 7 k 0),(112,.pel 29 7 k 6)],[(19,⟨35,.row (.calls o)⟩),(29,⟨35,.row (.calls (List.set (List.set xs k ({ xs.getD k default with frm := (a + v50) })) k ({ List.getD (List.set xs k ({ xs.getD k default with frm := (a + v50) })) k default with to := (a + v50) })))⟩),(998,⟨44,.fix [.sl (.bytes l),.i q50]⟩)],[19,29,998,999]⟩)
            (True ∧ (True ∧ True ∧ (Fits .i64 (((k + 1) : Nat) : Int))) ∧ True ∧ True)
            ⟨tt,⟨tt,tt,(by exact fits_i64 (by omega) (by omega))⟩,tt,tt⟩ ?_
           refine thenQ_normal ?_
           refine ⟨((k + 1),(List.set (List.set xs k ({ xs.getD k default with frm := (a + v50) })) k ({ List.getD (List.set xs k ({ xs.getD k default with frm := (a + v50) })) k default with to := (a + v50) }))),(show ((k + 1) ≤ o.length) ∧ ((List.set (List.set xs k ({ xs.getD k default with frm := (a + v50) })) k ({ List.getD (List.set xs k ({ xs.getD k default with frm := (a + v50) })) k default with to := (a + v50) })).length = o.length) from ⟨(by first | assumption | omega | rfl | (intro _ hjj; omega) | (simp; done) | (simp; omega)),(by first | assumption | (simp only [List.length_set]; assumption))⟩),(show o.length - (k + 1) < o.length - k from (by first | omega | (simp_all; omega))),?_⟩
           exact Sub.of [] (@cast (((((998 : Nat) = 998) ∧ ((0 : Nat) = 0) ∧ ((998 : Nat) ∈ ([19,29,998,999] : List Nat))) ∧ (((19 : Nat) = 19) ∧ (o.length = o.length) ∧ ((19 : Nat) ∈ ([19,29,998,999] : List Nat))) ∧ (Si n) ∧ (((29 : Nat) = 29) ∧ (o.length = o.length) ∧ ((29 : Nat) ∈ ([19,29,998,999] : List Nat))) ∧ (Si a) ∧ (Si v50) ∧ (Si (((k + 1) : Nat) : Int)) ∧ True) ∧ ((((35 : Nat) = 35) ∧ (Sd (.calls o)) ∧ ((19 : Nat) ∈ ([19,29,998,999] : List Nat))) ∧ (((35 : Nat) = 35) ∧ (Sd (.calls (List.set (List.set xs k ({ xs.getD k default with frm := (a + v50) })) k ({ List.getD (List.set xs k ({ xs.getD k default with frm := (a + v50) })) k default with to := (a + v50) })))) ∧ ((29 : Nat) ∈ ([19,29,998,999] : List Nat))) ∧ (((44 : Nat) = 44) ∧ ((Sd (.bytes l)) ∧ (Si q50) ∧ True) ∧ ((998 : Nat) ∈ ([19,29,998,999] : List Nat))) ∧ True) ∧ (true = true) ∧ (true = true)) _ (by kernel_rfl) ⟨⟨⟨rfl,rfl,(by decide)⟩,⟨rfl,rfl,(by decide)⟩,rfl,⟨rfl,rfl,(by decide)⟩,rfl,rfl,rfl,tt⟩,⟨⟨rfl,rfl,(by decide)⟩,⟨rfl,rfl,(by decide)⟩,⟨rfl,⟨rfl,rfl,tt⟩,(by decide)⟩,tt⟩,rfl,rfl⟩)
          ·intro n105
           refine W.skip (blockQ_normal (thenQ_normal ?_))
           refine Lk cok tab23 hnt [] (⟨[(0,.ptr 998 0),(5,.own 19 o.length),(6,.i n),(7,.own 29 o.length),(9,.i a),(11,.i v50),(12,.i (((k + 1) : Nat) : Int)),(55,.i ((k : Nat) : Int)),(56,.i (((k + 1) : Nat) : Int)),(105,.b (decide (((List.getD (List.set xs k ({ xs.getD k default with frm := (a + v50) })) k default).to) = a)))],[(19,⟨35,.row (.calls o)⟩),(29,⟨35,.row (.calls (List.set xs k ({ xs.getD k default with frm := (a + v50) })))⟩),(998,⟨44,.fix [.sl (.bytes l),.i q50]⟩)],[19,29,998,999]⟩)
            (True ∧ (True ∧ True ∧ (Fits .i64 (((k + 1) : Nat) : Int))) ∧ True ∧ True)
            ⟨tt,⟨tt,tt,(by exact fits_i64 (by omega) (by omega))⟩,tt,tt⟩ ?_
           refine thenQ_normal ?_
           refine ⟨((k + 1),(List.set xs k ({ xs.getD k default with frm := (a + v50) }))),(show ((k + 1) ≤ o.length) ∧ ((List.set xs k ({ xs.getD k default with frm := (a + v50) })).length = o.length) from ⟨(by first | assumption | omega | rfl | (intro _ hjj; omega) | (simp; done) | (simp; omega)),(by first | assumption | (simp only [List.length_set]; assumption))⟩),(show o.length - (k + 1) < o.length - k from (by first | omega | (simp_all; omega))),?_⟩
           exact Sub.of [] (@cast (((((998 : Nat) = 998) ∧ ((0 : Nat) = 0) ∧ ((998 : Nat) ∈ ([19,29,998,999] : List Nat))) ∧ (((19 : Nat) = 19) ∧ (o.length = o.length) ∧ ((19 : Nat) ∈ ([19,29,998,999] : List Nat))) ∧ (Si n) ∧ (((29 : Nat) = 29) ∧ (o.length = o.length) ∧ ((29 : Nat) ∈ ([19,29,998,999] : List Nat))) ∧ (Si a) ∧ (Si v50) ∧ (Si (((k + 1) : Nat) : Int)) ∧ True) ∧ ((((35 : Nat) = 35) ∧ (Sd (.calls o)) ∧ ((19 : Nat) ∈ ([19,29,998,999] : List Nat))) ∧ (((35 : Nat) = 35) ∧ (Sd (.calls (List.set xs k ({ xs.getD k default with frm := (a + v50) })))) ∧ ((29 : Nat) ∈ ([19,29,998,999] : List Nat))) ∧ (((44 : Nat) = 44) ∧ ((Sd (.bytes l)) ∧ (Si q50) ∧ True) ∧ ((998 : Nat) ∈ ([19,29,998,999] : List Nat))) ∧ True) ∧ (true = true) ∧ (true = true)) _ (by kernel_rfl) ⟨⟨⟨rfl,rfl,(by decide)⟩,⟨rfl,rfl,(by decide)⟩,rfl,⟨rfl,rfl,(by decide)⟩,rfl,rfl,rfl,tt⟩,⟨⟨rfl,rfl,(by decide)⟩,⟨rfl,rfl,(by decide)⟩,⟨rfl,⟨rfl,rfl,tt⟩,(by decide)⟩,tt⟩,rfl,rfl⟩)
        ·intro n77
         refine W.skip (thenQ_normal ?_)
         refine Kk cok tab23 hnt [] [0,5,6,7,9,11,12,93] (⟨[(0,.ptr 998 0),(5,.own 19 o.length),(6,.i n),(7,.own 29 o.length),(9,.i a),(11,.i v50),(12,.i ((k : Nat) : Int)),(93,.b (decide (((xs.getD k default).to) = (a + v50))))],[(19,⟨35,.row (.calls o)⟩),(29,⟨35,.row (.calls xs)⟩),(998,⟨44,.fix [.sl (.bytes l),.i q50]⟩)],[19,29,998,999]⟩)
          (True ∧ True ∧ (True ∧ True ∧ (0 ≤ ((k : Nat) : Int)) ∧ (((k : Nat) : Int) < (o.length : Int))) ∧ True ∧ (True ∧ (k < xs.length)) ∧ True ∧ True ∧ (True ∧ True ∧ (Fits .i64 (a + v50))) ∧ (True ∧ True ∧ True) ∧ True)
          ⟨tt,tt,⟨tt,tt,(by omega),(by omega)⟩,tt,⟨tt,(by omega)⟩,tt,tt,⟨tt,tt,(by exact fits_i64 (by omega) (by omega))⟩,⟨tt,tt,tt⟩,tt⟩ ?_
         refine W.ifP (((xs.getD k default).to) = (a + v50)) (.b (decide (((xs.getD k default).to) = (a + v50)))) (by kernel_rfl) rfl trivial ?_ ?_
         ·intro h93
          refine Lk cok tab23 hnt [] (⟨[(0,.ptr 998 0),(5,.own 19 o.length),(6,.i n),(7,.own 29 o.length),(9,.i a),(11,.i v50),(12,.i ((k : Nat) : Int)),(93,.b (decide (((xs.getD k default).to) = (a + v50)))),(94,.own 29 o.length),(95,.i ((k : Nat) : Int)),(96,.i a),(97,.pel 29 7 k 0),(98,.pel 29 7 k 6)],[(19,⟨35,.row (.calls o)⟩),(29,⟨35,.row (.calls (List.set xs k ({ xs.getD k default with to := a })))⟩),(998,⟨44,.fix [.sl (.bytes l),.i q50]⟩)],[19,29,998,999]⟩)
           (True ∧ True ∧ True ∧ (True ∧ True ∧ (0 ≤ ((k : Nat) : Int)) ∧ (((k : Nat) : Int) < (o.length : Int))) ∧ True ∧ (True ∧ True ∧ (k < xs.length)) ∧ True)
           ⟨tt,tt,tt,⟨tt,tt,(by omega),(by omega)⟩,tt,⟨tt,tt,(by omega)⟩,tt⟩ ?_
          refine blockQ_normal (thenQ_normal ?_)
          refine Lk cok tab23 hnt [] (⟨[(0,.ptr 998 0),(5,.own 19 o.length),(6,.i n),(7,.own 29 o.length),(9,.i a),(11,.i v50),(12,.i (((k + 1) : Nat) : Int)),(55,.i ((k : Nat) : Int)),(56,.i (((k + 1) : Nat) : Int)),(93,.b (decide (((xs.getD k default).to) = (a + v50)))),(94,.own 29 o.length),(95,.i ((k : Nat) : Int)),(96,.i a),(97,.pel 29 7 k 0),(98,.pel 29 7 k 6)],[(19,⟨35,.row (.calls o)⟩),(29,⟨35,.row (.calls (List.set xs k ({ xs.getD k default with to := a })))⟩),(998,⟨44,.fix [.sl (.bytes l),.i q50]⟩)],[19,29,998,999]⟩)
           (True ∧ (True ∧ True ∧ (Fits .i64 (((k + 1) : Nat) : Int))) ∧ True ∧ True)
           ⟨tt,⟨tt,tt,(by exact fits_i64 (by omega) (by omega))⟩,tt,tt⟩ ?_
          refine thenQ_normal ?_
          refine ⟨((k + 1),(List.set xs k ({ xs.getD k default with to := a }))),(show ((k + 1) ≤ o.length) ∧ ((List.set xs k ({ xs.getD k default with to := a })).length = o.length) from ⟨(by first | assumption | omega | rfl | (intro _ hjj; omega) | (simp; done) | (simp; omega)),(by first | assumption | (simp only [List.length_set]; assumption))⟩),(show o.length - (k + 1) < o.length - k from (by first | omega | (simp_all; omega))),?_⟩
          exact Sub.of [] (@cast (((((998 : Nat) = 998) ∧ ((0 : Nat) = 0) ∧ ((998 : Nat) ∈ ([19,29,998,999] : List Nat))) ∧ (((19 : Nat) = 19) ∧ (o.length = o.length) ∧ ((19 : Nat) ∈ ([19,29,998,999] : List Nat))) ∧ (Si n) ∧ (((29 : Nat) = 29) ∧ (o.length = o.length) ∧ ((29 : Nat) ∈ ([19,29,998,999] : List Nat))) ∧ (Si a) ∧ (Si v50) ∧ (Si (((k + 1) : Nat) : Int)) ∧ True) ∧ ((((35 : Nat) = 35) ∧ (Sd (.calls o)) ∧ ((19 : Nat) ∈ ([19,29,998,999] : List Nat))) ∧ (((35 : Nat) = 35) ∧ (Sd (.calls (List.set xs k ({ xs.getD k default with to := a })))) ∧ ((29 : Nat) ∈ ([19,29,998,999] : List Nat))) ∧ (((44 : Nat) = 44) ∧ ((Sd (.bytes l)) ∧ (Si q50) ∧ True) ∧ ((998 : Nat) ∈ ([19,29,998,999] : List Nat))) ∧ True) ∧ (true = true) ∧ (true = true)) _ (by kernel_rfl) ⟨⟨⟨rfl,rfl,(by decide)⟩,⟨rfl,rfl,(by decide)⟩,rfl,⟨rfl,rfl,(by decide)⟩,rfl,rfl,rfl,tt⟩,⟨⟨rfl,rfl,(by decide)⟩,⟨rfl,rfl,(by decide)⟩,⟨rfl,⟨rfl,rfl,tt⟩,(by decide)⟩,tt⟩,rfl,rfl⟩)
         ·intro n93
          refine Kk cok tab23 hnt [] [0,5,6,7,9,11,12,105] (⟨[(0,.ptr 998 0),(5,.own 19 o.length),(6,.i n),(7,.own 29 o.length),(9,.i a),(11,.i v50),(12,.i ((k : Nat) : Int)),(105,.b (decide (((xs.getD k default).to) = a)))],[(19,⟨35,.row (.calls o)⟩),(29,⟨35,.row (.calls xs)⟩),(998,⟨44,.fix [.sl (.bytes l),.i q50]⟩)],[19,29,998,999]⟩)
           (True ∧ True ∧ (True ∧ True ∧ (0 ≤ ((k : Nat) : Int)) ∧ (((k : Nat) : Int) < (o.length : Int))) ∧ True ∧ (True ∧ (k < xs.length)) ∧ True ∧ (True ∧ True ∧ True) ∧ True)
           ⟨tt,tt,⟨tt,tt,(by omega),(by omega)⟩,tt,⟨tt,(by omega)⟩,tt,⟨tt,tt,tt⟩,tt⟩ ?_
          refine W.ifP (((xs.getD k default).to) = a) (.b (decide (((xs.getD k default).to) = a))) (by kernel_rfl) rfl trivial ?_ ?_
          ·intro h105
           refine Lk cok tab23 hnt [] (⟨[(0,.ptr 998 0),(5,.own 19 o.length),(6,.i n),(7,.own 29 o.length),(9,.i a),(11,.i v50),(12,.i ((k : Nat) : Int)),(105,.b (decide (((xs.getD k default).to) = a))),(106,.own 29 o.length),(107,.i ((k : Nat) : Int)),(108,.i a),(109,.i v50),(110,.i (a + v50)),(111,.pel 29 7 k 0),(112,.pel 29 7 k 6)],[(19,⟨35,.row (.calls o)⟩),(29,⟨35,.row (.calls (List.set xs k ({ xs.getD k default with to := (a + v50) })))⟩),(998,⟨44,.fix [.sl (.bytes l),.i q50]⟩)],[19,29,998,999]⟩)
            (True ∧ True ∧ True ∧ True ∧ (True ∧ True ∧ (Fits .i64 (a + v50))) ∧ (True ∧ True ∧ (0 ≤ ((k : Nat) : Int)) ∧ (((k : Nat) : Int) < (o.length : Int))) ∧ True ∧ (True ∧ True ∧ (k < xs.length)) ∧ True)
            ⟨tt,tt,tt,tt,⟨tt,tt,(by exact fits_i64 (by omega) (by omega))⟩,⟨tt,tt,(by omega),(by omega)⟩,tt,⟨tt,tt,(by omega)⟩,tt⟩ ?_
           refine blockQ_normal (thenQ_normal ?_)
           refine Lk cok tab23 hnt [] (⟨[(0,.ptr 998 0),(5,.own 19 o.length),(6,.i n),(7,.own 29 o.length),(9,.i a),(11,.i v50),(12,.i (((k + 1) : Nat) : Int)),(55,.i ((k : Nat) : Int)),(56,.i (((k + 1) : Nat) : Int)),(105,.b (decide (((xs.getD k default).to) = a))),(106,.own 29 o.length),(107,.i ((k : Nat) : Int)),(108,.i a),(109,.i v50),(110,.i (a + v50)),(111,.pel 29 7 k 0),(112,.pel 29 7 k 6)],[(19,⟨35,.row (.calls o)⟩),(29,⟨35,.row (.calls (List.set xs k ({ xs.getD k default with to := (a + v50) })))⟩),(998,⟨44,.fix [.sl (.bytes l),.i q50]⟩)],[19,29,998,999]⟩)
            (True ∧ (True ∧ True ∧ (Fits .i64 (((k + 1) : Nat) : Int))) ∧ True ∧ True)
            ⟨tt,⟨tt,tt,(by exact fits_i64 (by omega) (by omega))⟩,tt,tt⟩ ?_
           refine thenQ_normal ?_
           refine ⟨((k + 1),(List.set xs k ({ xs.getD k default with to := (a + v50) }))),(show ((k + 1) ≤ o.length) ∧ ((List.set xs k ({ xs.getD k default with to := (a + v50) })).length = o.length) from ⟨(by first | assumption | omega | rfl | (intro _ hjj; omega) | (simp; done) | (simp; omega)),(by first | assumption | (simp only [List.length_set]; assumption))⟩),(show o.length - (k + 1) < o.length - k from (by first | omega | (simp_all; omega))),?_⟩
           exact Sub.of [] (@cast (((((998 : Nat) = 998) ∧ ((0 : Nat) = 0) ∧ ((998 : Nat) ∈ ([19,29,998,999] : List Nat))) ∧ (((19 : Nat) = 19) ∧ (o.length = o.length) ∧ ((19 : Nat) ∈ ([19,29,998,999] : List Nat))) ∧ (Si n) ∧ (((29 : Nat) = 29) ∧ (o.length = o.length) ∧ ((29 : Nat) ∈ ([19,29,998,999] : List Nat))) ∧ (Si a) ∧ (Si v50) ∧ (Si (((k + 1) : Nat) : Int)) ∧ True) ∧ ((((35 : Nat) = 35) ∧ (Sd (.calls o)) ∧ ((19 : Nat) ∈ ([19,29,998,999] : List Nat))) ∧ (((35 : Nat) = 35) ∧ (Sd (.calls (List.set xs k ({ xs.getD k default with to := (a + v50) })))) ∧ ((29 : Nat) ∈ ([19,29,998,999] : List Nat))) ∧ (((44 : Nat) = 44) ∧ ((Sd (.bytes l)) ∧ (Si q50) ∧ True) ∧ ((998 : Nat) ∈ ([19,29,998,999] : List Nat))) ∧ True) ∧ (true = true) ∧ (true = true)) _ (by kernel_rfl) ⟨⟨⟨rfl,rfl,(by decide)⟩,⟨rfl,rfl,(by decide)⟩,rfl,⟨rfl,rfl,(by decide)⟩,rfl,rfl,rfl,tt⟩,⟨⟨rfl,rfl,(by decide)⟩,⟨rfl,rfl,(by decide)⟩,⟨rfl,⟨rfl,rfl,tt⟩,(by decide)⟩,tt⟩,rfl,rfl⟩)
          ·intro n105
           refine W.skip (blockQ_normal (thenQ_normal ?_))
           refine Lk cok tab23 hnt [] (⟨[(0,.ptr 998 0),(5,.own 19 o.length),(6,.i n),(7,.own 29 o.length),(9,.i a),(11,.i v50),(12,.i (((k + 1) : Nat) : Int)),(55,.i ((k : Nat) : Int)),(56,.i (((k + 1) : Nat) : Int)),(105,.b (decide (((xs.getD k default).to) = a)))],[(19,⟨35,.row (.calls o)⟩),(29,⟨35,.row (.calls xs)⟩),(998,⟨44,.fix [.sl (.bytes l),.i q50]⟩)],[19,29,998,999]⟩)
            (True ∧ (True ∧ True ∧ (Fits .i64 (((k + 1) : Nat) : Int))) ∧ True ∧ True)
            ⟨tt,⟨tt,tt,(by exact fits_i64 (by omega) (by omega))⟩,tt,tt⟩ ?_
           refine thenQ_normal ?_
           refine ⟨((k + 1),xs),(show ((k + 1) ≤ o.length) ∧ (xs.length = o.length) from ⟨(by first | assumption | omega | rfl | (intro _ hjj; omega) | (simp; done) | (simp; omega)),(by first | assumption | (simp only [List.length_set]; assumption))⟩),(show o.length - (k + 1) < o.length - k from (by first | omega | (simp_all; omega))),?_⟩
           exact Sub.of [] (@cast (((((998 : Nat) = 998) ∧ ((0 : Nat) = 0) ∧ ((998 : Nat) ∈ ([19,29,998,999] : List Nat))) ∧ (((19 : Nat) = 19) ∧ (o.length = o.length) ∧ ((19 : Nat) ∈ ([19,29,998,999] : List Nat))) ∧ (Si n) ∧ (((29 : Nat) = 29) ∧ (o.length = o.length) ∧ ((29 : Nat) ∈ ([19,29,998,999] : List Nat))) ∧ (Si a) ∧ (Si v50) ∧ (Si (((k + 1) : Nat) : Int)) ∧ True) ∧ ((((35 : Nat) = 35) ∧ (Sd (.calls o)) ∧ ((19 : Nat) ∈ ([19,29,998,999] : List Nat))) ∧ (((35 : Nat) = 35) ∧ (Sd (.calls xs)) ∧ ((29 : Nat) ∈ ([19,29,998,999] : List Nat))) ∧ (((44 : Nat) = 44) ∧ ((Sd (.bytes l)) ∧ (Si q50) ∧ True) ∧ ((998 : Nat) ∈ ([19,29,998,999] : List Nat))) ∧ True) ∧ (true = true) ∧ (true = true)) _ (by kernel_rfl) ⟨⟨⟨rfl,rfl,(by decide)⟩,⟨rfl,rfl,(by decide)⟩,rfl,⟨rfl,rfl,(by decide)⟩,rfl,rfl,rfl,tt⟩,⟨⟨rfl,rfl,(by decide)⟩,⟨rfl,rfl,(by decide)⟩,⟨rfl,⟨rfl,rfl,tt⟩,(by decide)⟩,tt⟩,rfl,rfl⟩)
      ·intro n54
       refine W.exit (thenQ_exit (thenQ_exit (blockQ_hit ?_)))
       refine thenQ_normal ?_
       refine Kk cok tab23 hnt [] [0,5,6,7,114] (⟨[(0,.ptr 998 0),(5,.own 19 o.length),(6,.i n),(7,.own 29 o.length),(114,.b (validHistory xs))],[(19,⟨35,.row (.calls o)⟩),(29,⟨35,.row (.calls xs)⟩),(998,⟨44,.fix [.sl (.bytes l),.i q50]⟩)],[19,29,998,999]⟩)
        (True ∧ (True ∧ ((True ∧ (o.length = xs.length)) ∧ True) ∧ True) ∧ True)
        ⟨tt,⟨tt,⟨⟨tt,(by omega)⟩,tt⟩,tt⟩,tt⟩ ?_
       refine W.if' (validHistory xs) (.b (validHistory xs)) (by kernel_rfl) rfl trivial ?_ ?_
       ·intro h114
        refine Lk cok tab23 hnt [] (⟨[(0,.ptr 998 0),(5,.own 29 o.length),(6,.i n),(7,.own 29 o.length),(114,.b (validHistory xs)),(115,.own 29 o.length)],[(19,⟨35,.row (.calls o)⟩),(29,⟨35,.row (.calls xs)⟩),(998,⟨44,.fix [.sl (.bytes l),.i q50]⟩)],[19,29,998,999]⟩)
         (True ∧ True ∧ True)
         ⟨tt,tt,tt⟩ ?_
        refine blockQ_normal (thenQ_normal ?_)
        refine Lk cok tab23 hnt [] (⟨[(0,.ptr 998 0),(5,.own 29 o.length),(6,.i (n - (1 : Int))),(7,.own 29 o.length),(25,.i n),(26,.i (n - (1 : Int))),(114,.b (validHistory xs)),(115,.own 29 o.length)],[(19,⟨35,.row (.calls o)⟩),(29,⟨35,.row (.calls xs)⟩),(998,⟨44,.fix [.sl (.bytes l),.i q50]⟩)],[19,29,998,999]⟩)
         (True ∧ (True ∧ True ∧ (Fits .i64 (n - (1 : Int)))) ∧ True ∧ True)
         ⟨tt,⟨tt,tt,(by exact fits_i64 (by omega) (by omega))⟩,tt,tt⟩ ?_
        refine thenQ_normal ?_
        refine ⟨(xs,(n - (1 : Int)),q50),(show ((n - (1 : Int)) ≤ 12) ∧ (p + 1 ≤ q50 ∧ q50 ≤ p + 1 + 3 * (12 - (n - (1 : Int))) ∧ q50 ≤ p + 900) ∧ (GoodH xs) ∧ (xs.length = h.length) from ⟨(by first | assumption | omega | rfl | (intro _ hjj; omega) | (simp; done) | (simp; omega)),(by first | assumption | omega | rfl | (intro _ hjj; omega) | (simp; done) | (simp; omega)),(by first | exact ho | exact valid_good h114),(by first | assumption | omega | rfl | (intro _ hjj; omega) | (simp; done) | (simp; omega))⟩),(show (n - (1 : Int)).toNat < n.toNat from (by first | omega | (simp_all; omega))),?_⟩
        exact Sub.of [(19,29)] (@cast (((((998 : Nat) = 998) ∧ ((0 : Nat) = 0) ∧ ((998 : Nat) ∈ ([19,998,999] : List Nat))) ∧ (((29 : Nat) = 29) ∧ (o.length = xs.length) ∧ ((19 : Nat) ∈ ([19,998,999] : List Nat))) ∧ (Si (n - (1 : Int))) ∧ True) ∧ ((((35 : Nat) = 35) ∧ (Sd (.calls xs)) ∧ ((19 : Nat) ∈ ([19,998,999] : List Nat))) ∧ (((44 : Nat) = 44) ∧ ((Sd (.bytes l)) ∧ (Si q50) ∧ True) ∧ ((998 : Nat) ∈ ([19,998,999] : List Nat))) ∧ True) ∧ (true = true) ∧ (true = true)) _ (by kernel_rfl) ⟨⟨⟨rfl,rfl,(by decide)⟩,⟨rfl,(by first | rfl | omega | assumption | (symm; assumption) | simp | simp_all),(by decide)⟩,rfl,tt⟩,⟨⟨rfl,rfl,(by decide)⟩,⟨rfl,⟨rfl,rfl,tt⟩,(by decide)⟩,tt⟩,rfl,rfl⟩)
       ·intro n114
        refine W.skip (blockQ_normal (thenQ_normal ?_))
        refine Lk cok tab23 hnt [] (⟨[(0,.ptr 998 0),(5,.own 19 o.length),(6,.i (n - (1 : Int))),(7,.own 29 o.length),(25,.i n),(26,.i (n - (1 : Int))),(114,.b (validHistory xs))],[(19,⟨35,.row (.calls o)⟩),(29,⟨35,.row (.calls xs)⟩),(998,⟨44,.fix [.sl (.bytes l),.i q50]⟩)],[19,29,998,999]⟩)
         (True ∧ (True ∧ True ∧ (Fits .i64 (n - (1 : Int)))) ∧ True ∧ True)
         ⟨tt,⟨tt,tt,(by exact fits_i64 (by omega) (by omega))⟩,tt,tt⟩ ?_
        refine thenQ_normal ?_
        refine ⟨(o,(n - (1 : Int)),q50),(show ((n - (1 : Int)) ≤ 12) ∧ (p + 1 ≤ q50 ∧ q50 ≤ p + 1 + 3 * (12 - (n - (1 : Int))) ∧ q50 ≤ p + 900) ∧ (GoodH o) ∧ (o.length = h.length) from ⟨(by first | assumption | omega | rfl | (intro _ hjj; omega) | (simp; done) | (simp; omega)),(by first | assumption | omega | rfl | (intro _ hjj; omega) | (simp; done) | (simp; omega)),(by first | exact ho | exact valid_good h114),(by first | assumption | omega | rfl | (intro _ hjj; omega) | (simp; done) | (simp; omega))⟩),(show (n - (1 : Int)).toNat < n.toNat from (by first | omega | (simp_all; omega))),?_⟩
        exact Sub.of [] (@cast (((((998 : Nat) = 998) ∧ ((0 : Nat) = 0) ∧ ((998 : Nat) ∈ ([19,998,999] : List Nat))) ∧ (((19 : Nat) = 19) ∧ (o.length = o.length) ∧ ((19 : Nat) ∈ ([19,998,999] : List Nat))) ∧ (Si (n - (1 : Int))) ∧ True) ∧ ((((35 : Nat) = 35) ∧ (Sd (.calls o)) ∧ ((19 : Nat) ∈ ([19,998,999] : List Nat))) ∧ (((44 : Nat) = 44) ∧ ((Sd (.bytes l)) ∧ (Si q50) ∧ True) ∧ ((998 : Nat) ∈ ([19,998,999] : List Nat))) ∧ True) ∧ (true = true) ∧ (true = true)) _ (by kernel_rfl) ⟨⟨⟨rfl,rfl,(by decide)⟩,⟨rfl,rfl,(by decide)⟩,rfl,tt⟩,⟨⟨rfl,rfl,(by decide)⟩,⟨rfl,⟨rfl,rfl,tt⟩,(by decide)⟩,tt⟩,rfl,rfl⟩)
   ·intro n24
    refine W.exit (thenQ_exit (thenQ_exit (blockQ_hit ?_)))
    refine thenQ_normal ?_
    refine Kk cok tab23 hnt [] [4] (⟨[(4,.own 19 o.length)],[(19,⟨35,.row (.calls o)⟩),(998,⟨44,.fix [.sl (.bytes l),.i p1]⟩)],[19,998,999]⟩)
     (True ∧ True ∧ True)
     ⟨tt,tt,tt⟩ ?_
    refine W.ret ?_
    exact endP_ret (o,p1) (show (GoodH o) ∧ (p ≤ p1 ∧ p1 ≤ p + 1000) from ⟨(by assumption),(by first | assumption | omega | rfl | (simp; done) | (simp; omega))⟩) [(1,19),(0,998)] (.own 19 o.length) (by kernel_rfl) (@cast ((((19 : Nat) = 19) ∧ (o.length = o.length) ∧ ((1 : Nat) ∈ ([0,1] : List Nat))) ∧ ((((44 : Nat) = 44) ∧ ((Sd (.bytes l)) ∧ (Si p1) ∧ True) ∧ ((0 : Nat) ∈ ([0,1] : List Nat))) ∧ (((35 : Nat) = 35) ∧ (Sd (.calls o)) ∧ ((1 : Nat) ∈ ([0,1] : List Nat))) ∧ True) ∧ (true = true) ∧ ((([] : List Nat) = []) ∧ True) ∧ (true = true → (998 : Nat) = 998)) _ (by kernel_rfl) ⟨⟨rfl,rfl,(by decide)⟩,⟨⟨rfl,⟨rfl,rfl,tt⟩,(by decide)⟩,⟨rfl,rfl,(by decide)⟩,tt⟩,rfl,⟨rfl,tt⟩,(fun _ => rfl)⟩)
theorem ent23 : Entr prog 23 := ⟨_,func23,rfl,by decide⟩
end Go.Proofs.Try

set_option linter.unusedSimpArgs false
set_option linter.unusedVariables false
namespace Go.Proofs.Try
open Go.Ab Go.RowKit
def fs45 : FnS := fnS [.o] [.str] (fun _ (s,_) => (.b (isObject s),[],True))
abbrev T45 : Tab := lk []
theorem tab45 : TabOK prog T45 := TabOK.nil
set_option maxRecDepth 100000 in
set_option maxHeartbeats 1000000 in
theorem ok45 : FnOK prog 45 fs45 := by
 refine FnOK.mk cok func45 rfl rfl rfl ?_
 rintro fl ⟨(s : ByteArray),_⟩ hpre F hnt0 _
 have hnt : F.nt = 25 := hnt0.trans ntmps45
 clear hpre
 refine W.to (⟨[(0,.v (.string s))],[],[999]⟩) rfl ?_
 refine Kk cok tab45 hnt [] [0] (⟨[(0,.v (.string s))],[],[999]⟩)
  (True ∧ True)
  ⟨tt,tt⟩ ?_
 refine Kk cok tab45 hnt [] [2] (⟨[(2,.b ((((((eqS s nRegister) || (eqS s nQueue)) || (eqS s nStack)) || (eqS s nCounter)) || (eqS s nSet)) || (eqS s nMost)))],[],[999]⟩)
  ((fun (Z1:Bool)=>((fun (Z2:Bool)=>((fun (Z3:Bool)=>((fun (Z4:Bool)=>((fun (Z5:Bool)=>(True ∧ ((True ∧ (True ∧ True)) ∧ (True ∧ (((!Z1) = true → True) ∧ (((!Z1) = true → ((((!Z1) = true) ∧ True) ∧ (True ∧ True))) ∧ ((True ∧ ((Z1 = true → True) ∧ (Z1 = false → ((!Z1) = true) ∧ True))) ∧ (True ∧ (((!Z2) = true → True) ∧ (((!Z2) = true → ((((!Z2) = true) ∧ True) ∧ (True ∧ True))) ∧ ((True ∧ ((Z2 = true → True) ∧ (Z2 = false → ((!Z2) = true) ∧ True))) ∧ (True ∧ (((!Z3) = true → True) ∧ (((!Z3) = true → ((((!Z3) = true) ∧ True) ∧ (True ∧ True))) ∧ ((True ∧ ((Z3 = true → True) ∧ (Z3 = false → ((!Z3) = true) ∧ True))) ∧ (True ∧ (((!Z4) = true → True) ∧ (((!Z4) = true → ((((!Z4) = true) ∧ True) ∧ (True ∧ True))) ∧ ((True ∧ ((Z4 = true → True) ∧ (Z4 = false → ((!Z4) = true) ∧ True))) ∧ (True ∧ (((!Z5) = true → True) ∧ (((!Z5) = true → ((((!Z5) = true) ∧ True) ∧ (True ∧ True))) ∧ ((True ∧ ((Z5 = true → True) ∧ (Z5 = false → ((!Z5) = true) ∧ True))) ∧ (True ∧ True)))))))))))))))))))))))) (Z4 || (eqS s nSet)))) (Z3 || (eqS s nCounter)))) (Z2 || (eqS s nStack)))) (Z1 || (eqS s nQueue)))) (eqS s nRegister))
  ⟨tt,⟨tt,tt,tt⟩,tt,(fun _ => trivial),(fun hG => ⟨⟨hG,tt⟩,tt,tt⟩),⟨tt,(fun _ => trivial),(fun hp => ⟨(not_t hp),tt⟩)⟩,tt,(fun _ => trivial),(fun hG => ⟨⟨hG,tt⟩,tt,tt⟩),⟨tt,(fun _ => trivial),(fun hp => ⟨(not_t hp),tt⟩)⟩,tt,(fun _ => trivial),(fun hG => ⟨⟨hG,tt⟩,tt,tt⟩),⟨tt,(fun _ => trivial),(fun hp => ⟨(not_t hp),tt⟩)⟩,tt,(fun _ => trivial),(fun hG => ⟨⟨hG,tt⟩,tt,tt⟩),⟨tt,(fun _ => trivial),(fun hp => ⟨(not_t hp),tt⟩)⟩,tt,(fun _ => trivial),(fun hG => ⟨⟨hG,tt⟩,tt,tt⟩),⟨tt,(fun _ => trivial),(fun hp => ⟨(not_t hp),tt⟩)⟩,tt,tt⟩ ?_
 refine W.ret ?_
 exact endQ_ret (.b ((((((eqS s nRegister) || (eqS s nQueue)) || (eqS s nStack)) || (eqS s nCounter)) || (eqS s nSet)) || (eqS s nMost))) (by kernel_rfl) (@cast ((.bool ((((((eqS s nRegister) || (eqS s nQueue)) || (eqS s nStack)) || (eqS s nCounter)) || (eqS s nSet)) || (eqS s nMost)) : Value) = .bool (isObject s)) _ (by kernel_rfl) (congrArg Value.bool (by first | rfl | simp_all)))
theorem ent45 : Entr prog 45 := ⟨_,func45,rfl,by decide⟩
end Go.Proofs.Try

set_option linter.unusedSimpArgs false
set_option linter.unusedVariables false
namespace Go.Proofs.Try
open Go.Ab Go.RowKit
def fs49 : FnS := fnS [.s .ints,.o] [.ints,.int] (fun _ (l,n,_) => (.b (hasInt l n),[],True))
abbrev T49 : Tab := lk []
theorem tab49 : TabOK prog T49 := TabOK.nil
set_option maxRecDepth 100000 in
set_option maxHeartbeats 1000000 in
theorem ok49 : FnOK prog 49 fs49 := by
 refine FnOK.mk cok func49 rfl rfl rfl ?_
 rintro fl ⟨(l : List Int),(n : Int),_⟩ hpre F hnt0 _
 have hnt : F.nt = 18 := hnt0.trans ntmps49
 clear hpre
 refine W.to (⟨[(0,.sl (.ints l)),(1,.i n)],[],[999]⟩) rfl ?_
 refine W.lenOf 0 (.ints l) (by kernel_rfl) ?_
 intro hl_l; replace hl_l : List.length l ≤ 9223372036854775807 := hl_l
 refine Kk cok tab49 hnt [] [0,1] (⟨[(0,.sl (.ints l)),(1,.i n)],[],[999]⟩)
  (True ∧ True)
  ⟨tt,tt⟩ ?_
 refine W.seq ?_
 refine Kk cok tab49 hnt [] [0,1,5] (⟨[(0,.sl (.ints l)),(1,.i n),(5,.i (0 : Int))],[],[999]⟩)
  (True ∧ True)
  ⟨tt,tt⟩ ?_
 refine W.block ?_
 refine W.loop (ι := Nat) (fun (i : Nat) => (⟨[(0,.sl (.ints l)),(1,.i n),(5,.i ((i : Nat) : Int))],[],[999]⟩ : St))
  (fun (i : Nat) => (i ≤ l.length) ∧ (∀ j,j < i → decide (l.getD j 0 = n) = false))
  (fun (i : Nat) => (l.length - i : Nat)) (0) ?_ ?_ ?_
 ·exact (show (0 ≤ l.length) ∧ (∀ j,j < 0 → decide (l.getD j 0 = n) = false) from ⟨(by first | assumption | omega | rfl | (intro _ hjj; omega) | (simp; done) | (simp; omega)),(by exact upto_zero)⟩)
 ·exact Sub.of [] (@cast (((Sd (.ints l)) ∧ (Si n) ∧ ((.int .i64 (0 : Int) : Value) = .int .i64 ((0 : Nat) : Int)) ∧ True) ∧ True ∧ (true = true) ∧ (true = true)) _ (by kernel_rfl) ⟨⟨rfl,rfl,(congrArg (Value.int .i64) (by first | rfl | omega | assumption | simp | simp_all)),tt⟩,tt,rfl,rfl⟩)
 ·rintro i hC0
  have hC : (i ≤ l.length) ∧ (∀ j,j < i → decide (l.getD j 0 = n) = false) := hC0
  clear hC0
  obtain ⟨hi,hA⟩ := hC
  refine W.to (⟨[(0,.sl (.ints l)),(1,.i n),(5,.i ((i : Nat) : Int))],[],[999]⟩) rfl ?_
  refine W.seq ?_
  refine Kk cok tab49 hnt [] [0,1,5,9] (⟨[(0,.sl (.ints l)),(1,.i n),(5,.i ((i : Nat) : Int)),(9,.b (decide (((i : Nat) : Int) < (l.length : Int))))],[],[999]⟩)
   (True ∧ True ∧ True ∧ (True ∧ True ∧ True) ∧ True)
   ⟨tt,tt,tt,⟨tt,tt,tt⟩,tt⟩ ?_
  refine W.ifP (((i : Nat) : Int) < (l.length : Int)) (.b (decide (((i : Nat) : Int) < (l.length : Int)))) (by kernel_rfl) rfl trivial ?_ ?_
  ·intro h9
   refine W.skip (thenQ_normal ?_)
   refine W.seq ?_
   refine W.block ?_
   refine Kk cok tab49 hnt [] [0,1,5,17] (⟨[(0,.sl (.ints l)),(1,.i n),(5,.i ((i : Nat) : Int)),(17,.b (decide ((l.getD i 0) = n)))],[],[999]⟩)
    (True ∧ True ∧ (True ∧ True ∧ (0 ≤ ((i : Nat) : Int)) ∧ (((i : Nat) : Int) < (l.length : Int))) ∧ True ∧ True ∧ (True ∧ True ∧ True) ∧ True)
    ⟨tt,tt,⟨tt,tt,(by omega),(by omega)⟩,tt,tt,⟨tt,tt,tt⟩,tt⟩ ?_
   refine W.ifP ((l.getD i 0) = n) (.b (decide ((l.getD i 0) = n))) (by kernel_rfl) rfl trivial ?_ ?_
   ·intro h17
    refine Kk cok tab49 hnt [] [4] (⟨[(4,.b true)],[],[999]⟩)
     (True ∧ True)
     ⟨tt,tt⟩ ?_
    refine W.ret (blockQ_ret (thenQ_ret (thenQ_ret (blockQ_ret (thenQ_ret ?_)))))
    exact endQ_ret (.b true) (by kernel_rfl) (@cast ((.bool true : Value) = .bool (hasInt l n)) _ (by kernel_rfl) (congrArg Value.bool (by unfold hasInt; symm; exact anyN_true (i := i) (by omega) (decide_eq_true h17))))
   ·intro n17
    refine W.skip (blockQ_normal (thenQ_normal ?_))
    refine Lk cok tab49 hnt [] (⟨[(0,.sl (.ints l)),(1,.i n),(5,.i (((i + 1) : Nat) : Int)),(10,.i ((i : Nat) : Int)),(11,.i (((i + 1) : Nat) : Int)),(17,.b (decide ((l.getD i 0) = n)))],[],[999]⟩)
     (True ∧ (True ∧ True ∧ (Fits .i64 (((i + 1) : Nat) : Int))) ∧ True ∧ True)
     ⟨tt,⟨tt,tt,(by exact fits_i64 (by omega) (by omega))⟩,tt,tt⟩ ?_
    refine thenQ_normal ?_
    refine ⟨((i + 1)),(show ((i + 1) ≤ l.length) ∧ (∀ j,j < (i + 1) → decide (l.getD j 0 = n) = false) from ⟨(by first | assumption | omega | rfl | (intro _ hjj; omega) | (simp; done) | (simp; omega)),(by exact upto_succ hA (decide_eq_false n17))⟩),(show l.length - (i + 1) < l.length - i from (by first | omega | (simp_all; omega))),?_⟩
    exact Sub.of [] (@cast (((Sd (.ints l)) ∧ (Si n) ∧ (Si (((i + 1) : Nat) : Int)) ∧ True) ∧ True ∧ (true = true) ∧ (true = true)) _ (by kernel_rfl) ⟨⟨rfl,rfl,rfl,tt⟩,tt,rfl,rfl⟩)
  ·intro n9
   refine W.exit (thenQ_exit (thenQ_exit (blockQ_hit ?_)))
   refine thenQ_normal ?_
   refine Kk cok tab49 hnt [] [4] (⟨[(4,.b false)],[],[999]⟩)
    (True ∧ True)
    ⟨tt,tt⟩ ?_
   refine W.ret ?_
   exact endQ_ret (.b false) (by kernel_rfl) (@cast ((.bool false : Value) = .bool (hasInt l n)) _ (by kernel_rfl) (congrArg Value.bool (by unfold hasInt; symm; exact anyN_false (fun j hj => hA j (by omega)))))
theorem ent49 : Entr prog 49 := ⟨_,func49,rfl,by decide⟩
end Go.Proofs.Try
