import Derived.Test.YtjcapebfkgoicaaDoorTF5S0
import Derived.Test.YtjcapebfkgoicaaDoorTF5S5
import Derived.Test.YtjcapebfkgoicaaDoorTF5S7
import Derived.Test.YtjcapebfkgoicaaDoorTF5S6
import Derived.Test.YtjcapebfkgoicaaDoorTF5S8
set_option linter.unusedSimpArgs false
set_option linter.unusedVariables false
namespace Go.Proofs.Tryd
open Go.Ab Go.RowKit
def pre50 : List AV → List AV → Prop := preP [.calls] [.bytes,.int] (fun (h,_) (l,p,_) => (0 ≤ p ∧ p ≤ 900000) ∧ (GoodH h))
def rel50 : RelS := relP [.calls] [.bytes,.int] (ι := (List CallD) × Int) (fun (h,_) (l,p,_) (g,q) => (GoodH g) ∧ (p ≤ q ∧ q ≤ p + 1000)) (fun (h,_) (l,p,_) (g,q) => (.own 1 g.length,[⟨40,.row (.calls g)⟩],[.sl (.bytes l),.i q]))
abbrev T50 : Tab := lk [(20,fs20)]
theorem tab50 : TabOK prog T50 := (TabOK.cons ok20 ent20 TabOK.nil)
set_option maxRecDepth 100000 in
set_option maxHeartbeats 1000000 in
theorem rok50 : RelOK prog 50 (some 68) [.c .calls 40] pre50 rel50 := by
 refine RelOK.mk cok func50 rfl rfl rfl ?_
 rintro ⟨(h : List CallD),_⟩ ⟨(l : List UInt8),(p : Int),_⟩ hpre F hnt0
 have hnt : F.nt = 117 := hnt0.trans ntmps50
 replace hpre : (0 ≤ p ∧ p ≤ 900000) ∧ (GoodH h) := hpre
 obtain ⟨hp,hG⟩ := hpre
 refine W.to (⟨[(0,.ptr 998 0),(1,.own 999 h.length)],[(998,⟨68,.fix [.sl (.bytes l),.i p]⟩),(999,⟨40,.row (.calls h)⟩)],[998,999]⟩) rfl ?_
 have hl6 := hG.1
 refine Kk cok tab50 hnt [] [0,1] (⟨[(0,.ptr 998 0),(1,.own 999 h.length)],[(998,⟨68,.fix [.sl (.bytes l),.i p]⟩),(999,⟨40,.row (.calls h)⟩)],[998,999]⟩)
  (True ∧ True)
  ⟨tt,tt⟩ ?_
 refine W.seq ?_
 refine Kk cok tab50 hnt [] [0,1,15] (⟨[(0,.ptr 998 0),(1,.own 999 h.length),(15,.b (decide ((h.length : Int) = (0 : Int))))],[(998,⟨68,.fix [.sl (.bytes l),.i p]⟩),(999,⟨40,.row (.calls h)⟩)],[998,999]⟩)
  (True ∧ True ∧ (True ∧ True ∧ True) ∧ True)
  ⟨tt,tt,⟨tt,tt,tt⟩,tt⟩ ?_
 refine W.ifP ((h.length : Int) = (0 : Int)) (.b (decide ((h.length : Int) = (0 : Int)))) (by kernel_rfl) rfl trivial ?_ ?_
 ·intro h15
  refine Kk cok tab50 hnt [] [4] (⟨[(4,.own 999 h.length)],[(998,⟨68,.fix [.sl (.bytes l),.i p]⟩),(999,⟨40,.row (.calls h)⟩)],[998,999]⟩)
   (True ∧ True ∧ True)
   ⟨tt,tt,tt⟩ ?_
  refine W.ret (thenQ_ret ?_)
  exact endP_ret (h,p) (show (GoodH h) ∧ (p ≤ p ∧ p ≤ p + 1000) from ⟨(by assumption),(by first | assumption | omega | rfl | (simp; done) | (simp; omega))⟩) [(1,999),(0,998)] (.own 999 h.length) (by kernel_rfl) (@cast ((((999 : Nat) = 999) ∧ (h.length = h.length) ∧ ((1 : Nat) ∈ ([0,1] : List Nat))) ∧ ((((68 : Nat) = 68) ∧ ((Sd (.bytes l)) ∧ (Si p) ∧ True) ∧ ((0 : Nat) ∈ ([0,1] : List Nat))) ∧ (((40 : Nat) = 40) ∧ (Sd (.calls h)) ∧ ((1 : Nat) ∈ ([0,1] : List Nat))) ∧ True) ∧ (true = true) ∧ ((([] : List Nat) = []) ∧ True) ∧ (true = true → (998 : Nat) = 998)) _ (by kernel_rfl) ⟨⟨rfl,rfl,(by decide)⟩,⟨⟨rfl,⟨rfl,rfl,tt⟩,(by decide)⟩,⟨rfl,rfl,(by decide)⟩,tt⟩,rfl,⟨rfl,tt⟩,(fun _ => rfl)⟩)
 ·intro n15
  refine W.skip (thenQ_normal ?_)
  refine Kk cok tab50 hnt [17,19] [0,5] (⟨[(0,.ptr 998 0),(5,.own 19 h.length)],[(19,⟨40,.row (.calls h)⟩),(998,⟨68,.fix [.sl (.bytes l),.i p]⟩),(999,⟨40,.row (.calls h)⟩)],[19,17,998,999]⟩)
   (True ∧ True ∧ ((True ∧ ((List.length ([] : List CallD)) = (List.length ([] : List CallD)))) ∧ (True ∧ (h.length = h.length)) ∧ (((List.length ([] : List CallD)) + h.length) * 56 ≤ 140737488355328)) ∧ True ∧ True)
   ⟨tt,tt,⟨⟨tt,rfl⟩,⟨tt,rfl⟩,(by (first | omega | (simp only [List.length_set]; done) | (simp only [List.length_append,List.length_cons,List.length_nil,List.length_take,List.length_drop,List.length_set,List.length_replicate,List.length_map] at *; omega) | assumption))⟩,tt,tt⟩ ?_
  refine W.seq ?_
  refine W.seq (W.wi ?_)
  refine WI.runT cok tab50 hnt [] 2 2 (⟨[(0,.ptr 998 0),(5,.own 19 h.length),(20,.ptr 998 0),(21,.sl (.ints ([(4 : Int),(8 : Int),(2 : Int),(0 : Int),(12 : Int)])))],[(19,⟨40,.row (.calls h)⟩),(998,⟨68,.fix [.sl (.bytes l),.i p]⟩),(999,⟨40,.row (.calls h)⟩)],[21,19,17,998,999]⟩)
   (True ∧ (True ∧ True ∧ True ∧ True ∧ True ∧ True) ∧ True) (by kernel_rfl) rfl
   ⟨tt,⟨tt,tt,tt,tt,tt,tt⟩,tt⟩ ?_
  refine WI.call [.ptr 998 0,.sl (.ints ([(4 : Int),(8 : Int),(2 : Int),(0 : Int),(12 : Int)]))] [.sl (.bytes l),.i p] [.sl (.ints ([(4 : Int),(8 : Int),(2 : Int),(0 : Int),(12 : Int)]))] [.sl (.ints ([(4 : Int),(8 : Int),(2 : Int),(0 : Int),(12 : Int)]))] (some (68,998)) (True) (True ∧ True) none rok59 ent59 hnt rfl rfl (wanted_none rfl) (by kernel_rfl) (by kernel_rfl) (by kernel_rfl) ⟨tt,tt,tt⟩
   (@cast ((0 ≤ p ∧ p ≤ 1000000) ∧ (0 < ([(4 : Int),(8 : Int),(2 : Int),(0 : Int),(12 : Int)]).length) ∧ (([(4 : Int),(8 : Int),(2 : Int),(0 : Int),(12 : Int)]).length ≤ 1000)) _ (by kernel_rfl) ⟨(by omega),⟨(by (first | omega | (simp only [List.length_set]; done) | (simp only [List.length_append,List.length_cons,List.length_nil,List.length_take,List.length_drop,List.length_set,List.length_replicate,List.length_map] at *; omega) | assumption)),(by (first | omega | (simp only [List.length_set]; done) | (simp only [List.length_append,List.length_cons,List.length_nil,List.length_take,List.length_drop,List.length_set,List.length_replicate,List.length_map] at *; omega) | assumption))⟩⟩) (Or.inl rfl) rfl ?_
  rintro r bl fx2 hR
  obtain ⟨⟨v22,q22⟩,hq22,rfl,rfl,rfl⟩ := (@cast _ (∃ x : Int × Int,((x.1 ∈ ([(4 : Int),(8 : Int),(2 : Int),(0 : Int),(12 : Int)])) ∧ (x.2 = p + 1)) ∧ r = (.i x.1) ∧ bl = ([]) ∧ fx2 = ([.sl (.bytes l),.i x.2])) (by kernel_rfl) hR)
  clear hR
  replace hq22 : (v22 ∈ ([(4 : Int),(8 : Int),(2 : Int),(0 : Int),(12 : Int)])) ∧ (q22 = p + 1) := hq22
  obtain ⟨hv22,hq122⟩ := hq22
  simp only [List.mem_cons,List.not_mem_nil,or_false] at hv22
  refine ⟨by kernel_rfl,WI.to (⟨[(0,.ptr 998 0),(5,.own 19 h.length),(20,.ptr 998 0),(21,.sl (.ints ([(4 : Int),(8 : Int),(2 : Int),(0 : Int),(12 : Int)]))),(22,.i v22)],[(19,⟨40,.row (.calls h)⟩),(998,⟨68,.fix [.sl (.bytes l),.i q22]⟩),(999,⟨40,.row (.calls h)⟩)],[22,21,19,17,998,999]⟩) 3 (by kernel_rfl) rfl ?_⟩
  refine WI.runT cok tab50 hnt [] 1 4 (⟨[(0,.ptr 998 0),(5,.own 19 h.length),(6,.i v22),(20,.ptr 998 0),(21,.sl (.ints ([(4 : Int),(8 : Int),(2 : Int),(0 : Int),(12 : Int)]))),(22,.i v22)],[(19,⟨40,.row (.calls h)⟩),(998,⟨68,.fix [.sl (.bytes l),.i q22]⟩),(999,⟨40,.row (.calls h)⟩)],[22,21,19,17,998,999]⟩)
   (True ∧ True) (by kernel_rfl) rfl
   ⟨tt,tt⟩ ?_
  refine WI.nil rfl (thenQ_normal ?_)
  refine W.keepE [0,5,6] [(0,.ptr 998 0),(5,.own 19 h.length),(6,.i v22)] (by kernel_rfl) ?_
  refine W.to (⟨[(0,.ptr 998 0),(5,.own 19 h.length),(6,.i v22)],[(19,⟨40,.row (.calls h)⟩),(998,⟨68,.fix [.sl (.bytes l),.i q22]⟩),(999,⟨40,.row (.calls h)⟩)],[22,21,19,17,998,999]⟩) rfl ?_
  refine W.block ?_
  refine W.loop (ι := (List CallD) × Int × Int) (fun (x : (List CallD) × Int × Int) => match x with | (o,n,p1) => (⟨[(0,.ptr 998 0),(5,.own 19 o.length),(6,.i n)],[(19,⟨40,.row (.calls o)⟩),(998,⟨68,.fix [.sl (.bytes l),.i p1]⟩)],[19,998,999]⟩ : St))
   (fun (x : (List CallD) × Int × Int) => match x with | (o,n,p1) => (n ≤ 12) ∧ (p + 1 ≤ p1 ∧ p1 ≤ p + 1 + 3 * (12 - n) ∧ p1 ≤ p + 900) ∧ (GoodH o) ∧ (o.length = h.length))
   (fun (x : (List CallD) × Int × Int) => match x with | (o,n,p1) => (n.toNat : Nat)) (h,v22,q22) ?_ ?_ ?_
  ·exact (show (v22 ≤ 12) ∧ (p + 1 ≤ q22 ∧ q22 ≤ p + 1 + 3 * (12 - v22) ∧ q22 ≤ p + 900) ∧ (GoodH h) ∧ (h.length = h.length) from ⟨(by omega),(by omega),(by exact hG),(by rfl)⟩)
  ·exact Sub.of [] (@cast (((((998 : Nat) = 998) ∧ ((0 : Nat) = 0) ∧ ((998 : Nat) ∈ ([19,998,999] : List Nat))) ∧ (((19 : Nat) = 19) ∧ (h.length = h.length) ∧ ((19 : Nat) ∈ ([19,998,999] : List Nat))) ∧ (Si v22) ∧ True) ∧ ((((40 : Nat) = 40) ∧ (Sd (.calls h)) ∧ ((19 : Nat) ∈ ([19,998,999] : List Nat))) ∧ (((68 : Nat) = 68) ∧ ((Sd (.bytes l)) ∧ (Si q22) ∧ True) ∧ ((998 : Nat) ∈ ([19,998,999] : List Nat))) ∧ True) ∧ (true = true) ∧ (true = true)) _ (by kernel_rfl) ⟨⟨⟨rfl,rfl,(by decide)⟩,⟨rfl,rfl,(by decide)⟩,rfl,tt⟩,⟨⟨rfl,rfl,(by decide)⟩,⟨rfl,⟨rfl,rfl,tt⟩,(by decide)⟩,tt⟩,rfl,rfl⟩)
  ·rintro ⟨o,n,p1⟩ hC0
   have hC : (n ≤ 12) ∧ (p + 1 ≤ p1 ∧ p1 ≤ p + 1 + 3 * (12 - n) ∧ p1 ≤ p + 900) ∧ (GoodH o) ∧ (o.length = h.length) := hC0
   clear hC0
   obtain ⟨hn,hq,ho,hol⟩ := hC
   refine W.to (⟨[(0,.ptr 998 0),(5,.own 19 o.length),(6,.i n)],[(19,⟨40,.row (.calls o)⟩),(998,⟨68,.fix [.sl (.bytes l),.i p1]⟩)],[19,998,999]⟩) rfl ?_
   have ho6 := ho.1
   refine W.seq ?_
   refine Kk cok tab50 hnt [] [0,5,6,24] (⟨[(0,.ptr 998 0),(5,.own 19 o.length),(6,.i n),(24,.b (decide ((0 : Int) < n)))],[(19,⟨40,.row (.calls o)⟩),(998,⟨68,.fix [.sl (.bytes l),.i p1]⟩)],[19,998,999]⟩)
    (True ∧ (True ∧ True ∧ True) ∧ True)
    ⟨tt,⟨tt,tt,tt⟩,tt⟩ ?_
   refine W.ifP ((0 : Int) < n) (.b (decide ((0 : Int) < n))) (by kernel_rfl) rfl trivial ?_ ?_
   ·intro h24
    refine W.skip (thenQ_normal ?_)
    refine W.seq ?_
    refine W.block ?_
    refine Kk cok tab50 hnt [27,29] [0,5,6,7] (⟨[(0,.ptr 998 0),(5,.own 19 o.length),(6,.i n),(7,.own 29 o.length)],[(19,⟨40,.row (.calls o)⟩),(29,⟨40,.row (.calls o)⟩),(998,⟨68,.fix [.sl (.bytes l),.i p1]⟩)],[29,27,19,998,999]⟩)
     (True ∧ True ∧ ((True ∧ ((List.length ([] : List CallD)) = (List.length ([] : List CallD)))) ∧ (True ∧ (o.length = o.length)) ∧ (((List.length ([] : List CallD)) + o.length) * 56 ≤ 140737488355328)) ∧ True ∧ True)
     ⟨tt,tt,⟨⟨tt,rfl⟩,⟨tt,rfl⟩,(by (first | omega | (simp only [List.length_set]; done) | (simp only [List.length_append,List.length_cons,List.length_nil,List.length_take,List.length_drop,List.length_set,List.length_replicate,List.length_map] at *; omega) | assumption))⟩,tt,tt⟩ ?_
    refine W.seq (W.wi ?_)
    refine WI.runT cok tab50 hnt [] 3 3 (⟨[(0,.ptr 998 0),(5,.own 19 o.length),(6,.i n),(7,.own 29 o.length),(30,.ptr 998 0),(31,.own 29 o.length),(32,.i (o.length : Int))],[(19,⟨40,.row (.calls o)⟩),(29,⟨40,.row (.calls o)⟩),(998,⟨68,.fix [.sl (.bytes l),.i p1]⟩)],[29,27,19,998,999]⟩)
     (True ∧ True ∧ True ∧ True) (by kernel_rfl) rfl
     ⟨tt,tt,tt,tt⟩ ?_
    refine WI.call [.ptr 998 0,.i (o.length : Int)] [.sl (.bytes l),.i p1] [.i (o.length : Int)] [.i (o.length : Int)] (some (68,998)) (True) (True ∧ True) none rok34 ent34 hnt rfl rfl (wanted_none rfl) (by kernel_rfl) (by kernel_rfl) (by kernel_rfl) ⟨tt,tt,tt⟩
     (@cast (0 ≤ p1 ∧ p1 ≤ 1000000) _ (by kernel_rfl) (by omega)) (Or.inl rfl) rfl ?_
    rintro r bl fx2 hR
    obtain ⟨⟨v33,q33⟩,hq33,rfl,rfl,rfl⟩ := (@cast _ (∃ x : Int × Int,((0 ≤ x.1 ∧ x.1 < max (o.length : Int) 1) ∧ (x.2 = p1 + 1)) ∧ r = (.i x.1) ∧ bl = ([]) ∧ fx2 = ([.sl (.bytes l),.i x.2])) (by kernel_rfl) hR)
    clear hR
    replace hq33 : (0 ≤ v33 ∧ v33 < max (o.length : Int) 1) ∧ (q33 = p1 + 1) := hq33
    obtain ⟨hv33,hq133⟩ := hq33
    refine ⟨by kernel_rfl,WI.to (⟨[(0,.ptr 998 0),(5,.own 19 o.length),(6,.i n),(7,.own 29 o.length),(30,.ptr 998 0),(31,.own 29 o.length),(32,.i (o.length : Int)),(33,.i v33)],[(19,⟨40,.row (.calls o)⟩),(29,⟨40,.row (.calls o)⟩),(998,⟨68,.fix [.sl (.bytes l),.i q33]⟩)],[33,29,27,19,998,999]⟩) 4 (by kernel_rfl) rfl ?_⟩
    refine WI.runT cok tab50 hnt [] 1 5 (⟨[(0,.ptr 998 0),(5,.own 19 o.length),(6,.i n),(7,.own 29 o.length),(8,.i v33),(30,.ptr 998 0),(31,.own 29 o.length),(32,.i (o.length : Int)),(33,.i v33)],[(19,⟨40,.row (.calls o)⟩),(29,⟨40,.row (.calls o)⟩),(998,⟨68,.fix [.sl (.bytes l),.i q33]⟩)],[33,29,27,19,998,999]⟩)
     (True ∧ True) (by kernel_rfl) rfl
     ⟨tt,tt⟩ ?_
    refine WI.nil rfl (thenQ_normal ?_)
    refine W.keepE [0,5,6,7,8] [(0,.ptr 998 0),(5,.own 19 o.length),(6,.i n),(7,.own 29 o.length),(8,.i v33)] (by kernel_rfl) ?_
    refine W.to (⟨[(0,.ptr 998 0),(5,.own 19 o.length),(6,.i n),(7,.own 29 o.length),(8,.i v33)],[(19,⟨40,.row (.calls o)⟩),(29,⟨40,.row (.calls o)⟩),(998,⟨68,.fix [.sl (.bytes l),.i q33]⟩)],[33,29,27,19,998,999]⟩) rfl ?_
    refine Kk cok tab50 hnt [] [0,5,6,7,8,9] (⟨[(0,.ptr 998 0),(5,.own 19 o.length),(6,.i n),(7,.own 29 o.length),(8,.i v33),(9,.i ((o.getD (Int.toNat v33) default).frm))],[(19,⟨40,.row (.calls o)⟩),(29,⟨40,.row (.calls o)⟩),(998,⟨68,.fix [.sl (.bytes l),.i q33]⟩)],[33,29,27,19,998,999]⟩)
     (True ∧ True ∧ (True ∧ True ∧ (0 ≤ v33) ∧ (v33 < (o.length : Int))) ∧ True ∧ (True ∧ ((Int.toNat v33) < o.length)) ∧ True ∧ True)
     ⟨tt,tt,⟨tt,tt,(by omega),(by omega)⟩,tt,⟨tt,(by omega)⟩,tt,tt⟩ ?_
    refine Kk cok tab50 hnt [] [0,5,6,7,9,10] (⟨[(0,.ptr 998 0),(5,.own 19 o.length),(6,.i n),(7,.own 29 o.length),(9,.i ((o.getD (Int.toNat v33) default).frm)),(10,.i ((o.getD (Int.toNat v33) default).to))],[(19,⟨40,.row (.calls o)⟩),(29,⟨40,.row (.calls o)⟩),(998,⟨68,.fix [.sl (.bytes l),.i q33]⟩)],[33,29,27,19,998,999]⟩)
     (True ∧ True ∧ (True ∧ True ∧ (0 ≤ v33) ∧ (v33 < (o.length : Int))) ∧ True ∧ (True ∧ ((Int.toNat v33) < o.length)) ∧ True ∧ True)
     ⟨tt,tt,⟨tt,tt,(by omega),(by omega)⟩,tt,⟨tt,(by omega)⟩,tt,tt⟩ ?_
    refine W.seq ?_
    refine W.seq (W.wi ?_)
    refine WI.runT cok tab50 hnt [] 1 1 (⟨[(0,.ptr 998 0),(5,.own 19 o.length),(6,.i n),(7,.own 29 o.length),(9,.i ((o.getD (Int.toNat v33) default).frm)),(10,.i ((o.getD (Int.toNat v33) default).to)),(44,.ptr 998 0)],[(19,⟨40,.row (.calls o)⟩),(29,⟨40,.row (.calls o)⟩),(998,⟨68,.fix [.sl (.bytes l),.i q33]⟩)],[33,29,27,19,998,999]⟩)
     (True ∧ True) (by kernel_rfl) rfl
     ⟨tt,tt⟩ ?_
    refine WI.call [.ptr 998 0,.i (2 : Int)] [.sl (.bytes l),.i q33] [.i (2 : Int)] [.i (2 : Int)] (some (68,998)) (True) (True ∧ True) none rok34 ent34 hnt rfl rfl (wanted_none rfl) (by kernel_rfl) (by kernel_rfl) (by kernel_rfl) ⟨tt,tt,tt⟩
     (@cast (0 ≤ q33 ∧ q33 ≤ 1000000) _ (by kernel_rfl) (by omega)) (Or.inl rfl) rfl ?_
    rintro r bl fx2 hR
    obtain ⟨⟨v45,q45⟩,hq45,rfl,rfl,rfl⟩ := (@cast _ (∃ x : Int × Int,((0 ≤ x.1 ∧ x.1 < max (2 : Int) 1) ∧ (x.2 = q33 + 1)) ∧ r = (.i x.1) ∧ bl = ([]) ∧ fx2 = ([.sl (.bytes l),.i x.2])) (by kernel_rfl) hR)
    clear hR
    replace hq45 : (0 ≤ v45 ∧ v45 < max (2 : Int) 1) ∧ (q45 = q33 + 1) := hq45
    obtain ⟨hv45,hq145⟩ := hq45
    refine ⟨by kernel_rfl,WI.to (⟨[(0,.ptr 998 0),(5,.own 19 o.length),(6,.i n),(7,.own 29 o.length),(9,.i ((o.getD (Int.toNat v33) default).frm)),(10,.i ((o.getD (Int.toNat v33) default).to)),(44,.ptr 998 0),(45,.i v45)],[(19,⟨40,.row (.calls o)⟩),(29,⟨40,.row (.calls o)⟩),(998,⟨68,.fix [.sl (.bytes l),.i q45]⟩)],[45,33,29,27,19,998,999]⟩) 2 (by kernel_rfl) rfl ?_⟩
    refine WI.runT cok tab50 hnt [] 1 3 (⟨[(0,.ptr 998 0),(5,.own 19 o.length),(6,.i n),(7,.own 29 o.length),(9,.i ((o.getD (Int.toNat v33) default).frm)),(10,.i ((o.getD (Int.toNat v33) default).to)),(44,.ptr 998 0),(45,.i v45),(46,.b (decide (v45 = (0 : Int))))],[(19,⟨40,.row (.calls o)⟩),(29,⟨40,.row (.calls o)⟩),(998,⟨68,.fix [.sl (.bytes l),.i q45]⟩)],[45,33,29,27,19,998,999]⟩)
     ((True ∧ True ∧ True) ∧ True) (by kernel_rfl) rfl
     ⟨⟨tt,tt,tt⟩,tt⟩ ?_
    refine WI.nil rfl (thenQ_normal ?_)
    refine W.keepE [0,5,6,7,9,10,46] [(0,.ptr 998 0),(5,.own 19 o.length),(6,.i n),(7,.own 29 o.length),(9,.i ((o.getD (Int.toNat v33) default).frm)),(10,.i ((o.getD (Int.toNat v33) default).to)),(46,.b (decide (v45 = (0 : Int))))] (by kernel_rfl) ?_
    refine W.to (⟨[(0,.ptr 998 0),(5,.own 19 o.length),(6,.i n),(7,.own 29 o.length),(9,.i ((o.getD (Int.toNat v33) default).frm)),(10,.i ((o.getD (Int.toNat v33) default).to)),(46,.b (decide (v45 = (0 : Int))))],[(19,⟨40,.row (.calls o)⟩),(29,⟨40,.row (.calls o)⟩),(998,⟨68,.fix [.sl (.bytes l),.i q45]⟩)],[45,33,29,27,19,998,999]⟩) rfl ?_
    refine W.meetT (ι := Int) (fun (a : Int) => (⟨[(0,.ptr 998 0),(5,.own 19 o.length),(6,.i n),(7,.own 29 o.length),(9,.i a)],[(19,⟨40,.row (.calls o)⟩),(29,⟨40,.row (.calls o)⟩),(998,⟨68,.fix [.sl (.bytes l),.i q45]⟩)],[19,29,998,999]⟩ : St)) (fun (a : Int) => (-100 ≤ a ∧ a ≤ 100)) ?_ ?_
    ·skip
     refine W.ifP (v45 = (0 : Int)) (.b (decide (v45 = (0 : Int)))) (by kernel_rfl) rfl trivial ?_ ?_
     ·intro h46
      refine Lk cok tab50 hnt [] (⟨[(0,.ptr 998 0),(5,.own 19 o.length),(6,.i n),(7,.own 29 o.length),(9,.i ((o.getD (Int.toNat v33) default).to)),(10,.i ((o.getD (Int.toNat v33) default).to)),(46,.b (decide (v45 = (0 : Int)))),(47,.i ((o.getD (Int.toNat v33) default).to))],[(19,⟨40,.row (.calls o)⟩),(29,⟨40,.row (.calls o)⟩),(998,⟨68,.fix [.sl (.bytes l),.i q45]⟩)],[45,33,29,27,19,998,999]⟩)
       (True ∧ True ∧ True)
       ⟨tt,tt,tt⟩ ?_
      refine thenQ_normal ?_
      refine ⟨(((o.getD (Int.toNat v33) default).to)),(show (-100 ≤ ((o.getD (Int.toNat v33) default).to) ∧ ((o.getD (Int.toNat v33) default).to) ≤ 100) from (by have hs := ho.at (i := Int.toNat v33) (by omega); unfold smallC at hs; omega)),?_⟩
      exact Sub.of [] (@cast (((((998 : Nat) = 998) ∧ ((0 : Nat) = 0) ∧ ((998 : Nat) ∈ ([19,29,998,999] : List Nat))) ∧ (((19 : Nat) = 19) ∧ (o.length = o.length) ∧ ((19 : Nat) ∈ ([19,29,998,999] : List Nat))) ∧ (Si n) ∧ (((29 : Nat) = 29) ∧ (o.length = o.length) ∧ ((29 : Nat) ∈ ([19,29,998,999] : List Nat))) ∧ (Si ((o.getD (Int.toNat v33) default).to)) ∧ True) ∧ ((((40 : Nat) = 40) ∧ (Sd (.calls o)) ∧ ((19 : Nat) ∈ ([19,29,998,999] : List Nat))) ∧ (((40 : Nat) = 40) ∧ (Sd (.calls o)) ∧ ((29 : Nat) ∈ ([19,29,998,999] : List Nat))) ∧ (((68 : Nat) = 68) ∧ ((Sd (.bytes l)) ∧ (Si q45) ∧ True) ∧ ((998 : Nat) ∈ ([19,29,998,999] : List Nat))) ∧ True) ∧ (true = true) ∧ (true = true)) _ (by kernel_rfl) ⟨⟨⟨rfl,rfl,(by decide)⟩,⟨rfl,rfl,(by decide)⟩,rfl,⟨rfl,rfl,(by decide)⟩,rfl,tt⟩,⟨⟨rfl,rfl,(by decide)⟩,⟨rfl,rfl,(by decide)⟩,⟨rfl,⟨rfl,rfl,tt⟩,(by decide)⟩,tt⟩,rfl,rfl⟩)
     ·intro n46
      refine W.skip (thenQ_normal ?_)
      refine ⟨(((o.getD (Int.toNat v33) default).frm)),(show (-100 ≤ ((o.getD (Int.toNat v33) default).frm) ∧ ((o.getD (Int.toNat v33) default).frm) ≤ 100) from (by have hs := ho.at (i := Int.toNat v33) (by omega); unfold smallC at hs; omega)),?_⟩
      exact Sub.of [] (@cast (((((998 : Nat) = 998) ∧ ((0 : Nat) = 0) ∧ ((998 : Nat) ∈ ([19,29,998,999] : List Nat))) ∧ (((19 : Nat) = 19) ∧ (o.length = o.length) ∧ ((19 : Nat) ∈ ([19,29,998,999] : List Nat))) ∧ (Si n) ∧ (((29 : Nat) = 29) ∧ (o.length = o.length) ∧ ((29 : Nat) ∈ ([19,29,998,999] : List Nat))) ∧ (Si ((o.getD (Int.toNat v33) default).frm)) ∧ True) ∧ ((((40 : Nat) = 40) ∧ (Sd (.calls o)) ∧ ((19 : Nat) ∈ ([19,29,998,999] : List Nat))) ∧ (((40 : Nat) = 40) ∧ (Sd (.calls o)) ∧ ((29 : Nat) ∈ ([19,29,998,999] : List Nat))) ∧ (((68 : Nat) = 68) ∧ ((Sd (.bytes l)) ∧ (Si q45) ∧ True) ∧ ((998 : Nat) ∈ ([19,29,998,999] : List Nat))) ∧ True) ∧ (true = true) ∧ (true = true)) _ (by kernel_rfl) ⟨⟨⟨rfl,rfl,(by decide)⟩,⟨rfl,rfl,(by decide)⟩,rfl,⟨rfl,rfl,(by decide)⟩,rfl,tt⟩,⟨⟨rfl,rfl,(by decide)⟩,⟨rfl,rfl,(by decide)⟩,⟨rfl,⟨rfl,rfl,tt⟩,(by decide)⟩,tt⟩,rfl,rfl⟩)
    ·rintro a hC0
     have hC : (-100 ≤ a ∧ a ≤ 100) := hC0
     clear hC0
     obtain ha := hC
     refine W.to (⟨[(0,.ptr 998 0),(5,.own 19 o.length),(6,.i n),(7,.own 29 o.length),(9,.i a)],[(19,⟨40,.row (.calls o)⟩),(29,⟨40,.row (.calls o)⟩),(998,⟨68,.fix [.sl (.bytes l),.i q45]⟩)],[19,29,998,999]⟩) rfl ?_
     refine W.seq (W.wi ?_)
     refine WI.runT cok tab50 hnt [] 2 2 (⟨[(0,.ptr 998 0),(5,.own 19 o.length),(6,.i n),(7,.own 29 o.length),(9,.i a),(48,.ptr 998 0),(49,.sl (.ints ([(1 : Int),(-1 : Int)])))],[(19,⟨40,.row (.calls o)⟩),(29,⟨40,.row (.calls o)⟩),(998,⟨68,.fix [.sl (.bytes l),.i q45]⟩)],[49,19,29,998,999]⟩)
      (True ∧ (True ∧ True ∧ True) ∧ True) (by kernel_rfl) rfl
      ⟨tt,⟨tt,tt,tt⟩,tt⟩ ?_
     refine WI.call [.ptr 998 0,.sl (.ints ([(1 : Int),(-1 : Int)]))] [.sl (.bytes l),.i q45] [.sl (.ints ([(1 : Int),(-1 : Int)]))] [.sl (.ints ([(1 : Int),(-1 : Int)]))] (some (68,998)) (True) (True ∧ True) none rok59 ent59 hnt rfl rfl (wanted_none rfl) (by kernel_rfl) (by kernel_rfl) (by kernel_rfl) ⟨tt,tt,tt⟩
      (@cast ((0 ≤ q45 ∧ q45 ≤ 1000000) ∧ (0 < ([(1 : Int),(-1 : Int)]).length) ∧ (([(1 : Int),(-1 : Int)]).length ≤ 1000)) _ (by kernel_rfl) ⟨(by omega),⟨(by (first | omega | (simp only [List.length_set]; done) | (simp only [List.length_append,List.length_cons,List.length_nil,List.length_take,List.length_drop,List.length_set,List.length_replicate,List.length_map] at *; omega) | assumption)),(by (first | omega | (simp only [List.length_set]; done) | (simp only [List.length_append,List.length_cons,List.length_nil,List.length_take,List.length_drop,List.length_set,List.length_replicate,List.length_map] at *; omega) | assumption))⟩⟩) (Or.inl rfl) rfl ?_
     rintro r bl fx2 hR
     obtain ⟨⟨v50,q50⟩,hq50,rfl,rfl,rfl⟩ := (@cast _ (∃ x : Int × Int,((x.1 ∈ ([(1 : Int),(-1 : Int)])) ∧ (x.2 = q45 + 1)) ∧ r = (.i x.1) ∧ bl = ([]) ∧ fx2 = ([.sl (.bytes l),.i x.2])) (by kernel_rfl) hR)
     clear hR
     replace hq50 : (v50 ∈ ([(1 : Int),(-1 : Int)])) ∧ (q50 = q45 + 1) := hq50
     obtain ⟨hv50,hq150⟩ := hq50
     simp only [List.mem_cons,List.not_mem_nil,or_false] at hv50
     refine ⟨by kernel_rfl,WI.to (⟨[(0,.ptr 998 0),(5,.own 19 o.length),(6,.i n),(7,.own 29 o.length),(9,.i a),(48,.ptr 998 0),(49,.sl (.ints ([(1 : Int),(-1 : Int)]))),(50,.i v50)],[(19,⟨40,.row (.calls o)⟩),(29,⟨40,.row (.calls o)⟩),(998,⟨68,.fix [.sl (.bytes l),.i q50]⟩)],[50,49,19,29,998,999]⟩) 3 (by kernel_rfl) rfl ?_⟩
     refine WI.runT cok tab50 hnt [] 1 4 (⟨[(0,.ptr 998 0),(5,.own 19 o.length),(6,.i n),(7,.own 29 o.length),(9,.i a),(11,.i v50),(48,.ptr 998 0),(49,.sl (.ints ([(1 : Int),(-1 : Int)]))),(50,.i v50)],[(19,⟨40,.row (.calls o)⟩),(29,⟨40,.row (.calls o)⟩),(998,⟨68,.fix [.sl (.bytes l),.i q50]⟩)],[50,49,19,29,998,999]⟩)
      (True ∧ True) (by kernel_rfl) rfl
      ⟨tt,tt⟩ ?_
     refine WI.nil rfl (thenQ_normal ?_)
     refine W.keepE [0,5,6,7,9,11] [(0,.ptr 998 0),(5,.own 19 o.length),(6,.i n),(7,.own 29 o.length),(9,.i a),(11,.i v50)] (by kernel_rfl) ?_
     refine W.to (⟨[(0,.ptr 998 0),(5,.own 19 o.length),(6,.i n),(7,.own 29 o.length),(9,.i a),(11,.i v50)],[(19,⟨40,.row (.calls o)⟩),(29,⟨40,.row (.calls o)⟩),(998,⟨68,.fix [.sl (.bytes l),.i q50]⟩)],[50,49,19,29,998,999]⟩) rfl ?_
     refine W.seq ?_
     refine Kk cok tab50 hnt [] [0,5,6,7,9,11,12] (⟨[(0,.ptr 998 0),(5,.own 19 o.length),(6,.i n),(7,.own 29 o.length),(9,.i a),(11,.i v50),(12,.i (0 : Int))],[(19,⟨40,.row (.calls o)⟩),(29,⟨40,.row (.calls o)⟩),(998,⟨68,.fix [.sl (.bytes l),.i q50]⟩)],[50,49,19,29,998,999]⟩)
      (True ∧ True)
      ⟨tt,tt⟩ ?_
     refine W.block ?_
     refine W.loop (ι := Nat × (List CallD)) (fun (x : Nat × (List CallD)) => match x with | (k,xs) => (⟨[(0,.ptr 998 0),(5,.own 19 o.length),(6,.i n),(7,.own 29 o.length),(9,.i a),(11,.i v50),(12,.i ((k : Nat) : Int))],[(19,⟨40,.row (.calls o)⟩),(29,⟨40,.row (.calls xs)⟩),(998,⟨68,.fix [.sl (.bytes l),.i q50]⟩)],[19,29,998,999]⟩ : St))
      (fun (x : Nat × (List CallD)) => match x with | (k,xs) => (k ≤ o.length) ∧ (xs.length = o.length))
      (fun (x : Nat × (List CallD)) => match x with | (k,xs) => (o.length - k : Nat)) (0,o) ?_ ?_ ?_
     ·exact (show (0 ≤ o.length) ∧ (o.length = o.length) from ⟨(by first | assumption | omega | rfl | (intro _ hjj; omega) | (simp; done) | (simp; omega)),(by first | assumption | omega | rfl | (intro _ hjj; omega) | (simp; done) | (simp; omega))⟩)
     ·exact Sub.of [] (@cast (((((998 : Nat) = 998) ∧ ((0 : Nat) = 0) ∧ ((998 : Nat) ∈ ([19,29,998,999] : List Nat))) ∧ (((19 : Nat) = 19) ∧ (o.length = o.length) ∧ ((19 : Nat) ∈ ([19,29,998,999] : List Nat))) ∧ (Si n) ∧ (((29 : Nat) = 29) ∧ (o.length = o.length) ∧ ((29 : Nat) ∈ ([19,29,998,999] : List Nat))) ∧ (Si a) ∧ (Si v50) ∧ ((.int .i64 (0 : Int) : Value) = .int .i64 ((0 : Nat) : Int)) ∧ True) ∧ ((((40 : Nat) = 40) ∧ (Sd (.calls o)) ∧ ((19 : Nat) ∈ ([19,29,998,999] : List Nat))) ∧ (((40 : Nat) = 40) ∧ (Sd (.calls o)) ∧ ((29 : Nat) ∈ ([19,29,998,999] : List Nat))) ∧ (((68 : Nat) = 68) ∧ ((Sd (.bytes l)) ∧ (Si q50) ∧ True) ∧ ((998 : Nat) ∈ ([19,29,998,999] : List Nat))) ∧ True) ∧ (true = true) ∧ (true = true)) _ (by kernel_rfl) ⟨⟨⟨rfl,rfl,(by decide)⟩,⟨rfl,rfl,(by decide)⟩,rfl,⟨rfl,rfl,(by decide)⟩,rfl,rfl,(congrArg (Value.int .i64) (by first | rfl | omega | assumption | simp | simp_all)),tt⟩,⟨⟨rfl,rfl,(by decide)⟩,⟨rfl,rfl,(by decide)⟩,⟨rfl,⟨rfl,rfl,tt⟩,(by decide)⟩,tt⟩,rfl,rfl⟩)
     ·rintro ⟨k,xs⟩ hC0
      have hC : (k ≤ o.length) ∧ (xs.length = o.length) := hC0
      clear hC0
      obtain ⟨hk,hx⟩ := hC
      refine W.to (⟨[(0,.ptr 998 0),(5,.own 19 o.length),(6,.i n),(7,.own 29 o.length),(9,.i a),(11,.i v50),(12,.i ((k : Nat) : Int))],[(19,⟨40,.row (.calls o)⟩),(29,⟨40,.row (.calls xs)⟩),(998,⟨68,.fix [.sl (.bytes l),.i q50]⟩)],[19,29,998,999]⟩) rfl ?_
      refine W.seq ?_
      refine Kk cok tab50 hnt [] [0,5,6,7,9,11,12,54] (⟨[(0,.ptr 998 0),(5,.own 19 o.length),(6,.i n),(7,.own 29 o.length),(9,.i a),(11,.i v50),(12,.i ((k : Nat) : Int)),(54,.b (decide (((k : Nat) : Int) < (o.length : Int))))],[(19,⟨40,.row (.calls o)⟩),(29,⟨40,.row (.calls xs)⟩),(998,⟨68,.fix [.sl (.bytes l),.i q50]⟩)],[19,29,998,999]⟩)
       (True ∧ True ∧ True ∧ (True ∧ True ∧ True) ∧ True)
       ⟨tt,tt,tt,⟨tt,tt,tt⟩,tt⟩ ?_
      refine W.ifP (((k : Nat) : Int) < (o.length : Int)) (.b (decide (((k : Nat) : Int) < (o.length : Int)))) (by kernel_rfl) rfl trivial ?_ ?_
      ·intro h54
       refine W.skip (thenQ_normal ?_)
       refine W.seq ?_
       refine W.block ?_
       refine W.seq ?_
       refine Kk cok tab50 hnt [] [0,5,6,7,9,11,12,65] (⟨[(0,.ptr 998 0),(5,.own 19 o.length),(6,.i n),(7,.own 29 o.length),(9,.i a),(11,.i v50),(12,.i ((k : Nat) : Int)),(65,.b (decide (((xs.getD k default).frm) = (a + v50))))],[(19,⟨40,.row (.calls o)⟩),(29,⟨40,.row (.calls xs)⟩),(998,⟨68,.fix [.sl (.bytes l),.i q50]⟩)],[19,29,998,999]⟩)
        (True ∧ True ∧ (True ∧ True ∧ (0 ≤ ((k : Nat) : Int)) ∧ (((k : Nat) : Int) < (o.length : Int))) ∧ True ∧ (True ∧ (k < xs.length)) ∧ True ∧ True ∧ (True ∧ True ∧ (Fits .i64 (a + v50))) ∧ (True ∧ True ∧ True) ∧ True)
        ⟨tt,tt,⟨tt,tt,(by omega),(by omega)⟩,tt,⟨tt,(by omega)⟩,tt,tt,⟨tt,tt,(by exact fits_i64 (by omega) (by omega))⟩,⟨tt,tt,tt⟩,tt⟩ ?_
       refine W.ifP (((xs.getD k default).frm) = (a + v50)) (.b (decide (((xs.getD k default).frm) = (a + v50)))) (by kernel_rfl) rfl trivial ?_ ?_
       ·intro h65
        refine Lk cok tab50 hnt [] (⟨[(0,.ptr 998 0),(5,.own 19 o.length),(6,.i n),(7,.own 29 o.length),(9,.i a),(11,.i v50),(12,.i ((k : Nat) : Int)),(65,.b (decide (((xs.getD k default).frm) = (a + v50)))),(66,.own 29 o.length),(67,.i ((k : Nat) : Int)),(68,.i a),(69,.pel 29 7 k 0),(70,.pel 29 7 k 5)],[(19,⟨40,.row (.calls o)⟩),(29,⟨40,.row (.calls (List.set xs k ({ xs.getD k default with frm := a })))⟩),(998,⟨68,.fix [.sl (.bytes l),.i q50]⟩)],[19,29,998,999]⟩)
         (True ∧ True ∧ True ∧ (True ∧ True ∧ (0 ≤ ((k : Nat) : Int)) ∧ (((k : Nat) : Int) < (o.length : Int))) ∧ True ∧ (True ∧ True ∧ (k < xs.length)) ∧ True)
         ⟨tt,tt,tt,⟨tt,tt,(by omega),(by omega)⟩,tt,⟨tt,tt,(by omega)⟩,tt⟩ ?_
        refine thenQ_normal ?_
        refine Kk cok tab50 hnt [] [0,5,6,7,9,11,12,93] (⟨[(0,.ptr 998 0),(5,.own 19 o.length),(6,.i n),(7,.own 29 o.length),(9,.i a),(11,.i v50),(12,.i ((k : Nat) : Int)),(93,.b (decide (((List.getD (List.set xs k ({ xs.getD k default with frm := a })) k default).to) = (a + v50))))],[(19,⟨40,.row (.calls o)⟩),(29,⟨40,.row (.calls (List.set xs k ({ xs.getD k default with frm := a })))⟩),(998,⟨68,.fix [.sl (.bytes l),.i q50]⟩)],[19,29,998,999]⟩)
         (True ∧ True ∧ (True ∧ True ∧ (0 ≤ ((k : Nat) : Int)) ∧ (((k : Nat) : Int) < (o.length : Int))) ∧ True ∧ (True ∧ (k < (List.length (List.set xs k ({ xs.getD k default with frm := a }))))) ∧ True ∧ True ∧ (True ∧ True ∧ (Fits .i64 (a + v50))) ∧ (True ∧ True ∧ True) ∧ True)
         ⟨tt,tt,⟨tt,tt,(by omega),(by omega)⟩,tt,⟨tt,(by (first | omega | (simp only [List.length_set]; done) | (simp only [List.length_append,List.length_cons,List.length_nil,List.length_take,List.length_drop,List.length_set,List.length_replicate,List.length_map] at *; omega) | assumption))⟩,tt,tt,⟨tt,tt,(by exact fits_i64 (by omega) (by omega))⟩,⟨tt,tt,tt⟩,tt⟩ ?_
        refine W.ifP (((List.getD (List.set xs k ({ xs.getD k default with frm := a })) k default).to) = (a + v50)) (.b (decide (((List.getD (List.set xs k ({ xs.getD k default with frm := a })) k default).to) = (a + v50)))) (by kernel_rfl) rfl trivial ?_ ?_
        ·intro h93
         refine Lk cok tab50 hnt [] (⟨[(0,.ptr 998 0),(5,.own 19 o.length),(6,.i n),(7,.own 29 o.length),(9,.i a),(11,.i v50),(12,.i ((k : Nat) : Int)),(93,.b (decide (((List.getD (List.set xs k ({ xs.getD k default with frm := a })) k default).to) = (a + v50)))),(94,.own 29 o.length),(95,.i ((k : Nat) : Int)),(96,.i a),(97,.pel 29 7 k 0),(98,.pel 29 7 k 6)],[(19,⟨40,.row (.calls o)⟩),(29,⟨40,.row (.calls (List.set (List.set xs k ({ xs.getD k default with frm := a })) k ({ List.getD (List.set xs k ({ xs.getD k default with frm := a })) k default with to := a })))⟩),(998,⟨68,.fix [.sl (.bytes l),.i q50]⟩)],[19,29,998,999]⟩)
          (True ∧ True ∧ True ∧ (True ∧ True ∧ (0 ≤ ((k : Nat) : Int)) ∧ (((k : Nat) : Int) < (o.length : Int))) ∧ True ∧ (True ∧ True ∧ (k < (List.length (List.set xs k ({ xs.getD k default with frm := a }))))) ∧ True)
          ⟨tt,tt,tt,⟨tt,tt,(by omega),(by omega)⟩,tt,⟨tt,tt,(by (first | omega | (simp only [List.length_set]; done) | (simp only [List.length_append,List.length_cons,List.length_nil,List.length_take,List.length_drop,List.length_set,List.length_replicate,List.length_map] at *; omega) | assumption))⟩,tt⟩ ?_
         refine blockQ_normal (thenQ_normal ?_)
         refine Lk cok tab50 hnt [] (⟨[(0,.ptr 998 0),(5,.own 19 o.length),(6,.i n),(7,.own 29 o.length),(9,.i a),(11,.i v50),(12,.i (((k + 1) : Nat) : Int)),(55,.i ((k : Nat) : Int)),(56,.i (((k + 1) : Nat) : Int)),(93,.b (decide (((List.getD (List.set xs k ({ xs.getD k default with frm := a })) k default).to) = (a + v50)))),(94,.own 29 o.length),(95,.i ((k : Nat) : Int)),(96,.i a),(97,.pel 29 7 k 0),(98,.pel 29 7 k 6)],[(19,⟨40,.row (.calls o)⟩),(29,⟨40,.row (.calls (List.set (List.set xs k ({ xs.getD k default with frm := a })) k ({ List.getD (List.set xs k ({ xs.getD k default with frm := a })) k default with to := a })))⟩),(998,⟨68,.fix [.sl (.bytes l),.i q50]⟩)],[19,29,998,999]⟩)
          (True ∧ (True ∧ True ∧ (Fits .i64 (((k + 1) : Nat) : Int))) ∧ True ∧ True)
          ⟨tt,⟨tt,tt,(by exact fits_i64 (by omega) (by omega))⟩,tt,tt⟩ ?_
         refine thenQ_normal ?_
         refine ⟨((k + 1),(List.set (List.set xs k ({ xs.getD k default with frm := a })) k ({ List.getD (List.set xs k ({ xs.getD k default with frm := a })) k default with to := a }))),(show ((k + 1) ≤ o.length) ∧ ((List.set (List.set xs k ({ xs.getD k default with frm := a })) k ({ List.getD (List.set xs k ({ xs.getD k default with frm := a })) k default with to := a })).length = o.length) from ⟨(by first | assumption | omega | rfl | (intro _ hjj; omega) | (simp; done) | (simp; omega)),(by first | assumption | (simp only [List.length_set]; assumption))⟩),(show o.length - (k + 1) < o.length - k from (by first | omega | (simp_all; omega))),?_⟩
         exact Sub.of [] (@cast (((((998 : Nat) = 998) ∧ ((0 : Nat) = 0) ∧ ((998 : Nat) ∈ ([19,29,998,999] : List Nat))) ∧ (((19 : Nat) = 19) ∧ (o.length = o.length) ∧ ((19 : Nat) ∈ ([19,29,998,999] : List Nat))) ∧ (Si n) ∧ (((29 : Nat) = 29) ∧ (o.length = o.length) ∧ ((29 : Nat) ∈ ([19,29,998,999] : List Nat))) ∧ (Si a) ∧ (Si v50) ∧ (Si (((k + 1) : Nat) : Int)) ∧ True) ∧ ((((40 : Nat) = 40) ∧ (Sd (.calls o)) ∧ ((19 : Nat) ∈ ([19,29,998,999] : List Nat))) ∧ (((40 : Nat) = 40) ∧ (Sd (.calls (List.set (List.set xs k ({ xs.getD k default with frm := a })) k ({ List.getD (List.set xs k ({ xs.getD k default with frm := a })) k default with to := a })))) ∧ ((29 : Nat) ∈ ([19,29,998,999] : List Nat))) ∧ (((68 : Nat) = 68) ∧ ((Sd (.bytes l)) ∧ (Si q50) ∧ True) ∧ ((998 : Nat) ∈ ([19,29,998,999] : List Nat))) ∧ True) ∧ (true = true) ∧ (true = true)) _ (by kernel_rfl) ⟨⟨⟨rfl,rfl,(by decide)⟩,⟨rfl,rfl,(by decide)⟩,rfl,⟨rfl,rfl,(by decide)⟩,rfl,rfl,rfl,tt⟩,⟨⟨rfl,rfl,(by decide)⟩,⟨rfl,rfl,(by decide)⟩,⟨rfl,⟨rfl,rfl,tt⟩,(by decide)⟩,tt⟩,rfl,rfl⟩)
        ·intro n93
         refine Kk cok tab50 hnt [] [0,5,6,7,9,11,12,105] (⟨[(0,.ptr 998 0),(5,.own 19 o.length),(6,.i n),(7,.own 29 o.length),(9,.i a),(11,.i v50),(12,.i ((k : Nat) : Int)),(105,.b (decide (((List.getD (List.set xs k ({ xs.getD k default with frm := a })) k default).to) = a)))],[(19,⟨40,.row (.calls o)⟩),(29,⟨40,.row (.calls (List.set xs k ({ xs.getD k default with frm := a })))⟩),(998,⟨68,.fix [.sl (.bytes l),.i q50]⟩)],[19,29,998,999]⟩)
          (True ∧ True ∧ (True ∧ True ∧ (0 ≤ ((k : Nat) : Int)) ∧ (((k : Nat) : Int) < (o.length : Int))) ∧ True ∧ (True ∧ (k < (List.length (List.set xs k ({ xs.getD k default with frm := a }))))) ∧ True ∧ (True ∧ True ∧ True) ∧ True)
          ⟨tt,tt,⟨tt,tt,(by omega),(by omega)⟩,tt,⟨tt,(by (first | omega | (simp only [List.length_set]; done) | (simp only [List.length_append,List.length_cons,List.length_nil,List.length_take,List.length_drop,List.length_set,List.length_replicate,List.length_map] at *; omega) | assumption))⟩,tt,⟨tt,tt,tt⟩,tt⟩ ?_
         refine W.ifP (((List.getD (List.set xs k ({ xs.getD k default with frm := a })) k default).to) = a) (.b (decide (((List.getD (List.set xs k ({ xs.getD k default with frm := a })) k default).to) = a))) (by kernel_rfl) rfl trivial ?_ ?_
         ·intro h105
          refine Lk cok tab50 hnt [] (⟨[(0,.ptr 998 0),(5,.own 19 o.length),(6,.i n),(7,.own 29 o.length),(9,.i a),(11,.i v50),(12,.i ((k : Nat) : Int)),(105,.b (decide (((List.getD (List.set xs k ({ xs.getD k default with frm := a })) k default).to) = a))),(106,.own 29 o.length),(107,.i ((k : Nat) : Int)),(108,.i a),(109,.i v50),(110,.i (a + v50)),(111,.pel 29 7 k 0),(112,.pel 29 7 k 6)],[(19,⟨40,.row (.calls o)⟩),(29,⟨40,.row (.calls (List.set (List.set xs k ({ xs.getD k default with frm := a })) k ({ List.getD (List.set xs k ({ xs.getD k default with frm := a })) k default with to := (a + v50) })))⟩),(998,⟨68,.fix [.sl (.bytes l),.i q50]⟩)],[19,29,998,999]⟩)
           (True ∧ True ∧ True ∧ True ∧ (True ∧ True ∧ (Fits .i64 (a + v50))) ∧ (True ∧ True ∧ (0 ≤ ((k : Nat) : Int)) ∧ (((k : Nat) : Int) < (o.length : Int))) ∧ True ∧ (True ∧ True ∧ (k < (List.length (List.set xs k ({ xs.getD k default with frm := a }))))) ∧ True)
           ⟨tt,tt,tt,tt,⟨tt,tt,(by exact fits_i64 (by omega) (by omega))⟩,⟨tt,tt,(by omega),(by omega)⟩,tt,⟨tt,tt,(by (first | omega | (simp only [List.length_set]; done) | (simp only [List.length_append,List.length_cons,List.length_nil,List.length_take,List.length_drop,List.length_set,List.length_replicate,List.length_map] at *; omega) | assumption))⟩,tt⟩ ?_
          refine blockQ_normal (thenQ_normal ?_)
          refine Lk cok tab50 hnt [] (⟨[(0,.ptr 998 0),(5,.own 19 o.length),(6,.i n),(7,.own 29 o.length),(9,.i a),(11,.i v50),(12,.i (((k + 1) : Nat) : Int)),(55,.i ((k : Nat) : Int)),(56,.i (((k + 1) : Nat) : Int)),(105,.b (decide (((List.getD (List.set xs k ({ xs.getD k default with frm := a })) k default).to) = a))),(106,.own 29 o.length),(107,.i ((k : Nat) : Int)),(108,.i a),(109,.i v50),(110,.i (a + v50)),(111,.pel 29 7 k 0),(112,.pel 29 7 k 6)],[(19,⟨40,.row (.calls o)⟩),(29,⟨40,.row (.calls (List.set (List.set xs k ({ xs.getD k default with frm := a })) k ({ List.getD (List.set xs k ({ xs.getD k default with frm := a })) k default with to := (a + v50) })))⟩),(998,⟨68,.fix [.sl (.bytes l),.i q50]⟩)],[19,29,998,999]⟩)
           (True ∧ (True ∧ True ∧ (Fits .i64 (((k + 1) : Nat) : Int))) ∧ True ∧ True)
           ⟨tt,⟨tt,tt,(by exact fits_i64 (by omega) (by omega))⟩,tt,tt⟩ ?_
          refine thenQ_normal ?_
          refine ⟨((k + 1),(List.set (List.set xs k ({ xs.getD k default with frm := a })) k ({ List.getD (List.set xs k ({ xs.getD k default with frm := a })) k default with to := (a + v50) }))),(show ((k + 1) ≤ o.length) ∧ ((List.set (List.set xs k ({ xs.getD k default with frm := a })) k ({ List.getD (List.set xs k ({ xs.getD k default with frm := a })) k default with to := (a + v50) })).length = o.length) from ⟨(by first | assumption | omega | rfl | (intro _ hjj; omega) | (simp; done) | (simp; omega)),(by first | assumption | (simp only [List.length_set]; assumption))⟩),(show o.length - (k + 1) < o.length - k from (by first | omega | (simp_all; omega))),?_⟩
          exact Sub.of [] (@cast (((((998 : Nat) = 998) ∧ ((0 : Nat) = 0) ∧ ((998 : Nat) ∈ ([19,29,998,999] : List Nat))) ∧ (((19 : Nat) = 19) ∧ (o.length = o.length) ∧ ((19 : Nat) ∈ ([19,29,998,999] : List Nat))) ∧ (Si n) ∧ (((29 : Nat) = 29) ∧ (o.length = o.length) ∧ ((29 : Nat) ∈ ([19,29,998,999] : List Nat))) ∧ (Si a) ∧ (Si v50) ∧ (Si (((k + 1) : Nat) : Int)) ∧ True) ∧ ((((40 : Nat) = 40) ∧ (Sd (.calls o)) ∧ ((19 : Nat) ∈ ([19,29,998,999] : List Nat))) ∧ (((40 : Nat) = 40) ∧ (Sd (.calls (List.set (List.set xs k ({ xs.getD k default with frm := a })) k ({ List.getD (List.set xs k ({ xs.getD k default with frm := a })) k default with to := (a + v50) })))) ∧ ((29 : Nat) ∈ ([19,29,998,999] : List Nat))) ∧ (((68 : Nat) = 68) ∧ ((Sd (.bytes l)) ∧ (Si q50) ∧ True) ∧ ((998 : Nat) ∈ ([19,29,998,999] : List Nat))) ∧ True) ∧ (true = true) ∧ (true = true)) _ (by kernel_rfl) ⟨⟨⟨rfl,rfl,(by decide)⟩,⟨rfl,rfl,(by decide)⟩,rfl,⟨rfl,rfl,(by decide)⟩,rfl,rfl,rfl,tt⟩,⟨⟨rfl,rfl,(by decide)⟩,⟨rfl,rfl,(by decide)⟩,⟨rfl,⟨rfl,rfl,tt⟩,(by decide)⟩,tt⟩,rfl,rfl⟩)
         ·intro n105
          refine W.skip (blockQ_normal (thenQ_normal ?_))
          refine Lk cok tab50 hnt [] (⟨[(0,.ptr 998 0),(5,.own 19 o.length),(6,.i n),(7,.own 29 o.length),(9,.i a),(11,.i v50),(12,.i (((k + 1) : Nat) : Int)),(55,.i ((k : Nat) : Int)),(56,.i (((k + 1) : Nat) : Int)),(105,.b (decide (((List.getD (List.set xs k ({ xs.getD k default with frm := a })) k default).to) = a)))],[(19,⟨40,.row (.calls o)⟩),(29,⟨40,.row (.calls (List.set xs k ({ xs.getD k default with frm := a })))⟩),(998,⟨68,.fix [.sl (.bytes l),.i q50]⟩)],[19,29,998,999]⟩)
           (True ∧ (True ∧ True ∧ (Fits .i64 (((k + 1) : Nat) : Int))) ∧ True ∧ True)
           ⟨tt,⟨tt,tt,(by exact fits_i64 (by omega) (by omega))⟩,tt,tt⟩ ?_
          refine thenQ_normal ?_
          refine ⟨((k + 1),(List.set xs k ({ xs.getD k default with frm := a }))),(show ((k + 1) ≤ o.length) ∧ ((List.set xs k ({ xs.getD k default with frm := a })).length = o.length) from ⟨(by first | assumption | omega | rfl | (intro _ hjj; omega) | (simp; done) | (simp; omega)),(by first | assumption | (simp only [List.length_set]; assumption))⟩),(show o.length - (k + 1) < o.length - k from (by first | omega | (simp_all; omega))),?_⟩
          exact Sub.of [] (@cast (((((998 : Nat) = 998) ∧ ((0 : Nat) = 0) ∧ ((998 : Nat) ∈ ([19,29,998,999] : List Nat))) ∧ (((19 : Nat) = 19) ∧ (o.length = o.length) ∧ ((19 : Nat) ∈ ([19,29,998,999] : List Nat))) ∧ (Si n) ∧ (((29 : Nat) = 29) ∧ (o.length = o.length) ∧ ((29 : Nat) ∈ ([19,29,998,999] : List Nat))) ∧ (Si a) ∧ (Si v50) ∧ (Si (((k + 1) : Nat) : Int)) ∧ True) ∧ ((((40 : Nat) = 40) ∧ (Sd (.calls o)) ∧ ((19 : Nat) ∈ ([19,29,998,999] : List Nat))) ∧ (((40 : Nat) = 40) ∧ (Sd (.calls (List.set xs k ({ xs.getD k default with frm := a })))) ∧ ((29 : Nat) ∈ ([19,29,998,999] : List Nat))) ∧ (((68 : Nat) = 68) ∧ ((Sd (.bytes l)) ∧ (Si q50) ∧ True) ∧ ((998 : Nat) ∈ ([19,29,998,999] : List Nat))) ∧ True) ∧ (true = true) ∧ (true = true)) _ (by kernel_rfl) ⟨⟨⟨rfl,rfl,(by decide)⟩,⟨rfl,rfl,(by decide)⟩,rfl,⟨rfl,rfl,(by decide)⟩,rfl,rfl,rfl,tt⟩,⟨⟨rfl,rfl,(by decide)⟩,⟨rfl,rfl,(by decide)⟩,⟨rfl,⟨rfl,rfl,tt⟩,(by decide)⟩,tt⟩,rfl,rfl⟩)
       ·intro n65
        refine Kk cok tab50 hnt [] [0,5,6,7,9,11,12,77] (⟨[(0,.ptr 998 0),(5,.own 19 o.length),(6,.i n),(7,.own 29 o.length),(9,.i a),(11,.i v50),(12,.i ((k : Nat) : Int)),(77,.b (decide (((xs.getD k default).frm) = a)))],[(19,⟨40,.row (.calls o)⟩),(29,⟨40,.row (.calls xs)⟩),(998,⟨68,.fix [.sl (.bytes l),.i q50]⟩)],[19,29,998,999]⟩)
         (True ∧ True ∧ (True ∧ True ∧ (0 ≤ ((k : Nat) : Int)) ∧ (((k : Nat) : Int) < (o.length : Int))) ∧ True ∧ (True ∧ (k < xs.length)) ∧ True ∧ (True ∧ True ∧ True) ∧ True)
         ⟨tt,tt,⟨tt,tt,(by omega),(by omega)⟩,tt,⟨tt,(by omega)⟩,tt,⟨tt,tt,tt⟩,tt⟩ ?_
        refine W.ifP (((xs.getD k default).frm) = a) (.b (decide (((xs.getD k default).frm) = a))) (by kernel_rfl) rfl trivial ?_ ?_
        ·intro h77
         refine Lk cok tab50 hnt [] (⟨[(0,.ptr 998 0),(5,.own 19 o.length),(6,.i n),(7,.own 29 o.length),(9,.i a),(11,.i v50),(12,.i ((k : Nat) : Int)),(77,.b (decide (((xs.getD k default).frm) = a))),(78,.own 29 o.length),(79,.i ((k : Nat) : Int)),(80,.i a),(81,.i v50),(82,.i (a + v50)),(83,.pel 29 7 k 0),(84,.pel 29 7 k 5)],[(19,⟨40,.row (.calls o)⟩),(29,⟨40,.row (.calls (List.set xs k ({ xs.getD k default with frm := (a + v50) })))⟩),(998,⟨68,.fix [.sl (.bytes l),.i q50]⟩)],[19,29,998,999]⟩)
          (True ∧ True ∧ True ∧ True ∧ (True ∧ True ∧ (Fits .i64 (a + v50))) ∧ (True ∧ True ∧ (0 ≤ ((k : Nat) : Int)) ∧ (((k : Nat) : Int) < (o.length : Int))) ∧ True ∧ (True ∧ True ∧ (k < xs.length)) ∧ True)
          ⟨tt,tt,tt,tt,⟨tt,tt,(by exact fits_i64 (by omega) (by omega))⟩,⟨tt,tt,(by omega),(by omega)⟩,tt,⟨tt,tt,(by omega)⟩,tt⟩ ?_
         refine thenQ_normal ?_
         refine Kk cok tab50 hnt [] [0,5,6,7,9,11,12,93] (⟨[(0,.ptr 998 0),(5,.own 19 o.length),(6,.i n),(7,.own 29 o.length),(9,.i a),(11,.i v50),(12,.i ((k : Nat) : Int)),(93,.b (decide (((List.getD (List.set xs k ({ xs.getD k default with frm := (a + v50) })) k default).to) = (a + v50))))],[(19,⟨40,.row (.calls o)⟩),(29,⟨40,.row (.calls (List.set xs k ({ xs.getD k default with frm := (a + v50) })))⟩),(998,⟨68,.fix [.sl (.bytes l),.i q50]⟩)],[19,29,998,999]⟩)
          (True ∧ True ∧ (True ∧ True ∧ (0 ≤ ((k : Nat) : Int)) ∧ (((k : Nat) : Int) < (o.length : Int))) ∧ True ∧ (True ∧ (k < (List.length (List.set xs k ({ xs.getD k default with frm := (a + v50) }))))) ∧ True ∧ True ∧ (True ∧ True ∧ (Fits .i64 (a + v50))) ∧ (True ∧ True ∧ True) ∧ True)
          ⟨tt,tt,⟨tt,tt,(by omega),(by omega)⟩,tt,⟨tt,(by (first | omega | (simp only [List.length_set]; done) | (simp only [List.length_append,List.length_cons,List.length_nil,List.length_take,List.length_drop,List.length_set,List.length_replicate,List.length_map] at *; omega) | assumption))⟩,tt,tt,⟨tt,tt,(by exact fits_i64 (by omega) (by omega))⟩,⟨tt,tt,tt⟩,tt⟩ ?_
         refine W.ifP (((List.getD (List.set xs k ({ xs.getD k default with frm := (a + v50) })) k default).to) = (a + v50)) (.b (decide (((List.getD (List.set xs k ({ xs.getD k default with frm := (a + v50) })) k default).to) = (a + v50)))) (by kernel_rfl) rfl trivial ?_ ?_
         ·intro h93
          refine Lk cok tab50 hnt [] (⟨[(0,.ptr 998 0),(5,.own 19 o.length),(6,.i n),(7,.own 29 o.length),(9,.i a),(11,.i v50),(12,.i ((k : Nat) : Int)),(93,.b (decide (((List.getD (List.set xs k ({ xs.getD k default with frm := (a + v50) })) k default).to) = (a + v50)))),(94,.own 29 o.length),(95,.i ((k : Nat) : Int)),(96,.i a),(97,.pel 29 7 k 0),(98,.pel 29 7 k 6)],[(19,⟨40,.row (.calls o)⟩),(29,⟨40,.row (.calls (List.set (List.set xs k ({ xs.getD k default with frm := (a + v50) })) k ({ List.getD (List.set xs k ({ xs.getD k default with frm := (a + v50) })) k default with to := a })))⟩),(998,⟨68,.fix [.sl (.bytes l),.i q50]⟩)],[19,29,998,999]⟩)
           (True ∧ True ∧ True ∧ (True ∧ True ∧ (0 ≤ ((k : Nat) : Int)) ∧ (((k : Nat) : Int) < (o.length : Int))) ∧ True ∧ (True ∧ True ∧ (k < (List.length (List.set xs k ({ xs.getD k default with frm := (a + v50) }))))) ∧ True)
           ⟨tt,tt,tt,⟨tt,tt,(by omega),(by omega)⟩,tt,⟨tt,tt,(by (first | omega | (simp only [List.length_set]; done) | (simp only [List.length_append,List.length_cons,List.length_nil,List.length_take,List.length_drop,List.length_set,List.length_replicate,List.length_map] at *; omega) | assumption))⟩,tt⟩ ?_
          refine blockQ_normal (thenQ_normal ?_)
          refine Lk cok tab50 hnt [] (⟨[(0,.ptr 998 0),(5,.own 19 o.length),(6,.i n),(7,.own 29 o.length),(9,.i a),(11,.i v50),(12,.i (((k + 1) : Nat) : Int)),(55,.i ((k : Nat) : Int)),(56,.i (((k + 1) : Nat) : Int)),(93,.b (decide (((List.getD (List.set xs k ({ xs.getD k default with frm := (a + v50) })) k default).to) = (a + v50)))),(94,.own 29 o.length),(95,.i ((k : Nat) : Int)),(96,.i a),(97,.pel 29 7 k 0),(98,.pel 29 7 k 6)],[(19,⟨40,.row (.calls o)⟩),(29,⟨40,.row (.calls (List.set (List.set xs k ({ xs.getD k default with frm := (a + v50) })) k ({ List.getD (List.set xs k ({ xs.getD k default with frm := (a + v50) })) k default with to := a })))⟩),(998,⟨68,.fix [.sl (.bytes l),.i q50]⟩)],[19,29,998,999]⟩)
           (True ∧ (True ∧ True ∧ (Fits .i64 (((k + 1) : Nat) : Int))) ∧ True ∧ True)
           ⟨tt,⟨tt,tt,(by exact fits_i64 (by omega) (by omega))⟩,tt,tt⟩ ?_
          refine thenQ_normal ?_
          refine ⟨((k + 1),(List.set (List.set xs k ({ xs.getD k default with frm := (a + v50) })) k ({ List.getD (List.set xs k ({ xs.getD k default with frm := (a + v50) })) k default with to := a }))),(show ((k + 1) ≤ o.length) ∧ ((List.set (List.set xs k ({ xs.getD k default with frm := (a + v50) })) k ({ List.getD (List.set xs k ({ xs.getD k default with frm := (a + v50) })) k default with to := a })).length = o.length) from ⟨(by first | assumption | omega | rfl | (intro _ hjj; omega) | (simp; done) | (simp; omega)),(by first | assumption | (simp only [List.length_set]; assumption))⟩),(show o.length - (k + 1) < o.length - k from (by first | omega | (simp_all; omega))),?_⟩
          exact Sub.of [] (@cast (((((998 : Nat) = 998) ∧ ((0 : Nat) = 0) ∧ ((998 : Nat) ∈ ([19,29,998,999] : List Nat))) ∧ (((19 : Nat) = 19) ∧ (o.length = o.length) ∧ ((19 : Nat) ∈ ([19,29,998,999] : List Nat))) ∧ (Si n) ∧ (((29 : Nat) = 29) ∧ (o.length = o.length) ∧ ((29 : Nat) ∈ ([19,29,998,999] : List Nat))) ∧ (Si a) ∧ (Si v50) ∧ (Si (((k + 1) : Nat) : Int)) ∧ True) ∧ ((((40 : Nat) = 40) ∧ (Sd (.calls o)) ∧ ((19 : Nat) ∈ ([19,29,998,999] : List Nat))) ∧ (((40 : Nat) = 40) ∧ (Sd (.calls (List.set (List.set xs k ({ xs.getD k default with frm := (a + v50) })) k ({ List.getD (List.set xs k ({ xs.getD k default with frm := (a + v50) })) k default with to := a })))) ∧ ((29 : Nat) ∈ ([19,29,998,999] : List Nat))) ∧ (((68 : Nat) = 68) ∧ ((Sd (.bytes l)) ∧ (Si q50) ∧ True) ∧ ((998 : Nat) ∈ ([19,29,998,999] : List Nat))) ∧ True) ∧ (true = true) ∧ (true = true)) _ (by kernel_rfl) ⟨⟨⟨rfl,rfl,(by decide)⟩,⟨rfl,rfl,(by decide)⟩,rfl,⟨rfl,rfl,(by decide)⟩,rfl,rfl,rfl,tt⟩,⟨⟨rfl,rfl,(by decide)⟩,⟨rfl,rfl,(by decide)⟩,⟨rfl,⟨rfl,rfl,tt⟩,(by decide)⟩,tt⟩,rfl,rfl⟩)
         ·intro n93
          refine Kk cok tab50 hnt [] [0,5,6,7,9,11,12,105] (⟨[(0,.ptr 998 0),(5,.own 19 o.length),(6,.i n),(7,.own 29 o.length),(9,.i a),(11,.i v50),(12,.i ((k : Nat) : Int)),(105,.b (decide (((List.getD (List.set xs k ({ xs.getD k default with frm := (a + v50) })) k default).to) = a)))],[(19,⟨40,.row (.calls o)⟩),(29,⟨40,.row (.calls (List.set xs k ({ xs.getD k default with frm := (a + v50) })))⟩),(998,⟨68,.fix [.sl (.bytes l),.i q50]⟩)],[19,29,998,999]⟩)
           (True ∧ True ∧ (True ∧ True ∧ (0 ≤ ((k : Nat) : Int)) ∧ (((k : Nat) : Int) < (o.length : Int))) ∧ True ∧ (True ∧ (k < (List.length (List.set xs k ({ xs.getD k default with frm := (a + v50) }))))) ∧ True ∧ (True ∧ True ∧ True) ∧ True)
           ⟨tt,tt,⟨tt,tt,(by omega),(by omega)⟩,tt,⟨tt,(by (first | omega | (simp only [List.length_set]; done) | (simp only [List.length_append,List.length_cons,List.length_nil,List.length_take,List.length_drop,List.length_set,List.length_replicate,List.length_map] at *; omega) | assumption))⟩,tt,⟨tt,tt,tt⟩,tt⟩ ?_
          refine W.ifP (((List.getD (List.set xs k ({ xs.getD k default with frm := (a + v50) })) k default).to) = a) (.b (decide (((List.getD (List.set xs k ({ xs.getD k default with frm := (a + v50) })) k default).to) = a))) (by kernel_rfl) rfl trivial ?_ ?_
          ·intro h105
           refine Lk cok tab50 hnt [] (⟨[(0,.ptr 998 0),(5,.own 19 o.length),(6,.i n),(7,.own 29 o.length),(9,.i a),(11,.i v50),(12,.i ((k : Nat) : Int)),(105,.b (decide (((List.getD (List.set xs k ({ xs.getD k default with frm := (a + v50) })) k default).to) = a))),(106,.own 29 o.length),(107,.i ((k : Nat) : Int)),(108,.i a),(109,.i v50),(110,.i (a + v50)),(111,.pel 29 7 k 0),(112,.pel 29 7 k 6)],[(19,⟨40,.row (.calls o)⟩),(29,⟨40,.row (.calls (List.set (List.set xs k ({ xs.getD k default with frm := (a + v50) })) k ({ List.getD (List.set xs k ({ xs.getD k default with frm := (a + v50) })) k default with to := (a + v50) })))⟩),(998,⟨68,.fix [.sl (.bytes l),.i q50]⟩)],[19,29,998,999]⟩)
            (True ∧ True ∧ True ∧ True ∧ (True ∧ True ∧ (Fits .i64 (a + v50))) ∧ (True ∧ True ∧ (0 ≤ ((k : Nat) : Int)) ∧ (((k : Nat) : Int) < (o.length : Int))) ∧ True ∧ (True ∧ True ∧ (k < (List.length (List.set xs k ({ xs.getD k default with frm := (a + v50) }))))) ∧ True)
            ⟨tt,tt,tt,tt,⟨tt,tt,(by exact fits_i64 (by omega) (by omega))⟩,⟨tt,tt,(by omega),(by omega)⟩,tt,⟨tt,tt,(by (first | omega | (simp only [List.length_set]; done) | (simp only [List.length_append,List.length_cons,List.length_nil,List.length_take,List.length_drop,List.length_set,List.length_replicate,List.length_map] at *; omega) | assumption))⟩,tt⟩ ?_
           refine blockQ_normal (thenQ_normal ?_)
           refine Lk cok tab50 hnt [] (⟨[(0,.ptr 998 0),(5,.own 19 o.length),(6,.i n),(7,.own 29 o.length),(9,.i a),(11,.i v50),(12,.i (((k + 1) : Nat) : Int)),(55,.i ((k : Nat) : Int)),(56,.i (((k + 1) : Nat) : Int)),(105,.b (decide (((List.getD (List.set xs k ({ xs.getD k default with frm := (a + v50) })) k default).to) = a))),(106,.own 29 o.length),(107,.i ((k : Nat) : Int)),(108,.i a),(109,.i v50),(110,.i (a + v50)),(111,.pel 29 7 k 0),(112,.pel 29 7 k 6)],[(19,⟨40,.row (.calls o)⟩),(29,⟨40,.row (.calls (List.set (List.set xs k ({ xs.getD k default with frm := (a + v50) })) k ({ List.getD (List.set xs k ({ xs.getD k default with frm := (a + v50) })) k default with to := (a + v50) })))⟩),(998,⟨68,.fix [.sl (.bytes l),.i q50]⟩)],[19,29,998,999]⟩)
            (True ∧ (True ∧ True ∧ (Fits .i64 (((k + 1) : Nat) : Int))) ∧ True ∧ True)
            ⟨tt,⟨tt,tt,(by exact fits_i64 (by omega) (by omega))⟩,tt,tt⟩ ?_
           refine thenQ_normal ?_
           refine ⟨((k + 1),(List.set (List.set xs k ({ xs.getD k default with frm := (a + v50) })) k ({ List.getD (List.set xs k ({ xs.getD k default with frm := (a + v50) })) k default with to := (a + v50) }))),(show ((k + 1) ≤ o.length) ∧ ((List.set (List.set xs k ({ xs.getD k default with frm := (a + v50) })) k ({ List.getD (List.set xs k ({ xs.getD k default with frm := (a + v50) })) k default with to := (a + v50) })).length = o.length) from ⟨(by first | assumption | omega | rfl | (intro _ hjj; omega) | (simp; done) | (simp; omega)),(by first | assumption | (simp only [List.length_set]; assumption))⟩),(show o.length - (k + 1) < o.length - k from (by first | omega | (simp_all; omega))),?_⟩
           exact Sub.of [] (@cast (((((998 : Nat) = 998) ∧ ((0 : Nat) = 0) ∧ ((998 : Nat) ∈ ([19,29,998,999] : List Nat))) ∧ (((19 : Nat) = 19) ∧ (o.length = o.length) ∧ ((19 : Nat) ∈ ([19,29,998,999] : List Nat))) ∧ (Si n) ∧ (((29 : Nat) = 29) ∧ (o.length = o.length) ∧ ((29 : Nat) ∈ ([19,29,998,999] : List Nat))) ∧ (Si a) ∧ (Si v50) ∧ (Si (((k + 1) : Nat) : Int)) ∧ True) ∧ ((((40 : Nat) = 40) ∧ (Sd (.calls o)) ∧ ((19 : Nat) ∈ ([19,29,998,999] : List Nat))) ∧ (((40 : Nat) = 40) ∧ (Sd (.calls (List.set (List.set xs k ({ xs.getD k default with frm := (a + v50) })) k ({ List.getD (List.set xs k ({ xs.getD k default with frm := (a + v50) })) k default with to := (a + v50) })))) ∧ ((29 : Nat) ∈ ([19,29,998,999] : List Nat))) ∧ (((68 : Nat) = 68) ∧ ((Sd (.bytes l)) ∧ (Si q50) ∧ True) ∧ ((998 : Nat) ∈ ([19,29,998,999] : List Nat))) ∧ True) ∧ (true = true) ∧ (true = true)) _ (by kernel_rfl) ⟨⟨⟨rfl,rfl,(by decide)⟩,⟨rfl,rfl,(by decide)⟩,rfl,⟨rfl,rfl,(by decide)⟩,rfl,rfl,rfl,tt⟩,⟨⟨rfl,rfl,(by decide)⟩,⟨rfl,rfl,(by decide)⟩,⟨rfl,⟨rfl,rfl,tt⟩,(by decide)⟩,tt⟩,rfl,rfl⟩)
          ·intro n105
           refine W.skip (blockQ_normal (thenQ_normal ?_))
           refine Lk cok tab50 hnt [] (⟨[(0,.ptr 998 0),(5,.own 19 o.length),(6,.i n),(7,.own 29 o.length),(9,.i a),(11,.i v50),(12,.i (((k + 1) : Nat) : Int)),(55,.i ((k : Nat) : Int)),(56,.i (((k + 1) : Nat) : Int)),(105,.b (decide (((List.getD (List.set xs k ({ xs.getD k default with frm := (a + v50) })) k default).to) = a)))],[(19,⟨40,.row (.calls o)⟩),(29,⟨40,.row (.calls (List.set xs k ({ xs.getD k default with frm := (a + v50) })))⟩),(998,⟨68,.fix [.sl (.bytes l),.i q50]⟩)],[19,29,998,999]⟩)
            (True ∧ (True ∧ True ∧ (Fits .i64 (((k + 1) : Nat) : Int))) ∧ True ∧ True)
            ⟨tt,⟨tt,tt,(by exact fits_i64 (by omega) (by omega))⟩,tt,tt⟩ ?_
           refine thenQ_normal ?_
           refine ⟨((k + 1),(List.set xs k ({ xs.getD k default with frm := (a + v50) }))),(show ((k + 1) ≤ o.length) ∧ ((List.set xs k ({ xs.getD k default with frm := (a + v50) })).length = o.length) from ⟨(by first | assumption | omega | rfl | (intro _ hjj; omega) | (simp; done) | (simp; omega)),(by first | assumption | (simp only [List.length_set]; assumption))⟩),(show o.length - (k + 1) < o.length - k from (by first | omega | (simp_all; omega))),?_⟩
           exact Sub.of [] (@cast (((((998 : Nat) = 998) ∧ ((0 : Nat) = 0) ∧ ((998 : Nat) ∈ ([19,29,998,999] : List Nat))) ∧ (((19 : Nat) = 19) ∧ (o.length = o.length) ∧ ((19 : Nat) ∈ ([19,29,998,999] : List Nat))) ∧ (Si n) ∧ (((29 : Nat) = 29) ∧ (o.length = o.length) ∧ ((29 : Nat) ∈ ([19,29,998,999] : List Nat))) ∧ (Si a) ∧ (Si v50) ∧ (Si (((k + 1) : Nat) : Int)) ∧ True) ∧ ((((40 : Nat) = 40) ∧ (Sd (.calls o)) ∧ ((19 : Nat) ∈ ([19,29,998,999] : List Nat))) ∧ (((40 : Nat) = 40) ∧ (Sd (.calls (List.set xs k ({ xs.getD k default with frm := (a + v50) })))) ∧ ((29 : Nat) ∈ ([19,29,998,999] : List Nat))) ∧ (((68 : Nat) = 68) ∧ ((Sd (.bytes l)) ∧ (Si q50) ∧ True) ∧ ((998 : Nat) ∈ ([19,29,998,999] : List Nat))) ∧ True) ∧ (true = true) ∧ (true = true)) _ (by kernel_rfl) ⟨⟨⟨rfl,rfl,(by decide)⟩,⟨rfl,rfl,(by decide)⟩,rfl,⟨rfl,rfl,(by decide)⟩,rfl,rfl,rfl,tt⟩,⟨⟨rfl,rfl,(by decide)⟩,⟨rfl,rfl,(by decide)⟩,⟨rfl,⟨rfl,rfl,tt⟩,(by decide)⟩,tt⟩,rfl,rfl⟩)
        ·intro n77
         refine W.skip (thenQ_normal ?_)
         refine Kk cok tab50 hnt [] [0,5,6,7,9,11,12,93] (⟨[(0,.ptr 998 0),(5,.own 19 o.length),(6,.i n),(7,.own 29 o.length),(9,.i a),(11,.i v50),(12,.i ((k : Nat) : Int)),(93,.b (decide (((xs.getD k default).to) = (a + v50))))],[(19,⟨40,.row (.calls o)⟩),(29,⟨40,.row (.calls xs)⟩),(998,⟨68,.fix [.sl (.bytes l),.i q50]⟩)],[19,29,998,999]⟩)
          (True ∧ True ∧ (True ∧ True ∧ (0 ≤ ((k : Nat) : Int)) ∧ (((k : Nat) : Int) < (o.length : Int))) ∧ True ∧ (True ∧ (k < xs.length)) ∧ True ∧ True ∧ (True ∧ True ∧ (Fits .i64 (a + v50))) ∧ (True ∧ True ∧ True) ∧ True)
          ⟨tt,tt,⟨tt,tt,(by omega),(by omega)⟩,tt,⟨tt,(by omega)⟩,tt,tt,⟨tt,tt,(by exact fits_i64 (by omega) (by omega))⟩,⟨tt,tt,tt⟩,tt⟩ ?_
         refine W.ifP (((xs.getD k default).to) = (a + v50)) (.b (decide (((xs.getD k default).to) = (a + v50)))) (by kernel_rfl) rfl trivial ?_ ?_
         ·intro h93
          refine Lk cok tab50 hnt [] (⟨[(0,.ptr 998 0),(5,.own 19 o.length),(6,.i n),(7,.own 29 o.length),(9,.i a),(11,.i v50),(12,.i ((k : Nat) : Int)),(93,.b (decide (((xs.getD k default).to) = (a + v50)))),(94,.own 29 o.length),(95,.i ((k : Nat) : Int)),(96,.i a),(97,.pel 29 7 k 0),(98,.pel 29 7 k 6)],[(19,⟨40,.row (.calls o)⟩),(29,⟨40,.row (.calls (List.set xs k ({ xs.getD k default with to := a })))⟩),(998,⟨68,.fix [.sl (.bytes l),.i q50]⟩)],[19,29,998,999]⟩)
           (True ∧ True ∧ True ∧ (True ∧ True ∧ (0 ≤ ((k : Nat) : Int)) ∧ (((k : Nat) : Int) < (o.length : Int))) ∧ True ∧ (True ∧ True ∧ (k < xs.length)) ∧ True)
           ⟨tt,tt,tt,⟨tt,tt,(by omega),(by omega)⟩,tt,⟨tt,tt,(by omega)⟩,tt⟩ ?_
          refine blockQ_normal (thenQ_normal ?_)
          refine Lk cok tab50 hnt [] (⟨[(0,.ptr 998 0),(5,.own 19 o.length),(6,.i n),(7,.own 29 o.length),(9,.i a),(11,.i v50),(12,.i (((k + 1) : Nat) : Int)),(55,.i ((k : Nat) : Int)),(56,.i (((k + 1) : Nat) : Int)),(93,.b (decide (((xs.getD k default).to) = (a + v50)))),(94,.own 29 o.length),(95,.i ((k : Nat) : Int)),(96,.i a),(97,.pel 29 7 k 0),(98,.pel 29 7 k 6)],[(19,⟨40,.row (.calls o)⟩),(29,⟨40,.row (.calls (List.set xs k ({ xs.getD k default with to := a })))⟩),(998,⟨68,.fix [.sl (.bytes l),.i q50]⟩)],[19,29,998,999]⟩)
           (True ∧ (True ∧ True ∧ (Fits .i64 (((k + 1) : Nat) : Int))) ∧ True ∧ True)
           ⟨tt,⟨tt,tt,(by exact fits_i64 (by omega) (by omega))⟩,tt,tt⟩ ?_
          refine thenQ_normal ?_
          refine ⟨((k + 1),(List.set xs k ({ xs.getD k default with to := a }))),(show ((k + 1) ≤ o.length) ∧ ((List.set xs k ({ xs.getD k default with to := a })).length = o.length) from ⟨(by first | assumption | omega | rfl | (intro _ hjj; omega) | (simp; done) | (simp; omega)),(by first | assumption | (simp only [List.length_set]; assumption))⟩),(show o.length - (k + 1) < o.length - k from (by first | omega | (simp_all; omega))),?_⟩
          exact Sub.of [] (@cast (((((998 : Nat) = 998) ∧ ((0 : Nat) = 0) ∧ ((998 : Nat) ∈ ([19,29,998,999] : List Nat))) ∧ (((19 : Nat) = 19) ∧ (o.length = o.length) ∧ ((19 : Nat) ∈ ([19,29,998,999] : List Nat))) ∧ (Si n) ∧ (((29 : Nat) = 29) ∧ (o.length = o.length) ∧ ((29 : Nat) ∈ ([19,29,998,999] : List Nat))) ∧ (Si a) ∧ (Si v50) ∧ (Si (((k + 1) : Nat) : Int)) ∧ True) ∧ ((((40 : Nat) = 40) ∧ (Sd (.calls o)) ∧ ((19 : Nat) ∈ ([19,29,998,999] : List Nat))) ∧ (((40 : Nat) = 40) ∧ (Sd (.calls (List.set xs k ({ xs.getD k default with to := a })))) ∧ ((29 : Nat) ∈ ([19,29,998,999] : List Nat))) ∧ (((68 : Nat) = 68) ∧ ((Sd (.bytes l)) ∧ (Si q50) ∧ True) ∧ ((998 : Nat) ∈ ([19,29,998,999] : List Nat))) ∧ True) ∧ (true = true) ∧ (true = true)) _ (by kernel_rfl) ⟨⟨⟨rfl,rfl,(by decide)⟩,⟨rfl,rfl,(by decide)⟩,rfl,⟨rfl,rfl,(by decide)⟩,rfl,rfl,rfl,tt⟩,⟨⟨rfl,rfl,(by decide)⟩,⟨rfl,rfl,(by decide)⟩,⟨rfl,⟨rfl,rfl,tt⟩,(by decide)⟩,tt⟩,rfl,rfl⟩)
         ·intro n93
          refine Kk cok tab50 hnt [] [0,5,6,7,9,11,12,105] (⟨[(0,.ptr 998 0),(5,.own 19 o.length),(6,.i n),(7,.own 29 o.length),(9,.i a),(11,.i v50),(12,.i ((k : Nat) : Int)),(105,.b (decide (((xs.getD k default).to) = a)))],[(19,⟨40,.row (.calls o)⟩),(29,⟨40,.row (.calls xs)⟩),(998,⟨68,.fix [.sl (.bytes l),.i q50]⟩)],[19,29,998,999]⟩)
           (True ∧ True ∧ (True ∧ True ∧ (0 ≤ ((k : Nat) : Int)) ∧ (((k : Nat) : Int) < (o.length : Int))) ∧ True ∧ (True ∧ (k < xs.length)) ∧ True ∧ (True ∧ True ∧ True) ∧ True)
           ⟨tt,tt,⟨tt,tt,(by omega),(by omega)⟩,tt,⟨tt,(by omega)⟩,tt,⟨tt,tt,tt⟩,tt⟩ ?_
          refine W.ifP (((xs.getD k default).to) = a) (.b (decide (((xs.getD k default).to) = a))) (by kernel_rfl) rfl trivial ?_ ?_
          ·intro h105
           refine Lk cok tab50 hnt [] (⟨[(0,.ptr 998 0),(5,.own 19 o.length),(6,.i n),(7,.own 29 o.length),(9,.i a),(11,.i v50),(12,.i ((k : Nat) : Int)),(105,.b (decide (((xs.getD k default).to) = a))),(106,.own 29 o.length),(107,.i ((k : Nat) : Int)),(108,.i a),(109,.i v50),(110,.i (a + v50)),(111,.pel 29 7 k 0),(112,.pel 29 7 k 6)],[(19,⟨40,.row (.calls o)⟩),(29,⟨40,.row (.calls (List.set xs k ({ xs.getD k default with to := (a + v50) })))⟩),(998,⟨68,.fix [.sl (.bytes l),.i q50]⟩)],[19,29,998,999]⟩)
            (True ∧ True ∧ True ∧ True ∧ (True ∧ True ∧ (Fits .i64 (a + v50))) ∧ (True ∧ True ∧ (0 ≤ ((k : Nat) : Int)) ∧ (((k : Nat) : Int) < (o.length : Int))) ∧ True ∧ (True ∧ True ∧ (k < xs.length)) ∧ True)
            ⟨tt,tt,tt,tt,⟨tt,tt,(by exact fits_i64 (by omega) (by omega))⟩,⟨tt,tt,(by omega),(by omega)⟩,tt,⟨tt,tt,(by omega)⟩,tt⟩ ?_
           refine blockQ_normal (thenQ_normal ?_)
           refine Lk cok tab50 hnt [] (⟨[(0,.ptr 998 0),(5,.own 19 o.length),(6,.i n),(7,.own 29 o.length),(9,.i a),(11,.i v50),(12,.i (((k + 1) : Nat) : Int)),(55,.i ((k : Nat) : Int)),(56,.i (((k + 1) : Nat) : Int)),(105,.b (decide (((xs.getD k default).to) = a))),(106,.own 29 o.length),(107,.i ((k : Nat) : Int)),(108,.i a),(109,.i v50),(110,.i (a + v50)),(111,.pel 29 7 k 0),(112,.pel 29 7 k 6)],[(19,⟨40,.row (.calls o)⟩),(29,⟨40,.row (.calls (List.set xs k ({ xs.getD k default with to := (a + v50) })))⟩),(998,⟨68,.fix [.sl (.bytes l),.i q50]⟩)],[19,29,998,999]⟩)
            (True ∧ (True ∧ True ∧ (Fits .i64 (((k + 1) : Nat) : Int))) ∧ True ∧ True)
            ⟨tt,⟨tt,tt,(by exact fits_i64 (by omega) (by omega))⟩,tt,tt⟩ ?_
           refine thenQ_normal ?_
           refine ⟨((k + 1),(List.set xs k ({ xs.getD k default with to := (a + v50) }))),(show ((k + 1) ≤ o.length) ∧ ((List.set xs k ({ xs.getD k default with to := (a + v50) })).length = o.length) from ⟨(by first | assumption | omega | rfl | (intro _ hjj; omega) | (simp; done) | (simp; omega)),(by first | assumption | (simp only [List.length_set]; assumption))⟩),(show o.length - (k + 1) < o.length - k from (by first | omega | (simp_all; omega))),?_⟩
           exact Sub.of [] (@cast (((((998 : Nat) = 998) ∧ ((0 : Nat) = 0) ∧ ((998 : Nat) ∈ ([19,29,998,999] : List Nat))) ∧ (((19 : Nat) = 19) ∧ (o.length = o.length) ∧ ((19 : Nat) ∈ ([19,29,998,999] : List Nat))) ∧ (Si n) ∧ (((29 : Nat) = 29) ∧ (o.length = o.length) ∧ ((29 : Nat) ∈ ([19,29,998,999] : List Nat))) ∧ (Si a) ∧ (Si v50) ∧ (Si (((k + 1) : Nat) : Int)) ∧ True) ∧ ((((40 : Nat) = 40) ∧ (Sd (.calls o)) ∧ ((19 : Nat) ∈ ([19,29,998,999] : List Nat))) ∧ (((40 : Nat) = 40) ∧ (Sd (.calls (List.set xs k ({ xs.getD k default with to := (a + v50) })))) ∧ ((29 : Nat) ∈ ([19,29,998,999] : List Nat))) ∧ (((68 : Nat) = 68) ∧ ((Sd (.bytes l)) ∧ (Si q50) ∧ True) ∧ ((998 : Nat) ∈ ([19,29,998,999] : List Nat))) ∧ True) ∧ (true = true) ∧ (true = true)) _ (by kernel_rfl) ⟨⟨⟨rfl,rfl,(by decide)⟩,⟨rfl,rfl,(by decide)⟩,rfl,⟨rfl,rfl,(by decide)⟩,rfl,rfl,rfl,tt⟩,⟨⟨rfl,rfl,(by decide)⟩,⟨rfl,rfl,(by decide)⟩,⟨rfl,⟨rfl,rfl,tt⟩,(by decide)⟩,tt⟩,rfl,rfl⟩)
          ·intro n105
           refine W.skip (blockQ_normal (thenQ_normal ?_))
           refine Lk cok tab50 hnt [] (⟨[(0,.ptr 998 0),(5,.own 19 o.length),(6,.i n),(7,.own 29 o.length),(9,.i a),(11,.i v50),(12,.i (((k + 1) : Nat) : Int)),(55,.i ((k : Nat) : Int)),(56,.i (((k + 1) : Nat) : Int)),(105,.b (decide (((xs.getD k default).to) = a)))],[(19,⟨40,.row (.calls o)⟩),(29,⟨40,.row (.calls xs)⟩),(998,⟨68,.fix [.sl (.bytes l),.i q50]⟩)],[19,29,998,999]⟩)
            (True ∧ (True ∧ True ∧ (Fits .i64 (((k + 1) : Nat) : Int))) ∧ True ∧ True)
            ⟨tt,⟨tt,tt,(by exact fits_i64 (by omega) (by omega))⟩,tt,tt⟩ ?_
           refine thenQ_normal ?_
           refine ⟨((k + 1),xs),(show ((k + 1) ≤ o.length) ∧ (xs.length = o.length) from ⟨(by first | assumption | omega | rfl | (intro _ hjj; omega) | (simp; done) | (simp; omega)),(by first | assumption | (simp only [List.length_set]; assumption))⟩),(show o.length - (k + 1) < o.length - k from (by first | omega | (simp_all; omega))),?_⟩
           exact Sub.of [] (@cast (((((998 : Nat) = 998) ∧ ((0 : Nat) = 0) ∧ ((998 : Nat) ∈ ([19,29,998,999] : List Nat))) ∧ (((19 : Nat) = 19) ∧ (o.length = o.length) ∧ ((19 : Nat) ∈ ([19,29,998,999] : List Nat))) ∧ (Si n) ∧ (((29 : Nat) = 29) ∧ (o.length = o.length) ∧ ((29 : Nat) ∈ ([19,29,998,999] : List Nat))) ∧ (Si a) ∧ (Si v50) ∧ (Si (((k + 1) : Nat) : Int)) ∧ True) ∧ ((((40 : Nat) = 40) ∧ (Sd (.calls o)) ∧ ((19 : Nat) ∈ ([19,29,998,999] : List Nat))) ∧ (((40 : Nat) = 40) ∧ (Sd (.calls xs)) ∧ ((29 : Nat) ∈ ([19,29,998,999] : List Nat))) ∧ (((68 : Nat) = 68) ∧ ((Sd (.bytes l)) ∧ (Si q50) ∧ True) ∧ ((998 : Nat) ∈ ([19,29,998,999] : List Nat))) ∧ True) ∧ (true = true) ∧ (true = true)) _ (by kernel_rfl) ⟨⟨⟨rfl,rfl,(by decide)⟩,⟨rfl,rfl,(by decide)⟩,rfl,⟨rfl,rfl,(by decide)⟩,rfl,rfl,rfl,tt⟩,⟨⟨rfl,rfl,(by decide)⟩,⟨rfl,rfl,(by decide)⟩,⟨rfl,⟨rfl,rfl,tt⟩,(by decide)⟩,tt⟩,rfl,rfl⟩)
      ·intro n54
       refine W.exit (thenQ_exit (thenQ_exit (blockQ_hit ?_)))
       refine thenQ_normal ?_
       refine Kk cok tab50 hnt [] [0,5,6,7,114] (⟨[(0,.ptr 998 0),(5,.own 19 o.length),(6,.i n),(7,.own 29 o.length),(114,.b (validHistory xs))],[(19,⟨40,.row (.calls o)⟩),(29,⟨40,.row (.calls xs)⟩),(998,⟨68,.fix [.sl (.bytes l),.i q50]⟩)],[19,29,998,999]⟩)
        (True ∧ (True ∧ ((True ∧ (o.length = xs.length)) ∧ True) ∧ True) ∧ True)
        ⟨tt,⟨tt,⟨⟨tt,(by omega)⟩,tt⟩,tt⟩,tt⟩ ?_
       refine W.if' (validHistory xs) (.b (validHistory xs)) (by kernel_rfl) rfl trivial ?_ ?_
       ·intro h114
        refine Lk cok tab50 hnt [] (⟨[(0,.ptr 998 0),(5,.own 29 o.length),(6,.i n),(7,.own 29 o.length),(114,.b (validHistory xs)),(115,.own 29 o.length)],[(19,⟨40,.row (.calls o)⟩),(29,⟨40,.row (.calls xs)⟩),(998,⟨68,.fix [.sl (.bytes l),.i q50]⟩)],[19,29,998,999]⟩)
         (True ∧ True ∧ True)
         ⟨tt,tt,tt⟩ ?_
        refine blockQ_normal (thenQ_normal ?_)
        refine Lk cok tab50 hnt [] (⟨[(0,.ptr 998 0),(5,.own 29 o.length),(6,.i (n - (1 : Int))),(7,.own 29 o.length),(25,.i n),(26,.i (n - (1 : Int))),(114,.b (validHistory xs)),(115,.own 29 o.length)],[(19,⟨40,.row (.calls o)⟩),(29,⟨40,.row (.calls xs)⟩),(998,⟨68,.fix [.sl (.bytes l),.i q50]⟩)],[19,29,998,999]⟩)
         (True ∧ (True ∧ True ∧ (Fits .i64 (n - (1 : Int)))) ∧ True ∧ True)
         ⟨tt,⟨tt,tt,(by exact fits_i64 (by omega) (by omega))⟩,tt,tt⟩ ?_
        refine thenQ_normal ?_
        refine ⟨(xs,(n - (1 : Int)),q50),(show ((n - (1 : Int)) ≤ 12) ∧ (p + 1 ≤ q50 ∧ q50 ≤ p + 1 + 3 * (12 - (n - (1 : Int))) ∧ q50 ≤ p + 900) ∧ (GoodH xs) ∧ (xs.length = h.length) from ⟨(by first | assumption | omega | rfl | (intro _ hjj; omega) | (simp; done) | (simp; omega)),(by first | assumption | omega | rfl | (intro _ hjj; omega) | (simp; done) | (simp; omega)),(by first | exact ho | exact valid_good h114),(by first | assumption | omega | rfl | (intro _ hjj; omega) | (simp; done) | (simp; omega))⟩),(show (n - (1 : Int)).toNat < n.toNat from (by first | omega | (simp_all; omega))),?_⟩
        exact Sub.of [(19,29)] (@cast (((((998 : Nat) = 998) ∧ ((0 : Nat) = 0) ∧ ((998 : Nat) ∈ ([19,998,999] : List Nat))) ∧ (((29 : Nat) = 29) ∧ (o.length = xs.length) ∧ ((19 : Nat) ∈ ([19,998,999] : List Nat))) ∧ (Si (n - (1 : Int))) ∧ True) ∧ ((((40 : Nat) = 40) ∧ (Sd (.calls xs)) ∧ ((19 : Nat) ∈ ([19,998,999] : List Nat))) ∧ (((68 : Nat) = 68) ∧ ((Sd (.bytes l)) ∧ (Si q50) ∧ True) ∧ ((998 : Nat) ∈ ([19,998,999] : List Nat))) ∧ True) ∧ (true = true) ∧ (true = true)) _ (by kernel_rfl) ⟨⟨⟨rfl,rfl,(by decide)⟩,⟨rfl,(by first | rfl | omega | assumption | (symm; assumption) | simp | simp_all),(by decide)⟩,rfl,tt⟩,⟨⟨rfl,rfl,(by decide)⟩,⟨rfl,⟨rfl,rfl,tt⟩,(by decide)⟩,tt⟩,rfl,rfl⟩)
       ·intro n114
        refine W.skip (blockQ_normal (thenQ_normal ?_))
        refine Lk cok tab50 hnt [] (⟨[(0,.ptr 998 0),(5,.own 19 o.length),(6,.i (n - (1 : Int))),(7,.own 29 o.length),(25,.i n),(26,.i (n - (1 : Int))),(114,.b (validHistory xs))],[(19,⟨40,.row (.calls o)⟩),(29,⟨40,.row (.calls xs)⟩),(998,⟨68,.fix [.sl (.bytes l),.i q50]⟩)],[19,29,998,999]⟩)
         (True ∧ (True ∧ True ∧ (Fits .i64 (n - (1 : Int)))) ∧ True ∧ True)
         ⟨tt,⟨tt,tt,(by exact fits_i64 (by omega) (by omega))⟩,tt,tt⟩ ?_
        refine thenQ_normal ?_
        refine ⟨(o,(n - (1 : Int)),q50),(show ((n - (1 : Int)) ≤ 12) ∧ (p + 1 ≤ q50 ∧ q50 ≤ p + 1 + 3 * (12 - (n - (1 : Int))) ∧ q50 ≤ p + 900) ∧ (GoodH o) ∧ (o.length = h.length) from ⟨(by first | assumption | omega | rfl | (intro _ hjj; omega) | (simp; done) | (simp; omega)),(by first | assumption | omega | rfl | (intro _ hjj; omega) | (simp; done) | (simp; omega)),(by first | exact ho | exact valid_good h114),(by first | assumption | omega | rfl | (intro _ hjj; omega) | (simp; done) | (simp; omega))⟩),(show (n - (1 : Int)).toNat < n.toNat from (by first | omega | (simp_all; omega))),?_⟩
        exact Sub.of [] (@cast (((((998 : Nat) = 998) ∧ ((0 : Nat) = 0) ∧ ((998 : Nat) ∈ ([19,998,999] : List Nat))) ∧ (((19 : Nat) = 19) ∧ (o.length = o.length) ∧ ((19 : Nat) ∈ ([19,998,999] : List Nat))) ∧ (Si (n - (1 : Int))) ∧ True) ∧ ((((40 : Nat) = 40) ∧ (Sd (.calls o)) ∧ ((19 : Nat) ∈ ([19,998,999] : List Nat))) ∧ (((68 : Nat) = 68) ∧ ((Sd (.bytes l)) ∧ (Si q50) ∧ True) ∧ ((998 : Nat) ∈ ([19,998,999] : List Nat))) ∧ True) ∧ (true = true) ∧ (true = true)) _ (by kernel_rfl) ⟨⟨⟨rfl,rfl,(by decide)⟩,⟨rfl,rfl,(by decide)⟩,rfl,tt⟩,⟨⟨rfl,rfl,(by decide)⟩,⟨rfl,⟨rfl,rfl,tt⟩,(by decide)⟩,tt⟩,rfl,rfl⟩)
   ·intro n24
    refine W.exit (thenQ_exit (thenQ_exit (blockQ_hit ?_)))
    refine thenQ_normal ?_
    refine Kk cok tab50 hnt [] [4] (⟨[(4,.own 19 o.length)],[(19,⟨40,.row (.calls o)⟩),(998,⟨68,.fix [.sl (.bytes l),.i p1]⟩)],[19,998,999]⟩)
     (True ∧ True ∧ True)
     ⟨tt,tt,tt⟩ ?_
    refine W.ret ?_
    exact endP_ret (o,p1) (show (GoodH o) ∧ (p ≤ p1 ∧ p1 ≤ p + 1000) from ⟨(by assumption),(by first | assumption | omega | rfl | (simp; done) | (simp; omega))⟩) [(1,19),(0,998)] (.own 19 o.length) (by kernel_rfl) (@cast ((((19 : Nat) = 19) ∧ (o.length = o.length) ∧ ((1 : Nat) ∈ ([0,1] : List Nat))) ∧ ((((68 : Nat) = 68) ∧ ((Sd (.bytes l)) ∧ (Si p1) ∧ True) ∧ ((0 : Nat) ∈ ([0,1] : List Nat))) ∧ (((40 : Nat) = 40) ∧ (Sd (.calls o)) ∧ ((1 : Nat) ∈ ([0,1] : List Nat))) ∧ True) ∧ (true = true) ∧ ((([] : List Nat) = []) ∧ True) ∧ (true = true → (998 : Nat) = 998)) _ (by kernel_rfl) ⟨⟨rfl,rfl,(by decide)⟩,⟨⟨rfl,⟨rfl,rfl,tt⟩,(by decide)⟩,⟨rfl,rfl,(by decide)⟩,tt⟩,rfl,⟨rfl,tt⟩,(fun _ => rfl)⟩)
theorem ent50 : Entr prog 50 := ⟨_,func50,rfl,by decide⟩
end Go.Proofs.Tryd

set_option linter.unusedSimpArgs false
set_option linter.unusedVariables false
namespace Go.Proofs.Tryd
open Go.Ab Go.RowKit
def pre32 : List AV → List AV → Prop := preP [.str] [.bytes,.int] (fun (name,_) (l,p,_) => (0 ≤ p ∧ p ≤ 800000))
def rel32 : RelS := relP [.str] [.bytes,.int] (ι := (List CallD) × Int) (fun (name,_) (l,p,_) (g,q) => (GoodH g) ∧ (p ≤ q ∧ q ≤ p + 1200)) (fun (name,_) (l,p,_) (g,q) => (.own 1 g.length,[⟨40,.row (.calls g)⟩],[.sl (.bytes l),.i q]))
abbrev T32 : Tab := lk []
theorem tab32 : TabOK prog T32 := TabOK.nil
set_option maxRecDepth 100000 in
set_option maxHeartbeats 1000000 in
theorem rok32 : RelOK prog 32 (some 68) [.o] pre32 rel32 := by
 refine RelOK.mk cok func32 rfl rfl rfl ?_
 rintro ⟨(name : ByteArray),_⟩ ⟨(l : List UInt8),(p : Int),_⟩ hpre F hnt0
 have hnt : F.nt = 10 := hnt0.trans ntmps32
 replace hpre : (0 ≤ p ∧ p ≤ 800000) := hpre
 have hp := hpre
 refine W.to (⟨[(0,.ptr 998 0),(1,.v (.string name))],[(998,⟨68,.fix [.sl (.bytes l),.i p]⟩)],[998,999]⟩) rfl ?_
 refine Kk cok tab32 hnt [] [0,1] (⟨[(0,.ptr 998 0),(1,.v (.string name))],[(998,⟨68,.fix [.sl (.bytes l),.i p]⟩)],[998,999]⟩)
  (True ∧ True)
  ⟨tt,tt⟩ ?_
 refine W.seq (W.wi ?_)
 refine WI.runT cok tab32 hnt [] 3 3 (⟨[(0,.ptr 998 0),(1,.v (.string name)),(5,.ptr 998 0),(6,.ptr 998 0),(7,.v (.string name))],[(998,⟨68,.fix [.sl (.bytes l),.i p]⟩)],[998,999]⟩)
  (True ∧ True ∧ True ∧ True) (by kernel_rfl) rfl
  ⟨tt,tt,tt,tt⟩ ?_
 refine WI.call [.ptr 998 0,.v (.string name),.i (6 : Int)] [.sl (.bytes l),.i p] [.v (.string name),.i (6 : Int)] [.v (.string name),.i (6 : Int)] (some (68,998)) (True) (True ∧ (True ∧ True)) none rok51 ent51 hnt rfl rfl (wanted_none rfl) (by kernel_rfl) (by kernel_rfl) (by kernel_rfl) ⟨tt,tt,tt,tt⟩
  (@cast ((0 ≤ p ∧ p ≤ 900000) ∧ ((6 : Int) = 6)) _ (by kernel_rfl) ⟨(by omega),(by omega)⟩) (Or.inl rfl) rfl ?_
 rintro r bl fx2 hR
 obtain ⟨⟨g8,q8⟩,hq8,rfl,rfl,rfl⟩ := (@cast _ (∃ x : (List CallD) × Int,((GoodH x.1) ∧ (p ≤ x.2 ∧ x.2 ≤ p + 100)) ∧ r = (.own 1 (List.length x.1)) ∧ bl = ([⟨40,.row (.calls x.1)⟩]) ∧ fx2 = ([.sl (.bytes l),.i x.2])) (by kernel_rfl) hR)
 clear hR
 replace hq8 : (GoodH g8) ∧ (p ≤ q8 ∧ q8 ≤ p + 100) := hq8
 obtain ⟨hg8,hq18⟩ := hq8
 refine ⟨by kernel_rfl,WI.to (⟨[(0,.ptr 998 0),(1,.v (.string name)),(5,.ptr 998 0),(6,.ptr 998 0),(7,.v (.string name)),(8,.own 1008 g8.length)],[(998,⟨68,.fix [.sl (.bytes l),.i q8]⟩),(1008,⟨40,.row (.calls g8)⟩)],[1008,8,998,999]⟩) 4 (by kernel_rfl) rfl ?_⟩
 refine WI.call [.ptr 998 0,.own 1008 g8.length] [.sl (.bytes l),.i q8] [.own 1008 g8.length] [.sl (.calls g8)] (some (68,998)) (True) ((True ∧ (g8.length = g8.length)) ∧ True) (some 1008) rok50 ent50 hnt rfl rfl (wanted_none rfl) (by kernel_rfl) (by kernel_rfl) (by kernel_rfl) ⟨tt,⟨tt,rfl⟩,tt⟩
  (@cast ((0 ≤ q8 ∧ q8 ≤ 900000) ∧ (GoodH g8)) _ (by kernel_rfl) ⟨(by omega),(by omega)⟩) (Or.inr (by decide)) rfl ?_
 rintro r bl fx2 hR
 obtain ⟨⟨g9,q9⟩,hq9,rfl,rfl,rfl⟩ := (@cast _ (∃ x : (List CallD) × Int,((GoodH x.1) ∧ (q8 ≤ x.2 ∧ x.2 ≤ q8 + 1000)) ∧ r = (.own 1 (List.length x.1)) ∧ bl = ([⟨40,.row (.calls x.1)⟩]) ∧ fx2 = ([.sl (.bytes l),.i x.2])) (by kernel_rfl) hR)
 clear hR
 replace hq9 : (GoodH g9) ∧ (q8 ≤ q9 ∧ q9 ≤ q8 + 1000) := hq9
 obtain ⟨hg9,hq19⟩ := hq9
 refine ⟨by kernel_rfl,WI.to (⟨[(0,.ptr 998 0),(1,.v (.string name)),(5,.ptr 998 0),(6,.ptr 998 0),(7,.v (.string name)),(8,.own 1008 g8.length),(9,.own 1009 g9.length)],[(998,⟨68,.fix [.sl (.bytes l),.i q9]⟩),(1009,⟨40,.row (.calls g9)⟩)],[1009,9,1008,8,998,999]⟩) 5 (by kernel_rfl) rfl ?_⟩
 refine WI.runT cok tab32 hnt [] 1 6 (⟨[(0,.ptr 998 0),(1,.v (.string name)),(4,.own 1009 g9.length),(5,.ptr 998 0),(6,.ptr 998 0),(7,.v (.string name)),(8,.own 1008 g8.length),(9,.own 1009 g9.length)],[(998,⟨68,.fix [.sl (.bytes l),.i q9]⟩),(1009,⟨40,.row (.calls g9)⟩)],[1009,9,1008,8,998,999]⟩)
  (True ∧ True) (by kernel_rfl) rfl
  ⟨tt,tt⟩ ?_
 refine WI.nil rfl (thenQ_normal ?_)
 refine W.keepE [4] [(4,.own 1009 g9.length)] (by kernel_rfl) ?_
 refine W.to (⟨[(4,.own 1009 g9.length)],[(998,⟨68,.fix [.sl (.bytes l),.i q9]⟩),(1009,⟨40,.row (.calls g9)⟩)],[1009,9,1008,8,998,999]⟩) rfl ?_
 refine W.ret ?_
 exact endP_ret (g9,q9) (show (GoodH g9) ∧ (p ≤ q9 ∧ q9 ≤ p + 1200) from ⟨(by first | assumption | omega | rfl | (simp; done) | (simp; omega)),(by first | assumption | omega | rfl | (simp; done) | (simp; omega))⟩) [(1,1009),(0,998)] (.own 1009 g9.length) (by kernel_rfl) (@cast ((((1009 : Nat) = 1009) ∧ (g9.length = g9.length) ∧ ((1 : Nat) ∈ ([0,1] : List Nat))) ∧ ((((68 : Nat) = 68) ∧ ((Sd (.bytes l)) ∧ (Si q9) ∧ True) ∧ ((0 : Nat) ∈ ([0,1] : List Nat))) ∧ (((40 : Nat) = 40) ∧ (Sd (.calls g9)) ∧ ((1 : Nat) ∈ ([0,1] : List Nat))) ∧ True) ∧ (true = true) ∧ ((([] : List Nat) = []) ∧ True) ∧ (true = true → (998 : Nat) = 998)) _ (by kernel_rfl) ⟨⟨rfl,rfl,(by decide)⟩,⟨⟨rfl,⟨rfl,rfl,tt⟩,(by decide)⟩,⟨rfl,rfl,(by decide)⟩,tt⟩,rfl,⟨rfl,tt⟩,(fun _ => rfl)⟩)
theorem ent32 : Entr prog 32 := ⟨_,func32,rfl,by decide⟩
end Go.Proofs.Tryd
