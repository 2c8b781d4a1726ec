import Derived.Test.YthigacnknicfnaaMF4S0
import Derived.Test.YthigacnknicfnaaMF4S1
import Derived.Test.YthigacnknicfnaaMF4S4
import Derived.Test.YthigacnknicfnaaMF4S5
set_option linter.unusedSimpArgs false
set_option linter.unusedVariables false
namespace Go.Proofs.Try
open Go.Ab Go.RowKit
def pre18 : List AV → List AV → Prop := preP [] [.bytes,.int] (fun _ (l,p,_) => (0 ≤ p ∧ p ≤ 1000))
def rel18 : RelS := relP [] [.bytes,.int] (ι := (List EventD) × Int) (fun _ (l,p,_) (g,q) => (g.length ≤ 7) ∧ (p ≤ q ∧ q ≤ p + 1000)) (fun _ (l,p,_) (g,q) => (.own 1 g.length,[⟨47,.row (.events g)⟩],[.sl (.bytes l),.i q]))
abbrev T18 : Tab := lk [(37,fs37)]
theorem tab18 : TabOK prog T18 := (TabOK.cons ok37 ent37 TabOK.nil)
set_option maxRecDepth 100000 in
set_option maxHeartbeats 1000000 in
theorem rok18 : RelOK prog 18 (some 50) [] pre18 rel18 := by
 refine RelOK.mk cok func18 rfl rfl rfl ?_
 rintro _ ⟨(l : List UInt8),(p : Int),_⟩ hpre F hnt0
 have hnt : F.nt = 113 := hnt0.trans ntmps18
 replace hpre : (0 ≤ p ∧ p ≤ 1000) := hpre
 have hp := hpre
 refine W.to (⟨[(0,.ptr 998 0)],[(998,⟨50,.fix [.sl (.bytes l),.i p]⟩)],[998,999]⟩) rfl ?_
 refine Kk cok tab18 hnt [] [0] (⟨[(0,.ptr 998 0)],[(998,⟨50,.fix [.sl (.bytes l),.i p]⟩)],[998,999]⟩)
  (True ∧ True)
  ⟨tt,tt⟩ ?_
 refine Kk cok tab18 hnt [11] [0,3] (⟨[(0,.ptr 998 0),(3,.own 11 (List.length ([] : List EventD)))],[(11,⟨47,.row (.events ([] : List EventD))⟩),(998,⟨50,.fix [.sl (.bytes l),.i p]⟩)],[11,998,999]⟩)
  (True ∧ True ∧ True)
  ⟨tt,tt,tt⟩ ?_
 refine Kk cok tab18 hnt [12] [0,3,4] (⟨[(0,.ptr 998 0),(3,.own 11 (List.length ([] : List EventD))),(4,.own 12 (List.length ([] : List Int)))],[(11,⟨47,.row (.events ([] : List EventD))⟩),(12,⟨3,.row (.ints ([] : List Int))⟩),(998,⟨50,.fix [.sl (.bytes l),.i p]⟩)],[12,11,998,999]⟩)
  (True ∧ True ∧ True)
  ⟨tt,tt,tt⟩ ?_
 refine Kk cok tab18 hnt [13] [0,3,4,5] (⟨[(0,.ptr 998 0),(3,.own 11 (List.length ([] : List EventD))),(4,.own 12 (List.length ([] : List Int))),(5,.own 13 (List.length ([] : List Int)))],[(11,⟨47,.row (.events ([] : List EventD))⟩),(12,⟨3,.row (.ints ([] : List Int))⟩),(13,⟨3,.row (.ints ([] : List Int))⟩),(998,⟨50,.fix [.sl (.bytes l),.i p]⟩)],[13,12,11,998,999]⟩)
  (True ∧ True ∧ True)
  ⟨tt,tt,tt⟩ ?_
 refine W.seq (W.wi ?_)
 refine WI.runT cok tab18 hnt [] 2 2 (⟨[(0,.ptr 998 0),(3,.own 11 (List.length ([] : List EventD))),(4,.own 12 (List.length ([] : List Int))),(5,.own 13 (List.length ([] : List Int))),(14,.ptr 998 0),(15,.sl (.ints ([(2 : Int),(3 : Int),(3 : Int),(1 : Int)])))],[(11,⟨47,.row (.events ([] : List EventD))⟩),(12,⟨3,.row (.ints ([] : List Int))⟩),(13,⟨3,.row (.ints ([] : List Int))⟩),(998,⟨50,.fix [.sl (.bytes l),.i p]⟩)],[15,13,12,11,998,999]⟩)
  (True ∧ (True ∧ True ∧ True ∧ True ∧ True) ∧ True) (by kernel_rfl) rfl
  ⟨tt,⟨tt,tt,tt,tt,tt⟩,tt⟩ ?_
 refine WI.call [.ptr 998 0,.sl (.ints ([(2 : Int),(3 : Int),(3 : Int),(1 : Int)]))] [.sl (.bytes l),.i p] [.sl (.ints ([(2 : Int),(3 : Int),(3 : Int),(1 : Int)]))] [.sl (.ints ([(2 : Int),(3 : Int),(3 : Int),(1 : Int)]))] (some (50,998)) (True) (True ∧ True) none rok20 ent20 hnt rfl rfl (wanted_none rfl) (by kernel_rfl) (by kernel_rfl) (by kernel_rfl) ⟨tt,tt,tt⟩
  (@cast ((0 ≤ p ∧ p ≤ 1000000) ∧ (0 < ([(2 : Int),(3 : Int),(3 : Int),(1 : Int)]).length) ∧ (([(2 : Int),(3 : Int),(3 : Int),(1 : Int)]).length ≤ 1000)) _ (by kernel_rfl) ⟨(by omega),⟨(by (first | omega | (simp only [List.length_set]; done) | (simp only [List.length_append,List.length_cons,List.length_nil,List.length_take,List.length_drop,List.length_set,List.length_replicate,List.length_map] at *; omega) | assumption)),(by (first | omega | (simp only [List.length_set]; done) | (simp only [List.length_append,List.length_cons,List.length_nil,List.length_take,List.length_drop,List.length_set,List.length_replicate,List.length_map] at *; omega) | assumption))⟩⟩) (Or.inl rfl) rfl ?_
 rintro r bl fx2 hR
 obtain ⟨⟨v16,q16⟩,hq16,rfl,rfl,rfl⟩ := (@cast _ (∃ x : Int × Int,((x.1 ∈ ([(2 : Int),(3 : Int),(3 : Int),(1 : Int)])) ∧ (x.2 = p + 1)) ∧ r = (.i x.1) ∧ bl = ([]) ∧ fx2 = ([.sl (.bytes l),.i x.2])) (by kernel_rfl) hR)
 clear hR
 replace hq16 : (v16 ∈ ([(2 : Int),(3 : Int),(3 : Int),(1 : Int)])) ∧ (q16 = p + 1) := hq16
 obtain ⟨hv16,hq116⟩ := hq16
 simp only [List.mem_cons,List.not_mem_nil,or_false] at hv16
 refine ⟨by kernel_rfl,WI.to (⟨[(0,.ptr 998 0),(3,.own 11 (List.length ([] : List EventD))),(4,.own 12 (List.length ([] : List Int))),(5,.own 13 (List.length ([] : List Int))),(14,.ptr 998 0),(15,.sl (.ints ([(2 : Int),(3 : Int),(3 : Int),(1 : Int)]))),(16,.i v16)],[(11,⟨47,.row (.events ([] : List EventD))⟩),(12,⟨3,.row (.ints ([] : List Int))⟩),(13,⟨3,.row (.ints ([] : List Int))⟩),(998,⟨50,.fix [.sl (.bytes l),.i q16]⟩)],[16,15,13,12,11,998,999]⟩) 3 (by kernel_rfl) rfl ?_⟩
 refine WI.runT cok tab18 hnt [] 1 4 (⟨[(0,.ptr 998 0),(3,.own 11 (List.length ([] : List EventD))),(4,.own 12 (List.length ([] : List Int))),(5,.own 13 (List.length ([] : List Int))),(6,.i v16),(14,.ptr 998 0),(15,.sl (.ints ([(2 : Int),(3 : Int),(3 : Int),(1 : Int)]))),(16,.i v16)],[(11,⟨47,.row (.events ([] : List EventD))⟩),(12,⟨3,.row (.ints ([] : List Int))⟩),(13,⟨3,.row (.ints ([] : List Int))⟩),(998,⟨50,.fix [.sl (.bytes l),.i q16]⟩)],[16,15,13,12,11,998,999]⟩)
  (True ∧ True) (by kernel_rfl) rfl
  ⟨tt,tt⟩ ?_
 refine WI.nil rfl (thenQ_normal ?_)
 refine W.keepE [0,3,4,5,6] [(0,.ptr 998 0),(3,.own 11 (List.length ([] : List EventD))),(4,.own 12 (List.length ([] : List Int))),(5,.own 13 (List.length ([] : List Int))),(6,.i v16)] (by kernel_rfl) ?_
 refine W.to (⟨[(0,.ptr 998 0),(3,.own 11 (List.length ([] : List EventD))),(4,.own 12 (List.length ([] : List Int))),(5,.own 13 (List.length ([] : List Int))),(6,.i v16)],[(11,⟨47,.row (.events ([] : List EventD))⟩),(12,⟨3,.row (.ints ([] : List Int))⟩),(13,⟨3,.row (.ints ([] : List Int))⟩),(998,⟨50,.fix [.sl (.bytes l),.i q16]⟩)],[16,15,13,12,11,998,999]⟩) rfl ?_
 refine W.seq ?_
 refine W.seq (W.wi ?_)
 refine WI.runT cok tab18 hnt [] 2 2 (⟨[(0,.ptr 998 0),(3,.own 11 (List.length ([] : List EventD))),(4,.own 12 (List.length ([] : List Int))),(5,.own 13 (List.length ([] : List Int))),(6,.i v16),(17,.ptr 998 0),(18,.sl (.ints ([(5 : Int),(6 : Int),(4 : Int),(7 : Int),(3 : Int),(2 : Int),(1 : Int),(0 : Int)])))],[(11,⟨47,.row (.events ([] : List EventD))⟩),(12,⟨3,.row (.ints ([] : List Int))⟩),(13,⟨3,.row (.ints ([] : List Int))⟩),(998,⟨50,.fix [.sl (.bytes l),.i q16]⟩)],[18,16,15,13,12,11,998,999]⟩)
  (True ∧ (True ∧ True ∧ True ∧ True ∧ True ∧ True ∧ True ∧ True ∧ True) ∧ True) (by kernel_rfl) rfl
  ⟨tt,⟨tt,tt,tt,tt,tt,tt,tt,tt,tt⟩,tt⟩ ?_
 refine WI.call [.ptr 998 0,.sl (.ints ([(5 : Int),(6 : Int),(4 : Int),(7 : Int),(3 : Int),(2 : Int),(1 : Int),(0 : Int)]))] [.sl (.bytes l),.i q16] [.sl (.ints ([(5 : Int),(6 : Int),(4 : Int),(7 : Int),(3 : Int),(2 : Int),(1 : Int),(0 : Int)]))] [.sl (.ints ([(5 : Int),(6 : Int),(4 : Int),(7 : Int),(3 : Int),(2 : Int),(1 : Int),(0 : Int)]))] (some (50,998)) (True) (True ∧ True) none rok20 ent20 hnt rfl rfl (wanted_none rfl) (by kernel_rfl) (by kernel_rfl) (by kernel_rfl) ⟨tt,tt,tt⟩
  (@cast ((0 ≤ q16 ∧ q16 ≤ 1000000) ∧ (0 < ([(5 : Int),(6 : Int),(4 : Int),(7 : Int),(3 : Int),(2 : Int),(1 : Int),(0 : Int)]).length) ∧ (([(5 : Int),(6 : Int),(4 : Int),(7 : Int),(3 : Int),(2 : Int),(1 : Int),(0 : Int)]).length ≤ 1000)) _ (by kernel_rfl) ⟨(by omega),⟨(by (first | omega | (simp only [List.length_set]; done) | (simp only [List.length_append,List.length_cons,List.length_nil,List.length_take,List.length_drop,List.length_set,List.length_replicate,List.length_map] at *; omega) | assumption)),(by (first | omega | (simp only [List.length_set]; done) | (simp only [List.length_append,List.length_cons,List.length_nil,List.length_take,List.length_drop,List.length_set,List.length_replicate,List.length_map] at *; omega) | assumption))⟩⟩) (Or.inl rfl) rfl ?_
 rintro r bl fx2 hR
 obtain ⟨⟨v19,q19⟩,hq19,rfl,rfl,rfl⟩ := (@cast _ (∃ x : Int × Int,((x.1 ∈ ([(5 : Int),(6 : Int),(4 : Int),(7 : Int),(3 : Int),(2 : Int),(1 : Int),(0 : Int)])) ∧ (x.2 = q16 + 1)) ∧ r = (.i x.1) ∧ bl = ([]) ∧ fx2 = ([.sl (.bytes l),.i x.2])) (by kernel_rfl) hR)
 clear hR
 replace hq19 : (v19 ∈ ([(5 : Int),(6 : Int),(4 : Int),(7 : Int),(3 : Int),(2 : Int),(1 : Int),(0 : Int)])) ∧ (q19 = q16 + 1) := hq19
 obtain ⟨hv19,hq119⟩ := hq19
 simp only [List.mem_cons,List.not_mem_nil,or_false] at hv19
 refine ⟨by kernel_rfl,WI.to (⟨[(0,.ptr 998 0),(3,.own 11 (List.length ([] : List EventD))),(4,.own 12 (List.length ([] : List Int))),(5,.own 13 (List.length ([] : List Int))),(6,.i v16),(17,.ptr 998 0),(18,.sl (.ints ([(5 : Int),(6 : Int),(4 : Int),(7 : Int),(3 : Int),(2 : Int),(1 : Int),(0 : Int)]))),(19,.i v19)],[(11,⟨47,.row (.events ([] : List EventD))⟩),(12,⟨3,.row (.ints ([] : List Int))⟩),(13,⟨3,.row (.ints ([] : List Int))⟩),(998,⟨50,.fix [.sl (.bytes l),.i q19]⟩)],[19,18,16,15,13,12,11,998,999]⟩) 3 (by kernel_rfl) rfl ?_⟩
 refine WI.runT cok tab18 hnt [] 1 4 (⟨[(0,.ptr 998 0),(3,.own 11 (List.length ([] : List EventD))),(4,.own 12 (List.length ([] : List Int))),(5,.own 13 (List.length ([] : List Int))),(6,.i v16),(7,.i v19),(17,.ptr 998 0),(18,.sl (.ints ([(5 : Int),(6 : Int),(4 : Int),(7 : Int),(3 : Int),(2 : Int),(1 : Int),(0 : Int)]))),(19,.i v19)],[(11,⟨47,.row (.events ([] : List EventD))⟩),(12,⟨3,.row (.ints ([] : List Int))⟩),(13,⟨3,.row (.ints ([] : List Int))⟩),(998,⟨50,.fix [.sl (.bytes l),.i q19]⟩)],[19,18,16,15,13,12,11,998,999]⟩)
  (True ∧ True) (by kernel_rfl) rfl
  ⟨tt,tt⟩ ?_
 refine WI.nil rfl (thenQ_normal ?_)
 refine W.keepE [0,3,4,5,6,7] [(0,.ptr 998 0),(3,.own 11 (List.length ([] : List EventD))),(4,.own 12 (List.length ([] : List Int))),(5,.own 13 (List.length ([] : List Int))),(6,.i v16),(7,.i v19)] (by kernel_rfl) ?_
 refine W.to (⟨[(0,.ptr 998 0),(3,.own 11 (List.length ([] : List EventD))),(4,.own 12 (List.length ([] : List Int))),(5,.own 13 (List.length ([] : List Int))),(6,.i v16),(7,.i v19)],[(11,⟨47,.row (.events ([] : List EventD))⟩),(12,⟨3,.row (.ints ([] : List Int))⟩),(13,⟨3,.row (.ints ([] : List Int))⟩),(998,⟨50,.fix [.sl (.bytes l),.i q19]⟩)],[19,18,16,15,13,12,11,998,999]⟩) rfl ?_
 refine W.block ?_
 refine W.loop (ι := (List EventD) × (List Int) × (List Int) × Int × Int) (fun (x : (List EventD) × (List Int) × (List Int) × Int × Int) => match x with | (o,s,tk,n,p1) => (⟨[(0,.ptr 998 0),(3,.own 11 o.length),(4,.own 12 s.length),(5,.own 13 tk.length),(6,.i v16),(7,.i n)],[(11,⟨47,.row (.events o)⟩),(12,⟨3,.row (.ints s)⟩),(13,⟨3,.row (.ints tk)⟩),(998,⟨50,.fix [.sl (.bytes l),.i p1]⟩)],[11,12,13,998,999]⟩ : St))
  (fun (x : (List EventD) × (List Int) × (List Int) × Int × Int) => match x with | (o,s,tk,n,p1) => (0 ≤ n ∧ n + o.length ≤ 7) ∧ (s.length ≤ o.length) ∧ (tk.length ≤ o.length) ∧ (p + 2 ≤ p1 ∧ p1 ≤ p + 2 + 2 * o.length))
  (fun (x : (List EventD) × (List Int) × (List Int) × Int × Int) => match x with | (o,s,tk,n,p1) => (n.toNat : Nat)) (([] : List EventD),([] : List Int),([] : List Int),v19,q19) ?_ ?_ ?_
 ·exact (show (0 ≤ v19 ∧ v19 + ([] : List EventD).length ≤ 7) ∧ (([] : List Int).length ≤ ([] : List EventD).length) ∧ (([] : List Int).length ≤ ([] : List EventD).length) ∧ (p + 2 ≤ q19 ∧ q19 ≤ p + 2 + 2 * ([] : List EventD).length) from ⟨(by first | assumption | omega | rfl | (intro _ hjj; omega) | (simp; done) | (simp; omega)),(by first | assumption | omega | rfl | (intro _ hjj; omega) | (simp; done) | (simp; omega)),(by first | assumption | omega | rfl | (intro _ hjj; omega) | (simp; done) | (simp; omega)),(by first | assumption | omega | rfl | (intro _ hjj; omega) | (simp; done) | (simp; omega))⟩)
 ·exact Sub.of [] (@cast (((((998 : Nat) = 998) ∧ ((0 : Nat) = 0) ∧ ((998 : Nat) ∈ ([11,12,13,998,999] : List Nat))) ∧ (((11 : Nat) = 11) ∧ ((List.length ([] : List EventD)) = (List.length ([] : List EventD))) ∧ ((11 : Nat) ∈ ([11,12,13,998,999] : List Nat))) ∧ (((12 : Nat) = 12) ∧ ((List.length ([] : List Int)) = (List.length ([] : List Int))) ∧ ((12 : Nat) ∈ ([11,12,13,998,999] : List Nat))) ∧ (((13 : Nat) = 13) ∧ ((List.length ([] : List Int)) = (List.length ([] : List Int))) ∧ ((13 : Nat) ∈ ([11,12,13,998,999] : List Nat))) ∧ (Si v16) ∧ (Si v19) ∧ True) ∧ ((((47 : Nat) = 47) ∧ (Sd (.events ([] : List EventD))) ∧ ((11 : Nat) ∈ ([11,12,13,998,999] : List Nat))) ∧ (((3 : Nat) = 3) ∧ (Sd (.ints ([] : List Int))) ∧ ((12 : Nat) ∈ ([11,12,13,998,999] : List Nat))) ∧ (((3 : Nat) = 3) ∧ (Sd (.ints ([] : List Int))) ∧ ((13 : Nat) ∈ ([11,12,13,998,999] : List Nat))) ∧ (((50 : Nat) = 50) ∧ ((Sd (.bytes l)) ∧ (Si q19) ∧ True) ∧ ((998 : Nat) ∈ ([11,12,13,998,999] : List Nat))) ∧ True) ∧ (true = true) ∧ (true = true)) _ (by kernel_rfl) ⟨⟨⟨rfl,rfl,(by decide)⟩,⟨rfl,rfl,(by decide)⟩,⟨rfl,rfl,(by decide)⟩,⟨rfl,rfl,(by decide)⟩,rfl,rfl,tt⟩,⟨⟨rfl,rfl,(by decide)⟩,⟨rfl,rfl,(by decide)⟩,⟨rfl,rfl,(by decide)⟩,⟨rfl,⟨rfl,rfl,tt⟩,(by decide)⟩,tt⟩,rfl,rfl⟩)
 ·rintro ⟨o,s,tk,n,p1⟩ hC0
  have hC : (0 ≤ n ∧ n + o.length ≤ 7) ∧ (s.length ≤ o.length) ∧ (tk.length ≤ o.length) ∧ (p + 2 ≤ p1 ∧ p1 ≤ p + 2 + 2 * o.length) := hC0
  clear hC0
  obtain ⟨hn,hs,ht,hq⟩ := hC
  refine W.to (⟨[(0,.ptr 998 0),(3,.own 11 o.length),(4,.own 12 s.length),(5,.own 13 tk.length),(6,.i v16),(7,.i n)],[(11,⟨47,.row (.events o)⟩),(12,⟨3,.row (.ints s)⟩),(13,⟨3,.row (.ints tk)⟩),(998,⟨50,.fix [.sl (.bytes l),.i p1]⟩)],[11,12,13,998,999]⟩) rfl ?_
  refine W.seq ?_
  refine Kk cok tab18 hnt [] [0,3,4,5,6,7,21] (⟨[(0,.ptr 998 0),(3,.own 11 o.length),(4,.own 12 s.length),(5,.own 13 tk.length),(6,.i v16),(7,.i n),(21,.b (decide ((0 : Int) < n)))],[(11,⟨47,.row (.events o)⟩),(12,⟨3,.row (.ints s)⟩),(13,⟨3,.row (.ints tk)⟩),(998,⟨50,.fix [.sl (.bytes l),.i p1]⟩)],[11,12,13,998,999]⟩)
   (True ∧ (True ∧ True ∧ True) ∧ True)
   ⟨tt,⟨tt,tt,tt⟩,tt⟩ ?_
  refine W.ifP ((0 : Int) < n) (.b (decide ((0 : Int) < n))) (by kernel_rfl) rfl trivial ?_ ?_
  ·intro h21
   refine W.skip (thenQ_normal ?_)
   refine W.seq ?_
   refine W.block ?_
   refine W.seq (W.wi ?_)
   refine WI.runT cok tab18 hnt [] 2 2 (⟨[(0,.ptr 998 0),(3,.own 11 o.length),(4,.own 12 s.length),(5,.own 13 tk.length),(6,.i v16),(7,.i n),(21,.b (decide ((0 : Int) < n))),(24,.ptr 998 0),(25,.i v16)],[(11,⟨47,.row (.events o)⟩),(12,⟨3,.row (.ints s)⟩),(13,⟨3,.row (.ints tk)⟩),(998,⟨50,.fix [.sl (.bytes l),.i p1]⟩)],[11,12,13,998,999]⟩)
    (True ∧ True ∧ True) (by kernel_rfl) rfl
    ⟨tt,tt,tt⟩ ?_
   refine WI.call [.ptr 998 0,.i v16] [.sl (.bytes l),.i p1] [.i v16] [.i v16] (some (50,998)) (True) (True ∧ True) none rok21 ent21 hnt rfl rfl (wanted_none rfl) (by kernel_rfl) (by kernel_rfl) (by kernel_rfl) ⟨tt,tt,tt⟩
    (@cast (0 ≤ p1 ∧ p1 ≤ 1000000) _ (by kernel_rfl) (by omega)) (Or.inl rfl) rfl ?_
   rintro r bl fx2 hR
   obtain ⟨⟨v26,q26⟩,hq26,rfl,rfl,rfl⟩ := (@cast _ (∃ x : Int × Int,((0 ≤ x.1 ∧ x.1 < max v16 1) ∧ (x.2 = p1 + 1)) ∧ r = (.i x.1) ∧ bl = ([]) ∧ fx2 = ([.sl (.bytes l),.i x.2])) (by kernel_rfl) hR)
   clear hR
   replace hq26 : (0 ≤ v26 ∧ v26 < max v16 1) ∧ (q26 = p1 + 1) := hq26
   obtain ⟨hv26,hq126⟩ := hq26
   refine ⟨by kernel_rfl,WI.to (⟨[(0,.ptr 998 0),(3,.own 11 o.length),(4,.own 12 s.length),(5,.own 13 tk.length),(6,.i v16),(7,.i n),(21,.b (decide ((0 : Int) < n))),(24,.ptr 998 0),(25,.i v16),(26,.i v26)],[(11,⟨47,.row (.events o)⟩),(12,⟨3,.row (.ints s)⟩),(13,⟨3,.row (.ints tk)⟩),(998,⟨50,.fix [.sl (.bytes l),.i q26]⟩)],[26,11,12,13,998,999]⟩) 3 (by kernel_rfl) rfl ?_⟩
   refine WI.runT cok tab18 hnt [] 3 6 (⟨[(0,.ptr 998 0),(3,.own 11 o.length),(4,.own 12 s.length),(5,.own 13 tk.length),(6,.i v16),(7,.i n),(8,.ptr 8 0),(21,.b (decide ((0 : Int) < n))),(24,.ptr 998 0),(25,.i v16),(26,.i v26),(27,.agg [.i v26,.i (0 : Int),.i (0 : Int)])],[(8,⟨47,.fix [.i v26,.i (0 : Int),.i (0 : Int)]⟩),(11,⟨47,.row (.events o)⟩),(12,⟨3,.row (.ints s)⟩),(13,⟨3,.row (.ints tk)⟩),(998,⟨50,.fix [.sl (.bytes l),.i q26]⟩)],[8,26,11,12,13,998,999]⟩)
    ((True ∧ True) ∧ True ∧ (True ∧ True) ∧ True) (by kernel_rfl) rfl
    ⟨⟨tt,tt⟩,tt,⟨tt,tt⟩,tt⟩ ?_
   refine WI.nil rfl (thenQ_normal ?_)
   refine W.keepE [0,3,4,5,6,7,8] [(0,.ptr 998 0),(3,.own 11 o.length),(4,.own 12 s.length),(5,.own 13 tk.length),(6,.i v16),(7,.i n),(8,.ptr 8 0)] (by kernel_rfl) ?_
   refine W.to (⟨[(0,.ptr 998 0),(3,.own 11 o.length),(4,.own 12 s.length),(5,.own 13 tk.length),(6,.i v16),(7,.i n),(8,.ptr 8 0)],[(8,⟨47,.fix [.i v26,.i (0 : Int),.i (0 : Int)]⟩),(11,⟨47,.row (.events o)⟩),(12,⟨3,.row (.ints s)⟩),(13,⟨3,.row (.ints tk)⟩),(998,⟨50,.fix [.sl (.bytes l),.i q26]⟩)],[8,26,11,12,13,998,999]⟩) rfl ?_
   refine W.seq ?_
   refine W.seq (W.wi ?_)
   refine WI.runT cok tab18 hnt [] 1 1 (⟨[(0,.ptr 998 0),(3,.own 11 o.length),(4,.own 12 s.length),(5,.own 13 tk.length),(6,.i v16),(7,.i n),(8,.ptr 8 0),(28,.ptr 998 0)],[(8,⟨47,.fix [.i v26,.i (0 : Int),.i (0 : Int)]⟩),(11,⟨47,.row (.events o)⟩),(12,⟨3,.row (.ints s)⟩),(13,⟨3,.row (.ints tk)⟩),(998,⟨50,.fix [.sl (.bytes l),.i q26]⟩)],[8,26,11,12,13,998,999]⟩)
    (True ∧ True) (by kernel_rfl) rfl
    ⟨tt,tt⟩ ?_
   refine WI.call [.ptr 998 0,.i (3 : Int)] [.sl (.bytes l),.i q26] [.i (3 : Int)] [.i (3 : Int)] (some (50,998)) (True) (True ∧ True) none rok21 ent21 hnt rfl rfl (wanted_none rfl) (by kernel_rfl) (by kernel_rfl) (by kernel_rfl) ⟨tt,tt,tt⟩
    (@cast (0 ≤ q26 ∧ q26 ≤ 1000000) _ (by kernel_rfl) (by omega)) (Or.inl rfl) rfl ?_
   rintro r bl fx2 hR
   obtain ⟨⟨v29,q29⟩,hq29,rfl,rfl,rfl⟩ := (@cast _ (∃ x : Int × Int,((0 ≤ x.1 ∧ x.1 < max (3 : Int) 1) ∧ (x.2 = q26 + 1)) ∧ r = (.i x.1) ∧ bl = ([]) ∧ fx2 = ([.sl (.bytes l),.i x.2])) (by kernel_rfl) hR)
   clear hR
   replace hq29 : (0 ≤ v29 ∧ v29 < max (3 : Int) 1) ∧ (q29 = q26 + 1) := hq29
   obtain ⟨hv29,hq129⟩ := hq29
   refine ⟨by kernel_rfl,WI.to (⟨[(0,.ptr 998 0),(3,.own 11 o.length),(4,.own 12 s.length),(5,.own 13 tk.length),(6,.i v16),(7,.i n),(8,.ptr 8 0),(28,.ptr 998 0),(29,.i v29)],[(8,⟨47,.fix [.i v26,.i (0 : Int),.i (0 : Int)]⟩),(11,⟨47,.row (.events o)⟩),(12,⟨3,.row (.ints s)⟩),(13,⟨3,.row (.ints tk)⟩),(998,⟨50,.fix [.sl (.bytes l),.i q29]⟩)],[29,8,26,11,12,13,998,999]⟩) 2 (by kernel_rfl) rfl ?_⟩
   refine WI.nil rfl (thenQ_normal ?_)
   refine W.keepE [0,3,4,5,6,7,8,29] [(0,.ptr 998 0),(3,.own 11 o.length),(4,.own 12 s.length),(5,.own 13 tk.length),(6,.i v16),(7,.i n),(8,.ptr 8 0),(29,.i v29)] (by kernel_rfl) ?_
   refine W.to (⟨[(0,.ptr 998 0),(3,.own 11 o.length),(4,.own 12 s.length),(5,.own 13 tk.length),(6,.i v16),(7,.i n),(8,.ptr 8 0),(29,.i v29)],[(8,⟨47,.fix [.i v26,.i (0 : Int),.i (0 : Int)]⟩),(11,⟨47,.row (.events o)⟩),(12,⟨3,.row (.ints s)⟩),(13,⟨3,.row (.ints tk)⟩),(998,⟨50,.fix [.sl (.bytes l),.i q29]⟩)],[29,8,26,11,12,13,998,999]⟩) rfl ?_
   refine W.block ?_
   refine Kk cok tab18 hnt [] [0,3,4,5,6,7,8,29,30] (⟨[(0,.ptr 998 0),(3,.own 11 o.length),(4,.own 12 s.length),(5,.own 13 tk.length),(6,.i v16),(7,.i n),(8,.ptr 8 0),(29,.i v29),(30,.b (decide (v29 = (0 : Int))))],[(8,⟨47,.fix [.i v26,.i (0 : Int),.i (0 : Int)]⟩),(11,⟨47,.row (.events o)⟩),(12,⟨3,.row (.ints s)⟩),(13,⟨3,.row (.ints tk)⟩),(998,⟨50,.fix [.sl (.bytes l),.i q29]⟩)],[29,8,26,11,12,13,998,999]⟩)
    ((True ∧ True ∧ True) ∧ True ∧ True)
    ⟨⟨tt,tt,tt⟩,tt,tt⟩ ?_
   refine W.ifP (v29 = (0 : Int)) (.b (decide (v29 = (0 : Int)))) (by kernel_rfl) rfl trivial ?_ ?_
   ·intro h30
    refine Kk cok tab18 hnt [] [0,3,4,5,6,7,8] (⟨[(0,.ptr 998 0),(3,.own 11 o.length),(4,.own 12 s.length),(5,.own 13 tk.length),(6,.i v16),(7,.i n),(8,.ptr 8 0)],[(8,⟨47,.fix [.i v26,.i (1 : Int),.i (0 : Int)]⟩),(11,⟨47,.row (.events o)⟩),(12,⟨3,.row (.ints s)⟩),(13,⟨3,.row (.ints tk)⟩),(998,⟨50,.fix [.sl (.bytes l),.i q29]⟩)],[29,8,26,11,12,13,998,999]⟩)
     (True ∧ (True ∧ True) ∧ True)
     ⟨tt,⟨tt,tt⟩,tt⟩ ?_
    refine Kk cok tab18 hnt [] [0,3,4,5,6,7,8] (⟨[(0,.ptr 998 0),(3,.own 11 o.length),(4,.own 12 s.length),(5,.own 13 tk.length),(6,.i v16),(7,.i n),(8,.ptr 8 0)],[(8,⟨47,.fix [.i v26,.i (1 : Int),.i (s.length : Int)]⟩),(11,⟨47,.row (.events o)⟩),(12,⟨3,.row (.ints s)⟩),(13,⟨3,.row (.ints tk)⟩),(998,⟨50,.fix [.sl (.bytes l),.i q29]⟩)],[29,8,26,11,12,13,998,999]⟩)
     (True ∧ True ∧ True ∧ (True ∧ True) ∧ True)
     ⟨tt,tt,tt,⟨tt,tt⟩,tt⟩ ?_
    refine Lk cok tab18 hnt [40] (⟨[(0,.ptr 998 0),(3,.own 11 o.length),(4,.own 40 (List.length (s ++ ([v26])))),(5,.own 13 tk.length),(6,.i v16),(7,.i n),(8,.ptr 8 0),(36,.own 12 s.length),(37,.ptr 8 0),(38,.i v26),(39,.sl (.ints ([v26]))),(40,.own 40 (List.length (s ++ ([v26]))))],[(8,⟨47,.fix [.i v26,.i (1 : Int),.i (s.length : Int)]⟩),(11,⟨47,.row (.events o)⟩),(13,⟨3,.row (.ints tk)⟩),(40,⟨3,.row (.ints (s ++ ([v26])))⟩),(998,⟨50,.fix [.sl (.bytes l),.i q29]⟩)],[40,39,29,8,26,11,12,13,998,999]⟩)
     (True ∧ True ∧ True ∧ (True ∧ True) ∧ ((True ∧ (s.length = s.length)) ∧ True ∧ ((s.length + (List.length ([v26]))) * 8 ≤ 140737488355328)) ∧ True ∧ True)
     ⟨tt,tt,tt,⟨tt,tt⟩,⟨⟨tt,rfl⟩,tt,(by (first | omega | (simp only [List.length_set]; done) | (simp only [List.length_append,List.length_cons,List.length_nil,List.length_take,List.length_drop,List.length_set,List.length_replicate,List.length_map] at *; omega) | assumption))⟩,tt,tt⟩ ?_
    refine blockQ_normal (thenQ_normal ?_)
    refine Lk cok tab18 hnt [72] (⟨[(0,.ptr 998 0),(3,.own 72 (List.length (o ++ ([(⟨v26,(1 : Int),(s.length : Int)⟩ : EventD)])))),(4,.own 40 (List.length (s ++ ([v26])))),(5,.own 13 tk.length),(6,.i v16),(7,.i n),(8,.ptr 8 0),(36,.own 12 s.length),(37,.ptr 8 0),(38,.i v26),(39,.sl (.ints ([v26]))),(40,.own 40 (List.length (s ++ ([v26])))),(69,.own 11 o.length),(70,.agg [.i v26,.i (1 : Int),.i (s.length : Int)]),(71,.sl (.events ([(⟨v26,(1 : Int),(s.length : Int)⟩ : EventD)]))),(72,.own 72 (List.length (o ++ ([(⟨v26,(1 : Int),(s.length : Int)⟩ : EventD)]))))],[(8,⟨47,.fix [.i v26,.i (1 : Int),.i (s.length : Int)]⟩),(13,⟨3,.row (.ints tk)⟩),(40,⟨3,.row (.ints (s ++ ([v26])))⟩),(72,⟨47,.row (.events (o ++ ([(⟨v26,(1 : Int),(s.length : Int)⟩ : EventD)])))⟩),(998,⟨50,.fix [.sl (.bytes l),.i q29]⟩)],[72,71,40,39,29,8,26,11,12,13,998,999]⟩)
     (True ∧ True ∧ (True ∧ True) ∧ ((True ∧ (o.length = o.length)) ∧ True ∧ ((o.length + (List.length ([(⟨v26,(1 : Int),(s.length : Int)⟩ : EventD)]))) * 24 ≤ 140737488355328)) ∧ True ∧ True)
     ⟨tt,tt,⟨tt,tt⟩,⟨⟨tt,rfl⟩,tt,(by (first | omega | (simp only [List.length_set]; done) | (simp only [List.length_append,List.length_cons,List.length_nil,List.length_take,List.length_drop,List.length_set,List.length_replicate,List.length_map] at *; omega) | assumption))⟩,tt,tt⟩ ?_
    refine blockQ_normal (thenQ_normal ?_)
    refine Lk cok tab18 hnt [] (⟨[(0,.ptr 998 0),(3,.own 72 (List.length (o ++ ([(⟨v26,(1 : Int),(s.length : Int)⟩ : EventD)])))),(4,.own 40 (List.length (s ++ ([v26])))),(5,.own 13 tk.length),(6,.i v16),(7,.i (n - (1 : Int))),(8,.ptr 8 0),(22,.i n),(23,.i (n - (1 : Int))),(36,.own 12 s.length),(37,.ptr 8 0),(38,.i v26),(39,.sl (.ints ([v26]))),(40,.own 40 (List.length (s ++ ([v26])))),(69,.own 11 o.length),(70,.agg [.i v26,.i (1 : Int),.i (s.length : Int)]),(71,.sl (.events ([(⟨v26,(1 : Int),(s.length : Int)⟩ : EventD)]))),(72,.own 72 (List.length (o ++ ([(⟨v26,(1 : Int),(s.length : Int)⟩ : EventD)]))))],[(8,⟨47,.fix [.i v26,.i (1 : Int),.i (s.length : Int)]⟩),(13,⟨3,.row (.ints tk)⟩),(40,⟨3,.row (.ints (s ++ ([v26])))⟩),(72,⟨47,.row (.events (o ++ ([(⟨v26,(1 : Int),(s.length : Int)⟩ : EventD)])))⟩),(998,⟨50,.fix [.sl (.bytes l),.i q29]⟩)],[72,71,40,39,29,8,26,11,12,13,998,999]⟩)
     (True ∧ (True ∧ True ∧ (Fits .i64 (n - (1 : Int)))) ∧ True ∧ True)
     ⟨tt,⟨tt,tt,(by exact fits_i64 (by omega) (by omega))⟩,tt,tt⟩ ?_
    refine thenQ_normal ?_
    refine ⟨((o ++ ([(⟨v26,(1 : Int),(s.length : Int)⟩ : EventD)])),(s ++ ([v26])),tk,(n - (1 : Int)),q29),(show (0 ≤ (n - (1 : Int)) ∧ (n - (1 : Int)) + (o ++ ([(⟨v26,(1 : Int),(s.length : Int)⟩ : EventD)])).length ≤ 7) ∧ ((s ++ ([v26])).length ≤ (o ++ ([(⟨v26,(1 : Int),(s.length : Int)⟩ : EventD)])).length) ∧ (tk.length ≤ (o ++ ([(⟨v26,(1 : Int),(s.length : Int)⟩ : EventD)])).length) ∧ (p + 2 ≤ q29 ∧ q29 ≤ p + 2 + 2 * (o ++ ([(⟨v26,(1 : Int),(s.length : Int)⟩ : EventD)])).length) from ⟨(by first | assumption | omega | rfl | (intro _ hjj; omega) | (simp; done) | (simp; omega)),(by first | assumption | omega | rfl | (intro _ hjj; omega) | (simp; done) | (simp; omega)),(by first | assumption | omega | rfl | (intro _ hjj; omega) | (simp; done) | (simp; omega)),(by first | assumption | omega | rfl | (intro _ hjj; omega) | (simp; done) | (simp; omega))⟩),(show (n - (1 : Int)).toNat < n.toNat from (by first | omega | (simp_all; omega))),?_⟩
    exact Sub.of [(11,72),(12,40)] (@cast (((((998 : Nat) = 998) ∧ ((0 : Nat) = 0) ∧ ((998 : Nat) ∈ ([11,12,13,998,999] : List Nat))) ∧ (((72 : Nat) = 72) ∧ ((List.length (o ++ ([(⟨v26,(1 : Int),(s.length : Int)⟩ : EventD)]))) = (List.length (o ++ ([(⟨v26,(1 : Int),(s.length : Int)⟩ : EventD)])))) ∧ ((11 : Nat) ∈ ([11,12,13,998,999] : List Nat))) ∧ (((40 : Nat) = 40) ∧ ((List.length (s ++ ([v26]))) = (List.length (s ++ ([v26])))) ∧ ((12 : Nat) ∈ ([11,12,13,998,999] : List Nat))) ∧ (((13 : Nat) = 13) ∧ (tk.length = tk.length) ∧ ((13 : Nat) ∈ ([11,12,13,998,999] : List Nat))) ∧ (Si v16) ∧ (Si (n - (1 : Int))) ∧ True) ∧ ((((47 : Nat) = 47) ∧ (Sd (.events (o ++ ([(⟨v26,(1 : Int),(s.length : Int)⟩ : EventD)])))) ∧ ((11 : Nat) ∈ ([11,12,13,998,999] : List Nat))) ∧ (((3 : Nat) = 3) ∧ (Sd (.ints (s ++ ([v26])))) ∧ ((12 : Nat) ∈ ([11,12,13,998,999] : List Nat))) ∧ (((3 : Nat) = 3) ∧ (Sd (.ints tk)) ∧ ((13 : Nat) ∈ ([11,12,13,998,999] : List Nat))) ∧ (((50 : Nat) = 50) ∧ ((Sd (.bytes l)) ∧ (Si q29) ∧ True) ∧ ((998 : Nat) ∈ ([11,12,13,998,999] : List Nat))) ∧ True) ∧ (true = true) ∧ (true = true)) _ (by kernel_rfl) ⟨⟨⟨rfl,rfl,(by decide)⟩,⟨rfl,rfl,(by decide)⟩,⟨rfl,rfl,(by decide)⟩,⟨rfl,rfl,(by decide)⟩,rfl,rfl,tt⟩,⟨⟨rfl,rfl,(by decide)⟩,⟨rfl,rfl,(by decide)⟩,⟨rfl,rfl,(by decide)⟩,⟨rfl,⟨rfl,rfl,tt⟩,(by decide)⟩,tt⟩,rfl,rfl⟩)
   ·intro n30
    refine Kk cok tab18 hnt [] [0,3,4,5,6,7,8,41] (⟨[(0,.ptr 998 0),(3,.own 11 o.length),(4,.own 12 s.length),(5,.own 13 tk.length),(6,.i v16),(7,.i n),(8,.ptr 8 0),(41,.b (decide (v29 = (1 : Int))))],[(8,⟨47,.fix [.i v26,.i (0 : Int),.i (0 : Int)]⟩),(11,⟨47,.row (.events o)⟩),(12,⟨3,.row (.ints s)⟩),(13,⟨3,.row (.ints tk)⟩),(998,⟨50,.fix [.sl (.bytes l),.i q29]⟩)],[29,8,26,11,12,13,998,999]⟩)
     ((True ∧ True ∧ True) ∧ True ∧ True)
     ⟨⟨tt,tt,tt⟩,tt,tt⟩ ?_
    refine W.ifP (v29 = (1 : Int)) (.b (decide (v29 = (1 : Int)))) (by kernel_rfl) rfl trivial ?_ ?_
    ·intro h41
     refine Kk cok tab18 hnt [] [0,3,4,5,6,7,8,9] (⟨[(0,.ptr 998 0),(3,.own 11 o.length),(4,.own 12 s.length),(5,.own 13 tk.length),(6,.i v16),(7,.i n),(8,.ptr 8 0),(9,.i (0 : Int))],[(8,⟨47,.fix [.i v26,.i (0 : Int),.i (0 : Int)]⟩),(11,⟨47,.row (.events o)⟩),(12,⟨3,.row (.ints s)⟩),(13,⟨3,.row (.ints tk)⟩),(998,⟨50,.fix [.sl (.bytes l),.i q29]⟩)],[29,8,26,11,12,13,998,999]⟩)
      (True ∧ True)
      ⟨tt,tt⟩ ?_
     refine W.block ?_
     refine W.loop (ι := Nat × (List Int) × Int × Int) (fun (x : Nat × (List Int) × Int × Int) => match x with | (k,tk3,kd1,ms1) => (⟨[(0,.ptr 998 0),(3,.own 11 o.length),(4,.own 12 s.length),(5,.own 13 tk3.length),(6,.i v16),(7,.i n),(8,.ptr 8 0),(9,.i ((k : Nat) : Int))],[(8,⟨47,.fix [.i v26,.i kd1,.i ms1]⟩),(11,⟨47,.row (.events o)⟩),(12,⟨3,.row (.ints s)⟩),(13,⟨3,.row (.ints tk3)⟩),(998,⟨50,.fix [.sl (.bytes l),.i q29]⟩)],[8,11,12,13,998,999]⟩ : St))
      (fun (x : Nat × (List Int) × Int × Int) => match x with | (k,tk3,kd1,ms1) => (k ≤ s.length) ∧ (tk3.length ≤ o.length))
      (fun (x : Nat × (List Int) × Int × Int) => match x with | (k,tk3,kd1,ms1) => (s.length - k : Nat)) (0,tk,(0 : Int),(0 : Int)) ?_ ?_ ?_
     ·exact (show (0 ≤ s.length) ∧ (tk.length ≤ o.length) from ⟨(by first | assumption | omega | rfl | (intro _ hjj; omega) | (simp; done) | (simp; omega)),(by first | assumption | omega | rfl | (intro _ hjj; omega) | (simp; done) | (simp; omega))⟩)
     ·exact Sub.of [] (@cast (((((998 : Nat) = 998) ∧ ((0 : Nat) = 0) ∧ ((998 : Nat) ∈ ([8,11,12,13,998,999] : List Nat))) ∧ (((11 : Nat) = 11) ∧ (o.length = o.length) ∧ ((11 : Nat) ∈ ([8,11,12,13,998,999] : List Nat))) ∧ (((12 : Nat) = 12) ∧ (s.length = s.length) ∧ ((12 : Nat) ∈ ([8,11,12,13,998,999] : List Nat))) ∧ (((13 : Nat) = 13) ∧ (tk.length = tk.length) ∧ ((13 : Nat) ∈ ([8,11,12,13,998,999] : List Nat))) ∧ (Si v16) ∧ (Si n) ∧ (((8 : Nat) = 8) ∧ ((0 : Nat) = 0) ∧ ((8 : Nat) ∈ ([8,11,12,13,998,999] : List Nat))) ∧ ((.int .i64 (0 : Int) : Value) = .int .i64 ((0 : Nat) : Int)) ∧ True) ∧ ((((47 : Nat) = 47) ∧ ((Si v26) ∧ (Si (0 : Int)) ∧ (Si (0 : Int)) ∧ True) ∧ ((8 : Nat) ∈ ([8,11,12,13,998,999] : List Nat))) ∧ (((47 : Nat) = 47) ∧ (Sd (.events o)) ∧ ((11 : Nat) ∈ ([8,11,12,13,998,999] : List Nat))) ∧ (((3 : Nat) = 3) ∧ (Sd (.ints s)) ∧ ((12 : Nat) ∈ ([8,11,12,13,998,999] : List Nat))) ∧ (((3 : Nat) = 3) ∧ (Sd (.ints tk)) ∧ ((13 : Nat) ∈ ([8,11,12,13,998,999] : List Nat))) ∧ (((50 : Nat) = 50) ∧ ((Sd (.bytes l)) ∧ (Si q29) ∧ True) ∧ ((998 : Nat) ∈ ([8,11,12,13,998,999] : List Nat))) ∧ True) ∧ (true = true) ∧ (true = true)) _ (by kernel_rfl) ⟨⟨⟨rfl,rfl,(by decide)⟩,⟨rfl,rfl,(by decide)⟩,⟨rfl,rfl,(by decide)⟩,⟨rfl,rfl,(by decide)⟩,rfl,rfl,⟨rfl,rfl,(by decide)⟩,(congrArg (Value.int .i64) (by first | rfl | omega | assumption | simp | simp_all)),tt⟩,⟨⟨rfl,⟨rfl,rfl,rfl,tt⟩,(by decide)⟩,⟨rfl,rfl,(by decide)⟩,⟨rfl,rfl,(by decide)⟩,⟨rfl,rfl,(by decide)⟩,⟨rfl,⟨rfl,rfl,tt⟩,(by decide)⟩,tt⟩,rfl,rfl⟩)
     ·rintro ⟨k,tk3,kd1,ms1⟩ hC0
      have hC : (k ≤ s.length) ∧ (tk3.length ≤ o.length) := hC0
      clear hC0
      obtain ⟨hk,ht3⟩ := hC
      refine W.to (⟨[(0,.ptr 998 0),(3,.own 11 o.length),(4,.own 12 s.length),(5,.own 13 tk3.length),(6,.i v16),(7,.i n),(8,.ptr 8 0),(9,.i ((k : Nat) : Int))],[(8,⟨47,.fix [.i v26,.i kd1,.i ms1]⟩),(11,⟨47,.row (.events o)⟩),(12,⟨3,.row (.ints s)⟩),(13,⟨3,.row (.ints tk3)⟩),(998,⟨50,.fix [.sl (.bytes l),.i q29]⟩)],[8,11,12,13,998,999]⟩) rfl ?_
      refine W.seq ?_
      refine Kk cok tab18 hnt [] [0,3,4,5,6,7,8,9,46] (⟨[(0,.ptr 998 0),(3,.own 11 o.length),(4,.own 12 s.length),(5,.own 13 tk3.length),(6,.i v16),(7,.i n),(8,.ptr 8 0),(9,.i ((k : Nat) : Int)),(46,.b (decide (((k : Nat) : Int) < (s.length : Int))))],[(8,⟨47,.fix [.i v26,.i kd1,.i ms1]⟩),(11,⟨47,.row (.events o)⟩),(12,⟨3,.row (.ints s)⟩),(13,⟨3,.row (.ints tk3)⟩),(998,⟨50,.fix [.sl (.bytes l),.i q29]⟩)],[8,11,12,13,998,999]⟩)
       (True ∧ True ∧ True ∧ (True ∧ True ∧ True) ∧ True)
       ⟨tt,tt,tt,⟨tt,tt,tt⟩,tt⟩ ?_
      refine W.ifP (((k : Nat) : Int) < (s.length : Int)) (.b (decide (((k : Nat) : Int) < (s.length : Int)))) (by kernel_rfl) rfl trivial ?_ ?_
      ·intro h46
       refine W.skip (thenQ_normal ?_)
       refine W.seq ?_
       refine W.block ?_
       refine W.KA cok tab18 hnt [] [0,3,4,5,6,7,8,9,61] (⟨[(0,.ptr 998 0),(3,.own 11 o.length),(4,.own 12 s.length),(5,.own 13 tk3.length),(6,.i v16),(7,.i n),(8,.ptr 8 0),(9,.i ((k : Nat) : Int)),(61,.b ((!(hasInt tk3 ((k : Nat) : Int))) && (decide ((s.getD k 0) ≠ v26))))],[(8,⟨47,.fix [.i v26,.i kd1,.i ms1]⟩),(11,⟨47,.row (.events o)⟩),(12,⟨3,.row (.ints s)⟩),(13,⟨3,.row (.ints tk3)⟩),(998,⟨50,.fix [.sl (.bytes l),.i q29]⟩)],[8,11,12,13,998,999]⟩)
        ((fun (Z1:Bool)=>(True ∧ (True ∧ ((True ∧ (((True ∧ (tk3.length = tk3.length)) ∧ (True ∧ True)) ∧ True)) ∧ (True ∧ (True ∧ ((Z1 = true → True) ∧ ((Z1 = true → True) ∧ ((Z1 = true → (((Z1 = true) ∧ True) ∧ (((Z1 = true) ∧ True) ∧ ((0 ≤ ((k : Nat) : Int)) ∧ (((k : Nat) : Int) < (s.length : Int)))))) ∧ ((Z1 = true → (((Z1 = true) ∧ True) ∧ (k < s.length))) ∧ ((Z1 = true → True) ∧ ((Z1 = true → ((Z1 = true) ∧ True)) ∧ ((Z1 = true → (((Z1 = true) ∧ True) ∧ (((Z1 = true) ∧ True) ∧ True))) ∧ ((True ∧ ((Z1 = true → (Z1 = true) ∧ True) ∧ (Z1 = false → True))) ∧ True)))))))))))))) (!(hasInt tk3 ((k : Nat) : Int)))) (by kernel_rfl) (by kernel_rfl)
        ⟨tt,tt,⟨tt,⟨⟨tt,rfl⟩,tt,tt⟩,tt⟩,tt,tt,(fun _ => trivial),(fun _ => trivial),(fun hG => ⟨⟨hG,tt⟩,⟨hG,tt⟩,(by omega),(by omega)⟩),(fun hG => ⟨⟨hG,tt⟩,(by omega)⟩),(fun _ => trivial),(fun hG => ⟨hG,tt⟩),(fun hG => ⟨⟨hG,tt⟩,⟨hG,tt⟩,tt⟩),⟨tt,(fun hp => ⟨hp,tt⟩),(fun _ => trivial)⟩,tt⟩ ?_
       refine W.if' ((!(hasInt tk3 ((k : Nat) : Int))) && (decide ((s.getD k 0) ≠ v26))) (.b ((!(hasInt tk3 ((k : Nat) : Int))) && (decide ((s.getD k 0) ≠ v26)))) (by kernel_rfl) rfl trivial ?_ ?_
       ·intro h61
        have h61_0 : (s.getD k 0) ≠ v26 := of_decide_eq_true (and_r h61)
        refine Kk cok tab18 hnt [] [0,3,4,5,6,7,8,9] (⟨[(0,.ptr 998 0),(3,.own 11 o.length),(4,.own 12 s.length),(5,.own 13 tk3.length),(6,.i v16),(7,.i n),(8,.ptr 8 0),(9,.i ((k : Nat) : Int))],[(8,⟨47,.fix [.i v26,.i (2 : Int),.i ms1]⟩),(11,⟨47,.row (.events o)⟩),(12,⟨3,.row (.ints s)⟩),(13,⟨3,.row (.ints tk3)⟩),(998,⟨50,.fix [.sl (.bytes l),.i q29]⟩)],[8,11,12,13,998,999]⟩)
         (True ∧ (True ∧ True) ∧ True)
         ⟨tt,⟨tt,tt⟩,tt⟩ ?_
        refine Kk cok tab18 hnt [] [0,3,4,5,6,7,8,9] (⟨[(0,.ptr 998 0),(3,.own 11 o.length),(4,.own 12 s.length),(5,.own 13 tk3.length),(6,.i v16),(7,.i n),(8,.ptr 8 0),(9,.i ((k : Nat) : Int))],[(8,⟨47,.fix [.i v26,.i (2 : Int),.i ((k : Nat) : Int)]⟩),(11,⟨47,.row (.events o)⟩),(12,⟨3,.row (.ints s)⟩),(13,⟨3,.row (.ints tk3)⟩),(998,⟨50,.fix [.sl (.bytes l),.i q29]⟩)],[8,11,12,13,998,999]⟩)
         (True ∧ True ∧ (True ∧ True) ∧ True)
         ⟨tt,tt,⟨tt,tt⟩,tt⟩ ?_
        refine Kk cok tab18 hnt [68] [0,3,4,5,6,7,8] (⟨[(0,.ptr 998 0),(3,.own 11 o.length),(4,.own 12 s.length),(5,.own 68 (List.length (tk3 ++ ([((k : Nat) : Int)])))),(6,.i v16),(7,.i n),(8,.ptr 8 0)],[(8,⟨47,.fix [.i v26,.i (2 : Int),.i ((k : Nat) : Int)]⟩),(11,⟨47,.row (.events o)⟩),(12,⟨3,.row (.ints s)⟩),(68,⟨3,.row (.ints (tk3 ++ ([((k : Nat) : Int)])))⟩),(998,⟨50,.fix [.sl (.bytes l),.i q29]⟩)],[68,67,8,11,12,13,998,999]⟩)
         (True ∧ True ∧ (True ∧ True) ∧ ((True ∧ (tk3.length = tk3.length)) ∧ True ∧ ((tk3.length + (List.length ([((k : Nat) : Int)]))) * 8 ≤ 140737488355328)) ∧ True ∧ True)
         ⟨tt,tt,⟨tt,tt⟩,⟨⟨tt,rfl⟩,tt,(by (first | omega | (simp only [List.length_set]; done) | (simp only [List.length_append,List.length_cons,List.length_nil,List.length_take,List.length_drop,List.length_set,List.length_replicate,List.length_map] at *; omega) | assumption))⟩,tt,tt⟩ ?_
        refine W.exit (blockQ_miss rfl (thenQ_exit (thenQ_exit (blockQ_hit ?_))))
        refine blockQ_normal (thenQ_normal ?_)
        refine Lk cok tab18 hnt [72] (⟨[(0,.ptr 998 0),(3,.own 72 (List.length (o ++ ([(⟨v26,(2 : Int),((k : Nat) : Int)⟩ : EventD)])))),(4,.own 12 s.length),(5,.own 68 (List.length (tk3 ++ ([((k : Nat) : Int)])))),(6,.i v16),(7,.i n),(8,.ptr 8 0),(69,.own 11 o.length),(70,.agg [.i v26,.i (2 : Int),.i ((k : Nat) : Int)]),(71,.sl (.events ([(⟨v26,(2 : Int),((k : Nat) : Int)⟩ : EventD)]))),(72,.own 72 (List.length (o ++ ([(⟨v26,(2 : Int),((k : Nat) : Int)⟩ : EventD)]))))],[(8,⟨47,.fix [.i v26,.i (2 : Int),.i ((k : Nat) : Int)]⟩),(12,⟨3,.row (.ints s)⟩),(68,⟨3,.row (.ints (tk3 ++ ([((k : Nat) : Int)])))⟩),(72,⟨47,.row (.events (o ++ ([(⟨v26,(2 : Int),((k : Nat) : Int)⟩ : EventD)])))⟩),(998,⟨50,.fix [.sl (.bytes l),.i q29]⟩)],[72,71,68,67,8,11,12,13,998,999]⟩)
         (True ∧ True ∧ (True ∧ True) ∧ ((True ∧ (o.length = o.length)) ∧ True ∧ ((o.length + (List.length ([(⟨v26,(2 : Int),((k : Nat) : Int)⟩ : EventD)]))) * 24 ≤ 140737488355328)) ∧ True ∧ True)
         ⟨tt,tt,⟨tt,tt⟩,⟨⟨tt,rfl⟩,tt,(by (first | omega | (simp only [List.length_set]; done) | (simp only [List.length_append,List.length_cons,List.length_nil,List.length_take,List.length_drop,List.length_set,List.length_replicate,List.length_map] at *; omega) | assumption))⟩,tt,tt⟩ ?_
        refine blockQ_normal (thenQ_normal ?_)
        refine Lk cok tab18 hnt [] (⟨[(0,.ptr 998 0),(3,.own 72 (List.length (o ++ ([(⟨v26,(2 : Int),((k : Nat) : Int)⟩ : EventD)])))),(4,.own 12 s.length),(5,.own 68 (List.length (tk3 ++ ([((k : Nat) : Int)])))),(6,.i v16),(7,.i (n - (1 : Int))),(8,.ptr 8 0),(22,.i n),(23,.i (n - (1 : Int))),(69,.own 11 o.length),(70,.agg [.i v26,.i (2 : Int),.i ((k : Nat) : Int)]),(71,.sl (.events ([(⟨v26,(2 : Int),((k : Nat) : Int)⟩ : EventD)]))),(72,.own 72 (List.length (o ++ ([(⟨v26,(2 : Int),((k : Nat) : Int)⟩ : EventD)]))))],[(8,⟨47,.fix [.i v26,.i (2 : Int),.i ((k : Nat) : Int)]⟩),(12,⟨3,.row (.ints s)⟩),(68,⟨3,.row (.ints (tk3 ++ ([((k : Nat) : Int)])))⟩),(72,⟨47,.row (.events (o ++ ([(⟨v26,(2 : Int),((k : Nat) : Int)⟩ : EventD)])))⟩),(998,⟨50,.fix [.sl (.bytes l),.i q29]⟩)],[72,71,68,67,8,11,12,13,998,999]⟩)
         (True ∧ (True ∧ True ∧ (Fits .i64 (n - (1 : Int)))) ∧ True ∧ True)
         ⟨tt,⟨tt,tt,(by exact fits_i64 (by omega) (by omega))⟩,tt,tt⟩ ?_
        refine thenQ_normal ?_
        refine ⟨((o ++ ([(⟨v26,(2 : Int),((k : Nat) : Int)⟩ : EventD)])),s,(tk3 ++ ([((k : Nat) : Int)])),(n - (1 : Int)),q29),(show (0 ≤ (n - (1 : Int)) ∧ (n - (1 : Int)) + (o ++ ([(⟨v26,(2 : Int),((k : Nat) : Int)⟩ : EventD)])).length ≤ 7) ∧ (s.length ≤ (o ++ ([(⟨v26,(2 : Int),((k : Nat) : Int)⟩ : EventD)])).length) ∧ ((tk3 ++ ([((k : Nat) : Int)])).length ≤ (o ++ ([(⟨v26,(2 : Int),((k : Nat) : Int)⟩ : EventD)])).length) ∧ (p + 2 ≤ q29 ∧ q29 ≤ p + 2 + 2 * (o ++ ([(⟨v26,(2 : Int),((k : Nat) : Int)⟩ : EventD)])).length) from ⟨(by first | assumption | omega | rfl | (intro _ hjj; omega) | (simp; done) | (simp; omega)),(by first | assumption | omega | rfl | (intro _ hjj; omega) | (simp; done) | (simp; omega)),(by first | assumption | omega | rfl | (intro _ hjj; omega) | (simp; done) | (simp; omega)),(by first | assumption | omega | rfl | (intro _ hjj; omega) | (simp; done) | (simp; omega))⟩),(show (n - (1 : Int)).toNat < n.toNat from (by first | omega | (simp_all; omega))),?_⟩
        exact Sub.of [(11,72),(13,68)] (@cast (((((998 : Nat) = 998) ∧ ((0 : Nat) = 0) ∧ ((998 : Nat) ∈ ([11,12,13,998,999] : List Nat))) ∧ (((72 : Nat) = 72) ∧ ((List.length (o ++ ([(⟨v26,(2 : Int),((k : Nat) : Int)⟩ : EventD)]))) = (List.length (o ++ ([(⟨v26,(2 : Int),((k : Nat) : Int)⟩ : EventD)])))) ∧ ((11 : Nat) ∈ ([11,12,13,998,999] : List Nat))) ∧ (((12 : Nat) = 12) ∧ (s.length = s.length) ∧ ((12 : Nat) ∈ ([11,12,13,998,999] : List Nat))) ∧ (((68 : Nat) = 68) ∧ ((List.length (tk3 ++ ([((k : Nat) : Int)]))) = (List.length (tk3 ++ ([((k : Nat) : Int)])))) ∧ ((13 : Nat) ∈ ([11,12,13,998,999] : List Nat))) ∧ (Si v16) ∧ (Si (n - (1 : Int))) ∧ True) ∧ ((((47 : Nat) = 47) ∧ (Sd (.events (o ++ ([(⟨v26,(2 : Int),((k : Nat) : Int)⟩ : EventD)])))) ∧ ((11 : Nat) ∈ ([11,12,13,998,999] : List Nat))) ∧ (((3 : Nat) = 3) ∧ (Sd (.ints s)) ∧ ((12 : Nat) ∈ ([11,12,13,998,999] : List Nat))) ∧ (((3 : Nat) = 3) ∧ (Sd (.ints (tk3 ++ ([((k : Nat) : Int)])))) ∧ ((13 : Nat) ∈ ([11,12,13,998,999] : List Nat))) ∧ (((50 : Nat) = 50) ∧ ((Sd (.bytes l)) ∧ (Si q29) ∧ True) ∧ ((998 : Nat) ∈ ([11,12,13,998,999] : List Nat))) ∧ True) ∧ (true = true) ∧ (true = true)) _ (by kernel_rfl) ⟨⟨⟨rfl,rfl,(by decide)⟩,⟨rfl,rfl,(by decide)⟩,⟨rfl,rfl,(by decide)⟩,⟨rfl,rfl,(by decide)⟩,rfl,rfl,tt⟩,⟨⟨rfl,rfl,(by decide)⟩,⟨rfl,rfl,(by decide)⟩,⟨rfl,rfl,(by decide)⟩,⟨rfl,⟨rfl,rfl,tt⟩,(by decide)⟩,tt⟩,rfl,rfl⟩)
       ·intro n61
        refine W.skip (blockQ_normal (thenQ_normal ?_))
        refine Lk cok tab18 hnt [] (⟨[(0,.ptr 998 0),(3,.own 11 o.length),(4,.own 12 s.length),(5,.own 13 tk3.length),(6,.i v16),(7,.i n),(8,.ptr 8 0),(9,.i (((k + 1) : Nat) : Int)),(47,.i ((k : Nat) : Int)),(48,.i (((k + 1) : Nat) : Int)),(61,.b ((!(hasInt tk3 ((k : Nat) : Int))) && (decide ((s.getD k 0) ≠ v26))))],[(8,⟨47,.fix [.i v26,.i kd1,.i ms1]⟩),(11,⟨47,.row (.events o)⟩),(12,⟨3,.row (.ints s)⟩),(13,⟨3,.row (.ints tk3)⟩),(998,⟨50,.fix [.sl (.bytes l),.i q29]⟩)],[8,11,12,13,998,999]⟩)
         (True ∧ (True ∧ True ∧ (Fits .i64 (((k + 1) : Nat) : Int))) ∧ True ∧ True)
         ⟨tt,⟨tt,tt,(by exact fits_i64 (by omega) (by omega))⟩,tt,tt⟩ ?_
        refine thenQ_normal ?_
        refine ⟨((k + 1),tk3,kd1,ms1),(show ((k + 1) ≤ s.length) ∧ (tk3.length ≤ o.length) from ⟨(by first | assumption | omega | rfl | (intro _ hjj; omega) | (simp; done) | (simp; omega)),(by first | assumption | omega | rfl | (intro _ hjj; omega) | (simp; done) | (simp; omega))⟩),(show s.length - (k + 1) < s.length - k from (by first | omega | (simp_all; omega))),?_⟩
        exact Sub.of [] (@cast (((((998 : Nat) = 998) ∧ ((0 : Nat) = 0) ∧ ((998 : Nat) ∈ ([8,11,12,13,998,999] : List Nat))) ∧ (((11 : Nat) = 11) ∧ (o.length = o.length) ∧ ((11 : Nat) ∈ ([8,11,12,13,998,999] : List Nat))) ∧ (((12 : Nat) = 12) ∧ (s.length = s.length) ∧ ((12 : Nat) ∈ ([8,11,12,13,998,999] : List Nat))) ∧ (((13 : Nat) = 13) ∧ (tk3.length = tk3.length) ∧ ((13 : Nat) ∈ ([8,11,12,13,998,999] : List Nat))) ∧ (Si v16) ∧ (Si n) ∧ (((8 : Nat) = 8) ∧ ((0 : Nat) = 0) ∧ ((8 : Nat) ∈ ([8,11,12,13,998,999] : List Nat))) ∧ (Si (((k + 1) : Nat) : Int)) ∧ True) ∧ ((((47 : Nat) = 47) ∧ ((Si v26) ∧ (Si kd1) ∧ (Si ms1) ∧ True) ∧ ((8 : Nat) ∈ ([8,11,12,13,998,999] : List Nat))) ∧ (((47 : Nat) = 47) ∧ (Sd (.events o)) ∧ ((11 : Nat) ∈ ([8,11,12,13,998,999] : List Nat))) ∧ (((3 : Nat) = 3) ∧ (Sd (.ints s)) ∧ ((12 : Nat) ∈ ([8,11,12,13,998,999] : List Nat))) ∧ (((3 : Nat) = 3) ∧ (Sd (.ints tk3)) ∧ ((13 : Nat) ∈ ([8,11,12,13,998,999] : List Nat))) ∧ (((50 : Nat) = 50) ∧ ((Sd (.bytes l)) ∧ (Si q29) ∧ True) ∧ ((998 : Nat) ∈ ([8,11,12,13,998,999] : List Nat))) ∧ True) ∧ (true = true) ∧ (true = true)) _ (by kernel_rfl) ⟨⟨⟨rfl,rfl,(by decide)⟩,⟨rfl,rfl,(by decide)⟩,⟨rfl,rfl,(by decide)⟩,⟨rfl,rfl,(by decide)⟩,rfl,rfl,⟨rfl,rfl,(by decide)⟩,rfl,tt⟩,⟨⟨rfl,⟨rfl,rfl,rfl,tt⟩,(by decide)⟩,⟨rfl,rfl,(by decide)⟩,⟨rfl,rfl,(by decide)⟩,⟨rfl,rfl,(by decide)⟩,⟨rfl,⟨rfl,rfl,tt⟩,(by decide)⟩,tt⟩,rfl,rfl⟩)
      ·intro n46
       refine W.exit (thenQ_exit (thenQ_exit (blockQ_hit ?_)))
       refine blockQ_normal (thenQ_normal ?_)
       refine Lk cok tab18 hnt [72] (⟨[(0,.ptr 998 0),(3,.own 72 (List.length (o ++ ([(⟨v26,kd1,ms1⟩ : EventD)])))),(4,.own 12 s.length),(5,.own 13 tk3.length),(6,.i v16),(7,.i n),(8,.ptr 8 0),(9,.i ((k : Nat) : Int)),(46,.b (decide (((k : Nat) : Int) < (s.length : Int)))),(69,.own 11 o.length),(70,.agg [.i v26,.i kd1,.i ms1]),(71,.sl (.events ([(⟨v26,kd1,ms1⟩ : EventD)]))),(72,.own 72 (List.length (o ++ ([(⟨v26,kd1,ms1⟩ : EventD)]))))],[(8,⟨47,.fix [.i v26,.i kd1,.i ms1]⟩),(12,⟨3,.row (.ints s)⟩),(13,⟨3,.row (.ints tk3)⟩),(72,⟨47,.row (.events (o ++ ([(⟨v26,kd1,ms1⟩ : EventD)])))⟩),(998,⟨50,.fix [.sl (.bytes l),.i q29]⟩)],[72,71,8,11,12,13,998,999]⟩)
        (True ∧ True ∧ (True ∧ True) ∧ ((True ∧ (o.length = o.length)) ∧ True ∧ ((o.length + (List.length ([(⟨v26,kd1,ms1⟩ : EventD)]))) * 24 ≤ 140737488355328)) ∧ True ∧ True)
        ⟨tt,tt,⟨tt,tt⟩,⟨⟨tt,rfl⟩,tt,(by (first | omega | (simp only [List.length_set]; done) | (simp only [List.length_append,List.length_cons,List.length_nil,List.length_take,List.length_drop,List.length_set,List.length_replicate,List.length_map] at *; omega) | assumption))⟩,tt,tt⟩ ?_
       refine blockQ_normal (thenQ_normal ?_)
       refine Lk cok tab18 hnt [] (⟨[(0,.ptr 998 0),(3,.own 72 (List.length (o ++ ([(⟨v26,kd1,ms1⟩ : EventD)])))),(4,.own 12 s.length),(5,.own 13 tk3.length),(6,.i v16),(7,.i (n - (1 : Int))),(8,.ptr 8 0),(9,.i ((k : Nat) : Int)),(22,.i n),(23,.i (n - (1 : Int))),(46,.b (decide (((k : Nat) : Int) < (s.length : Int)))),(69,.own 11 o.length),(70,.agg [.i v26,.i kd1,.i ms1]),(71,.sl (.events ([(⟨v26,kd1,ms1⟩ : EventD)]))),(72,.own 72 (List.length (o ++ ([(⟨v26,kd1,ms1⟩ : EventD)]))))],[(8,⟨47,.fix [.i v26,.i kd1,.i ms1]⟩),(12,⟨3,.row (.ints s)⟩),(13,⟨3,.row (.ints tk3)⟩),(72,⟨47,.row (.events (o ++ ([(⟨v26,kd1,ms1⟩ : EventD)])))⟩),(998,⟨50,.fix [.sl (.bytes l),.i q29]⟩)],[72,71,8,11,12,13,998,999]⟩)
        (True ∧ (True ∧ True ∧ (Fits .i64 (n - (1 : Int)))) ∧ True ∧ True)
        ⟨tt,⟨tt,tt,(by exact fits_i64 (by omega) (by omega))⟩,tt,tt⟩ ?_
       refine thenQ_normal ?_
       refine ⟨((o ++ ([(⟨v26,kd1,ms1⟩ : EventD)])),s,tk3,(n - (1 : Int)),q29),(show (0 ≤ (n - (1 : Int)) ∧ (n - (1 : Int)) + (o ++ ([(⟨v26,kd1,ms1⟩ : EventD)])).length ≤ 7) ∧ (s.length ≤ (o ++ ([(⟨v26,kd1,ms1⟩ : EventD)])).length) ∧ (tk3.length ≤ (o ++ ([(⟨v26,kd1,ms1⟩ : EventD)])).length) ∧ (p + 2 ≤ q29 ∧ q29 ≤ p + 2 + 2 * (o ++ ([(⟨v26,kd1,ms1⟩ : EventD)])).length) from ⟨(by first | assumption | omega | rfl | (intro _ hjj; omega) | (simp; done) | (simp; omega)),(by first | assumption | omega | rfl | (intro _ hjj; omega) | (simp; done) | (simp; omega)),(by first | assumption | omega | rfl | (intro _ hjj; omega) | (simp; done) | (simp; omega)),(by first | assumption | omega | rfl | (intro _ hjj; omega) | (simp; done) | (simp; omega))⟩),(show (n - (1 : Int)).toNat < n.toNat from (by first | omega | (simp_all; omega))),?_⟩
       exact Sub.of [(11,72)] (@cast (((((998 : Nat) = 998) ∧ ((0 : Nat) = 0) ∧ ((998 : Nat) ∈ ([11,12,13,998,999] : List Nat))) ∧ (((72 : Nat) = 72) ∧ ((List.length (o ++ ([(⟨v26,kd1,ms1⟩ : EventD)]))) = (List.length (o ++ ([(⟨v26,kd1,ms1⟩ : EventD)])))) ∧ ((11 : Nat) ∈ ([11,12,13,998,999] : List Nat))) ∧ (((12 : Nat) = 12) ∧ (s.length = s.length) ∧ ((12 : Nat) ∈ ([11,12,13,998,999] : List Nat))) ∧ (((13 : Nat) = 13) ∧ (tk3.length = tk3.length) ∧ ((13 : Nat) ∈ ([11,12,13,998,999] : List Nat))) ∧ (Si v16) ∧ (Si (n - (1 : Int))) ∧ True) ∧ ((((47 : Nat) = 47) ∧ (Sd (.events (o ++ ([(⟨v26,kd1,ms1⟩ : EventD)])))) ∧ ((11 : Nat) ∈ ([11,12,13,998,999] : List Nat))) ∧ (((3 : Nat) = 3) ∧ (Sd (.ints s)) ∧ ((12 : Nat) ∈ ([11,12,13,998,999] : List Nat))) ∧ (((3 : Nat) = 3) ∧ (Sd (.ints tk3)) ∧ ((13 : Nat) ∈ ([11,12,13,998,999] : List Nat))) ∧ (((50 : Nat) = 50) ∧ ((Sd (.bytes l)) ∧ (Si q29) ∧ True) ∧ ((998 : Nat) ∈ ([11,12,13,998,999] : List Nat))) ∧ True) ∧ (true = true) ∧ (true = true)) _ (by kernel_rfl) ⟨⟨⟨rfl,rfl,(by decide)⟩,⟨rfl,rfl,(by decide)⟩,⟨rfl,rfl,(by decide)⟩,⟨rfl,rfl,(by decide)⟩,rfl,rfl,tt⟩,⟨⟨rfl,rfl,(by decide)⟩,⟨rfl,rfl,(by decide)⟩,⟨rfl,rfl,(by decide)⟩,⟨rfl,⟨rfl,rfl,tt⟩,(by decide)⟩,tt⟩,rfl,rfl⟩)
    ·intro n41
     refine W.skip (blockQ_normal (thenQ_normal ?_))
     refine Lk cok tab18 hnt [72] (⟨[(0,.ptr 998 0),(3,.own 72 (List.length (o ++ ([(⟨v26,(0 : Int),(0 : Int)⟩ : EventD)])))),(4,.own 12 s.length),(5,.own 13 tk.length),(6,.i v16),(7,.i n),(8,.ptr 8 0),(41,.b (decide (v29 = (1 : Int)))),(69,.own 11 o.length),(70,.agg [.i v26,.i (0 : Int),.i (0 : Int)]),(71,.sl (.events ([(⟨v26,(0 : Int),(0 : Int)⟩ : EventD)]))),(72,.own 72 (List.length (o ++ ([(⟨v26,(0 : Int),(0 : Int)⟩ : EventD)]))))],[(8,⟨47,.fix [.i v26,.i (0 : Int),.i (0 : Int)]⟩),(12,⟨3,.row (.ints s)⟩),(13,⟨3,.row (.ints tk)⟩),(72,⟨47,.row (.events (o ++ ([(⟨v26,(0 : Int),(0 : Int)⟩ : EventD)])))⟩),(998,⟨50,.fix [.sl (.bytes l),.i q29]⟩)],[72,71,29,8,26,11,12,13,998,999]⟩)
      (True ∧ True ∧ (True ∧ True) ∧ ((True ∧ (o.length = o.length)) ∧ True ∧ ((o.length + (List.length ([(⟨v26,(0 : Int),(0 : Int)⟩ : EventD)]))) * 24 ≤ 140737488355328)) ∧ True ∧ True)
      ⟨tt,tt,⟨tt,tt⟩,⟨⟨tt,rfl⟩,tt,(by (first | omega | (simp only [List.length_set]; done) | (simp only [List.length_append,List.length_cons,List.length_nil,List.length_take,List.length_drop,List.length_set,List.length_replicate,List.length_map] at *; omega) | assumption))⟩,tt,tt⟩ ?_
     refine blockQ_normal (thenQ_normal ?_)
     refine Lk cok tab18 hnt [] (⟨[(0,.ptr 998 0),(3,.own 72 (List.length (o ++ ([(⟨v26,(0 : Int),(0 : Int)⟩ : EventD)])))),(4,.own 12 s.length),(5,.own 13 tk.length),(6,.i v16),(7,.i (n - (1 : Int))),(8,.ptr 8 0),(22,.i n),(23,.i (n - (1 : Int))),(41,.b (decide (v29 = (1 : Int)))),(69,.own 11 o.length),(70,.agg [.i v26,.i (0 : Int),.i (0 : Int)]),(71,.sl (.events ([(⟨v26,(0 : Int),(0 : Int)⟩ : EventD)]))),(72,.own 72 (List.length (o ++ ([(⟨v26,(0 : Int),(0 : Int)⟩ : EventD)]))))],[(8,⟨47,.fix [.i v26,.i (0 : Int),.i (0 : Int)]⟩),(12,⟨3,.row (.ints s)⟩),(13,⟨3,.row (.ints tk)⟩),(72,⟨47,.row (.events (o ++ ([(⟨v26,(0 : Int),(0 : Int)⟩ : EventD)])))⟩),(998,⟨50,.fix [.sl (.bytes l),.i q29]⟩)],[72,71,29,8,26,11,12,13,998,999]⟩)
      (True ∧ (True ∧ True ∧ (Fits .i64 (n - (1 : Int)))) ∧ True ∧ True)
      ⟨tt,⟨tt,tt,(by exact fits_i64 (by omega) (by omega))⟩,tt,tt⟩ ?_
     refine thenQ_normal ?_
     refine ⟨((o ++ ([(⟨v26,(0 : Int),(0 : Int)⟩ : EventD)])),s,tk,(n - (1 : Int)),q29),(show (0 ≤ (n - (1 : Int)) ∧ (n - (1 : Int)) + (o ++ ([(⟨v26,(0 : Int),(0 : Int)⟩ : EventD)])).length ≤ 7) ∧ (s.length ≤ (o ++ ([(⟨v26,(0 : Int),(0 : Int)⟩ : EventD)])).length) ∧ (tk.length ≤ (o ++ ([(⟨v26,(0 : Int),(0 : Int)⟩ : EventD)])).length) ∧ (p + 2 ≤ q29 ∧ q29 ≤ p + 2 + 2 * (o ++ ([(⟨v26,(0 : Int),(0 : Int)⟩ : EventD)])).length) from ⟨(by first | assumption | omega | rfl | (intro _ hjj; omega) | (simp; done) | (simp; omega)),(by first | assumption | omega | rfl | (intro _ hjj; omega) | (simp; done) | (simp; omega)),(by first | assumption | omega | rfl | (intro _ hjj; omega) | (simp; done) | (simp; omega)),(by first | assumption | omega | rfl | (intro _ hjj; omega) | (simp; done) | (simp; omega))⟩),(show (n - (1 : Int)).toNat < n.toNat from (by first | omega | (simp_all; omega))),?_⟩
     exact Sub.of [(11,72)] (@cast (((((998 : Nat) = 998) ∧ ((0 : Nat) = 0) ∧ ((998 : Nat) ∈ ([11,12,13,998,999] : List Nat))) ∧ (((72 : Nat) = 72) ∧ ((List.length (o ++ ([(⟨v26,(0 : Int),(0 : Int)⟩ : EventD)]))) = (List.length (o ++ ([(⟨v26,(0 : Int),(0 : Int)⟩ : EventD)])))) ∧ ((11 : Nat) ∈ ([11,12,13,998,999] : List Nat))) ∧ (((12 : Nat) = 12) ∧ (s.length = s.length) ∧ ((12 : Nat) ∈ ([11,12,13,998,999] : List Nat))) ∧ (((13 : Nat) = 13) ∧ (tk.length = tk.length) ∧ ((13 : Nat) ∈ ([11,12,13,998,999] : List Nat))) ∧ (Si v16) ∧ (Si (n - (1 : Int))) ∧ True) ∧ ((((47 : Nat) = 47) ∧ (Sd (.events (o ++ ([(⟨v26,(0 : Int),(0 : Int)⟩ : EventD)])))) ∧ ((11 : Nat) ∈ ([11,12,13,998,999] : List Nat))) ∧ (((3 : Nat) = 3) ∧ (Sd (.ints s)) ∧ ((12 : Nat) ∈ ([11,12,13,998,999] : List Nat))) ∧ (((3 : Nat) = 3) ∧ (Sd (.ints tk)) ∧ ((13 : Nat) ∈ ([11,12,13,998,999] : List Nat))) ∧ (((50 : Nat) = 50) ∧ ((Sd (.bytes l)) ∧ (Si q29) ∧ True) ∧ ((998 : Nat) ∈ ([11,12,13,998,999] : List Nat))) ∧ True) ∧ (true = true) ∧ (true = true)) _ (by kernel_rfl) ⟨⟨⟨rfl,rfl,(by decide)⟩,⟨rfl,rfl,(by decide)⟩,⟨rfl,rfl,(by decide)⟩,⟨rfl,rfl,(by decide)⟩,rfl,rfl,tt⟩,⟨⟨rfl,rfl,(by decide)⟩,⟨rfl,rfl,(by decide)⟩,⟨rfl,rfl,(by decide)⟩,⟨rfl,⟨rfl,rfl,tt⟩,(by decide)⟩,tt⟩,rfl,rfl⟩)
  ·intro n21
   refine W.exit (thenQ_exit (thenQ_exit (blockQ_hit ?_)))
   refine thenQ_normal ?_
   refine W.seq ?_
   refine W.seq (W.wi ?_)
   refine WI.runT cok tab18 hnt [] 5 5 ((fun (Z1:Bool)=>(⟨[(0,.ptr 998 0),(3,.own 11 o.length),(4,.own 12 s.length),(5,.own 13 tk.length),(6,.i v16),(7,.i n),(21,.b (decide ((0 : Int) < n))),(73,.own 11 o.length),(74,.i (o.length : Int)),(75,.b Z1),(76,.b Z1),(77,.g Z1 (.ptr 998 0))],[(11,⟨47,.row (.events o)⟩),(12,⟨3,.row (.ints s)⟩),(13,⟨3,.row (.ints tk)⟩),(998,⟨50,.fix [.sl (.bytes l),.i p1]⟩)],[11,12,13,998,999]⟩:St)) (decide ((0 : Int) < (o.length : Int))))
    (True ∧ True ∧ (True ∧ True ∧ True) ∧ True ∧ ((decide ((0 : Int) < (o.length : Int))) = true → True) ∧ True) (by kernel_rfl) rfl
    ⟨tt,tt,⟨tt,tt,tt⟩,tt,(fun _ => trivial),tt⟩ ?_
   rcases Bool.eq_false_or_eq_true (decide ((0 : Int) < (o.length : Int))) with hT78 | hT78
   ·skip
    have hT78_0 : (0 : Int) < (o.length : Int) := of_decide_eq_true hT78
    refine WI.to (⟨[(0,.ptr 998 0),(3,.own 11 o.length),(4,.own 12 s.length),(5,.own 13 tk.length),(6,.i v16),(7,.i n),(21,.b (decide ((0 : Int) < n))),(73,.own 11 o.length),(74,.i (o.length : Int)),(75,.b true),(76,.b true),(77,.g true (.ptr 998 0))],[(11,⟨47,.row (.events o)⟩),(12,⟨3,.row (.ints s)⟩),(13,⟨3,.row (.ints tk)⟩),(998,⟨50,.fix [.sl (.bytes l),.i p1]⟩)],[11,12,13,998,999]⟩) 5 (congrArg (fun z => (⟨[(0,.ptr 998 0),(3,.own 11 o.length),(4,.own 12 s.length),(5,.own 13 tk.length),(6,.i v16),(7,.i n),(21,.b (decide ((0 : Int) < n))),(73,.own 11 o.length),(74,.i (o.length : Int)),(75,.b z),(76,.b z),(77,.g z (.ptr 998 0))],[(11,⟨47,.row (.events o)⟩),(12,⟨3,.row (.ints s)⟩),(13,⟨3,.row (.ints tk)⟩),(998,⟨50,.fix [.sl (.bytes l),.i p1]⟩)],[11,12,13,998,999]⟩ : St)) hT78) rfl ?_
    refine WI.call [.g true (.ptr 998 0),.i (16 : Int)] [.sl (.bytes l),.i p1] [.i (16 : Int)] [.i (16 : Int)] (some (50,998)) ((true = true) ∧ True) (True ∧ True) none rok21 ent21 hnt rfl rfl (wanted_if (t := 76) (gx := .b true) rfl rfl (by kernel_rfl) (by kernel_rfl)) (by kernel_rfl) (by kernel_rfl) (by kernel_rfl) ⟨⟨rfl,tt⟩,tt,tt⟩
     (@cast (0 ≤ p1 ∧ p1 ≤ 1000000) _ (by kernel_rfl) (by omega)) (Or.inl rfl) rfl ?_
    rintro r bl fx2 hR
    obtain ⟨⟨v78,q78⟩,hq78,rfl,rfl,rfl⟩ := (@cast _ (∃ x : Int × Int,((0 ≤ x.1 ∧ x.1 < max (16 : Int) 1) ∧ (x.2 = p1 + 1)) ∧ r = (.i x.1) ∧ bl = ([]) ∧ fx2 = ([.sl (.bytes l),.i x.2])) (by kernel_rfl) hR)
    clear hR
    replace hq78 : (0 ≤ v78 ∧ v78 < max (16 : Int) 1) ∧ (q78 = p1 + 1) := hq78
    obtain ⟨hv78,hq178⟩ := hq78
    refine ⟨by kernel_rfl,WI.to (⟨[(0,.ptr 998 0),(3,.own 11 o.length),(4,.own 12 s.length),(5,.own 13 tk.length),(6,.i v16),(7,.i n),(21,.b (decide ((0 : Int) < n))),(73,.own 11 o.length),(74,.i (o.length : Int)),(75,.b true),(76,.b true),(77,.g true (.ptr 998 0)),(78,.i v78)],[(11,⟨47,.row (.events o)⟩),(12,⟨3,.row (.ints s)⟩),(13,⟨3,.row (.ints tk)⟩),(998,⟨50,.fix [.sl (.bytes l),.i q78]⟩)],[78,11,12,13,998,999]⟩) 6 (by kernel_rfl) rfl ?_⟩
    refine WI.runT cok tab18 hnt [] 1 7 (⟨[(0,.ptr 998 0),(3,.own 11 o.length),(4,.own 12 s.length),(5,.own 13 tk.length),(6,.i v16),(7,.i n),(21,.b (decide ((0 : Int) < n))),(73,.own 11 o.length),(74,.i (o.length : Int)),(75,.b true),(76,.b true),(77,.g true (.ptr 998 0)),(78,.i v78),(79,.g true (.b (decide (v78 = (0 : Int)))))],[(11,⟨47,.row (.events o)⟩),(12,⟨3,.row (.ints s)⟩),(13,⟨3,.row (.ints tk)⟩),(998,⟨50,.fix [.sl (.bytes l),.i q78]⟩)],[78,11,12,13,998,999]⟩)
     ((true = true → (True ∧ (True ∧ True))) ∧ True) (by kernel_rfl) rfl
     ⟨(fun _ => ⟨tt,tt,tt⟩),tt⟩ ?_
    refine WI.pickL true (.b true) (.g true (.b (decide (v78 = (0 : Int))))) rfl hnt (wanted_none rfl) rfl (by kernel_rfl) rfl trivial (by kernel_rfl) ⟨rfl,tt⟩ rfl ?_
    refine WI.to (⟨[(0,.ptr 998 0),(3,.own 11 o.length),(4,.own 12 s.length),(5,.own 13 tk.length),(6,.i v16),(7,.i n),(21,.b (decide ((0 : Int) < n))),(73,.own 11 o.length),(74,.i (o.length : Int)),(75,.b true),(76,.b true),(77,.g true (.ptr 998 0)),(78,.i v78),(79,.g true (.b (decide (v78 = (0 : Int))))),(80,.b (decide (v78 = (0 : Int))))],[(11,⟨47,.row (.events o)⟩),(12,⟨3,.row (.ints s)⟩),(13,⟨3,.row (.ints tk)⟩),(998,⟨50,.fix [.sl (.bytes l),.i q78]⟩)],[78,11,12,13,998,999]⟩) 8 (by kernel_rfl) rfl ?_
    refine WI.nil rfl (thenQ_normal ?_)
    refine W.keepE [0,3,80] [(0,.ptr 998 0),(3,.own 11 o.length),(80,.b (decide (v78 = (0 : Int))))] (by kernel_rfl) ?_
    refine W.to (⟨[(0,.ptr 998 0),(3,.own 11 o.length),(80,.b (decide (v78 = (0 : Int))))],[(11,⟨47,.row (.events o)⟩),(12,⟨3,.row (.ints s)⟩),(13,⟨3,.row (.ints tk)⟩),(998,⟨50,.fix [.sl (.bytes l),.i q78]⟩)],[78,11,12,13,998,999]⟩) rfl ?_
    refine W.meetT (ι := (List EventD) × Int) (fun (x : (List EventD) × Int) => match x with | (o3,p3) => (⟨[(3,.own 11 o3.length)],[(11,⟨47,.row (.events o3)⟩),(998,⟨50,.fix [.sl (.bytes l),.i p3]⟩)],[11,998,999]⟩ : St)) (fun (x : (List EventD) × Int) => match x with | (o3,p3) => (o3.length ≤ 7) ∧ (p ≤ p3 ∧ p3 ≤ p + 100)) ?_ ?_
    ·skip
     refine W.ifP (v78 = (0 : Int)) (.b (decide (v78 = (0 : Int)))) (by kernel_rfl) rfl trivial ?_ ?_
     ·intro h80
      refine W.seq (W.wi ?_)
      refine WI.runT cok tab18 hnt [] 3 3 (⟨[(0,.ptr 998 0),(3,.own 11 o.length),(80,.b (decide (v78 = (0 : Int)))),(81,.ptr 998 0),(82,.own 11 o.length),(83,.i (o.length : Int))],[(11,⟨47,.row (.events o)⟩),(12,⟨3,.row (.ints s)⟩),(13,⟨3,.row (.ints tk)⟩),(998,⟨50,.fix [.sl (.bytes l),.i q78]⟩)],[78,11,12,13,998,999]⟩)
       (True ∧ True ∧ True ∧ True) (by kernel_rfl) rfl
       ⟨tt,tt,tt,tt⟩ ?_
      refine WI.call [.ptr 998 0,.i (o.length : Int)] [.sl (.bytes l),.i q78] [.i (o.length : Int)] [.i (o.length : Int)] (some (50,998)) (True) (True ∧ True) none rok21 ent21 hnt rfl rfl (wanted_none rfl) (by kernel_rfl) (by kernel_rfl) (by kernel_rfl) ⟨tt,tt,tt⟩
       (@cast (0 ≤ q78 ∧ q78 ≤ 1000000) _ (by kernel_rfl) (by omega)) (Or.inl rfl) rfl ?_
      rintro r bl fx2 hR
      obtain ⟨⟨v84,q84⟩,hq84,rfl,rfl,rfl⟩ := (@cast _ (∃ x : Int × Int,((0 ≤ x.1 ∧ x.1 < max (o.length : Int) 1) ∧ (x.2 = q78 + 1)) ∧ r = (.i x.1) ∧ bl = ([]) ∧ fx2 = ([.sl (.bytes l),.i x.2])) (by kernel_rfl) hR)
      clear hR
      replace hq84 : (0 ≤ v84 ∧ v84 < max (o.length : Int) 1) ∧ (q84 = q78 + 1) := hq84
      obtain ⟨hv84,hq184⟩ := hq84
      refine ⟨by kernel_rfl,WI.to (⟨[(0,.ptr 998 0),(3,.own 11 o.length),(80,.b (decide (v78 = (0 : Int)))),(81,.ptr 998 0),(82,.own 11 o.length),(83,.i (o.length : Int)),(84,.i v84)],[(11,⟨47,.row (.events o)⟩),(12,⟨3,.row (.ints s)⟩),(13,⟨3,.row (.ints tk)⟩),(998,⟨50,.fix [.sl (.bytes l),.i q84]⟩)],[84,78,11,12,13,998,999]⟩) 4 (by kernel_rfl) rfl ?_⟩
      refine WI.runT cok tab18 hnt [] 1 5 (⟨[(0,.ptr 998 0),(3,.own 11 o.length),(10,.i v84),(80,.b (decide (v78 = (0 : Int)))),(81,.ptr 998 0),(82,.own 11 o.length),(83,.i (o.length : Int)),(84,.i v84)],[(11,⟨47,.row (.events o)⟩),(12,⟨3,.row (.ints s)⟩),(13,⟨3,.row (.ints tk)⟩),(998,⟨50,.fix [.sl (.bytes l),.i q84]⟩)],[84,78,11,12,13,998,999]⟩)
       (True ∧ True) (by kernel_rfl) rfl
       ⟨tt,tt⟩ ?_
      refine WI.nil rfl (thenQ_normal ?_)
      refine W.keepE [0,3,10] [(0,.ptr 998 0),(3,.own 11 o.length),(10,.i v84)] (by kernel_rfl) ?_
      refine W.to (⟨[(0,.ptr 998 0),(3,.own 11 o.length),(10,.i v84)],[(11,⟨47,.row (.events o)⟩),(12,⟨3,.row (.ints s)⟩),(13,⟨3,.row (.ints tk)⟩),(998,⟨50,.fix [.sl (.bytes l),.i q84]⟩)],[84,78,11,12,13,998,999]⟩) rfl ?_
      refine W.seq (W.wi ?_)
      refine WI.runT cok tab18 hnt [] 1 1 (⟨[(0,.ptr 998 0),(3,.own 11 o.length),(10,.i v84),(85,.ptr 998 0)],[(11,⟨47,.row (.events o)⟩),(12,⟨3,.row (.ints s)⟩),(13,⟨3,.row (.ints tk)⟩),(998,⟨50,.fix [.sl (.bytes l),.i q84]⟩)],[84,78,11,12,13,998,999]⟩)
       (True ∧ True) (by kernel_rfl) rfl
       ⟨tt,tt⟩ ?_
      refine WI.call [.ptr 998 0,.i (3 : Int)] [.sl (.bytes l),.i q84] [.i (3 : Int)] [.i (3 : Int)] (some (50,998)) (True) (True ∧ True) none rok21 ent21 hnt rfl rfl (wanted_none rfl) (by kernel_rfl) (by kernel_rfl) (by kernel_rfl) ⟨tt,tt,tt⟩
       (@cast (0 ≤ q84 ∧ q84 ≤ 1000000) _ (by kernel_rfl) (by omega)) (Or.inl rfl) rfl ?_
      rintro r bl fx2 hR
      obtain ⟨⟨v86,q86⟩,hq86,rfl,rfl,rfl⟩ := (@cast _ (∃ x : Int × Int,((0 ≤ x.1 ∧ x.1 < max (3 : Int) 1) ∧ (x.2 = q84 + 1)) ∧ r = (.i x.1) ∧ bl = ([]) ∧ fx2 = ([.sl (.bytes l),.i x.2])) (by kernel_rfl) hR)
      clear hR
      replace hq86 : (0 ≤ v86 ∧ v86 < max (3 : Int) 1) ∧ (q86 = q84 + 1) := hq86
      obtain ⟨hv86,hq186⟩ := hq86
      refine ⟨by kernel_rfl,WI.to (⟨[(0,.ptr 998 0),(3,.own 11 o.length),(10,.i v84),(85,.ptr 998 0),(86,.i v86)],[(11,⟨47,.row (.events o)⟩),(12,⟨3,.row (.ints s)⟩),(13,⟨3,.row (.ints tk)⟩),(998,⟨50,.fix [.sl (.bytes l),.i q86]⟩)],[86,84,78,11,12,13,998,999]⟩) 2 (by kernel_rfl) rfl ?_⟩
      refine WI.nil rfl (thenQ_normal ?_)
      refine W.keepE [0,3,10,86] [(0,.ptr 998 0),(3,.own 11 o.length),(10,.i v84),(86,.i v86)] (by kernel_rfl) ?_
      refine W.to (⟨[(0,.ptr 998 0),(3,.own 11 o.length),(10,.i v84),(86,.i v86)],[(11,⟨47,.row (.events o)⟩),(12,⟨3,.row (.ints s)⟩),(13,⟨3,.row (.ints tk)⟩),(998,⟨50,.fix [.sl (.bytes l),.i q86]⟩)],[86,84,78,11,12,13,998,999]⟩) rfl ?_
      refine W.block ?_
      refine Kk cok tab18 hnt [] [0,3,10,86,94] (⟨[(0,.ptr 998 0),(3,.own 11 o.length),(10,.i v84),(86,.i v86),(94,.b (decide (v86 = (0 : Int))))],[(11,⟨47,.row (.events o)⟩),(12,⟨3,.row (.ints s)⟩),(13,⟨3,.row (.ints tk)⟩),(998,⟨50,.fix [.sl (.bytes l),.i q86]⟩)],[86,84,78,11,12,13,998,999]⟩)
       ((True ∧ True ∧ True) ∧ True ∧ True)
       ⟨⟨tt,tt,tt⟩,tt,tt⟩ ?_
      refine W.ifP (v86 = (0 : Int)) (.b (decide (v86 = (0 : Int)))) (by kernel_rfl) rfl trivial ?_ ?_
      ·intro h94
       refine W.wi ?_
       refine WI.runT cok tab18 hnt [] 4 4 (⟨[(0,.ptr 998 0),(3,.own 11 o.length),(10,.i v84),(86,.i v86),(94,.b (decide (v86 = (0 : Int)))),(96,.own 11 o.length),(97,.i v84),(98,.ptr 998 0),(99,.sl (.ints ([(7 : Int),(-1 : Int),(1 : Int)])))],[(11,⟨47,.row (.events o)⟩),(12,⟨3,.row (.ints s)⟩),(13,⟨3,.row (.ints tk)⟩),(998,⟨50,.fix [.sl (.bytes l),.i q86]⟩)],[99,86,84,78,11,12,13,998,999]⟩)
        (True ∧ True ∧ True ∧ (True ∧ True ∧ True ∧ True) ∧ True) (by kernel_rfl) rfl
        ⟨tt,tt,tt,⟨tt,tt,tt,tt⟩,tt⟩ ?_
       refine WI.call [.ptr 998 0,.sl (.ints ([(7 : Int),(-1 : Int),(1 : Int)]))] [.sl (.bytes l),.i q86] [.sl (.ints ([(7 : Int),(-1 : Int),(1 : Int)]))] [.sl (.ints ([(7 : Int),(-1 : Int),(1 : Int)]))] (some (50,998)) (True) (True ∧ True) none rok20 ent20 hnt rfl rfl (wanted_none rfl) (by kernel_rfl) (by kernel_rfl) (by kernel_rfl) ⟨tt,tt,tt⟩
        (@cast ((0 ≤ q86 ∧ q86 ≤ 1000000) ∧ (0 < ([(7 : Int),(-1 : Int),(1 : Int)]).length) ∧ (([(7 : Int),(-1 : Int),(1 : Int)]).length ≤ 1000)) _ (by kernel_rfl) ⟨(by omega),⟨(by (first | omega | (simp only [List.length_set]; done) | (simp only [List.length_append,List.length_cons,List.length_nil,List.length_take,List.length_drop,List.length_set,List.length_replicate,List.length_map] at *; omega) | assumption)),(by (first | omega | (simp only [List.length_set]; done) | (simp only [List.length_append,List.length_cons,List.length_nil,List.length_take,List.length_drop,List.length_set,List.length_replicate,List.length_map] at *; omega) | assumption))⟩⟩) (Or.inl rfl) rfl ?_
       rintro r bl fx2 hR
       obtain ⟨⟨v100,q100⟩,hq100,rfl,rfl,rfl⟩ := (@cast _ (∃ x : Int × Int,((x.1 ∈ ([(7 : Int),(-1 : Int),(1 : Int)])) ∧ (x.2 = q86 + 1)) ∧ r = (.i x.1) ∧ bl = ([]) ∧ fx2 = ([.sl (.bytes l),.i x.2])) (by kernel_rfl) hR)
       clear hR
       replace hq100 : (v100 ∈ ([(7 : Int),(-1 : Int),(1 : Int)])) ∧ (q100 = q86 + 1) := hq100
       obtain ⟨hv100,hq1100⟩ := hq100
       simp only [List.mem_cons,List.not_mem_nil,or_false] at hv100
       refine ⟨by kernel_rfl,WI.to (⟨[(0,.ptr 998 0),(3,.own 11 o.length),(10,.i v84),(86,.i v86),(94,.b (decide (v86 = (0 : Int)))),(96,.own 11 o.length),(97,.i v84),(98,.ptr 998 0),(99,.sl (.ints ([(7 : Int),(-1 : Int),(1 : Int)]))),(100,.i v100)],[(11,⟨47,.row (.events o)⟩),(12,⟨3,.row (.ints s)⟩),(13,⟨3,.row (.ints tk)⟩),(998,⟨50,.fix [.sl (.bytes l),.i q100]⟩)],[100,99,86,84,78,11,12,13,998,999]⟩) 5 (by kernel_rfl) rfl ?_⟩
       refine WI.runT cok tab18 hnt [] 3 8 (⟨[(0,.ptr 998 0),(3,.own 11 o.length),(10,.i v84),(86,.i v86),(94,.b (decide (v86 = (0 : Int)))),(96,.own 11 o.length),(97,.i v84),(98,.ptr 998 0),(99,.sl (.ints ([(7 : Int),(-1 : Int),(1 : Int)]))),(100,.i v100),(101,.pel 11 3 (Int.toNat v84) 0),(102,.pel 11 3 (Int.toNat v84) 2)],[(11,⟨47,.row (.events (List.set o (Int.toNat v84) ({ o.getD (Int.toNat v84) default with msg := v100 })))⟩),(12,⟨3,.row (.ints s)⟩),(13,⟨3,.row (.ints tk)⟩),(998,⟨50,.fix [.sl (.bytes l),.i q100]⟩)],[100,99,86,84,78,11,12,13,998,999]⟩)
        ((True ∧ True ∧ (0 ≤ v84) ∧ (v84 < (o.length : Int))) ∧ True ∧ (True ∧ True ∧ ((Int.toNat v84) < o.length)) ∧ True) (by kernel_rfl) rfl
        ⟨⟨tt,tt,(by omega),(by omega)⟩,tt,⟨tt,tt,(by omega)⟩,tt⟩ ?_
       refine WI.nil rfl ?_
       refine blockQ_normal (thenQ_normal ?_)
       refine ⟨((List.set o (Int.toNat v84) ({ o.getD (Int.toNat v84) default with msg := v100 })),q100),(show ((List.set o (Int.toNat v84) ({ o.getD (Int.toNat v84) default with msg := v100 })).length ≤ 7) ∧ (p ≤ q100 ∧ q100 ≤ p + 100) from ⟨(by first | assumption | omega | rfl | (intro _ hjj; omega) | (simp; done) | (simp; omega)),(by first | assumption | omega | rfl | (intro _ hjj; omega) | (simp; done) | (simp; omega))⟩),?_⟩
       exact Sub.of [] (@cast (((((11 : Nat) = 11) ∧ (o.length = (List.length (List.set o (Int.toNat v84) ({ o.getD (Int.toNat v84) default with msg := v100 })))) ∧ ((11 : Nat) ∈ ([11,998,999] : List Nat))) ∧ True) ∧ ((((47 : Nat) = 47) ∧ (Sd (.events (List.set o (Int.toNat v84) ({ o.getD (Int.toNat v84) default with msg := v100 })))) ∧ ((11 : Nat) ∈ ([11,998,999] : List Nat))) ∧ (((50 : Nat) = 50) ∧ ((Sd (.bytes l)) ∧ (Si q100) ∧ True) ∧ ((998 : Nat) ∈ ([11,998,999] : List Nat))) ∧ True) ∧ (true = true) ∧ (true = true)) _ (by kernel_rfl) ⟨⟨⟨rfl,(by first | rfl | omega | assumption | (symm; assumption) | simp | simp_all),(by decide)⟩,tt⟩,⟨⟨rfl,rfl,(by decide)⟩,⟨rfl,⟨rfl,rfl,tt⟩,(by decide)⟩,tt⟩,rfl,rfl⟩)
      ·intro n94
       refine Kk cok tab18 hnt [] [0,3,10,103] (⟨[(0,.ptr 998 0),(3,.own 11 o.length),(10,.i v84),(103,.b (decide (v86 = (1 : Int))))],[(11,⟨47,.row (.events o)⟩),(12,⟨3,.row (.ints s)⟩),(13,⟨3,.row (.ints tk)⟩),(998,⟨50,.fix [.sl (.bytes l),.i q86]⟩)],[86,84,78,11,12,13,998,999]⟩)
        ((True ∧ True ∧ True) ∧ True ∧ True)
        ⟨⟨tt,tt,tt⟩,tt,tt⟩ ?_
       refine W.ifP (v86 = (1 : Int)) (.b (decide (v86 = (1 : Int)))) (by kernel_rfl) rfl trivial ?_ ?_
       ·intro h103
        refine W.wi ?_
        refine WI.runT cok tab18 hnt [] 4 4 (⟨[(0,.ptr 998 0),(3,.own 11 o.length),(10,.i v84),(103,.b (decide (v86 = (1 : Int)))),(105,.own 11 o.length),(106,.i v84),(107,.ptr 998 0),(108,.sl (.ints ([(3 : Int),(-1 : Int),(2 : Int)])))],[(11,⟨47,.row (.events o)⟩),(12,⟨3,.row (.ints s)⟩),(13,⟨3,.row (.ints tk)⟩),(998,⟨50,.fix [.sl (.bytes l),.i q86]⟩)],[108,86,84,78,11,12,13,998,999]⟩)
         (True ∧ True ∧ True ∧ (True ∧ True ∧ True ∧ True) ∧ True) (by kernel_rfl) rfl
         ⟨tt,tt,tt,⟨tt,tt,tt,tt⟩,tt⟩ ?_
        refine WI.call [.ptr 998 0,.sl (.ints ([(3 : Int),(-1 : Int),(2 : Int)]))] [.sl (.bytes l),.i q86] [.sl (.ints ([(3 : Int),(-1 : Int),(2 : Int)]))] [.sl (.ints ([(3 : Int),(-1 : Int),(2 : Int)]))] (some (50,998)) (True) (True ∧ True) none rok20 ent20 hnt rfl rfl (wanted_none rfl) (by kernel_rfl) (by kernel_rfl) (by kernel_rfl) ⟨tt,tt,tt⟩
         (@cast ((0 ≤ q86 ∧ q86 ≤ 1000000) ∧ (0 < ([(3 : Int),(-1 : Int),(2 : Int)]).length) ∧ (([(3 : Int),(-1 : Int),(2 : Int)]).length ≤ 1000)) _ (by kernel_rfl) ⟨(by omega),⟨(by (first | omega | (simp only [List.length_set]; done) | (simp only [List.length_append,List.length_cons,List.length_nil,List.length_take,List.length_drop,List.length_set,List.length_replicate,List.length_map] at *; omega) | assumption)),(by (first | omega | (simp only [List.length_set]; done) | (simp only [List.length_append,List.length_cons,List.length_nil,List.length_take,List.length_drop,List.length_set,List.length_replicate,List.length_map] at *; omega) | assumption))⟩⟩) (Or.inl rfl) rfl ?_
        rintro r bl fx2 hR
        obtain ⟨⟨v109,q109⟩,hq109,rfl,rfl,rfl⟩ := (@cast _ (∃ x : Int × Int,((x.1 ∈ ([(3 : Int),(-1 : Int),(2 : Int)])) ∧ (x.2 = q86 + 1)) ∧ r = (.i x.1) ∧ bl = ([]) ∧ fx2 = ([.sl (.bytes l),.i x.2])) (by kernel_rfl) hR)
        clear hR
        replace hq109 : (v109 ∈ ([(3 : Int),(-1 : Int),(2 : Int)])) ∧ (q109 = q86 + 1) := hq109
        obtain ⟨hv109,hq1109⟩ := hq109
        simp only [List.mem_cons,List.not_mem_nil,or_false] at hv109
        refine ⟨by kernel_rfl,WI.to (⟨[(0,.ptr 998 0),(3,.own 11 o.length),(10,.i v84),(103,.b (decide (v86 = (1 : Int)))),(105,.own 11 o.length),(106,.i v84),(107,.ptr 998 0),(108,.sl (.ints ([(3 : Int),(-1 : Int),(2 : Int)]))),(109,.i v109)],[(11,⟨47,.row (.events o)⟩),(12,⟨3,.row (.ints s)⟩),(13,⟨3,.row (.ints tk)⟩),(998,⟨50,.fix [.sl (.bytes l),.i q109]⟩)],[109,108,86,84,78,11,12,13,998,999]⟩) 5 (by kernel_rfl) rfl ?_⟩
        refine WI.runT cok tab18 hnt [] 3 8 (⟨[(0,.ptr 998 0),(3,.own 11 o.length),(10,.i v84),(103,.b (decide (v86 = (1 : Int)))),(105,.own 11 o.length),(106,.i v84),(107,.ptr 998 0),(108,.sl (.ints ([(3 : Int),(-1 : Int),(2 : Int)]))),(109,.i v109),(110,.pel 11 3 (Int.toNat v84) 0),(111,.pel 11 3 (Int.toNat v84) 1)],[(11,⟨47,.row (.events (List.set o (Int.toNat v84) ({ o.getD (Int.toNat v84) default with kind := v109 })))⟩),(12,⟨3,.row (.ints s)⟩),(13,⟨3,.row (.ints tk)⟩),(998,⟨50,.fix [.sl (.bytes l),.i q109]⟩)],[109,108,86,84,78,11,12,13,998,999]⟩)
         ((True ∧ True ∧ (0 ≤ v84) ∧ (v84 < (o.length : Int))) ∧ True ∧ (True ∧ True ∧ ((Int.toNat v84) < o.length)) ∧ True) (by kernel_rfl) rfl
         ⟨⟨tt,tt,(by omega),(by omega)⟩,tt,⟨tt,tt,(by omega)⟩,tt⟩ ?_
        refine WI.nil rfl ?_
        refine blockQ_normal (thenQ_normal ?_)
        refine ⟨((List.set o (Int.toNat v84) ({ o.getD (Int.toNat v84) default with kind := v109 })),q109),(show ((List.set o (Int.toNat v84) ({ o.getD (Int.toNat v84) default with kind := v109 })).length ≤ 7) ∧ (p ≤ q109 ∧ q109 ≤ p + 100) from ⟨(by first | assumption | omega | rfl | (intro _ hjj; omega) | (simp; done) | (simp; omega)),(by first | assumption | omega | rfl | (intro _ hjj; omega) | (simp; done) | (simp; omega))⟩),?_⟩
        exact Sub.of [] (@cast (((((11 : Nat) = 11) ∧ (o.length = (List.length (List.set o (Int.toNat v84) ({ o.getD (Int.toNat v84) default with kind := v109 })))) ∧ ((11 : Nat) ∈ ([11,998,999] : List Nat))) ∧ True) ∧ ((((47 : Nat) = 47) ∧ (Sd (.events (List.set o (Int.toNat v84) ({ o.getD (Int.toNat v84) default with kind := v109 })))) ∧ ((11 : Nat) ∈ ([11,998,999] : List Nat))) ∧ (((50 : Nat) = 50) ∧ ((Sd (.bytes l)) ∧ (Si q109) ∧ True) ∧ ((998 : Nat) ∈ ([11,998,999] : List Nat))) ∧ True) ∧ (true = true) ∧ (true = true)) _ (by kernel_rfl) ⟨⟨⟨rfl,(by first | rfl | omega | assumption | (symm; assumption) | simp | simp_all),(by decide)⟩,tt⟩,⟨⟨rfl,rfl,(by decide)⟩,⟨rfl,⟨rfl,rfl,tt⟩,(by decide)⟩,tt⟩,rfl,rfl⟩)
       ·intro n103
        refine W.wi ?_
        refine WI.runT cok tab18 hnt [] 4 4 (⟨[(0,.ptr 998 0),(3,.own 11 o.length),(10,.i v84),(87,.own 11 o.length),(88,.i v84),(89,.ptr 998 0),(90,.sl (.ints ([(3 : Int),(-1 : Int),(0 : Int)]))),(103,.b (decide (v86 = (1 : Int))))],[(11,⟨47,.row (.events o)⟩),(12,⟨3,.row (.ints s)⟩),(13,⟨3,.row (.ints tk)⟩),(998,⟨50,.fix [.sl (.bytes l),.i q86]⟩)],[90,86,84,78,11,12,13,998,999]⟩)
         (True ∧ True ∧ True ∧ (True ∧ True ∧ True ∧ True) ∧ True) (by kernel_rfl) rfl
         ⟨tt,tt,tt,⟨tt,tt,tt,tt⟩,tt⟩ ?_
        refine WI.call [.ptr 998 0,.sl (.ints ([(3 : Int),(-1 : Int),(0 : Int)]))] [.sl (.bytes l),.i q86] [.sl (.ints ([(3 : Int),(-1 : Int),(0 : Int)]))] [.sl (.ints ([(3 : Int),(-1 : Int),(0 : Int)]))] (some (50,998)) (True) (True ∧ True) none rok20 ent20 hnt rfl rfl (wanted_none rfl) (by kernel_rfl) (by kernel_rfl) (by kernel_rfl) ⟨tt,tt,tt⟩
         (@cast ((0 ≤ q86 ∧ q86 ≤ 1000000) ∧ (0 < ([(3 : Int),(-1 : Int),(0 : Int)]).length) ∧ (([(3 : Int),(-1 : Int),(0 : Int)]).length ≤ 1000)) _ (by kernel_rfl) ⟨(by omega),⟨(by (first | omega | (simp only [List.length_set]; done) | (simp only [List.length_append,List.length_cons,List.length_nil,List.length_take,List.length_drop,List.length_set,List.length_replicate,List.length_map] at *; omega) | assumption)),(by (first | omega | (simp only [List.length_set]; done) | (simp only [List.length_append,List.length_cons,List.length_nil,List.length_take,List.length_drop,List.length_set,List.length_replicate,List.length_map] at *; omega) | assumption))⟩⟩) (Or.inl rfl) rfl ?_
        rintro r bl fx2 hR
        obtain ⟨⟨v91,q91⟩,hq91,rfl,rfl,rfl⟩ := (@cast _ (∃ x : Int × Int,((x.1 ∈ ([(3 : Int),(-1 : Int),(0 : Int)])) ∧ (x.2 = q86 + 1)) ∧ r = (.i x.1) ∧ bl = ([]) ∧ fx2 = ([.sl (.bytes l),.i x.2])) (by kernel_rfl) hR)
        clear hR
        replace hq91 : (v91 ∈ ([(3 : Int),(-1 : Int),(0 : Int)])) ∧ (q91 = q86 + 1) := hq91
        obtain ⟨hv91,hq191⟩ := hq91
        simp only [List.mem_cons,List.not_mem_nil,or_false] at hv91
        refine ⟨by kernel_rfl,WI.to (⟨[(0,.ptr 998 0),(3,.own 11 o.length),(10,.i v84),(87,.own 11 o.length),(88,.i v84),(89,.ptr 998 0),(90,.sl (.ints ([(3 : Int),(-1 : Int),(0 : Int)]))),(91,.i v91),(103,.b (decide (v86 = (1 : Int))))],[(11,⟨47,.row (.events o)⟩),(12,⟨3,.row (.ints s)⟩),(13,⟨3,.row (.ints tk)⟩),(998,⟨50,.fix [.sl (.bytes l),.i q91]⟩)],[91,90,86,84,78,11,12,13,998,999]⟩) 5 (by kernel_rfl) rfl ?_⟩
        refine WI.runT cok tab18 hnt [] 3 8 (⟨[(0,.ptr 998 0),(3,.own 11 o.length),(10,.i v84),(87,.own 11 o.length),(88,.i v84),(89,.ptr 998 0),(90,.sl (.ints ([(3 : Int),(-1 : Int),(0 : Int)]))),(91,.i v91),(92,.pel 11 3 (Int.toNat v84) 0),(93,.pel 11 3 (Int.toNat v84) 0),(103,.b (decide (v86 = (1 : Int))))],[(11,⟨47,.row (.events (List.set o (Int.toNat v84) ({ o.getD (Int.toNat v84) default with proc := v91 })))⟩),(12,⟨3,.row (.ints s)⟩),(13,⟨3,.row (.ints tk)⟩),(998,⟨50,.fix [.sl (.bytes l),.i q91]⟩)],[91,90,86,84,78,11,12,13,998,999]⟩)
         ((True ∧ True ∧ (0 ≤ v84) ∧ (v84 < (o.length : Int))) ∧ True ∧ (True ∧ True ∧ ((Int.toNat v84) < o.length)) ∧ True) (by kernel_rfl) rfl
         ⟨⟨tt,tt,(by omega),(by omega)⟩,tt,⟨tt,tt,(by omega)⟩,tt⟩ ?_
        refine WI.nil rfl ?_
        refine blockQ_normal (thenQ_normal ?_)
        refine ⟨((List.set o (Int.toNat v84) ({ o.getD (Int.toNat v84) default with proc := v91 })),q91),(show ((List.set o (Int.toNat v84) ({ o.getD (Int.toNat v84) default with proc := v91 })).length ≤ 7) ∧ (p ≤ q91 ∧ q91 ≤ p + 100) from ⟨(by first | assumption | omega | rfl | (intro _ hjj; omega) | (simp; done) | (simp; omega)),(by first | assumption | omega | rfl | (intro _ hjj; omega) | (simp; done) | (simp; omega))⟩),?_⟩
        exact Sub.of [] (@cast (((((11 : Nat) = 11) ∧ (o.length = (List.length (List.set o (Int.toNat v84) ({ o.getD (Int.toNat v84) default with proc := v91 })))) ∧ ((11 : Nat) ∈ ([11,998,999] : List Nat))) ∧ True) ∧ ((((47 : Nat) = 47) ∧ (Sd (.events (List.set o (Int.toNat v84) ({ o.getD (Int.toNat v84) default with proc := v91 })))) ∧ ((11 : Nat) ∈ ([11,998,999] : List Nat))) ∧ (((50 : Nat) = 50) ∧ ((Sd (.bytes l)) ∧ (Si q91) ∧ True) ∧ ((998 : Nat) ∈ ([11,998,999] : List Nat))) ∧ True) ∧ (true = true) ∧ (true = true)) _ (by kernel_rfl) ⟨⟨⟨rfl,(by first | rfl | omega | assumption | (symm; assumption) | simp | simp_all),(by decide)⟩,tt⟩,⟨⟨rfl,rfl,(by decide)⟩,⟨rfl,⟨rfl,rfl,tt⟩,(by decide)⟩,tt⟩,rfl,rfl⟩)
     ·intro n80
      refine W.skip (thenQ_normal ?_)
      refine ⟨(o,q78),(show (o.length ≤ 7) ∧ (p ≤ q78 ∧ q78 ≤ p + 100) from ⟨(by first | assumption | omega | rfl | (intro _ hjj; omega) | (simp; done) | (simp; omega)),(by first | assumption | omega | rfl | (intro _ hjj; omega) | (simp; done) | (simp; omega))⟩),?_⟩
      exact Sub.of [] (@cast (((((11 : Nat) = 11) ∧ (o.length = o.length) ∧ ((11 : Nat) ∈ ([11,998,999] : List Nat))) ∧ True) ∧ ((((47 : Nat) = 47) ∧ (Sd (.events o)) ∧ ((11 : Nat) ∈ ([11,998,999] : List Nat))) ∧ (((50 : Nat) = 50) ∧ ((Sd (.bytes l)) ∧ (Si q78) ∧ True) ∧ ((998 : Nat) ∈ ([11,998,999] : List Nat))) ∧ True) ∧ (true = true) ∧ (true = true)) _ (by kernel_rfl) ⟨⟨⟨rfl,rfl,(by decide)⟩,tt⟩,⟨⟨rfl,rfl,(by decide)⟩,⟨rfl,⟨rfl,rfl,tt⟩,(by decide)⟩,tt⟩,rfl,rfl⟩)
    ·rintro ⟨o3,p3⟩ hC0
     have hC : (o3.length ≤ 7) ∧ (p ≤ p3 ∧ p3 ≤ p + 100) := hC0
     clear hC0
     obtain ⟨ho3,hp3⟩ := hC
     refine W.to (⟨[(3,.own 11 o3.length)],[(11,⟨47,.row (.events o3)⟩),(998,⟨50,.fix [.sl (.bytes l),.i p3]⟩)],[11,998,999]⟩) rfl ?_
     refine Kk cok tab18 hnt [] [2] (⟨[(2,.own 11 o3.length)],[(11,⟨47,.row (.events o3)⟩),(998,⟨50,.fix [.sl (.bytes l),.i p3]⟩)],[11,998,999]⟩)
      (True ∧ True ∧ True)
      ⟨tt,tt,tt⟩ ?_
     refine W.ret ?_
     exact endP_ret (o3,p3) (show (o3.length ≤ 7) ∧ (p ≤ p3 ∧ p3 ≤ p + 1000) from ⟨(by first | assumption | omega | rfl | (simp; done) | (simp; omega)),(by first | assumption | omega | rfl | (simp; done) | (simp; omega))⟩) [(1,11),(0,998)] (.own 11 o3.length) (by kernel_rfl) (@cast ((((11 : Nat) = 11) ∧ (o3.length = o3.length) ∧ ((1 : Nat) ∈ ([0,1] : List Nat))) ∧ ((((50 : Nat) = 50) ∧ ((Sd (.bytes l)) ∧ (Si p3) ∧ True) ∧ ((0 : Nat) ∈ ([0,1] : List Nat))) ∧ (((47 : Nat) = 47) ∧ (Sd (.events o3)) ∧ ((1 : Nat) ∈ ([0,1] : List Nat))) ∧ True) ∧ (true = true) ∧ ((([] : List Nat) = []) ∧ True) ∧ (true = true → (998 : Nat) = 998)) _ (by kernel_rfl) ⟨⟨rfl,rfl,(by decide)⟩,⟨⟨rfl,⟨rfl,rfl,tt⟩,(by decide)⟩,⟨rfl,rfl,(by decide)⟩,tt⟩,rfl,⟨rfl,tt⟩,(fun _ => rfl)⟩)
   ·skip
    have hT78_0 : ¬ ((0 : Int) < (o.length : Int)) := of_decide_eq_false hT78
    refine WI.to (⟨[(0,.ptr 998 0),(3,.own 11 o.length),(4,.own 12 s.length),(5,.own 13 tk.length),(6,.i v16),(7,.i n),(21,.b (decide ((0 : Int) < n))),(73,.own 11 o.length),(74,.i (o.length : Int)),(75,.b false),(76,.b false),(77,.g false (.ptr 998 0))],[(11,⟨47,.row (.events o)⟩),(12,⟨3,.row (.ints s)⟩),(13,⟨3,.row (.ints tk)⟩),(998,⟨50,.fix [.sl (.bytes l),.i p1]⟩)],[11,12,13,998,999]⟩) 5 (congrArg (fun z => (⟨[(0,.ptr 998 0),(3,.own 11 o.length),(4,.own 12 s.length),(5,.own 13 tk.length),(6,.i v16),(7,.i n),(21,.b (decide ((0 : Int) < n))),(73,.own 11 o.length),(74,.i (o.length : Int)),(75,.b z),(76,.b z),(77,.g z (.ptr 998 0))],[(11,⟨47,.row (.events o)⟩),(12,⟨3,.row (.ints s)⟩),(13,⟨3,.row (.ints tk)⟩),(998,⟨50,.fix [.sl (.bytes l),.i p1]⟩)],[11,12,13,998,999]⟩ : St)) hT78) rfl ?_
    refine WI.pass rfl hnt (wanted_if (t := 76) (gx := .b false) rfl rfl (by kernel_rfl) (by kernel_rfl)) rfl ?_
    refine WI.to (⟨[(0,.ptr 998 0),(3,.own 11 o.length),(4,.own 12 s.length),(5,.own 13 tk.length),(6,.i v16),(7,.i n),(21,.b (decide ((0 : Int) < n))),(73,.own 11 o.length),(74,.i (o.length : Int)),(75,.b false),(76,.b false),(77,.g false (.ptr 998 0)),(78,.any)],[(11,⟨47,.row (.events o)⟩),(12,⟨3,.row (.ints s)⟩),(13,⟨3,.row (.ints tk)⟩),(998,⟨50,.fix [.sl (.bytes l),.i p1]⟩)],[11,12,13,998,999]⟩) 6 (by kernel_rfl) rfl ?_
    refine WI.pass rfl hnt (wanted_if (t := 76) (gx := .b false) rfl rfl (by kernel_rfl) (by kernel_rfl)) rfl ?_
    refine WI.to (⟨[(0,.ptr 998 0),(3,.own 11 o.length),(4,.own 12 s.length),(5,.own 13 tk.length),(6,.i v16),(7,.i n),(21,.b (decide ((0 : Int) < n))),(73,.own 11 o.length),(74,.i (o.length : Int)),(75,.b false),(76,.b false),(77,.g false (.ptr 998 0)),(78,.any),(79,.any)],[(11,⟨47,.row (.events o)⟩),(12,⟨3,.row (.ints s)⟩),(13,⟨3,.row (.ints tk)⟩),(998,⟨50,.fix [.sl (.bytes l),.i p1]⟩)],[11,12,13,998,999]⟩) 7 (by kernel_rfl) rfl ?_
    refine WI.pickL false (.b false) (.b false) rfl hnt (wanted_none rfl) rfl (by kernel_rfl) rfl trivial (by kernel_rfl) trivial rfl ?_
    refine WI.to (⟨[(0,.ptr 998 0),(3,.own 11 o.length),(4,.own 12 s.length),(5,.own 13 tk.length),(6,.i v16),(7,.i n),(21,.b (decide ((0 : Int) < n))),(73,.own 11 o.length),(74,.i (o.length : Int)),(75,.b false),(76,.b false),(77,.g false (.ptr 998 0)),(78,.any),(79,.any),(80,.b false)],[(11,⟨47,.row (.events o)⟩),(12,⟨3,.row (.ints s)⟩),(13,⟨3,.row (.ints tk)⟩),(998,⟨50,.fix [.sl (.bytes l),.i p1]⟩)],[11,12,13,998,999]⟩) 8 (by kernel_rfl) rfl ?_
    refine WI.nil rfl (thenQ_normal ?_)
    refine W.keepE [0,3,80] [(0,.ptr 998 0),(3,.own 11 o.length),(80,.b false)] (by kernel_rfl) ?_
    refine W.to (⟨[(0,.ptr 998 0),(3,.own 11 o.length),(80,.b false)],[(11,⟨47,.row (.events o)⟩),(12,⟨3,.row (.ints s)⟩),(13,⟨3,.row (.ints tk)⟩),(998,⟨50,.fix [.sl (.bytes l),.i p1]⟩)],[11,12,13,998,999]⟩) rfl ?_
    refine W.meetT (ι := (List EventD) × Int) (fun (x : (List EventD) × Int) => match x with | (o3,p3) => (⟨[(3,.own 11 o3.length)],[(11,⟨47,.row (.events o3)⟩),(998,⟨50,.fix [.sl (.bytes l),.i p3]⟩)],[11,998,999]⟩ : St)) (fun (x : (List EventD) × Int) => match x with | (o3,p3) => (o3.length ≤ 7) ∧ (p ≤ p3 ∧ p3 ≤ p + 100)) ?_ ?_
    ·skip
     refine W.ifF (.b false) (by kernel_rfl) rfl trivial ?_
     refine W.skip (thenQ_normal ?_)
     refine ⟨(o,p1),(show (o.length ≤ 7) ∧ (p ≤ p1 ∧ p1 ≤ p + 100) from ⟨(by first | assumption | omega | rfl | (intro _ hjj; omega) | (simp; done) | (simp; omega)),(by first | assumption | omega | rfl | (intro _ hjj; omega) | (simp; done) | (simp; omega))⟩),?_⟩
     exact Sub.of [] (@cast (((((11 : Nat) = 11) ∧ (o.length = o.length) ∧ ((11 : Nat) ∈ ([11,998,999] : List Nat))) ∧ True) ∧ ((((47 : Nat) = 47) ∧ (Sd (.events o)) ∧ ((11 : Nat) ∈ ([11,998,999] : List Nat))) ∧ (((50 : Nat) = 50) ∧ ((Sd (.bytes l)) ∧ (Si p1) ∧ True) ∧ ((998 : Nat) ∈ ([11,998,999] : List Nat))) ∧ True) ∧ (true = true) ∧ (true = true)) _ (by kernel_rfl) ⟨⟨⟨rfl,rfl,(by decide)⟩,tt⟩,⟨⟨rfl,rfl,(by decide)⟩,⟨rfl,⟨rfl,rfl,tt⟩,(by decide)⟩,tt⟩,rfl,rfl⟩)
    ·rintro ⟨o3,p3⟩ hC0
     have hC : (o3.length ≤ 7) ∧ (p ≤ p3 ∧ p3 ≤ p + 100) := hC0
     clear hC0
     obtain ⟨ho3,hp3⟩ := hC
     refine W.to (⟨[(3,.own 11 o3.length)],[(11,⟨47,.row (.events o3)⟩),(998,⟨50,.fix [.sl (.bytes l),.i p3]⟩)],[11,998,999]⟩) rfl ?_
     refine Kk cok tab18 hnt [] [2] (⟨[(2,.own 11 o3.length)],[(11,⟨47,.row (.events o3)⟩),(998,⟨50,.fix [.sl (.bytes l),.i p3]⟩)],[11,998,999]⟩)
      (True ∧ True ∧ True)
      ⟨tt,tt,tt⟩ ?_
     refine W.ret ?_
     exact endP_ret (o3,p3) (show (o3.length ≤ 7) ∧ (p ≤ p3 ∧ p3 ≤ p + 1000) from ⟨(by first | assumption | omega | rfl | (simp; done) | (simp; omega)),(by first | assumption | omega | rfl | (simp; done) | (simp; omega))⟩) [(1,11),(0,998)] (.own 11 o3.length) (by kernel_rfl) (@cast ((((11 : Nat) = 11) ∧ (o3.length = o3.length) ∧ ((1 : Nat) ∈ ([0,1] : List Nat))) ∧ ((((50 : Nat) = 50) ∧ ((Sd (.bytes l)) ∧ (Si p3) ∧ True) ∧ ((0 : Nat) ∈ ([0,1] : List Nat))) ∧ (((47 : Nat) = 47) ∧ (Sd (.events o3)) ∧ ((1 : Nat) ∈ ([0,1] : List Nat))) ∧ True) ∧ (true = true) ∧ ((([] : List Nat) = []) ∧ True) ∧ (true = true → (998 : Nat) = 998)) _ (by kernel_rfl) ⟨⟨rfl,rfl,(by decide)⟩,⟨⟨rfl,⟨rfl,rfl,tt⟩,(by decide)⟩,⟨rfl,rfl,(by decide)⟩,tt⟩,rfl,⟨rfl,tt⟩,(fun _ => rfl)⟩)
theorem ent18 : Entr prog 18 := ⟨_,func18,rfl,by decide⟩
end Go.Proofs.Try
