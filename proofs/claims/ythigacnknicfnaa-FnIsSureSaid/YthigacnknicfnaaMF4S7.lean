import Derived.Test.YthigacnknicfnaaMF4S0
import Derived.Test.YthigacnknicfnaaMF4S1
import Derived.Test.YthigacnknicfnaaMF4S3
import Derived.Test.YthigacnknicfnaaMF4S4
import Derived.Test.YthigacnknicfnaaMF4S6
import Derived.Test.YthigacnknicfnaaMF4S5
import Derived.Test.YthigacnknicfnaaMF4S2
set_option linter.unusedSimpArgs false
set_option linter.unusedVariables false
namespace Go.Proofs.Try
open Go.Ab Go.RowKit
def pre12 : List AV → List AV → Prop := preP [.bytes] [] (fun (code,_) _ => True)
def rel12 : RelS := relP [.bytes] [] (ι := (List EventD) × Int) (fun (code,_) _ (g,mm) => (g.length ≤ 7)) (fun (code,_) _ (g,mm) => (.tup [.sl (.events g),.i mm],[],[]))
abbrev T12 : Tab := lk [(19,fs19)]
theorem tab12 : TabOK prog T12 := (TabOK.cons ok19 ent19 TabOK.nil)
set_option maxRecDepth 100000 in
set_option maxHeartbeats 1000000 in
theorem rok12 : RelOK prog 12 none [.s .bytes] pre12 rel12 := by
 refine RelOK.mk cok func12 rfl rfl rfl ?_
 rintro ⟨(code : List UInt8),_⟩ _ hpre F hnt0
 have hnt : F.nt = 38 := hnt0.trans ntmps12
 clear hpre
 refine W.to (⟨[(0,.sl (.bytes code))],[],[998,999]⟩) rfl ?_
 refine Kk cok tab12 hnt [] [0] (⟨[(0,.sl (.bytes code))],[],[998,999]⟩)
  (True ∧ True ∧ True)
  ⟨tt,tt,tt⟩ ?_
 refine W.seq (W.wi ?_)
 refine WI.runT cok tab12 hnt [] 1 1 (⟨[(0,.sl (.bytes code)),(7,.sl (.bytes code))],[],[998,999]⟩)
  (True ∧ True) (by kernel_rfl) rfl
  ⟨tt,tt⟩ ?_
 refine WI.call [.sl (.bytes code)] [] [.sl (.bytes code)] [.sl (.bytes code)] none (True) (True ∧ True) none rok17 ent17 hnt rfl rfl (wanted_none rfl) (by kernel_rfl) (by kernel_rfl) (by kernel_rfl) ⟨tt,tt,tt⟩
  (@cast (True) _ (by kernel_rfl) trivial) (Or.inl rfl) rfl ?_
 rintro r bl fx2 hR
 obtain ⟨l8,hq8,rfl,rfl,rfl⟩ := (@cast _ (∃ x : (List UInt8),(True) ∧ r = (.ptr 0 0) ∧ bl = ([⟨50,.fix [.sl (.bytes x),.i (0 : Int)]⟩]) ∧ fx2 = ([])) (by kernel_rfl) hR)
 clear hR
 replace hq8 : True := hq8
 refine ⟨by kernel_rfl,WI.to (⟨[(0,.sl (.bytes code)),(7,.sl (.bytes code)),(8,.ptr 8 0)],[(8,⟨50,.fix [.sl (.bytes l8),.i (0 : Int)]⟩)],[8,998,999]⟩) 2 (by kernel_rfl) rfl ?_⟩
 refine WI.runT cok tab12 hnt [] 1 3 (⟨[(0,.sl (.bytes code)),(4,.ptr 8 0),(7,.sl (.bytes code)),(8,.ptr 8 0)],[(8,⟨50,.fix [.sl (.bytes l8),.i (0 : Int)]⟩)],[8,998,999]⟩)
  (True ∧ True) (by kernel_rfl) rfl
  ⟨tt,tt⟩ ?_
 refine WI.nil rfl (thenQ_normal ?_)
 refine W.keepE [4] [(4,.ptr 8 0)] (by kernel_rfl) ?_
 refine W.to (⟨[(4,.ptr 8 0)],[(8,⟨50,.fix [.sl (.bytes l8),.i (0 : Int)]⟩)],[8,998,999]⟩) rfl ?_
 refine W.seq (W.wi ?_)
 refine WI.runT cok tab12 hnt [] 1 1 (⟨[(4,.ptr 8 0),(9,.ptr 8 0)],[(8,⟨50,.fix [.sl (.bytes l8),.i (0 : Int)]⟩)],[8,998,999]⟩)
  (True ∧ True) (by kernel_rfl) rfl
  ⟨tt,tt⟩ ?_
 refine WI.call [.ptr 8 0] [.sl (.bytes l8),.i (0 : Int)] [] [] (some (50,8)) (True) (True) none rok18 ent18 hnt rfl rfl (wanted_none rfl) (by kernel_rfl) (by kernel_rfl) (by kernel_rfl) ⟨tt,tt⟩
  (@cast (0 ≤ (0 : Int) ∧ (0 : Int) ≤ 1000) _ (by kernel_rfl) (by omega)) (Or.inl rfl) rfl ?_
 rintro r bl fx2 hR
 obtain ⟨⟨g10,q10⟩,hq10,rfl,rfl,rfl⟩ := (@cast _ (∃ x : (List EventD) × Int,((x.1.length ≤ 7) ∧ ((0 : Int) ≤ x.2 ∧ x.2 ≤ (0 : Int) + 1000)) ∧ r = (.own 1 (List.length x.1)) ∧ bl = ([⟨47,.row (.events x.1)⟩]) ∧ fx2 = ([.sl (.bytes l8),.i x.2])) (by kernel_rfl) hR)
 clear hR
 replace hq10 : (g10.length ≤ 7) ∧ ((0 : Int) ≤ q10 ∧ q10 ≤ (0 : Int) + 1000) := hq10
 obtain ⟨hg10,hq110⟩ := hq10
 refine ⟨by kernel_rfl,WI.to (⟨[(4,.ptr 8 0),(9,.ptr 8 0),(10,.own 1010 g10.length)],[(8,⟨50,.fix [.sl (.bytes l8),.i q10]⟩),(1010,⟨47,.row (.events g10)⟩)],[1010,10,8,998,999]⟩) 2 (by kernel_rfl) rfl ?_⟩
 refine WI.runT cok tab12 hnt [] 1 3 (⟨[(4,.ptr 8 0),(5,.own 1010 g10.length),(9,.ptr 8 0),(10,.own 1010 g10.length)],[(8,⟨50,.fix [.sl (.bytes l8),.i q10]⟩),(1010,⟨47,.row (.events g10)⟩)],[1010,10,8,998,999]⟩)
  (True ∧ True) (by kernel_rfl) rfl
  ⟨tt,tt⟩ ?_
 refine WI.nil rfl (thenQ_normal ?_)
 refine W.keepE [4,5] [(4,.ptr 8 0),(5,.own 1010 g10.length)] (by kernel_rfl) ?_
 refine W.to (⟨[(4,.ptr 8 0),(5,.own 1010 g10.length)],[(8,⟨50,.fix [.sl (.bytes l8),.i q10]⟩),(1010,⟨47,.row (.events g10)⟩)],[1010,10,8,998,999]⟩) rfl ?_
 refine Kk cok tab12 hnt [] [4,5,6] (⟨[(4,.ptr 8 0),(5,.own 1010 g10.length),(6,.i ((power (min (g10.length : Int) (7 : Int))) - (1 : Int)))],[(8,⟨50,.fix [.sl (.bytes l8),.i q10]⟩),(1010,⟨47,.row (.events g10)⟩)],[1010,10,8,998,999]⟩)
  (True ∧ True ∧ (True ∧ True) ∧ (True ∧ (True ∧ True) ∧ ((min (g10.length : Int) (7 : Int)) ≤ 60)) ∧ (True ∧ True ∧ (Fits .i64 ((power (min (g10.length : Int) (7 : Int))) - (1 : Int)))) ∧ True ∧ True)
  ⟨tt,tt,⟨tt,tt⟩,⟨tt,⟨tt,tt⟩,(by omega)⟩,⟨tt,tt,(by have hp1 := power_le (n := min (g10.length : Int) 7) (by omega); have hp2 := power_pos (min (g10.length : Int) 7); exact fits_i64 (by omega) (by omega))⟩,tt,tt⟩ ?_
 refine W.seq (W.wi ?_)
 refine WI.runT cok tab12 hnt [] 5 5 (⟨[(4,.ptr 8 0),(5,.own 1010 g10.length),(6,.i ((power (min (g10.length : Int) (7 : Int))) - (1 : Int))),(16,.own 1010 g10.length),(17,.ptr 8 0),(18,.ptr 8 0),(19,.i ((power (min (g10.length : Int) (7 : Int))) - (1 : Int))),(20,.i (((power (min (g10.length : Int) (7 : Int))) - (1 : Int)) + (1 : Int)))],[(8,⟨50,.fix [.sl (.bytes l8),.i q10]⟩),(1010,⟨47,.row (.events g10)⟩)],[1010,10,8,998,999]⟩)
  (True ∧ True ∧ True ∧ True ∧ (True ∧ True ∧ (Fits .i64 (((power (min (g10.length : Int) (7 : Int))) - (1 : Int)) + (1 : Int)))) ∧ True) (by kernel_rfl) rfl
  ⟨tt,tt,tt,tt,⟨tt,tt,(by have hp1 := power_le (n := min (g10.length : Int) 7) (by omega); have hp2 := power_pos (min (g10.length : Int) 7); exact fits_i64 (by omega) (by omega))⟩,tt⟩ ?_
 refine WI.call [.ptr 8 0,.i (((power (min (g10.length : Int) (7 : Int))) - (1 : Int)) + (1 : Int))] [.sl (.bytes l8),.i q10] [.i (((power (min (g10.length : Int) (7 : Int))) - (1 : Int)) + (1 : Int))] [.i (((power (min (g10.length : Int) (7 : Int))) - (1 : Int)) + (1 : Int))] (some (50,8)) (True) (True ∧ True) none rok21 ent21 hnt rfl rfl (wanted_none rfl) (by kernel_rfl) (by kernel_rfl) (by kernel_rfl) ⟨tt,tt,tt⟩
  (@cast (0 ≤ q10 ∧ q10 ≤ 1000000) _ (by kernel_rfl) (by omega)) (Or.inl rfl) rfl ?_
 rintro r bl fx2 hR
 obtain ⟨⟨v21,q21⟩,hq21,rfl,rfl,rfl⟩ := (@cast _ (∃ x : Int × Int,((0 ≤ x.1 ∧ x.1 < max (((power (min (g10.length : Int) (7 : Int))) - (1 : Int)) + (1 : Int)) 1) ∧ (x.2 = q10 + 1)) ∧ r = (.i x.1) ∧ bl = ([]) ∧ fx2 = ([.sl (.bytes l8),.i x.2])) (by kernel_rfl) hR)
 clear hR
 replace hq21 : (0 ≤ v21 ∧ v21 < max (((power (min (g10.length : Int) (7 : Int))) - (1 : Int)) + (1 : Int)) 1) ∧ (q21 = q10 + 1) := hq21
 obtain ⟨hv21,hq121⟩ := hq21
 refine ⟨by kernel_rfl,WI.to (⟨[(4,.ptr 8 0),(5,.own 1010 g10.length),(6,.i ((power (min (g10.length : Int) (7 : Int))) - (1 : Int))),(16,.own 1010 g10.length),(17,.ptr 8 0),(18,.ptr 8 0),(19,.i ((power (min (g10.length : Int) (7 : Int))) - (1 : Int))),(20,.i (((power (min (g10.length : Int) (7 : Int))) - (1 : Int)) + (1 : Int))),(21,.i v21)],[(8,⟨50,.fix [.sl (.bytes l8),.i q21]⟩),(1010,⟨47,.row (.events g10)⟩)],[21,1010,10,8,998,999]⟩) 6 (by kernel_rfl) rfl ?_⟩
 refine WI.runT cok tab12 hnt [] 3 9 (⟨[(4,.ptr 8 0),(5,.own 1010 g10.length),(6,.i ((power (min (g10.length : Int) (7 : Int))) - (1 : Int))),(16,.own 1010 g10.length),(17,.ptr 8 0),(18,.ptr 8 0),(19,.i ((power (min (g10.length : Int) (7 : Int))) - (1 : Int))),(20,.i (((power (min (g10.length : Int) (7 : Int))) - (1 : Int)) + (1 : Int))),(21,.i v21),(22,.i ((power (min (g10.length : Int) (7 : Int))) - (1 : Int))),(23,.i ((power (min (g10.length : Int) (7 : Int))) - (1 : Int))),(24,.ptr 8 0)],[(8,⟨50,.fix [.sl (.bytes l8),.i q21]⟩),(1010,⟨47,.row (.events g10)⟩)],[21,1010,10,8,998,999]⟩)
  (True ∧ True ∧ True ∧ True) (by kernel_rfl) rfl
  ⟨tt,tt,tt,tt⟩ ?_
 refine WI.call [.ptr 8 0,.i (256 : Int)] [.sl (.bytes l8),.i q21] [.i (256 : Int)] [.i (256 : Int)] (some (50,8)) (True) (True ∧ True) none rok21 ent21 hnt rfl rfl (wanted_none rfl) (by kernel_rfl) (by kernel_rfl) (by kernel_rfl) ⟨tt,tt,tt⟩
  (@cast (0 ≤ q21 ∧ q21 ≤ 1000000) _ (by kernel_rfl) (by omega)) (Or.inl rfl) rfl ?_
 rintro r bl fx2 hR
 obtain ⟨⟨v25,q25⟩,hq25,rfl,rfl,rfl⟩ := (@cast _ (∃ x : Int × Int,((0 ≤ x.1 ∧ x.1 < max (256 : Int) 1) ∧ (x.2 = q21 + 1)) ∧ r = (.i x.1) ∧ bl = ([]) ∧ fx2 = ([.sl (.bytes l8),.i x.2])) (by kernel_rfl) hR)
 clear hR
 replace hq25 : (0 ≤ v25 ∧ v25 < max (256 : Int) 1) ∧ (q25 = q21 + 1) := hq25
 obtain ⟨hv25,hq125⟩ := hq25
 refine ⟨by kernel_rfl,WI.to (⟨[(4,.ptr 8 0),(5,.own 1010 g10.length),(6,.i ((power (min (g10.length : Int) (7 : Int))) - (1 : Int))),(16,.own 1010 g10.length),(17,.ptr 8 0),(18,.ptr 8 0),(19,.i ((power (min (g10.length : Int) (7 : Int))) - (1 : Int))),(20,.i (((power (min (g10.length : Int) (7 : Int))) - (1 : Int)) + (1 : Int))),(21,.i v21),(22,.i ((power (min (g10.length : Int) (7 : Int))) - (1 : Int))),(23,.i ((power (min (g10.length : Int) (7 : Int))) - (1 : Int))),(24,.ptr 8 0),(25,.i v25)],[(8,⟨50,.fix [.sl (.bytes l8),.i q25]⟩),(1010,⟨47,.row (.events g10)⟩)],[25,21,1010,10,8,998,999]⟩) 10 (by kernel_rfl) rfl ?_⟩
 refine WI.runT cok tab12 hnt [] 3 13 (⟨[(4,.ptr 8 0),(5,.own 1010 g10.length),(6,.i ((power (min (g10.length : Int) (7 : Int))) - (1 : Int))),(16,.own 1010 g10.length),(17,.ptr 8 0),(18,.ptr 8 0),(19,.i ((power (min (g10.length : Int) (7 : Int))) - (1 : Int))),(20,.i (((power (min (g10.length : Int) (7 : Int))) - (1 : Int)) + (1 : Int))),(21,.i v21),(22,.i ((power (min (g10.length : Int) (7 : Int))) - (1 : Int))),(23,.i ((power (min (g10.length : Int) (7 : Int))) - (1 : Int))),(24,.ptr 8 0),(25,.i v25),(26,.i (bitsI .and .i64 ((power (min (g10.length : Int) (7 : Int))) - (1 : Int)) v25)),(27,.i ((power (min (g10.length : Int) (7 : Int))) - (1 : Int))),(28,.ptr 8 0)],[(8,⟨50,.fix [.sl (.bytes l8),.i q25]⟩),(1010,⟨47,.row (.events g10)⟩)],[25,21,1010,10,8,998,999]⟩)
  ((True ∧ True ∧ True) ∧ True ∧ True ∧ True) (by kernel_rfl) rfl
  ⟨⟨tt,tt,tt⟩,tt,tt,tt⟩ ?_
 refine WI.call [.ptr 8 0,.i (256 : Int)] [.sl (.bytes l8),.i q25] [.i (256 : Int)] [.i (256 : Int)] (some (50,8)) (True) (True ∧ True) none rok21 ent21 hnt rfl rfl (wanted_none rfl) (by kernel_rfl) (by kernel_rfl) (by kernel_rfl) ⟨tt,tt,tt⟩
  (@cast (0 ≤ q25 ∧ q25 ≤ 1000000) _ (by kernel_rfl) (by omega)) (Or.inl rfl) rfl ?_
 rintro r bl fx2 hR
 obtain ⟨⟨v29,q29⟩,hq29,rfl,rfl,rfl⟩ := (@cast _ (∃ x : Int × Int,((0 ≤ x.1 ∧ x.1 < max (256 : Int) 1) ∧ (x.2 = q25 + 1)) ∧ r = (.i x.1) ∧ bl = ([]) ∧ fx2 = ([.sl (.bytes l8),.i x.2])) (by kernel_rfl) hR)
 clear hR
 replace hq29 : (0 ≤ v29 ∧ v29 < max (256 : Int) 1) ∧ (q29 = q25 + 1) := hq29
 obtain ⟨hv29,hq129⟩ := hq29
 refine ⟨by kernel_rfl,WI.to (⟨[(4,.ptr 8 0),(5,.own 1010 g10.length),(6,.i ((power (min (g10.length : Int) (7 : Int))) - (1 : Int))),(16,.own 1010 g10.length),(17,.ptr 8 0),(18,.ptr 8 0),(19,.i ((power (min (g10.length : Int) (7 : Int))) - (1 : Int))),(20,.i (((power (min (g10.length : Int) (7 : Int))) - (1 : Int)) + (1 : Int))),(21,.i v21),(22,.i ((power (min (g10.length : Int) (7 : Int))) - (1 : Int))),(23,.i ((power (min (g10.length : Int) (7 : Int))) - (1 : Int))),(24,.ptr 8 0),(25,.i v25),(26,.i (bitsI .and .i64 ((power (min (g10.length : Int) (7 : Int))) - (1 : Int)) v25)),(27,.i ((power (min (g10.length : Int) (7 : Int))) - (1 : Int))),(28,.ptr 8 0),(29,.i v29)],[(8,⟨50,.fix [.sl (.bytes l8),.i q29]⟩),(1010,⟨47,.row (.events g10)⟩)],[29,25,21,1010,10,8,998,999]⟩) 14 (by kernel_rfl) rfl ?_⟩
 refine WI.runT cok tab12 hnt [] 1 15 (⟨[(4,.ptr 8 0),(5,.own 1010 g10.length),(6,.i ((power (min (g10.length : Int) (7 : Int))) - (1 : Int))),(16,.own 1010 g10.length),(17,.ptr 8 0),(18,.ptr 8 0),(19,.i ((power (min (g10.length : Int) (7 : Int))) - (1 : Int))),(20,.i (((power (min (g10.length : Int) (7 : Int))) - (1 : Int)) + (1 : Int))),(21,.i v21),(22,.i ((power (min (g10.length : Int) (7 : Int))) - (1 : Int))),(23,.i ((power (min (g10.length : Int) (7 : Int))) - (1 : Int))),(24,.ptr 8 0),(25,.i v25),(26,.i (bitsI .and .i64 ((power (min (g10.length : Int) (7 : Int))) - (1 : Int)) v25)),(27,.i ((power (min (g10.length : Int) (7 : Int))) - (1 : Int))),(28,.ptr 8 0),(29,.i v29),(30,.ptr 8 0)],[(8,⟨50,.fix [.sl (.bytes l8),.i q29]⟩),(1010,⟨47,.row (.events g10)⟩)],[29,25,21,1010,10,8,998,999]⟩)
  (True ∧ True) (by kernel_rfl) rfl
  ⟨tt,tt⟩ ?_
 refine WI.call [.ptr 8 0,.i (256 : Int)] [.sl (.bytes l8),.i q29] [.i (256 : Int)] [.i (256 : Int)] (some (50,8)) (True) (True ∧ True) none rok21 ent21 hnt rfl rfl (wanted_none rfl) (by kernel_rfl) (by kernel_rfl) (by kernel_rfl) ⟨tt,tt,tt⟩
  (@cast (0 ≤ q29 ∧ q29 ≤ 1000000) _ (by kernel_rfl) (by omega)) (Or.inl rfl) rfl ?_
 rintro r bl fx2 hR
 obtain ⟨⟨v31,q31⟩,hq31,rfl,rfl,rfl⟩ := (@cast _ (∃ x : Int × Int,((0 ≤ x.1 ∧ x.1 < max (256 : Int) 1) ∧ (x.2 = q29 + 1)) ∧ r = (.i x.1) ∧ bl = ([]) ∧ fx2 = ([.sl (.bytes l8),.i x.2])) (by kernel_rfl) hR)
 clear hR
 replace hq31 : (0 ≤ v31 ∧ v31 < max (256 : Int) 1) ∧ (q31 = q29 + 1) := hq31
 obtain ⟨hv31,hq131⟩ := hq31
 refine ⟨by kernel_rfl,WI.to (⟨[(4,.ptr 8 0),(5,.own 1010 g10.length),(6,.i ((power (min (g10.length : Int) (7 : Int))) - (1 : Int))),(16,.own 1010 g10.length),(17,.ptr 8 0),(18,.ptr 8 0),(19,.i ((power (min (g10.length : Int) (7 : Int))) - (1 : Int))),(20,.i (((power (min (g10.length : Int) (7 : Int))) - (1 : Int)) + (1 : Int))),(21,.i v21),(22,.i ((power (min (g10.length : Int) (7 : Int))) - (1 : Int))),(23,.i ((power (min (g10.length : Int) (7 : Int))) - (1 : Int))),(24,.ptr 8 0),(25,.i v25),(26,.i (bitsI .and .i64 ((power (min (g10.length : Int) (7 : Int))) - (1 : Int)) v25)),(27,.i ((power (min (g10.length : Int) (7 : Int))) - (1 : Int))),(28,.ptr 8 0),(29,.i v29),(30,.ptr 8 0),(31,.i v31)],[(8,⟨50,.fix [.sl (.bytes l8),.i q31]⟩),(1010,⟨47,.row (.events g10)⟩)],[31,29,25,21,1010,10,8,998,999]⟩) 16 (by kernel_rfl) rfl ?_⟩
 refine WI.runT cok tab12 hnt [] 5 21 (⟨[(4,.ptr 8 0),(5,.own 1010 g10.length),(6,.i ((power (min (g10.length : Int) (7 : Int))) - (1 : Int))),(16,.own 1010 g10.length),(17,.ptr 8 0),(18,.ptr 8 0),(19,.i ((power (min (g10.length : Int) (7 : Int))) - (1 : Int))),(20,.i (((power (min (g10.length : Int) (7 : Int))) - (1 : Int)) + (1 : Int))),(21,.i v21),(22,.i ((power (min (g10.length : Int) (7 : Int))) - (1 : Int))),(23,.i ((power (min (g10.length : Int) (7 : Int))) - (1 : Int))),(24,.ptr 8 0),(25,.i v25),(26,.i (bitsI .and .i64 ((power (min (g10.length : Int) (7 : Int))) - (1 : Int)) v25)),(27,.i ((power (min (g10.length : Int) (7 : Int))) - (1 : Int))),(28,.ptr 8 0),(29,.i v29),(30,.ptr 8 0),(31,.i v31),(32,.i (bitsI .or .i64 v29 v31)),(33,.i (bitsI .and .i64 ((power (min (g10.length : Int) (7 : Int))) - (1 : Int)) (bitsI .or .i64 v29 v31))),(34,.i ((power (min (g10.length : Int) (7 : Int))) - (1 : Int))),(35,.i (((power (min (g10.length : Int) (7 : Int))) - (1 : Int)) + (1 : Int))),(36,.sl (.ints ([v21,((power (min (g10.length : Int) (7 : Int))) - (1 : Int)),(bitsI .and .i64 ((power (min (g10.length : Int) (7 : Int))) - (1 : Int)) v25),(bitsI .and .i64 ((power (min (g10.length : Int) (7 : Int))) - (1 : Int)) (bitsI .or .i64 v29 v31)),(-1 : Int),(((power (min (g10.length : Int) (7 : Int))) - (1 : Int)) + (1 : Int))])))],[(8,⟨50,.fix [.sl (.bytes l8),.i q31]⟩),(1010,⟨47,.row (.events g10)⟩)],[36,31,29,25,21,1010,10,8,998,999]⟩)
  ((True ∧ True ∧ True) ∧ (True ∧ True ∧ True) ∧ True ∧ (True ∧ True ∧ (Fits .i64 (((power (min (g10.length : Int) (7 : Int))) - (1 : Int)) + (1 : Int)))) ∧ (True ∧ True ∧ True ∧ True ∧ True ∧ True ∧ True) ∧ True) (by kernel_rfl) rfl
  ⟨⟨tt,tt,tt⟩,⟨tt,tt,tt⟩,tt,⟨tt,tt,(by have hp1 := power_le (n := min (g10.length : Int) 7) (by omega); have hp2 := power_pos (min (g10.length : Int) 7); exact fits_i64 (by omega) (by omega))⟩,⟨tt,tt,tt,tt,tt,tt,tt⟩,tt⟩ ?_
 refine WI.call [.ptr 8 0,.sl (.ints ([v21,((power (min (g10.length : Int) (7 : Int))) - (1 : Int)),(bitsI .and .i64 ((power (min (g10.length : Int) (7 : Int))) - (1 : Int)) v25),(bitsI .and .i64 ((power (min (g10.length : Int) (7 : Int))) - (1 : Int)) (bitsI .or .i64 v29 v31)),(-1 : Int),(((power (min (g10.length : Int) (7 : Int))) - (1 : Int)) + (1 : Int))]))] [.sl (.bytes l8),.i q31] [.sl (.ints ([v21,((power (min (g10.length : Int) (7 : Int))) - (1 : Int)),(bitsI .and .i64 ((power (min (g10.length : Int) (7 : Int))) - (1 : Int)) v25),(bitsI .and .i64 ((power (min (g10.length : Int) (7 : Int))) - (1 : Int)) (bitsI .or .i64 v29 v31)),(-1 : Int),(((power (min (g10.length : Int) (7 : Int))) - (1 : Int)) + (1 : Int))]))] [.sl (.ints ([v21,((power (min (g10.length : Int) (7 : Int))) - (1 : Int)),(bitsI .and .i64 ((power (min (g10.length : Int) (7 : Int))) - (1 : Int)) v25),(bitsI .and .i64 ((power (min (g10.length : Int) (7 : Int))) - (1 : Int)) (bitsI .or .i64 v29 v31)),(-1 : Int),(((power (min (g10.length : Int) (7 : Int))) - (1 : Int)) + (1 : Int))]))] (some (50,8)) (True) (True ∧ True) none rok20 ent20 hnt rfl rfl (wanted_none rfl) (by kernel_rfl) (by kernel_rfl) (by kernel_rfl) ⟨tt,tt,tt⟩
  (@cast ((0 ≤ q31 ∧ q31 ≤ 1000000) ∧ (0 < ([v21,((power (min (g10.length : Int) (7 : Int))) - (1 : Int)),(bitsI .and .i64 ((power (min (g10.length : Int) (7 : Int))) - (1 : Int)) v25),(bitsI .and .i64 ((power (min (g10.length : Int) (7 : Int))) - (1 : Int)) (bitsI .or .i64 v29 v31)),(-1 : Int),(((power (min (g10.length : Int) (7 : Int))) - (1 : Int)) + (1 : Int))]).length) ∧ (([v21,((power (min (g10.length : Int) (7 : Int))) - (1 : Int)),(bitsI .and .i64 ((power (min (g10.length : Int) (7 : Int))) - (1 : Int)) v25),(bitsI .and .i64 ((power (min (g10.length : Int) (7 : Int))) - (1 : Int)) (bitsI .or .i64 v29 v31)),(-1 : Int),(((power (min (g10.length : Int) (7 : Int))) - (1 : Int)) + (1 : Int))]).length ≤ 1000)) _ (by kernel_rfl) ⟨(by omega),⟨(by (first | omega | (simp only [List.length_set]; done) | (simp only [List.length_append,List.length_cons,List.length_nil,List.length_take,List.length_drop,List.length_set,List.length_replicate,List.length_map] at *; omega) | assumption)),(by (first | omega | (simp only [List.length_set]; done) | (simp only [List.length_append,List.length_cons,List.length_nil,List.length_take,List.length_drop,List.length_set,List.length_replicate,List.length_map] at *; omega) | assumption))⟩⟩) (Or.inl rfl) rfl ?_
 rintro r bl fx2 hR
 obtain ⟨⟨v37,q37⟩,hq37,rfl,rfl,rfl⟩ := (@cast _ (∃ x : Int × Int,((x.1 ∈ ([v21,((power (min (g10.length : Int) (7 : Int))) - (1 : Int)),(bitsI .and .i64 ((power (min (g10.length : Int) (7 : Int))) - (1 : Int)) v25),(bitsI .and .i64 ((power (min (g10.length : Int) (7 : Int))) - (1 : Int)) (bitsI .or .i64 v29 v31)),(-1 : Int),(((power (min (g10.length : Int) (7 : Int))) - (1 : Int)) + (1 : Int))])) ∧ (x.2 = q31 + 1)) ∧ r = (.i x.1) ∧ bl = ([]) ∧ fx2 = ([.sl (.bytes l8),.i x.2])) (by kernel_rfl) hR)
 clear hR
 replace hq37 : (v37 ∈ ([v21,((power (min (g10.length : Int) (7 : Int))) - (1 : Int)),(bitsI .and .i64 ((power (min (g10.length : Int) (7 : Int))) - (1 : Int)) v25),(bitsI .and .i64 ((power (min (g10.length : Int) (7 : Int))) - (1 : Int)) (bitsI .or .i64 v29 v31)),(-1 : Int),(((power (min (g10.length : Int) (7 : Int))) - (1 : Int)) + (1 : Int))])) ∧ (q37 = q31 + 1) := hq37
 obtain ⟨hv37,hq137⟩ := hq37
 simp only [List.mem_cons,List.not_mem_nil,or_false] at hv37
 refine ⟨by kernel_rfl,WI.to (⟨[(4,.ptr 8 0),(5,.own 1010 g10.length),(6,.i ((power (min (g10.length : Int) (7 : Int))) - (1 : Int))),(16,.own 1010 g10.length),(17,.ptr 8 0),(18,.ptr 8 0),(19,.i ((power (min (g10.length : Int) (7 : Int))) - (1 : Int))),(20,.i (((power (min (g10.length : Int) (7 : Int))) - (1 : Int)) + (1 : Int))),(21,.i v21),(22,.i ((power (min (g10.length : Int) (7 : Int))) - (1 : Int))),(23,.i ((power (min (g10.length : Int) (7 : Int))) - (1 : Int))),(24,.ptr 8 0),(25,.i v25),(26,.i (bitsI .and .i64 ((power (min (g10.length : Int) (7 : Int))) - (1 : Int)) v25)),(27,.i ((power (min (g10.length : Int) (7 : Int))) - (1 : Int))),(28,.ptr 8 0),(29,.i v29),(30,.ptr 8 0),(31,.i v31),(32,.i (bitsI .or .i64 v29 v31)),(33,.i (bitsI .and .i64 ((power (min (g10.length : Int) (7 : Int))) - (1 : Int)) (bitsI .or .i64 v29 v31))),(34,.i ((power (min (g10.length : Int) (7 : Int))) - (1 : Int))),(35,.i (((power (min (g10.length : Int) (7 : Int))) - (1 : Int)) + (1 : Int))),(36,.sl (.ints ([v21,((power (min (g10.length : Int) (7 : Int))) - (1 : Int)),(bitsI .and .i64 ((power (min (g10.length : Int) (7 : Int))) - (1 : Int)) v25),(bitsI .and .i64 ((power (min (g10.length : Int) (7 : Int))) - (1 : Int)) (bitsI .or .i64 v29 v31)),(-1 : Int),(((power (min (g10.length : Int) (7 : Int))) - (1 : Int)) + (1 : Int))]))),(37,.i v37)],[(8,⟨50,.fix [.sl (.bytes l8),.i q37]⟩),(1010,⟨47,.row (.events g10)⟩)],[37,36,31,29,25,21,1010,10,8,998,999]⟩) 22 (by kernel_rfl) rfl ?_⟩
 refine WI.runT cok tab12 hnt [] 2 24 (⟨[(2,.own 1010 g10.length),(3,.i v37),(4,.ptr 8 0),(5,.own 1010 g10.length),(6,.i ((power (min (g10.length : Int) (7 : Int))) - (1 : Int))),(16,.own 1010 g10.length),(17,.ptr 8 0),(18,.ptr 8 0),(19,.i ((power (min (g10.length : Int) (7 : Int))) - (1 : Int))),(20,.i (((power (min (g10.length : Int) (7 : Int))) - (1 : Int)) + (1 : Int))),(21,.i v21),(22,.i ((power (min (g10.length : Int) (7 : Int))) - (1 : Int))),(23,.i ((power (min (g10.length : Int) (7 : Int))) - (1 : Int))),(24,.ptr 8 0),(25,.i v25),(26,.i (bitsI .and .i64 ((power (min (g10.length : Int) (7 : Int))) - (1 : Int)) v25)),(27,.i ((power (min (g10.length : Int) (7 : Int))) - (1 : Int))),(28,.ptr 8 0),(29,.i v29),(30,.ptr 8 0),(31,.i v31),(32,.i (bitsI .or .i64 v29 v31)),(33,.i (bitsI .and .i64 ((power (min (g10.length : Int) (7 : Int))) - (1 : Int)) (bitsI .or .i64 v29 v31))),(34,.i ((power (min (g10.length : Int) (7 : Int))) - (1 : Int))),(35,.i (((power (min (g10.length : Int) (7 : Int))) - (1 : Int)) + (1 : Int))),(36,.sl (.ints ([v21,((power (min (g10.length : Int) (7 : Int))) - (1 : Int)),(bitsI .and .i64 ((power (min (g10.length : Int) (7 : Int))) - (1 : Int)) v25),(bitsI .and .i64 ((power (min (g10.length : Int) (7 : Int))) - (1 : Int)) (bitsI .or .i64 v29 v31)),(-1 : Int),(((power (min (g10.length : Int) (7 : Int))) - (1 : Int)) + (1 : Int))]))),(37,.i v37)],[(8,⟨50,.fix [.sl (.bytes l8),.i q37]⟩),(1010,⟨47,.row (.events g10)⟩)],[37,36,31,29,25,21,1010,10,8,998,999]⟩)
  (True ∧ True ∧ True) (by kernel_rfl) rfl
  ⟨tt,tt,tt⟩ ?_
 refine WI.nil rfl (thenQ_normal ?_)
 refine W.keepE [2,3] [(2,.own 1010 g10.length),(3,.i v37)] (by kernel_rfl) ?_
 refine W.to (⟨[(2,.own 1010 g10.length),(3,.i v37)],[(8,⟨50,.fix [.sl (.bytes l8),.i q37]⟩),(1010,⟨47,.row (.events g10)⟩)],[37,36,31,29,25,21,1010,10,8,998,999]⟩) rfl ?_
 refine W.ret ?_
 exact endP_ret (g10,v37) (show (g10.length ≤ 7) from (by first | assumption | omega | rfl | (simp; done) | (simp; omega))) [] (.tup [.own 1010 g10.length,.i v37]) (by kernel_rfl) (@cast ((((g10.length = g10.length) ∧ (Sd (.events g10)) ∧ ((1010 : Nat) ∉ ([] : List Nat))) ∧ (Si v37) ∧ True) ∧ True ∧ (true = true) ∧ True ∧ (false = true → (0 : Nat) = 998)) _ (by kernel_rfl) ⟨⟨⟨rfl,rfl,(by decide)⟩,rfl,tt⟩,tt,rfl,tt,(fun h => by cases h)⟩)
theorem ent12 : Entr prog 12 := ⟨_,func12,rfl,by decide⟩
end Go.Proofs.Try

set_option linter.unusedSimpArgs false
set_option linter.unusedVariables false
namespace Go.Proofs.Try
open Go.Ab Go.RowKit
def fs4 : FnS := fnS [.s .bytes] [.bytes] (fun _ (code,_) => (.b true,[],True))
abbrev T4 : Tab := lk [(6,fs6),(10,fs10),(13,fs13),(14,fs14),(15,fs15),(16,fs16)]
theorem tab4 : TabOK prog T4 := (TabOK.cons ok6 ent6 (TabOK.cons ok10 ent10 (TabOK.cons ok13 ent13 (TabOK.cons ok14 ent14 (TabOK.cons ok15 ent15 (TabOK.cons ok16 ent16 TabOK.nil))))))
set_option maxRecDepth 100000 in
set_option maxHeartbeats 1000000 in
theorem ok4 : FnOK prog 4 fs4 := by
 refine FnOK.mk cok func4 rfl rfl rfl ?_
 rintro fl ⟨(code : List UInt8),_⟩ hpre F hnt0 _
 have hnt : F.nt = 60 := hnt0.trans ntmps4
 clear hpre
 refine W.to (⟨[(0,.sl (.bytes code))],[],[999]⟩) rfl ?_
 refine W.lenOf 0 (.bytes code) (by kernel_rfl) ?_
 intro hl_code; replace hl_code : List.length code ≤ 9223372036854775807 := hl_code
 refine Kk cok tab4 hnt [] [0] (⟨[(0,.sl (.bytes code))],[],[999]⟩)
  (True ∧ True)
  ⟨tt,tt⟩ ?_
 refine W.seq ?_
 refine Kk cok tab4 hnt [] [0,9] (⟨[(0,.sl (.bytes code)),(9,.b (decide ((1048576 : Int) < (code.length : Int))))],[],[999]⟩)
  (True ∧ True ∧ (True ∧ True ∧ True) ∧ True)
  ⟨tt,tt,⟨tt,tt,tt⟩,tt⟩ ?_
 refine W.ifP ((1048576 : Int) < (code.length : Int)) (.b (decide ((1048576 : Int) < (code.length : Int)))) (by kernel_rfl) rfl trivial ?_ ?_
 ·intro h9
  refine Kk cok tab4 hnt [] [2] (⟨[(2,.b true)],[],[999]⟩)
   (True ∧ True)
   ⟨tt,tt⟩ ?_
  refine W.ret (thenQ_ret ?_)
  exact endQ_ret (.b true) (by kernel_rfl) (@cast (Sv (.bool true)) _ (by kernel_rfl) rfl)
 ·intro n9
  refine W.skip (thenQ_normal ?_)
  refine W.seq (W.wi ?_)
  refine WI.runT cok tab4 hnt [] 1 1 (⟨[(0,.sl (.bytes code)),(9,.b (decide ((1048576 : Int) < (code.length : Int)))),(11,.sl (.bytes code))],[],[999]⟩)
   (True ∧ True) (by kernel_rfl) rfl
   ⟨tt,tt⟩ ?_
  refine WI.call [.sl (.bytes code)] [] [.sl (.bytes code)] [.sl (.bytes code)] none (True) (True ∧ True) none rok12 ent12 hnt rfl rfl (wanted_none rfl) (by kernel_rfl) (by kernel_rfl) (by kernel_rfl) ⟨tt,tt,tt⟩
   (@cast (True) _ (by kernel_rfl) trivial) (Or.inl rfl) rfl ?_
  rintro r bl fx2 hR
  obtain ⟨⟨g12,mm12⟩,hq12,rfl,rfl,rfl⟩ := (@cast _ (∃ x : (List EventD) × Int,((x.1.length ≤ 7)) ∧ r = (.tup [.sl (.events x.1),.i x.2]) ∧ bl = ([]) ∧ fx2 = ([])) (by kernel_rfl) hR)
  clear hR
  replace hq12 : (g12.length ≤ 7) := hq12
  have hg12 := hq12
  refine ⟨by kernel_rfl,WI.to (⟨[(0,.sl (.bytes code)),(9,.b (decide ((1048576 : Int) < (code.length : Int)))),(11,.sl (.bytes code)),(12,.tup [.sl (.events g12),.i mm12])],[],[999]⟩) 2 (by kernel_rfl) rfl ?_⟩
  refine WI.runT cok tab4 hnt [] 5 7 (⟨[(0,.sl (.bytes code)),(3,.sl (.events g12)),(4,.i mm12),(9,.b (decide ((1048576 : Int) < (code.length : Int)))),(10,.tup [.sl (.events g12),.i mm12]),(11,.sl (.bytes code)),(12,.tup [.sl (.events g12),.i mm12]),(13,.sl (.events g12)),(14,.i mm12)],[],[999]⟩)
   (True ∧ True ∧ True ∧ True ∧ True ∧ True) (by kernel_rfl) rfl
   ⟨tt,tt,tt,tt,tt,tt⟩ ?_
  refine WI.nil rfl (thenQ_normal ?_)
  refine W.keepE [3,4] [(3,.sl (.events g12)),(4,.i mm12)] (by kernel_rfl) ?_
  refine W.to (⟨[(3,.sl (.events g12)),(4,.i mm12)],[],[999]⟩) rfl ?_
  refine Kk cok tab4 hnt [] [3,4,5] (⟨[(3,.sl (.events g12)),(4,.i mm12),(5,.b (sureE g12 mm12))],[],[999]⟩)
   (True ∧ True ∧ (True ∧ (True ∧ True ∧ True) ∧ True) ∧ True ∧ True)
   ⟨tt,tt,⟨tt,⟨tt,tt,tt⟩,tt⟩,tt,tt⟩ ?_
  refine W.seq ?_
  refine Kk cok tab4 hnt [] [3,4,5,27] (⟨[(3,.sl (.events g12)),(4,.i mm12),(5,.b (sureE g12 mm12)),(27,.b (((sureE g12 mm12) != (sureE g12 mm12)) || (!(validE g12))))],[],[999]⟩)
   ((fun (Z1:Bool)=>(True ∧ (True ∧ (True ∧ ((True ∧ ((True ∧ (True ∧ True)) ∧ True)) ∧ ((True ∧ True) ∧ (True ∧ (((!Z1) = true → True) ∧ (((!Z1) = true → (True ∧ (((((!Z1) = true) ∧ True) ∧ True) ∧ True))) ∧ (((!Z1) = true → (((!Z1) = true) ∧ True)) ∧ ((True ∧ ((Z1 = true → True) ∧ (Z1 = false → ((!Z1) = true) ∧ True))) ∧ True))))))))))) ((sureE g12 mm12) != (sureE g12 mm12)))
   ⟨tt,tt,tt,⟨tt,⟨tt,tt,tt⟩,tt⟩,⟨tt,tt⟩,tt,(fun _ => trivial),(fun hG => ⟨tt,⟨⟨hG,tt⟩,tt⟩,tt⟩),(fun hG => ⟨hG,tt⟩),⟨tt,(fun _ => trivial),(fun hp => ⟨(not_t hp),tt⟩)⟩,tt⟩ ?_
  refine W.if' (((sureE g12 mm12) != (sureE g12 mm12)) || (!(validE g12))) (.b (((sureE g12 mm12) != (sureE g12 mm12)) || (!(validE g12)))) (by kernel_rfl) rfl trivial ?_ ?_
  ·intro h27
   refine Kk cok tab4 hnt [] [2] (⟨[(2,.b ((sureE g12 mm12) == (sureE g12 mm12)))],[],[999]⟩)
    (True ∧ True ∧ True ∧ (True ∧ (True ∧ True ∧ True) ∧ True) ∧ (True ∧ True) ∧ True ∧ True)
    ⟨tt,tt,tt,⟨tt,⟨tt,tt,tt⟩,tt⟩,⟨tt,tt⟩,tt,tt⟩ ?_
   refine W.ret (thenQ_ret ?_)
   exact endQ_ret (.b ((sureE g12 mm12) == (sureE g12 mm12))) (by kernel_rfl) (@cast ((.bool ((sureE g12 mm12) == (sureE g12 mm12)) : Value) = .bool true) _ (by kernel_rfl) (congrArg Value.bool (by simp)))
  ·intro n27
   refine W.skip (thenQ_normal ?_)
   refine Kk cok tab4 hnt [] [3,5,6] (⟨[(3,.sl (.events g12)),(5,.b (sureE g12 mm12)),(6,.sl (.ints (mkCuts g12 mm12)))],[],[999]⟩)
    (True ∧ True ∧ (True ∧ (True ∧ True ∧ True) ∧ True) ∧ True ∧ True)
    ⟨tt,tt,⟨tt,⟨tt,tt,tt⟩,tt⟩,tt,tt⟩ ?_
   refine Kk cok tab4 hnt [] [2] (⟨[(2,.b (((!(sureE g12 mm12)) || (decide ((0 : Int) < (((List.length (mkCuts g12 mm12)) : Nat) : Int)))) && (((sureE g12 mm12) || (!(hasInt (mkCuts g12 mm12) ((power (g12.length : Int)) - (1 : Int))))) || (decide ((g12.length : Int) = (0 : Int))))))],[],[999]⟩)
    ((fun (Z1:Bool)=>((fun (Z2:Bool)=>((fun (Z3:Bool)=>((fun (Z4:Bool)=>((fun (Z5:Bool)=>((fun (Z6:Bool)=>(True ∧ (True ∧ (True ∧ (((!Z2) = true → True) ∧ (((!Z2) = true → (((!Z2) = true) ∧ True)) ∧ (((!Z2) = true → ((((!Z2) = true) ∧ True) ∧ (True ∧ True))) ∧ ((True ∧ ((Z2 = true → True) ∧ (Z2 = false → ((!Z2) = true) ∧ True))) ∧ (True ∧ ((Z3 = true → True) ∧ ((Z3 = true → True) ∧ ((Z4 = true → True) ∧ ((Z4 = true → True) ∧ ((Z4 = true → ((Z4 = true) ∧ True)) ∧ ((Z4 = true → (True ∧ ((((Z4 = true) ∧ True) ∧ True) ∧ ((g12.length : Int) ≤ 60)))) ∧ ((Z4 = true → (((Z4 = true) ∧ True) ∧ (True ∧ (Fits .i64 ((power (g12.length : Int)) - (1 : Int)))))) ∧ ((Z4 = true → (True ∧ ((((Z4 = true) ∧ True) ∧ (((Z4 = true) ∧ True) ∧ True)) ∧ True))) ∧ ((Z4 = true → ((Z4 = true) ∧ True)) ∧ ((Z3 = true → (((Z3 = true) ∧ ((Z3 = true) ∧ True)) ∧ ((Z1 = true → True) ∧ (Z1 = false → (Z4 = true) ∧ True)))) ∧ ((Z3 = true → True) ∧ ((Z6 = true → True) ∧ ((Z6 = true → ((Z6 = true) ∧ True)) ∧ ((Z6 = true → (((Z6 = true) ∧ True) ∧ (True ∧ True))) ∧ ((Z3 = true → (((Z3 = true) ∧ ((Z3 = true) ∧ True)) ∧ ((Z5 = true → True) ∧ (Z5 = false → (Z6 = true) ∧ True)))) ∧ ((True ∧ ((Z3 = true → (Z3 = true) ∧ True) ∧ (Z3 = false → True))) ∧ (True ∧ True)))))))))))))))))))))))))) (Z3 && (Z3 && (!Z5))))) (Z1 || (!(hasInt (mkCuts g12 mm12) ((power (g12.length : Int)) - (1 : Int))))))) (Z3 && (Z3 && Z2)))) (Z2 || (decide ((0 : Int) < (((List.length (mkCuts g12 mm12)) : Nat) : Int)))))) (!Z1))) (sureE g12 mm12))
    ⟨tt,tt,tt,(fun _ => trivial),(fun hG => ⟨hG,tt⟩),(fun hG => ⟨⟨hG,tt⟩,tt,tt⟩),⟨tt,(fun _ => trivial),(fun hp => ⟨(not_t hp),tt⟩)⟩,tt,(fun _ => trivial),(fun _ => trivial),(fun _ => trivial),(fun _ => trivial),(fun hG => ⟨hG,tt⟩),(fun hG => ⟨tt,⟨⟨hG,tt⟩,tt⟩,(by omega)⟩),(fun hG => ⟨⟨hG,tt⟩,tt,(by have hp7 := Nat.pow_le_pow_right (show 0 < 2 by omega) hg12; have hp0 := Nat.pow_pos (n := g12.length) (show 0 < 2 by omega); rw [power_nat]; exact fits_i64 (by omega) (by omega))⟩),(fun hG => ⟨tt,⟨⟨hG,tt⟩,⟨hG,tt⟩,tt⟩,tt⟩),(fun hG => ⟨hG,tt⟩),(fun hG => ⟨⟨hG,hG,tt⟩,(fun _ => trivial),(fun hp => ⟨(and_t hG (and_t hG (not_t hp))),tt⟩)⟩),(fun _ => trivial),(fun _ => trivial),(fun hG => ⟨hG,tt⟩),(fun hG => ⟨⟨hG,tt⟩,tt,tt⟩),(fun hG => ⟨⟨hG,hG,tt⟩,(fun _ => trivial),(fun hp => ⟨(and_t hG (and_t hG (not_t hp))),tt⟩)⟩),⟨tt,(fun hp => ⟨hp,tt⟩),(fun _ => trivial)⟩,tt,tt⟩ ?_
   refine W.ret ?_
   exact endQ_ret (.b (((!(sureE g12 mm12)) || (decide ((0 : Int) < (((List.length (mkCuts g12 mm12)) : Nat) : Int)))) && (((sureE g12 mm12) || (!(hasInt (mkCuts g12 mm12) ((power (g12.length : Int)) - (1 : Int))))) || (decide ((g12.length : Int) = (0 : Int)))))) (by kernel_rfl) (@cast ((.bool (((!(sureE g12 mm12)) || (decide ((0 : Int) < (((List.length (mkCuts g12 mm12)) : Nat) : Int)))) && (((sureE g12 mm12) || (!(hasInt (mkCuts g12 mm12) ((power (g12.length : Int)) - (1 : Int))))) || (decide ((g12.length : Int) = (0 : Int))))) : Value) = .bool true) _ (by kernel_rfl) (congrArg Value.bool (by exact sure_law (not_g (or_r n27)))))
end Go.Proofs.Try
