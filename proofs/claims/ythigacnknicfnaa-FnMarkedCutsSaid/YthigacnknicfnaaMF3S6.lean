import Derived.Test.YthigacnknicfnaaMF3S0
import Derived.Test.YthigacnknicfnaaMF3S2
import Derived.Test.YthigacnknicfnaaMF3S4
import Derived.Test.YthigacnknicfnaaMF3S5
import Derived.Test.YthigacnknicfnaaMF3S3
import Derived.Test.YthigacnknicfnaaMF3S1
set_option linter.unusedSimpArgs false
set_option linter.unusedVariables false
namespace Go.Proofs.Try
open Go.Ab Go.RowKit
def pre5 : List AV → List AV → Prop := preP [.bytes] [] (fun (code,_) _ => True)
def rel5 : RelS := relP [.bytes] [] (ι := (List EventD) × Int) (fun (code,_) _ (g,mm) => (g.length ≤ 7)) (fun (code,_) _ (g,mm) => (.tup [.sl (.events g),.i mm],[],[]))
abbrev T5 : Tab := lk [(19,fs19)]
theorem tab5 : TabOK prog T5 := (TabOK.cons ok19 ent19 TabOK.nil)
set_option maxRecDepth 100000 in
set_option maxHeartbeats 1000000 in
theorem rok5 : RelOK prog 5 none [.s .bytes] pre5 rel5 := by
 refine RelOK.mk cok func5 rfl rfl rfl ?_
 rintro ⟨(code : List UInt8),_⟩ _ hpre F hnt0
 have hnt : F.nt = 38 := hnt0.trans ntmps5
 clear hpre
 refine W.to (⟨[(0,.sl (.bytes code))],[],[998,999]⟩) rfl ?_
 refine Kk cok tab5 hnt [] [0] (⟨[(0,.sl (.bytes code))],[],[998,999]⟩)
  (True ∧ True ∧ True)
  ⟨tt,tt,tt⟩ ?_
 refine W.seq (W.wi ?_)
 refine WI.runT cok tab5 hnt [] 1 1 (⟨[(0,.sl (.bytes code)),(7,.sl (.bytes code))],[],[998,999]⟩)
  (True ∧ True) (by kernel_rfl) rfl
  ⟨tt,tt⟩ ?_
 refine WI.call [.sl (.bytes code)] [] [.sl (.bytes code)] [.sl (.bytes code)] none (True) (True ∧ True) none rok17 ent17 hnt rfl rfl (wanted_none rfl) (by kernel_rfl) (by kernel_rfl) (by kernel_rfl) ⟨tt,tt,tt⟩
  (@cast (True) _ (by kernel_rfl) trivial) (Or.inl rfl) rfl ?_
 rintro r bl fx2 hR
 obtain ⟨l8,hq8,rfl,rfl,rfl⟩ := (@cast _ (∃ x : (List UInt8),(True) ∧ r = (.ptr 0 0) ∧ bl = ([⟨50,.fix [.sl (.bytes x),.i (0 : Int)]⟩]) ∧ fx2 = ([])) (by kernel_rfl) hR)
 clear hR
 replace hq8 : True := hq8
 refine ⟨by kernel_rfl,WI.to (⟨[(0,.sl (.bytes code)),(7,.sl (.bytes code)),(8,.ptr 8 0)],[(8,⟨50,.fix [.sl (.bytes l8),.i (0 : Int)]⟩)],[8,998,999]⟩) 2 (by kernel_rfl) rfl ?_⟩
 refine WI.runT cok tab5 hnt [] 1 3 (⟨[(0,.sl (.bytes code)),(4,.ptr 8 0),(7,.sl (.bytes code)),(8,.ptr 8 0)],[(8,⟨50,.fix [.sl (.bytes l8),.i (0 : Int)]⟩)],[8,998,999]⟩)
  (True ∧ True) (by kernel_rfl) rfl
  ⟨tt,tt⟩ ?_
 refine WI.nil rfl (thenQ_normal ?_)
 refine W.keepE [4] [(4,.ptr 8 0)] (by kernel_rfl) ?_
 refine W.to (⟨[(4,.ptr 8 0)],[(8,⟨50,.fix [.sl (.bytes l8),.i (0 : Int)]⟩)],[8,998,999]⟩) rfl ?_
 refine W.seq (W.wi ?_)
 refine WI.runT cok tab5 hnt [] 1 1 (⟨[(4,.ptr 8 0),(9,.ptr 8 0)],[(8,⟨50,.fix [.sl (.bytes l8),.i (0 : Int)]⟩)],[8,998,999]⟩)
  (True ∧ True) (by kernel_rfl) rfl
  ⟨tt,tt⟩ ?_
 refine WI.call [.ptr 8 0] [.sl (.bytes l8),.i (0 : Int)] [] [] (some (50,8)) (True) (True) none rok18 ent18 hnt rfl rfl (wanted_none rfl) (by kernel_rfl) (by kernel_rfl) (by kernel_rfl) ⟨tt,tt⟩
  (@cast (0 ≤ (0 : Int) ∧ (0 : Int) ≤ 1000) _ (by kernel_rfl) (by omega)) (Or.inl rfl) rfl ?_
 rintro r bl fx2 hR
 obtain ⟨⟨g10,q10⟩,hq10,rfl,rfl,rfl⟩ := (@cast _ (∃ x : (List EventD) × Int,((x.1.length ≤ 7) ∧ ((0 : Int) ≤ x.2 ∧ x.2 ≤ (0 : Int) + 1000)) ∧ r = (.own 1 (List.length x.1)) ∧ bl = ([⟨47,.row (.events x.1)⟩]) ∧ fx2 = ([.sl (.bytes l8),.i x.2])) (by kernel_rfl) hR)
 clear hR
 replace hq10 : (g10.length ≤ 7) ∧ ((0 : Int) ≤ q10 ∧ q10 ≤ (0 : Int) + 1000) := hq10
 obtain ⟨hg10,hq110⟩ := hq10
 refine ⟨by kernel_rfl,WI.to (⟨[(4,.ptr 8 0),(9,.ptr 8 0),(10,.own 1010 g10.length)],[(8,⟨50,.fix [.sl (.bytes l8),.i q10]⟩),(1010,⟨47,.row (.events g10)⟩)],[1010,10,8,998,999]⟩) 2 (by kernel_rfl) rfl ?_⟩
 refine WI.runT cok tab5 hnt [] 1 3 (⟨[(4,.ptr 8 0),(5,.own 1010 g10.length),(9,.ptr 8 0),(10,.own 1010 g10.length)],[(8,⟨50,.fix [.sl (.bytes l8),.i q10]⟩),(1010,⟨47,.row (.events g10)⟩)],[1010,10,8,998,999]⟩)
  (True ∧ True) (by kernel_rfl) rfl
  ⟨tt,tt⟩ ?_
 refine WI.nil rfl (thenQ_normal ?_)
 refine W.keepE [4,5] [(4,.ptr 8 0),(5,.own 1010 g10.length)] (by kernel_rfl) ?_
 refine W.to (⟨[(4,.ptr 8 0),(5,.own 1010 g10.length)],[(8,⟨50,.fix [.sl (.bytes l8),.i q10]⟩),(1010,⟨47,.row (.events g10)⟩)],[1010,10,8,998,999]⟩) rfl ?_
 refine Kk cok tab5 hnt [] [4,5,6] (⟨[(4,.ptr 8 0),(5,.own 1010 g10.length),(6,.i ((power (min (g10.length : Int) (7 : Int))) - (1 : Int)))],[(8,⟨50,.fix [.sl (.bytes l8),.i q10]⟩),(1010,⟨47,.row (.events g10)⟩)],[1010,10,8,998,999]⟩)
  (True ∧ True ∧ (True ∧ True) ∧ (True ∧ (True ∧ True) ∧ ((min (g10.length : Int) (7 : Int)) ≤ 60)) ∧ (True ∧ True ∧ (Fits .i64 ((power (min (g10.length : Int) (7 : Int))) - (1 : Int)))) ∧ True ∧ True)
  ⟨tt,tt,⟨tt,tt⟩,⟨tt,⟨tt,tt⟩,(by omega)⟩,⟨tt,tt,(by have hp1 := power_le (n := min (g10.length : Int) 7) (by omega); have hp2 := power_pos (min (g10.length : Int) 7); exact fits_i64 (by omega) (by omega))⟩,tt,tt⟩ ?_
 refine W.seq (W.wi ?_)
 refine WI.runT cok tab5 hnt [] 5 5 (⟨[(4,.ptr 8 0),(5,.own 1010 g10.length),(6,.i ((power (min (g10.length : Int) (7 : Int))) - (1 : Int))),(16,.own 1010 g10.length),(17,.ptr 8 0),(18,.ptr 8 0),(19,.i ((power (min (g10.length : Int) (7 : Int))) - (1 : Int))),(20,.i (((power (min (g10.length : Int) (7 : Int))) - (1 : Int)) + (1 : Int)))],[(8,⟨50,.fix [.sl (.bytes l8),.i q10]⟩),(1010,⟨47,.row (.events g10)⟩)],[1010,10,8,998,999]⟩)
  (True ∧ True ∧ True ∧ True ∧ (True ∧ True ∧ (Fits .i64 (((power (min (g10.length : Int) (7 : Int))) - (1 : Int)) + (1 : Int)))) ∧ True) (by kernel_rfl) rfl
  ⟨tt,tt,tt,tt,⟨tt,tt,(by have hp1 := power_le (n := min (g10.length : Int) 7) (by omega); have hp2 := power_pos (min (g10.length : Int) 7); exact fits_i64 (by omega) (by omega))⟩,tt⟩ ?_
 refine WI.call [.ptr 8 0,.i (((power (min (g10.length : Int) (7 : Int))) - (1 : Int)) + (1 : Int))] [.sl (.bytes l8),.i q10] [.i (((power (min (g10.length : Int) (7 : Int))) - (1 : Int)) + (1 : Int))] [.i (((power (min (g10.length : Int) (7 : Int))) - (1 : Int)) + (1 : Int))] (some (50,8)) (True) (True ∧ True) none rok21 ent21 hnt rfl rfl (wanted_none rfl) (by kernel_rfl) (by kernel_rfl) (by kernel_rfl) ⟨tt,tt,tt⟩
  (@cast (0 ≤ q10 ∧ q10 ≤ 1000000) _ (by kernel_rfl) (by omega)) (Or.inl rfl) rfl ?_
 rintro r bl fx2 hR
 obtain ⟨⟨v21,q21⟩,hq21,rfl,rfl,rfl⟩ := (@cast _ (∃ x : Int × Int,((0 ≤ x.1 ∧ x.1 < max (((power (min (g10.length : Int) (7 : Int))) - (1 : Int)) + (1 : Int)) 1) ∧ (x.2 = q10 + 1)) ∧ r = (.i x.1) ∧ bl = ([]) ∧ fx2 = ([.sl (.bytes l8),.i x.2])) (by kernel_rfl) hR)
 clear hR
 replace hq21 : (0 ≤ v21 ∧ v21 < max (((power (min (g10.length : Int) (7 : Int))) - (1 : Int)) + (1 : Int)) 1) ∧ (q21 = q10 + 1) := hq21
 obtain ⟨hv21,hq121⟩ := hq21
 refine ⟨by kernel_rfl,WI.to (⟨[(4,.ptr 8 0),(5,.own 1010 g10.length),(6,.i ((power (min (g10.length : Int) (7 : Int))) - (1 : Int))),(16,.own 1010 g10.length),(17,.ptr 8 0),(18,.ptr 8 0),(19,.i ((power (min (g10.length : Int) (7 : Int))) - (1 : Int))),(20,.i (((power (min (g10.length : Int) (7 : Int))) - (1 : Int)) + (1 : Int))),(21,.i v21)],[(8,⟨50,.fix [.sl (.bytes l8),.i q21]⟩),(1010,⟨47,.row (.events g10)⟩)],[21,1010,10,8,998,999]⟩) 6 (by kernel_rfl) rfl ?_⟩
 refine WI.runT cok tab5 hnt [] 3 9 (⟨[(4,.ptr 8 0),(5,.own 1010 g10.length),(6,.i ((power (min (g10.length : Int) (7 : Int))) - (1 : Int))),(16,.own 1010 g10.length),(17,.ptr 8 0),(18,.ptr 8 0),(19,.i ((power (min (g10.length : Int) (7 : Int))) - (1 : Int))),(20,.i (((power (min (g10.length : Int) (7 : Int))) - (1 : Int)) + (1 : Int))),(21,.i v21),(22,.i ((power (min (g10.length : Int) (7 : Int))) - (1 : Int))),(23,.i ((power (min (g10.length : Int) (7 : Int))) - (1 : Int))),(24,.ptr 8 0)],[(8,⟨50,.fix [.sl (.bytes l8),.i q21]⟩),(1010,⟨47,.row (.events g10)⟩)],[21,1010,10,8,998,999]⟩)
  (True ∧ True ∧ True ∧ True) (by kernel_rfl) rfl
  ⟨tt,tt,tt,tt⟩ ?_
 refine WI.call [.ptr 8 0,.i (256 : Int)] [.sl (.bytes l8),.i q21] [.i (256 : Int)] [.i (256 : Int)] (some (50,8)) (True) (True ∧ True) none rok21 ent21 hnt rfl rfl (wanted_none rfl) (by kernel_rfl) (by kernel_rfl) (by kernel_rfl) ⟨tt,tt,tt⟩
  (@cast (0 ≤ q21 ∧ q21 ≤ 1000000) _ (by kernel_rfl) (by omega)) (Or.inl rfl) rfl ?_
 rintro r bl fx2 hR
 obtain ⟨⟨v25,q25⟩,hq25,rfl,rfl,rfl⟩ := (@cast _ (∃ x : Int × Int,((0 ≤ x.1 ∧ x.1 < max (256 : Int) 1) ∧ (x.2 = q21 + 1)) ∧ r = (.i x.1) ∧ bl = ([]) ∧ fx2 = ([.sl (.bytes l8),.i x.2])) (by kernel_rfl) hR)
 clear hR
 replace hq25 : (0 ≤ v25 ∧ v25 < max (256 : Int) 1) ∧ (q25 = q21 + 1) := hq25
 obtain ⟨hv25,hq125⟩ := hq25
 refine ⟨by kernel_rfl,WI.to (⟨[(4,.ptr 8 0),(5,.own 1010 g10.length),(6,.i ((power (min (g10.length : Int) (7 : Int))) - (1 : Int))),(16,.own 1010 g10.length),(17,.ptr 8 0),(18,.ptr 8 0),(19,.i ((power (min (g10.length : Int) (7 : Int))) - (1 : Int))),(20,.i (((power (min (g10.length : Int) (7 : Int))) - (1 : Int)) + (1 : Int))),(21,.i v21),(22,.i ((power (min (g10.length : Int) (7 : Int))) - (1 : Int))),(23,.i ((power (min (g10.length : Int) (7 : Int))) - (1 : Int))),(24,.ptr 8 0),(25,.i v25)],[(8,⟨50,.fix [.sl (.bytes l8),.i q25]⟩),(1010,⟨47,.row (.events g10)⟩)],[25,21,1010,10,8,998,999]⟩) 10 (by kernel_rfl) rfl ?_⟩
 refine WI.runT cok tab5 hnt [] 3 13 (⟨[(4,.ptr 8 0),(5,.own 1010 g10.length),(6,.i ((power (min (g10.length : Int) (7 : Int))) - (1 : Int))),(16,.own 1010 g10.length),(17,.ptr 8 0),(18,.ptr 8 0),(19,.i ((power (min (g10.length : Int) (7 : Int))) - (1 : Int))),(20,.i (((power (min (g10.length : Int) (7 : Int))) - (1 : Int)) + (1 : Int))),(21,.i v21),(22,.i ((power (min (g10.length : Int) (7 : Int))) - (1 : Int))),(23,.i ((power (min (g10.length : Int) (7 : Int))) - (1 : Int))),(24,.ptr 8 0),(25,.i v25),(26,.i (bitsI .and .i64 ((power (min (g10.length : Int) (7 : Int))) - (1 : Int)) v25)),(27,.i ((power (min (g10.length : Int) (7 : Int))) - (1 : Int))),(28,.ptr 8 0)],[(8,⟨50,.fix [.sl (.bytes l8),.i q25]⟩),(1010,⟨47,.row (.events g10)⟩)],[25,21,1010,10,8,998,999]⟩)
  ((True ∧ True ∧ True) ∧ True ∧ True ∧ True) (by kernel_rfl) rfl
  ⟨⟨tt,tt,tt⟩,tt,tt,tt⟩ ?_
 refine WI.call [.ptr 8 0,.i (256 : Int)] [.sl (.bytes l8),.i q25] [.i (256 : Int)] [.i (256 : Int)] (some (50,8)) (True) (True ∧ True) none rok21 ent21 hnt rfl rfl (wanted_none rfl) (by kernel_rfl) (by kernel_rfl) (by kernel_rfl) ⟨tt,tt,tt⟩
  (@cast (0 ≤ q25 ∧ q25 ≤ 1000000) _ (by kernel_rfl) (by omega)) (Or.inl rfl) rfl ?_
 rintro r bl fx2 hR
 obtain ⟨⟨v29,q29⟩,hq29,rfl,rfl,rfl⟩ := (@cast _ (∃ x : Int × Int,((0 ≤ x.1 ∧ x.1 < max (256 : Int) 1) ∧ (x.2 = q25 + 1)) ∧ r = (.i x.1) ∧ bl = ([]) ∧ fx2 = ([.sl (.bytes l8),.i x.2])) (by kernel_rfl) hR)
 clear hR
 replace hq29 : (0 ≤ v29 ∧ v29 < max (256 : Int) 1) ∧ (q29 = q25 + 1) := hq29
 obtain ⟨hv29,hq129⟩ := hq29
 refine ⟨by kernel_rfl,WI.to (⟨[(4,.ptr 8 0),(5,.own 1010 g10.length),(6,.i ((power (min (g10.length : Int) (7 : Int))) - (1 : Int))),(16,.own 1010 g10.length),(17,.ptr 8 0),(18,.ptr 8 0),(19,.i ((power (min (g10.length : Int) (7 : Int))) - (1 : Int))),(20,.i (((power (min (g10.length : Int) (7 : Int))) - (1 : Int)) + (1 : Int))),(21,.i v21),(22,.i ((power (min (g10.length : Int) (7 : Int))) - (1 : Int))),(23,.i ((power (min (g10.length : Int) (7 : Int))) - (1 : Int))),(24,.ptr 8 0),(25,.i v25),(26,.i (bitsI .and .i64 ((power (min (g10.length : Int) (7 : Int))) - (1 : Int)) v25)),(27,.i ((power (min (g10.length : Int) (7 : Int))) - (1 : Int))),(28,.ptr 8 0),(29,.i v29)],[(8,⟨50,.fix [.sl (.bytes l8),.i q29]⟩),(1010,⟨47,.row (.events g10)⟩)],[29,25,21,1010,10,8,998,999]⟩) 14 (by kernel_rfl) rfl ?_⟩
 refine WI.runT cok tab5 hnt [] 1 15 (⟨[(4,.ptr 8 0),(5,.own 1010 g10.length),(6,.i ((power (min (g10.length : Int) (7 : Int))) - (1 : Int))),(16,.own 1010 g10.length),(17,.ptr 8 0),(18,.ptr 8 0),(19,.i ((power (min (g10.length : Int) (7 : Int))) - (1 : Int))),(20,.i (((power (min (g10.length : Int) (7 : Int))) - (1 : Int)) + (1 : Int))),(21,.i v21),(22,.i ((power (min (g10.length : Int) (7 : Int))) - (1 : Int))),(23,.i ((power (min (g10.length : Int) (7 : Int))) - (1 : Int))),(24,.ptr 8 0),(25,.i v25),(26,.i (bitsI .and .i64 ((power (min (g10.length : Int) (7 : Int))) - (1 : Int)) v25)),(27,.i ((power (min (g10.length : Int) (7 : Int))) - (1 : Int))),(28,.ptr 8 0),(29,.i v29),(30,.ptr 8 0)],[(8,⟨50,.fix [.sl (.bytes l8),.i q29]⟩),(1010,⟨47,.row (.events g10)⟩)],[29,25,21,1010,10,8,998,999]⟩)
  (True ∧ True) (by kernel_rfl) rfl
  ⟨tt,tt⟩ ?_
 refine WI.call [.ptr 8 0,.i (256 : Int)] [.sl (.bytes l8),.i q29] [.i (256 : Int)] [.i (256 : Int)] (some (50,8)) (True) (True ∧ True) none rok21 ent21 hnt rfl rfl (wanted_none rfl) (by kernel_rfl) (by kernel_rfl) (by kernel_rfl) ⟨tt,tt,tt⟩
  (@cast (0 ≤ q29 ∧ q29 ≤ 1000000) _ (by kernel_rfl) (by omega)) (Or.inl rfl) rfl ?_
 rintro r bl fx2 hR
 obtain ⟨⟨v31,q31⟩,hq31,rfl,rfl,rfl⟩ := (@cast _ (∃ x : Int × Int,((0 ≤ x.1 ∧ x.1 < max (256 : Int) 1) ∧ (x.2 = q29 + 1)) ∧ r = (.i x.1) ∧ bl = ([]) ∧ fx2 = ([.sl (.bytes l8),.i x.2])) (by kernel_rfl) hR)
 clear hR
 replace hq31 : (0 ≤ v31 ∧ v31 < max (256 : Int) 1) ∧ (q31 = q29 + 1) := hq31
 obtain ⟨hv31,hq131⟩ := hq31
 refine ⟨by kernel_rfl,WI.to (⟨[(4,.ptr 8 0),(5,.own 1010 g10.length),(6,.i ((power (min (g10.length : Int) (7 : Int))) - (1 : Int))),(16,.own 1010 g10.length),(17,.ptr 8 0),(18,.ptr 8 0),(19,.i ((power (min (g10.length : Int) (7 : Int))) - (1 : Int))),(20,.i (((power (min (g10.length : Int) (7 : Int))) - (1 : Int)) + (1 : Int))),(21,.i v21),(22,.i ((power (min (g10.length : Int) (7 : Int))) - (1 : Int))),(23,.i ((power (min (g10.length : Int) (7 : Int))) - (1 : Int))),(24,.ptr 8 0),(25,.i v25),(26,.i (bitsI .and .i64 ((power (min (g10.length : Int) (7 : Int))) - (1 : Int)) v25)),(27,.i ((power (min (g10.length : Int) (7 : Int))) - (1 : Int))),(28,.ptr 8 0),(29,.i v29),(30,.ptr 8 0),(31,.i v31)],[(8,⟨50,.fix [.sl (.bytes l8),.i q31]⟩),(1010,⟨47,.row (.events g10)⟩)],[31,29,25,21,1010,10,8,998,999]⟩) 16 (by kernel_rfl) rfl ?_⟩
 refine WI.runT cok tab5 hnt [] 5 21 (⟨[(4,.ptr 8 0),(5,.own 1010 g10.length),(6,.i ((power (min (g10.length : Int) (7 : Int))) - (1 : Int))),(16,.own 1010 g10.length),(17,.ptr 8 0),(18,.ptr 8 0),(19,.i ((power (min (g10.length : Int) (7 : Int))) - (1 : Int))),(20,.i (((power (min (g10.length : Int) (7 : Int))) - (1 : Int)) + (1 : Int))),(21,.i v21),(22,.i ((power (min (g10.length : Int) (7 : Int))) - (1 : Int))),(23,.i ((power (min (g10.length : Int) (7 : Int))) - (1 : Int))),(24,.ptr 8 0),(25,.i v25),(26,.i (bitsI .and .i64 ((power (min (g10.length : Int) (7 : Int))) - (1 : Int)) v25)),(27,.i ((power (min (g10.length : Int) (7 : Int))) - (1 : Int))),(28,.ptr 8 0),(29,.i v29),(30,.ptr 8 0),(31,.i v31),(32,.i (bitsI .or .i64 v29 v31)),(33,.i (bitsI .and .i64 ((power (min (g10.length : Int) (7 : Int))) - (1 : Int)) (bitsI .or .i64 v29 v31))),(34,.i ((power (min (g10.length : Int) (7 : Int))) - (1 : Int))),(35,.i (((power (min (g10.length : Int) (7 : Int))) - (1 : Int)) + (1 : Int))),(36,.sl (.ints ([v21,((power (min (g10.length : Int) (7 : Int))) - (1 : Int)),(bitsI .and .i64 ((power (min (g10.length : Int) (7 : Int))) - (1 : Int)) v25),(bitsI .and .i64 ((power (min (g10.length : Int) (7 : Int))) - (1 : Int)) (bitsI .or .i64 v29 v31)),(-1 : Int),(((power (min (g10.length : Int) (7 : Int))) - (1 : Int)) + (1 : Int))])))],[(8,⟨50,.fix [.sl (.bytes l8),.i q31]⟩),(1010,⟨47,.row (.events g10)⟩)],[36,31,29,25,21,1010,10,8,998,999]⟩)
  ((True ∧ True ∧ True) ∧ (True ∧ True ∧ True) ∧ True ∧ (True ∧ True ∧ (Fits .i64 (((power (min (g10.length : Int) (7 : Int))) - (1 : Int)) + (1 : Int)))) ∧ (True ∧ True ∧ True ∧ True ∧ True ∧ True ∧ True) ∧ True) (by kernel_rfl) rfl
  ⟨⟨tt,tt,tt⟩,⟨tt,tt,tt⟩,tt,⟨tt,tt,(by have hp1 := power_le (n := min (g10.length : Int) 7) (by omega); have hp2 := power_pos (min (g10.length : Int) 7); exact fits_i64 (by omega) (by omega))⟩,⟨tt,tt,tt,tt,tt,tt,tt⟩,tt⟩ ?_
 refine WI.call [.ptr 8 0,.sl (.ints ([v21,((power (min (g10.length : Int) (7 : Int))) - (1 : Int)),(bitsI .and .i64 ((power (min (g10.length : Int) (7 : Int))) - (1 : Int)) v25),(bitsI .and .i64 ((power (min (g10.length : Int) (7 : Int))) - (1 : Int)) (bitsI .or .i64 v29 v31)),(-1 : Int),(((power (min (g10.length : Int) (7 : Int))) - (1 : Int)) + (1 : Int))]))] [.sl (.bytes l8),.i q31] [.sl (.ints ([v21,((power (min (g10.length : Int) (7 : Int))) - (1 : Int)),(bitsI .and .i64 ((power (min (g10.length : Int) (7 : Int))) - (1 : Int)) v25),(bitsI .and .i64 ((power (min (g10.length : Int) (7 : Int))) - (1 : Int)) (bitsI .or .i64 v29 v31)),(-1 : Int),(((power (min (g10.length : Int) (7 : Int))) - (1 : Int)) + (1 : Int))]))] [.sl (.ints ([v21,((power (min (g10.length : Int) (7 : Int))) - (1 : Int)),(bitsI .and .i64 ((power (min (g10.length : Int) (7 : Int))) - (1 : Int)) v25),(bitsI .and .i64 ((power (min (g10.length : Int) (7 : Int))) - (1 : Int)) (bitsI .or .i64 v29 v31)),(-1 : Int),(((power (min (g10.length : Int) (7 : Int))) - (1 : Int)) + (1 : Int))]))] (some (50,8)) (True) (True ∧ True) none rok20 ent20 hnt rfl rfl (wanted_none rfl) (by kernel_rfl) (by kernel_rfl) (by kernel_rfl) ⟨tt,tt,tt⟩
  (@cast ((0 ≤ q31 ∧ q31 ≤ 1000000) ∧ (0 < ([v21,((power (min (g10.length : Int) (7 : Int))) - (1 : Int)),(bitsI .and .i64 ((power (min (g10.length : Int) (7 : Int))) - (1 : Int)) v25),(bitsI .and .i64 ((power (min (g10.length : Int) (7 : Int))) - (1 : Int)) (bitsI .or .i64 v29 v31)),(-1 : Int),(((power (min (g10.length : Int) (7 : Int))) - (1 : Int)) + (1 : Int))]).length) ∧ (([v21,((power (min (g10.length : Int) (7 : Int))) - (1 : Int)),(bitsI .and .i64 ((power (min (g10.length : Int) (7 : Int))) - (1 : Int)) v25),(bitsI .and .i64 ((power (min (g10.length : Int) (7 : Int))) - (1 : Int)) (bitsI .or .i64 v29 v31)),(-1 : Int),(((power (min (g10.length : Int) (7 : Int))) - (1 : Int)) + (1 : Int))]).length ≤ 1000)) _ (by kernel_rfl) ⟨(by omega),⟨(by (first | omega | (simp only [List.length_set]; done) | (simp only [List.length_append,List.length_cons,List.length_nil,List.length_take,List.length_drop,List.length_set,List.length_replicate,List.length_map] at *; omega) | assumption)),(by (first | omega | (simp only [List.length_set]; done) | (simp only [List.length_append,List.length_cons,List.length_nil,List.length_take,List.length_drop,List.length_set,List.length_replicate,List.length_map] at *; omega) | assumption))⟩⟩) (Or.inl rfl) rfl ?_
 rintro r bl fx2 hR
 obtain ⟨⟨v37,q37⟩,hq37,rfl,rfl,rfl⟩ := (@cast _ (∃ x : Int × Int,((x.1 ∈ ([v21,((power (min (g10.length : Int) (7 : Int))) - (1 : Int)),(bitsI .and .i64 ((power (min (g10.length : Int) (7 : Int))) - (1 : Int)) v25),(bitsI .and .i64 ((power (min (g10.length : Int) (7 : Int))) - (1 : Int)) (bitsI .or .i64 v29 v31)),(-1 : Int),(((power (min (g10.length : Int) (7 : Int))) - (1 : Int)) + (1 : Int))])) ∧ (x.2 = q31 + 1)) ∧ r = (.i x.1) ∧ bl = ([]) ∧ fx2 = ([.sl (.bytes l8),.i x.2])) (by kernel_rfl) hR)
 clear hR
 replace hq37 : (v37 ∈ ([v21,((power (min (g10.length : Int) (7 : Int))) - (1 : Int)),(bitsI .and .i64 ((power (min (g10.length : Int) (7 : Int))) - (1 : Int)) v25),(bitsI .and .i64 ((power (min (g10.length : Int) (7 : Int))) - (1 : Int)) (bitsI .or .i64 v29 v31)),(-1 : Int),(((power (min (g10.length : Int) (7 : Int))) - (1 : Int)) + (1 : Int))])) ∧ (q37 = q31 + 1) := hq37
 obtain ⟨hv37,hq137⟩ := hq37
 simp only [List.mem_cons,List.not_mem_nil,or_false] at hv37
 refine ⟨by kernel_rfl,WI.to (⟨[(4,.ptr 8 0),(5,.own 1010 g10.length),(6,.i ((power (min (g10.length : Int) (7 : Int))) - (1 : Int))),(16,.own 1010 g10.length),(17,.ptr 8 0),(18,.ptr 8 0),(19,.i ((power (min (g10.length : Int) (7 : Int))) - (1 : Int))),(20,.i (((power (min (g10.length : Int) (7 : Int))) - (1 : Int)) + (1 : Int))),(21,.i v21),(22,.i ((power (min (g10.length : Int) (7 : Int))) - (1 : Int))),(23,.i ((power (min (g10.length : Int) (7 : Int))) - (1 : Int))),(24,.ptr 8 0),(25,.i v25),(26,.i (bitsI .and .i64 ((power (min (g10.length : Int) (7 : Int))) - (1 : Int)) v25)),(27,.i ((power (min (g10.length : Int) (7 : Int))) - (1 : Int))),(28,.ptr 8 0),(29,.i v29),(30,.ptr 8 0),(31,.i v31),(32,.i (bitsI .or .i64 v29 v31)),(33,.i (bitsI .and .i64 ((power (min (g10.length : Int) (7 : Int))) - (1 : Int)) (bitsI .or .i64 v29 v31))),(34,.i ((power (min (g10.length : Int) (7 : Int))) - (1 : Int))),(35,.i (((power (min (g10.length : Int) (7 : Int))) - (1 : Int)) + (1 : Int))),(36,.sl (.ints ([v21,((power (min (g10.length : Int) (7 : Int))) - (1 : Int)),(bitsI .and .i64 ((power (min (g10.length : Int) (7 : Int))) - (1 : Int)) v25),(bitsI .and .i64 ((power (min (g10.length : Int) (7 : Int))) - (1 : Int)) (bitsI .or .i64 v29 v31)),(-1 : Int),(((power (min (g10.length : Int) (7 : Int))) - (1 : Int)) + (1 : Int))]))),(37,.i v37)],[(8,⟨50,.fix [.sl (.bytes l8),.i q37]⟩),(1010,⟨47,.row (.events g10)⟩)],[37,36,31,29,25,21,1010,10,8,998,999]⟩) 22 (by kernel_rfl) rfl ?_⟩
 refine WI.runT cok tab5 hnt [] 2 24 (⟨[(2,.own 1010 g10.length),(3,.i v37),(4,.ptr 8 0),(5,.own 1010 g10.length),(6,.i ((power (min (g10.length : Int) (7 : Int))) - (1 : Int))),(16,.own 1010 g10.length),(17,.ptr 8 0),(18,.ptr 8 0),(19,.i ((power (min (g10.length : Int) (7 : Int))) - (1 : Int))),(20,.i (((power (min (g10.length : Int) (7 : Int))) - (1 : Int)) + (1 : Int))),(21,.i v21),(22,.i ((power (min (g10.length : Int) (7 : Int))) - (1 : Int))),(23,.i ((power (min (g10.length : Int) (7 : Int))) - (1 : Int))),(24,.ptr 8 0),(25,.i v25),(26,.i (bitsI .and .i64 ((power (min (g10.length : Int) (7 : Int))) - (1 : Int)) v25)),(27,.i ((power (min (g10.length : Int) (7 : Int))) - (1 : Int))),(28,.ptr 8 0),(29,.i v29),(30,.ptr 8 0),(31,.i v31),(32,.i (bitsI .or .i64 v29 v31)),(33,.i (bitsI .and .i64 ((power (min (g10.length : Int) (7 : Int))) - (1 : Int)) (bitsI .or .i64 v29 v31))),(34,.i ((power (min (g10.length : Int) (7 : Int))) - (1 : Int))),(35,.i (((power (min (g10.length : Int) (7 : Int))) - (1 : Int)) + (1 : Int))),(36,.sl (.ints ([v21,((power (min (g10.length : Int) (7 : Int))) - (1 : Int)),(bitsI .and .i64 ((power (min (g10.length : Int) (7 : Int))) - (1 : Int)) v25),(bitsI .and .i64 ((power (min (g10.length : Int) (7 : Int))) - (1 : Int)) (bitsI .or .i64 v29 v31)),(-1 : Int),(((power (min (g10.length : Int) (7 : Int))) - (1 : Int)) + (1 : Int))]))),(37,.i v37)],[(8,⟨50,.fix [.sl (.bytes l8),.i q37]⟩),(1010,⟨47,.row (.events g10)⟩)],[37,36,31,29,25,21,1010,10,8,998,999]⟩)
  (True ∧ True ∧ True) (by kernel_rfl) rfl
  ⟨tt,tt,tt⟩ ?_
 refine WI.nil rfl (thenQ_normal ?_)
 refine W.keepE [2,3] [(2,.own 1010 g10.length),(3,.i v37)] (by kernel_rfl) ?_
 refine W.to (⟨[(2,.own 1010 g10.length),(3,.i v37)],[(8,⟨50,.fix [.sl (.bytes l8),.i q37]⟩),(1010,⟨47,.row (.events g10)⟩)],[37,36,31,29,25,21,1010,10,8,998,999]⟩) rfl ?_
 refine W.ret ?_
 exact endP_ret (g10,v37) (show (g10.length ≤ 7) from (by first | assumption | omega | rfl | (simp; done) | (simp; omega))) [] (.tup [.own 1010 g10.length,.i v37]) (by kernel_rfl) (@cast ((((g10.length = g10.length) ∧ (Sd (.events g10)) ∧ ((1010 : Nat) ∉ ([] : List Nat))) ∧ (Si v37) ∧ True) ∧ True ∧ (true = true) ∧ True ∧ (false = true → (0 : Nat) = 998)) _ (by kernel_rfl) ⟨⟨⟨rfl,rfl,(by decide)⟩,rfl,tt⟩,tt,rfl,tt,(fun h => by cases h)⟩)
theorem ent5 : Entr prog 5 := ⟨_,func5,rfl,by decide⟩
end Go.Proofs.Try

set_option linter.unusedSimpArgs false
set_option linter.unusedVariables false
namespace Go.Proofs.Try
open Go.Ab Go.RowKit
def fs3 : FnS := fnS [.s .bytes] [.bytes] (fun _ (code,_) => (.b true,[],True))
abbrev T3 : Tab := lk [(6,fs6),(7,fs7),(8,fs8),(9,fs9),(10,fs10),(11,fs11)]
theorem tab3 : TabOK prog T3 := (TabOK.cons ok6 ent6 (TabOK.cons ok7 ent7 (TabOK.cons ok8 ent8 (TabOK.cons ok9 ent9 (TabOK.cons ok10 ent10 (TabOK.cons ok11 ent11 TabOK.nil))))))
set_option maxRecDepth 100000 in
set_option maxHeartbeats 1000000 in
theorem ok3 : FnOK prog 3 fs3 := by
 refine FnOK.mk cok func3 rfl rfl rfl ?_
 rintro fl ⟨(code : List UInt8),_⟩ hpre F hnt0 _
 have hnt : F.nt = 84 := hnt0.trans ntmps3
 clear hpre
 refine W.to (⟨[(0,.sl (.bytes code))],[],[999]⟩) rfl ?_
 refine W.lenOf 0 (.bytes code) (by kernel_rfl) ?_
 intro hl_code; replace hl_code : List.length code ≤ 9223372036854775807 := hl_code
 refine Kk cok tab3 hnt [] [0] (⟨[(0,.sl (.bytes code))],[],[999]⟩)
  (True ∧ True)
  ⟨tt,tt⟩ ?_
 refine W.seq ?_
 refine Kk cok tab3 hnt [] [0,11] (⟨[(0,.sl (.bytes code)),(11,.b (decide ((1048576 : Int) < (code.length : Int))))],[],[999]⟩)
  (True ∧ True ∧ (True ∧ True ∧ True) ∧ True)
  ⟨tt,tt,⟨tt,tt,tt⟩,tt⟩ ?_
 refine W.ifP ((1048576 : Int) < (code.length : Int)) (.b (decide ((1048576 : Int) < (code.length : Int)))) (by kernel_rfl) rfl trivial ?_ ?_
 ·intro h11
  refine Kk cok tab3 hnt [] [2] (⟨[(2,.b true)],[],[999]⟩)
   (True ∧ True)
   ⟨tt,tt⟩ ?_
  refine W.ret (thenQ_ret ?_)
  exact endQ_ret (.b true) (by kernel_rfl) (@cast (Sv (.bool true)) _ (by kernel_rfl) rfl)
 ·intro n11
  refine W.skip (thenQ_normal ?_)
  refine W.seq (W.wi ?_)
  refine WI.runT cok tab3 hnt [] 1 1 (⟨[(0,.sl (.bytes code)),(11,.b (decide ((1048576 : Int) < (code.length : Int)))),(13,.sl (.bytes code))],[],[999]⟩)
   (True ∧ True) (by kernel_rfl) rfl
   ⟨tt,tt⟩ ?_
  refine WI.call [.sl (.bytes code)] [] [.sl (.bytes code)] [.sl (.bytes code)] none (True) (True ∧ True) none rok5 ent5 hnt rfl rfl (wanted_none rfl) (by kernel_rfl) (by kernel_rfl) (by kernel_rfl) ⟨tt,tt,tt⟩
   (@cast (True) _ (by kernel_rfl) trivial) (Or.inl rfl) rfl ?_
  rintro r bl fx2 hR
  obtain ⟨⟨g14,mm14⟩,hq14,rfl,rfl,rfl⟩ := (@cast _ (∃ x : (List EventD) × Int,((x.1.length ≤ 7)) ∧ r = (.tup [.sl (.events x.1),.i x.2]) ∧ bl = ([]) ∧ fx2 = ([])) (by kernel_rfl) hR)
  clear hR
  replace hq14 : (g14.length ≤ 7) := hq14
  have hg14 := hq14
  refine ⟨by kernel_rfl,WI.to (⟨[(0,.sl (.bytes code)),(11,.b (decide ((1048576 : Int) < (code.length : Int)))),(13,.sl (.bytes code)),(14,.tup [.sl (.events g14),.i mm14])],[],[999]⟩) 2 (by kernel_rfl) rfl ?_⟩
  refine WI.runT cok tab3 hnt [] 5 7 (⟨[(0,.sl (.bytes code)),(3,.sl (.events g14)),(4,.i mm14),(11,.b (decide ((1048576 : Int) < (code.length : Int)))),(12,.tup [.sl (.events g14),.i mm14]),(13,.sl (.bytes code)),(14,.tup [.sl (.events g14),.i mm14]),(15,.sl (.events g14)),(16,.i mm14)],[],[999]⟩)
   (True ∧ True ∧ True ∧ True ∧ True ∧ True) (by kernel_rfl) rfl
   ⟨tt,tt,tt,tt,tt,tt⟩ ?_
  refine WI.nil rfl (thenQ_normal ?_)
  refine W.keepE [3,4] [(3,.sl (.events g14)),(4,.i mm14)] (by kernel_rfl) ?_
  refine W.to (⟨[(3,.sl (.events g14)),(4,.i mm14)],[],[999]⟩) rfl ?_
  refine Kk cok tab3 hnt [] [3,4,5] (⟨[(3,.sl (.events g14)),(4,.i mm14),(5,.sl (.ints (mkCuts g14 mm14)))],[],[999]⟩)
   (True ∧ True ∧ (True ∧ (True ∧ True ∧ True) ∧ True) ∧ True ∧ True)
   ⟨tt,tt,⟨tt,⟨tt,tt,tt⟩,tt⟩,tt,tt⟩ ?_
  refine W.seq ?_
  refine Kk cok tab3 hnt [] [3,4,5,30] (⟨[(3,.sl (.events g14)),(4,.i mm14),(5,.sl (.ints (mkCuts g14 mm14))),(30,.b ((!(decide ((mkCuts g14 mm14) = (mkCuts g14 mm14)))) || (decide ((((List.length (mkCuts g14 mm14)) : Nat) : Int) = (0 : Int)))))],[],[999]⟩)
   ((fun (Z1:Bool)=>(True ∧ (True ∧ (True ∧ ((True ∧ ((True ∧ (True ∧ True)) ∧ True)) ∧ ((True ∧ ((True ∧ (True ∧ True)) ∧ True)) ∧ (True ∧ (True ∧ (((!Z1) = true → True) ∧ (((!Z1) = true → (((!Z1) = true) ∧ True)) ∧ (((!Z1) = true → ((((!Z1) = true) ∧ True) ∧ (True ∧ True))) ∧ ((True ∧ ((Z1 = true → True) ∧ (Z1 = false → ((!Z1) = true) ∧ True))) ∧ True)))))))))))) (!(decide ((mkCuts g14 mm14) = (mkCuts g14 mm14)))))
   ⟨tt,tt,tt,⟨tt,⟨tt,tt,tt⟩,tt⟩,⟨tt,⟨tt,tt,tt⟩,tt⟩,tt,tt,(fun _ => trivial),(fun hG => ⟨hG,tt⟩),(fun hG => ⟨⟨hG,tt⟩,tt,tt⟩),⟨tt,(fun _ => trivial),(fun hp => ⟨(not_t hp),tt⟩)⟩,tt⟩ ?_
  refine W.if' ((!(decide ((mkCuts g14 mm14) = (mkCuts g14 mm14)))) || (decide ((((List.length (mkCuts g14 mm14)) : Nat) : Int) = (0 : Int)))) (.b ((!(decide ((mkCuts g14 mm14) = (mkCuts g14 mm14)))) || (decide ((((List.length (mkCuts g14 mm14)) : Nat) : Int) = (0 : Int))))) (by kernel_rfl) rfl trivial ?_ ?_
  ·intro h30
   refine Kk cok tab3 hnt [] [2] (⟨[(2,.b (decide ((mkCuts g14 mm14) = (mkCuts g14 mm14))))],[],[999]⟩)
    (True ∧ True ∧ True ∧ (True ∧ (True ∧ True ∧ True) ∧ True) ∧ (True ∧ (True ∧ True ∧ True) ∧ True) ∧ True ∧ True)
    ⟨tt,tt,tt,⟨tt,⟨tt,tt,tt⟩,tt⟩,⟨tt,⟨tt,tt,tt⟩,tt⟩,tt,tt⟩ ?_
   refine W.ret (thenQ_ret ?_)
   exact endQ_ret (.b (decide ((mkCuts g14 mm14) = (mkCuts g14 mm14)))) (by kernel_rfl) (@cast ((.bool (decide ((mkCuts g14 mm14) = (mkCuts g14 mm14))) : Value) = .bool true) _ (by kernel_rfl) (congrArg Value.bool (by exact ints_eq_self)))
  ·intro n30
   have n30_0 : ¬ ((((List.length (mkCuts g14 mm14)) : Nat) : Int) = (0 : Int)) := of_decide_eq_false (or_r n30)
   have hml := mkCuts_len g14 mm14
   refine W.skip (thenQ_normal ?_)
   refine Kk cok tab3 hnt [] [5,6] (⟨[(5,.sl (.ints (mkCuts g14 mm14))),(6,.sl (.ints (cutsOf g14)))],[],[37,999]⟩)
    (True ∧ ((True ∧ (True ∧ True) ∧ True) ∧ ((List.length (cutsOf g14)) = (List.length (cutsOf g14)))) ∧ True ∧ True)
    ⟨tt,⟨⟨tt,⟨tt,tt⟩,tt⟩,rfl⟩,tt,tt⟩ ?_
   refine W.seq ?_
   refine Kk cok tab3 hnt [] [5,6,7] (⟨[(5,.sl (.ints (mkCuts g14 mm14))),(6,.sl (.ints (cutsOf g14))),(7,.i (0 : Int))],[],[37,999]⟩)
    (True ∧ True)
    ⟨tt,tt⟩ ?_
   refine W.block ?_
   refine W.loop (ι := Nat) (fun (i : Nat) => (⟨[(5,.sl (.ints (mkCuts g14 mm14))),(6,.sl (.ints (cutsOf g14))),(7,.i ((i : Nat) : Int))],[],[999]⟩ : St))
    (fun (i : Nat) => (i ≤ (mkCuts g14 mm14).length))
    (fun (i : Nat) => ((mkCuts g14 mm14).length - i : Nat)) (0) ?_ ?_ ?_
   ·exact (show (0 ≤ (mkCuts g14 mm14).length) from (by first | assumption | omega | rfl | (intro _ hjj; omega) | (simp; done) | (simp; omega)))
   ·exact Sub.of [] (@cast (((Sd (.ints (mkCuts g14 mm14))) ∧ (Sd (.ints (cutsOf g14))) ∧ ((.int .i64 (0 : Int) : Value) = .int .i64 ((0 : Nat) : Int)) ∧ True) ∧ True ∧ (true = true) ∧ (true = true)) _ (by kernel_rfl) ⟨⟨rfl,rfl,(congrArg (Value.int .i64) (by first | rfl | omega | assumption | simp | simp_all)),tt⟩,tt,rfl,rfl⟩)
   ·rintro i hC0
    have hC : (i ≤ (mkCuts g14 mm14).length) := hC0
    clear hC0
    obtain hi := hC
    refine W.to (⟨[(5,.sl (.ints (mkCuts g14 mm14))),(6,.sl (.ints (cutsOf g14))),(7,.i ((i : Nat) : Int))],[],[999]⟩) rfl ?_
    refine W.seq ?_
    refine Kk cok tab3 hnt [] [5,6,7,41] (⟨[(5,.sl (.ints (mkCuts g14 mm14))),(6,.sl (.ints (cutsOf g14))),(7,.i ((i : Nat) : Int)),(41,.b (decide (((i : Nat) : Int) < (((List.length (mkCuts g14 mm14)) : Nat) : Int))))],[],[999]⟩)
     (True ∧ True ∧ True ∧ (True ∧ True ∧ True) ∧ True)
     ⟨tt,tt,tt,⟨tt,tt,tt⟩,tt⟩ ?_
    refine W.ifP (((i : Nat) : Int) < (((List.length (mkCuts g14 mm14)) : Nat) : Int)) (.b (decide (((i : Nat) : Int) < (((List.length (mkCuts g14 mm14)) : Nat) : Int)))) (by kernel_rfl) rfl trivial ?_ ?_
    ·intro h41
     refine W.skip (thenQ_normal ?_)
     refine W.seq ?_
     refine W.block ?_
     refine W.seq ?_
     refine Kk cok tab3 hnt [] [5,6,7,50] (⟨[(5,.sl (.ints (mkCuts g14 mm14))),(6,.sl (.ints (cutsOf g14))),(7,.i ((i : Nat) : Int)),(50,.b (!(hasInt (cutsOf g14) (List.getD (mkCuts g14 mm14) i 0))))],[],[999]⟩)
      (True ∧ True ∧ True ∧ (True ∧ True ∧ (0 ≤ ((i : Nat) : Int)) ∧ (((i : Nat) : Int) < (((List.length (mkCuts g14 mm14)) : Nat) : Int))) ∧ True ∧ (True ∧ (True ∧ True ∧ True) ∧ True) ∧ True ∧ True)
      ⟨tt,tt,tt,⟨tt,tt,(by omega),(by omega)⟩,tt,⟨tt,⟨tt,tt,tt⟩,tt⟩,tt,tt⟩ ?_
     refine W.if' (!(hasInt (cutsOf g14) (List.getD (mkCuts g14 mm14) i 0))) (.b (!(hasInt (cutsOf g14) (List.getD (mkCuts g14 mm14) i 0)))) (by kernel_rfl) rfl trivial ?_ ?_
     ·intro h50
      exact (show False from (by rw [mc_all (by omega)] at h50; cases h50)).elim
     ·intro n50
      refine W.skip (thenQ_normal ?_)
      refine Kk cok tab3 hnt [] [5,6,7,8] (⟨[(5,.sl (.ints (mkCuts g14 mm14))),(6,.sl (.ints (cutsOf g14))),(7,.i ((i : Nat) : Int)),(8,.i (0 : Int))],[],[999]⟩)
       (True ∧ True)
       ⟨tt,tt⟩ ?_
      refine W.block ?_
      refine W.loop (ι := Nat) (fun (k : Nat) => (⟨[(5,.sl (.ints (mkCuts g14 mm14))),(6,.sl (.ints (cutsOf g14))),(7,.i ((i : Nat) : Int)),(8,.i ((k : Nat) : Int))],[],[999]⟩ : St))
       (fun (k : Nat) => (k ≤ i))
       (fun (k : Nat) => (i - k : Nat)) (0) ?_ ?_ ?_
      ·exact (show (0 ≤ i) from (by first | assumption | omega | rfl | (intro _ hjj; omega) | (simp; done) | (simp; omega)))
      ·exact Sub.of [] (@cast (((Sd (.ints (mkCuts g14 mm14))) ∧ (Sd (.ints (cutsOf g14))) ∧ (Si ((i : Nat) : Int)) ∧ ((.int .i64 (0 : Int) : Value) = .int .i64 ((0 : Nat) : Int)) ∧ True) ∧ True ∧ (true = true) ∧ (true = true)) _ (by kernel_rfl) ⟨⟨rfl,rfl,rfl,(congrArg (Value.int .i64) (by first | rfl | omega | assumption | simp | simp_all)),tt⟩,tt,rfl,rfl⟩)
      ·rintro k hC0
       have hC : (k ≤ i) := hC0
       clear hC0
       obtain hk := hC
       refine W.to (⟨[(5,.sl (.ints (mkCuts g14 mm14))),(6,.sl (.ints (cutsOf g14))),(7,.i ((i : Nat) : Int)),(8,.i ((k : Nat) : Int))],[],[999]⟩) rfl ?_
       refine W.seq ?_
       refine Kk cok tab3 hnt [] [5,6,7,8,53] (⟨[(5,.sl (.ints (mkCuts g14 mm14))),(6,.sl (.ints (cutsOf g14))),(7,.i ((i : Nat) : Int)),(8,.i ((k : Nat) : Int)),(53,.b (decide (((k : Nat) : Int) < ((i : Nat) : Int))))],[],[999]⟩)
        (True ∧ True ∧ (True ∧ True ∧ True) ∧ True)
        ⟨tt,tt,⟨tt,tt,tt⟩,tt⟩ ?_
       refine W.ifP (((k : Nat) : Int) < ((i : Nat) : Int)) (.b (decide (((k : Nat) : Int) < ((i : Nat) : Int)))) (by kernel_rfl) rfl trivial ?_ ?_
       ·intro h53
        refine W.skip (thenQ_normal ?_)
        refine W.seq ?_
        refine W.block ?_
        refine W.KA cok tab3 hnt [] [5,6,7,8,81] (⟨[(5,.sl (.ints (mkCuts g14 mm14))),(6,.sl (.ints (cutsOf g14))),(7,.i ((i : Nat) : Int)),(8,.i ((k : Nat) : Int)),(81,.b ((!(hasInt (mkCuts g14 mm14) (bitsI .and .i64 (List.getD (mkCuts g14 mm14) i 0) (List.getD (mkCuts g14 mm14) k 0)))) || (!(hasInt (mkCuts g14 mm14) (bitsI .or .i64 (List.getD (mkCuts g14 mm14) i 0) (List.getD (mkCuts g14 mm14) k 0))))))],[],[999]⟩)
         ((fun (Z1:Bool)=>(True ∧ (True ∧ (True ∧ ((True ∧ (True ∧ ((0 ≤ ((i : Nat) : Int)) ∧ (((i : Nat) : Int) < (((List.length (mkCuts g14 mm14)) : Nat) : Int))))) ∧ (True ∧ (True ∧ (True ∧ ((True ∧ (True ∧ ((0 ≤ ((k : Nat) : Int)) ∧ (((k : Nat) : Int) < (((List.length (mkCuts g14 mm14)) : Nat) : Int))))) ∧ (True ∧ ((True ∧ (True ∧ True)) ∧ ((True ∧ ((True ∧ (True ∧ True)) ∧ True)) ∧ (True ∧ (True ∧ (((!Z1) = true → True) ∧ (((!Z1) = true → True) ∧ (((!Z1) = true → True) ∧ (((!Z1) = true → ((((!Z1) = true) ∧ True) ∧ ((((!Z1) = true) ∧ True) ∧ ((0 ≤ ((i : Nat) : Int)) ∧ (((i : Nat) : Int) < (((List.length (mkCuts g14 mm14)) : Nat) : Int)))))) ∧ (((!Z1) = true → (((!Z1) = true) ∧ True)) ∧ (((!Z1) = true → True) ∧ (((!Z1) = true → True) ∧ (((!Z1) = true → ((((!Z1) = true) ∧ True) ∧ ((((!Z1) = true) ∧ True) ∧ ((0 ≤ ((k : Nat) : Int)) ∧ (((k : Nat) : Int) < (((List.length (mkCuts g14 mm14)) : Nat) : Int)))))) ∧ (((!Z1) = true → (((!Z1) = true) ∧ True)) ∧ (((!Z1) = true → ((((!Z1) = true) ∧ True) ∧ ((((!Z1) = true) ∧ True) ∧ True))) ∧ (((!Z1) = true → (True ∧ (((((!Z1) = true) ∧ True) ∧ ((((!Z1) = true) ∧ True) ∧ True)) ∧ True))) ∧ (((!Z1) = true → (((!Z1) = true) ∧ True)) ∧ ((True ∧ ((Z1 = true → True) ∧ (Z1 = false → ((!Z1) = true) ∧ True))) ∧ True))))))))))))))))))))))))))) (!(hasInt (mkCuts g14 mm14) (bitsI .and .i64 (List.getD (mkCuts g14 mm14) i 0) (List.getD (mkCuts g14 mm14) k 0))))) (by kernel_rfl) (by kernel_rfl)
         ⟨tt,tt,tt,⟨tt,tt,(by omega),(by omega)⟩,tt,tt,tt,⟨tt,tt,(by omega),(by omega)⟩,tt,⟨tt,tt,tt⟩,⟨tt,⟨tt,tt,tt⟩,tt⟩,tt,tt,(fun _ => trivial),(fun _ => trivial),(fun _ => trivial),(fun hG => ⟨⟨hG,tt⟩,⟨hG,tt⟩,(by omega),(by omega)⟩),(fun hG => ⟨hG,tt⟩),(fun _ => trivial),(fun _ => trivial),(fun hG => ⟨⟨hG,tt⟩,⟨hG,tt⟩,(by omega),(by omega)⟩),(fun hG => ⟨hG,tt⟩),(fun hG => ⟨⟨hG,tt⟩,⟨hG,tt⟩,tt⟩),(fun hG => ⟨tt,⟨⟨hG,tt⟩,⟨hG,tt⟩,tt⟩,tt⟩),(fun hG => ⟨hG,tt⟩),⟨tt,(fun _ => trivial),(fun hp => ⟨(not_t hp),tt⟩)⟩,tt⟩ ?_
        refine W.if' ((!(hasInt (mkCuts g14 mm14) (bitsI .and .i64 (List.getD (mkCuts g14 mm14) i 0) (List.getD (mkCuts g14 mm14) k 0)))) || (!(hasInt (mkCuts g14 mm14) (bitsI .or .i64 (List.getD (mkCuts g14 mm14) i 0) (List.getD (mkCuts g14 mm14) k 0))))) (.b ((!(hasInt (mkCuts g14 mm14) (bitsI .and .i64 (List.getD (mkCuts g14 mm14) i 0) (List.getD (mkCuts g14 mm14) k 0)))) || (!(hasInt (mkCuts g14 mm14) (bitsI .or .i64 (List.getD (mkCuts g14 mm14) i 0) (List.getD (mkCuts g14 mm14) k 0)))))) (by kernel_rfl) rfl trivial ?_ ?_
        ·intro h81
         exact (show False from (by rw [mc_and (by omega) (by omega),mc_or (by omega) (by omega)] at h81; cases h81)).elim
        ·intro n81
         refine W.skip (blockQ_normal (thenQ_normal ?_))
         refine Lk cok tab3 hnt [] (⟨[(5,.sl (.ints (mkCuts g14 mm14))),(6,.sl (.ints (cutsOf g14))),(7,.i ((i : Nat) : Int)),(8,.i (((k + 1) : Nat) : Int)),(54,.i ((k : Nat) : Int)),(55,.i (((k + 1) : Nat) : Int)),(81,.b ((!(hasInt (mkCuts g14 mm14) (bitsI .and .i64 (List.getD (mkCuts g14 mm14) i 0) (List.getD (mkCuts g14 mm14) k 0)))) || (!(hasInt (mkCuts g14 mm14) (bitsI .or .i64 (List.getD (mkCuts g14 mm14) i 0) (List.getD (mkCuts g14 mm14) k 0))))))],[],[999]⟩)
          (True ∧ (True ∧ True ∧ (Fits .i64 (((k + 1) : Nat) : Int))) ∧ True ∧ True)
          ⟨tt,⟨tt,tt,(by exact fits_i64 (by omega) (by omega))⟩,tt,tt⟩ ?_
         refine thenQ_normal ?_
         refine ⟨((k + 1)),(show ((k + 1) ≤ i) from (by first | assumption | omega | rfl | (intro _ hjj; omega) | (simp; done) | (simp; omega))),(show i - (k + 1) < i - k from (by first | omega | (simp_all; omega))),?_⟩
         exact Sub.of [] (@cast (((Sd (.ints (mkCuts g14 mm14))) ∧ (Sd (.ints (cutsOf g14))) ∧ (Si ((i : Nat) : Int)) ∧ (Si (((k + 1) : Nat) : Int)) ∧ True) ∧ True ∧ (true = true) ∧ (true = true)) _ (by kernel_rfl) ⟨⟨rfl,rfl,rfl,rfl,tt⟩,tt,rfl,rfl⟩)
       ·intro n53
        refine W.exit (thenQ_exit (thenQ_exit (blockQ_hit ?_)))
        refine blockQ_normal (thenQ_normal ?_)
        refine Lk cok tab3 hnt [] (⟨[(5,.sl (.ints (mkCuts g14 mm14))),(6,.sl (.ints (cutsOf g14))),(7,.i (((i + 1) : Nat) : Int)),(8,.i ((k : Nat) : Int)),(42,.i ((i : Nat) : Int)),(43,.i (((i + 1) : Nat) : Int)),(53,.b (decide (((k : Nat) : Int) < ((i : Nat) : Int))))],[],[999]⟩)
         (True ∧ (True ∧ True ∧ (Fits .i64 (((i + 1) : Nat) : Int))) ∧ True ∧ True)
         ⟨tt,⟨tt,tt,(by exact fits_i64 (by omega) (by omega))⟩,tt,tt⟩ ?_
        refine thenQ_normal ?_
        refine ⟨((i + 1)),(show ((i + 1) ≤ (mkCuts g14 mm14).length) from (by first | assumption | omega | rfl | (intro _ hjj; omega) | (simp; done) | (simp; omega))),(show (mkCuts g14 mm14).length - (i + 1) < (mkCuts g14 mm14).length - i from (by first | omega | (simp_all; omega))),?_⟩
        exact Sub.of [] (@cast (((Sd (.ints (mkCuts g14 mm14))) ∧ (Sd (.ints (cutsOf g14))) ∧ (Si (((i + 1) : Nat) : Int)) ∧ True) ∧ True ∧ (true = true) ∧ (true = true)) _ (by kernel_rfl) ⟨⟨rfl,rfl,rfl,tt⟩,tt,rfl,rfl⟩)
    ·intro n41
     refine W.exit (thenQ_exit (thenQ_exit (blockQ_hit ?_)))
     refine thenQ_normal ?_
     refine Kk cok tab3 hnt [] [2] (⟨[(2,.b (ascends (mkCuts g14 mm14)))],[],[999]⟩)
      (True ∧ (True ∧ (True ∧ True) ∧ True) ∧ True ∧ True)
      ⟨tt,⟨tt,⟨tt,tt⟩,tt⟩,tt,tt⟩ ?_
     refine W.ret ?_
     exact endQ_ret (.b (ascends (mkCuts g14 mm14))) (by kernel_rfl) (@cast ((.bool (ascends (mkCuts g14 mm14)) : Value) = .bool true) _ (by kernel_rfl) (congrArg Value.bool (by exact mkCuts_asc _ _)))
end Go.Proofs.Try
