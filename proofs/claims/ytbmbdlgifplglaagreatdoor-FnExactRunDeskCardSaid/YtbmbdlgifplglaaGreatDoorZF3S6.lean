import Derived.Test.YtbmbdlgifplglaaGreatDoorZF3S0
import Derived.Test.YtbmbdlgifplglaaGreatDoorZF3S1
import Derived.Test.YtbmbdlgifplglaaGreatDoorZF3S4
import Derived.Test.YtbmbdlgifplglaaGreatDoorZF3S5
set_option maxRecDepth 100000
set_option maxHeartbeats 1000000
set_option linter.unusedSimpArgs false
set_option linter.unusedVariables false
namespace Go.Proofs.Tryz
open Go.Ab Go.RowKit
def fs26 : FnS := fnS [.o,.s .calls] [.str,.calls] (fun _ (s,h,_)=>(.sl (.intss (ordersBy s h (aheadF h))),[],Y))
abbrev T26 : Tab := lk [(44,fs44),(45,fs45),(46,fs46)]
theorem tab26 : TabOK prog T26 := (TabOK.cons ok44 ent44 (TabOK.cons ok45 ent45 (TabOK.cons ok46 ent46 TabOK.nil)))
theorem ok26 : FnOK prog 26 fs26 := by
 refine FnOK.mk cok func26 rfl rfl rfl ?_
 rintro fl ⟨(s:ByteArray),(h : List CallD),_⟩ hpre F hnt0 _
 have hnt : F.nt=15 := hnt0.trans ntmps26
 clear hpre
 refine W.to (⟨[(0,.v (.string s)),(1,.sl (.calls h))],[],[999]⟩) rfl ?_
 refine W.lenOf 1 (.calls h) (by kernel_rfl) ?_
 intro hl_h; replace hl_h : List.length h≤9223372036854775807 := hl_h
 refine Kk cok tab26 hnt [] [0,1] (⟨[(0,.v (.string s)),(1,.sl (.calls h))],[],[999]⟩)
  (Y∧Y)
  ⟨tt,tt⟩ ?_
 refine W.seq ?_
 refine Kk cok tab26 hnt [] [0,1,8] (⟨[(0,.v (.string s)),(1,.sl (.calls h)),(8,.b (!(isObject s && validHistory h)))],[],[999]⟩)
  (Y∧Y∧(Y∧(Y∧Y∧Y)∧Y)∧Y∧Y)
  ⟨tt,tt,⟨tt,⟨tt,tt,tt⟩,tt⟩,tt,tt⟩ ?_
 refine W.if' (!(isObject s && validHistory h)) (.b (!(isObject s && validHistory h))) (by kernel_rfl) rfl trivial ?_ ?_
 ·intro h8
  refine Kk cok tab26 hnt [] [4] (⟨[(4,.v (.slice none 0 0))],[],[999]⟩)
   (Y∧Y)
   ⟨tt,tt⟩ ?_
  refine W.ret (thenQ_ret ?_)
  exact endQ_ret (.v (.slice none 0 0)) (by kernel_rfl) (@cast (((Value.slice none 0 0:Value)=.slice none 0 0)∧((Dat.intss (ordersBy s h (aheadF h))).len=0)) _ (by kernel_rfl) ⟨rfl,(by show List.length (ordersBy s h (aheadF h))=0; first | exact (by_no (not_f h8)).symm | (rw [by_no (not_f h8)]; rfl))⟩)
 ·intro n8
  refine W.skip (thenQ_normal ?_)
  refine Kk cok tab26 hnt [] [4] (⟨[(4,.sl (.intss (ordersF s h (bitF (rowsOf h.length (aheadF h))) (h.length - ([] : List Int).length) ([] : List Int))))],[],[13,999]⟩)
   (Y∧Y∧Y∧(Y∧(Y∧Y)∧(h.length≤60))∧Y∧(Y∧(Y∧Y∧Y∧Y∧Y)∧(isObject s=true)∧(validHistory h=true)∧((rowsOf h.length (aheadF h))=rowsOf h.length (bitF (rowsOf h.length (aheadF h))))∧(headO h ([] : List Int)))∧Y∧Y)
   ⟨tt,tt,tt,⟨tt,⟨tt,tt⟩,(by have h6 := (valid_iff.1 (and_r (not_g n8))).1; omega)⟩,tt,⟨tt,⟨tt,tt,tt,tt,tt⟩,(by exact and_l (not_g n8)),(by exact and_r (not_g n8)),(by exact rows_self),(by exact headO_nil h)⟩,tt,tt⟩ ?_
  refine W.ret ?_
  exact endQ_ret (.sl (.intss (ordersF s h (bitF (rowsOf h.length (aheadF h))) (h.length - ([] : List Int).length) ([] : List Int)))) (by kernel_rfl) (@cast ((.intss (ordersF s h (bitF (rowsOf h.length (aheadF h))) (h.length - ([] : List Int).length) ([] : List Int)):Dat)=.intss (ordersBy s h (aheadF h))) _ (by kernel_rfl) (congrArg Dat.intss (by exact by_val (not_g n8) rfl)))
theorem ent26 : Entr prog 26 := ⟨_,func26,rfl,by decide⟩
end Go.Proofs.Tryz

set_option linter.unusedSimpArgs false
set_option linter.unusedVariables false
namespace Go.Proofs.Tryz
open Go.Ab Go.RowKit
def fs47 : FnS := fnS [.s .calls] [.calls] (fun _ (h,_)=>(.sl (.ints (rowsOf h.length (ownF h))),[],(h.length≤60)))
abbrev T47 : Tab := lk [(65,fs65),(67,fs67)]
theorem tab47 : TabOK prog T47 := (TabOK.cons ok65 ent65 (TabOK.cons ok67 ent67 TabOK.nil))
theorem ok47 : FnOK prog 47 fs47 := by
 refine FnOK.mk cok func47 rfl rfl rfl ?_
 rintro fl ⟨(h : List CallD),_⟩ hpre F hnt0 _
 have hnt : F.nt=51 := hnt0.trans ntmps47
 replace hpre : (h.length≤60) := hpre
 have hn := hpre
 refine W.to (⟨[(0,.sl (.calls h))],[],[999]⟩) rfl ?_
 refine W.lenOf 0 (.calls h) (by kernel_rfl) ?_
 intro hl_h; replace hl_h : List.length h≤9223372036854775807 := hl_h
 refine Kk cok tab47 hnt [] [0] (⟨[(0,.sl (.calls h))],[],[999]⟩)
  (Y∧Y)
  ⟨tt,tt⟩ ?_
 refine Kk cok tab47 hnt [7] [0,3] (⟨[(0,.sl (.calls h)),(3,.own 7 (List.length ([] : List Int)))],[(7,⟨3,.row (.ints ([] : List Int))⟩)],[7,999]⟩)
  (Y∧Y∧Y)
  ⟨tt,tt,tt⟩ ?_
 refine W.seq ?_
 refine Kk cok tab47 hnt [] [0,3,4] (⟨[(0,.sl (.calls h)),(3,.own 7 (List.length ([] : List Int))),(4,.i (0:Int))],[(7,⟨3,.row (.ints ([] : List Int))⟩)],[7,999]⟩)
  (Y∧Y)
  ⟨tt,tt⟩ ?_
 refine W.block ?_
 refine W.loop (ι := (List Int) × Nat) (fun (x : (List Int) × Nat)=>match x with | (o,i)=>(⟨[(0,.sl (.calls h)),(3,.own 7 o.length),(4,.i ((i:Nat):Int))],[(7,⟨3,.row (.ints o)⟩)],[7,999]⟩:St))
  (fun (x : (List Int) × Nat)=>match x with | (o,i)=>(i≤h.length)∧(o=(List.range i).map fun j=>mask h.length (ownF h j)))
  (fun (x : (List Int) × Nat)=>match x with | (o,i)=>(h.length - i:Nat)) (([] : List Int),0) ?_ ?_ ?_
 ·exact (show (0≤h.length)∧(([] : List Int)=(List.range 0).map fun j=>mask h.length (ownF h j)) from ⟨(by first | assumption | omega | rfl | (intro _ hjj; omega) | (simp; done) | (simp; omega)),(by rfl)⟩)
 ·exact Sub.of [] (@cast (((Sd (.calls h))∧(((7:Nat)=7)∧((List.length ([] : List Int))=(List.length ([] : List Int)))∧((7:Nat) ∈ ([7,999] : List Nat)))∧((.int .i64 (0:Int):Value)=.int .i64 ((0:Nat):Int))∧Y)∧((((3:Nat)=3)∧(Sd (.ints ([] : List Int)))∧((7:Nat) ∈ ([7,999] : List Nat)))∧Y)∧(true=true)∧(true=true)) _ (by kernel_rfl) ⟨⟨rfl,⟨rfl,rfl,(by decide)⟩,(congrArg (Value.int .i64) (by first | rfl | omega | assumption | simp | simp_all)),tt⟩,⟨⟨rfl,rfl,(by decide)⟩,tt⟩,rfl,rfl⟩)
 ·rintro ⟨o,i⟩ hC0
  have hC : (i≤h.length)∧(o=(List.range i).map fun j=>mask h.length (ownF h j)) := hC0
  clear hC0
  obtain ⟨hi,ho⟩ := hC
  refine W.to (⟨[(0,.sl (.calls h)),(3,.own 7 o.length),(4,.i ((i:Nat):Int))],[(7,⟨3,.row (.ints o)⟩)],[7,999]⟩) rfl ?_
  have hol : o.length=i := by rw [ho]; simp
  refine W.seq ?_
  refine Kk cok tab47 hnt [] [0,3,4,11] (⟨[(0,.sl (.calls h)),(3,.own 7 o.length),(4,.i ((i:Nat):Int)),(11,.b (decide (((i:Nat):Int)<(h.length:Int))))],[(7,⟨3,.row (.ints o)⟩)],[7,999]⟩)
   (Y∧Y∧Y∧(Y∧Y∧Y)∧Y)
   ⟨tt,tt,tt,⟨tt,tt,tt⟩,tt⟩ ?_
  refine W.ifP (((i:Nat):Int)<(h.length:Int)) (.b (decide (((i:Nat):Int)<(h.length:Int)))) (by kernel_rfl) rfl trivial ?_ ?_
  ·intro h11
   refine W.skip (thenQ_normal ?_)
   refine W.seq ?_
   refine W.block ?_
   refine Kk cok tab47 hnt [] [0,3,4,5] (⟨[(0,.sl (.calls h)),(3,.own 7 o.length),(4,.i ((i:Nat):Int)),(5,.i (0:Int))],[(7,⟨3,.row (.ints o)⟩)],[7,999]⟩)
    (Y∧Y)
    ⟨tt,tt⟩ ?_
   refine W.seq ?_
   refine Kk cok tab47 hnt [] [0,3,4,5,6] (⟨[(0,.sl (.calls h)),(3,.own 7 o.length),(4,.i ((i:Nat):Int)),(5,.i (0:Int)),(6,.i (0:Int))],[(7,⟨3,.row (.ints o)⟩)],[7,999]⟩)
    (Y∧Y)
    ⟨tt,tt⟩ ?_
   refine W.block ?_
   refine W.loop (ι := Int × Nat) (fun (x : Int × Nat)=>match x with | (r,k)=>(⟨[(0,.sl (.calls h)),(3,.own 7 o.length),(4,.i ((i:Nat):Int)),(5,.i r),(6,.i ((k:Nat):Int))],[(7,⟨3,.row (.ints o)⟩)],[7,999]⟩:St))
    (fun (x : Int × Nat)=>match x with | (r,k)=>(k≤h.length)∧(r=mask k (ownF h i)))
    (fun (x : Int × Nat)=>match x with | (r,k)=>(h.length - k:Nat)) ((0:Int),0) ?_ ?_ ?_
   ·exact (show (0≤h.length)∧((0:Int)=mask 0 (ownF h i)) from ⟨(by first | assumption | omega | rfl | (intro _ hjj; omega) | (simp; done) | (simp; omega)),(by rfl)⟩)
   ·exact Sub.of [] (@cast (((Sd (.calls h))∧(((7:Nat)=7)∧(o.length=o.length)∧((7:Nat) ∈ ([7,999] : List Nat)))∧(Si ((i:Nat):Int))∧(Si (0:Int))∧((.int .i64 (0:Int):Value)=.int .i64 ((0:Nat):Int))∧Y)∧((((3:Nat)=3)∧(Sd (.ints o))∧((7:Nat) ∈ ([7,999] : List Nat)))∧Y)∧(true=true)∧(true=true)) _ (by kernel_rfl) ⟨⟨rfl,⟨rfl,rfl,(by decide)⟩,rfl,rfl,(congrArg (Value.int .i64) (by first | rfl | omega | assumption | simp | simp_all)),tt⟩,⟨⟨rfl,rfl,(by decide)⟩,tt⟩,rfl,rfl⟩)
   ·rintro ⟨r,k⟩ hC0
    have hC : (k≤h.length)∧(r=mask k (ownF h i)) := hC0
    clear hC0
    obtain ⟨hk,hr⟩ := hC
    refine W.to (⟨[(0,.sl (.calls h)),(3,.own 7 o.length),(4,.i ((i:Nat):Int)),(5,.i r),(6,.i ((k:Nat):Int))],[(7,⟨3,.row (.ints o)⟩)],[7,999]⟩) rfl ?_
    have hmb := mask_bnd k (ownF h i) (by omega)
    refine W.seq ?_
    refine Kk cok tab47 hnt [] [0,3,4,5,6,17] (⟨[(0,.sl (.calls h)),(3,.own 7 o.length),(4,.i ((i:Nat):Int)),(5,.i r),(6,.i ((k:Nat):Int)),(17,.b (decide (((k:Nat):Int)<(h.length:Int))))],[(7,⟨3,.row (.ints o)⟩)],[7,999]⟩)
     (Y∧Y∧Y∧(Y∧Y∧Y)∧Y)
     ⟨tt,tt,tt,⟨tt,tt,tt⟩,tt⟩ ?_
    refine W.ifP (((k:Nat):Int)<(h.length:Int)) (.b (decide (((k:Nat):Int)<(h.length:Int)))) (by kernel_rfl) rfl trivial ?_ ?_
    ·intro h17
     refine W.skip (thenQ_normal ?_)
     refine W.seq ?_
     refine W.block ?_
     refine W.KA cok tab47 hnt [] [0,3,4,5,6,41] (⟨[(0,.sl (.calls h)),(3,.own 7 o.length),(4,.i ((i:Nat):Int)),(5,.i r),(6,.i ((k:Nat):Int)),(41,.b ((decide (((h.getD k default).proc)=((h.getD i default).proc))) && (isBefore (h.getD k default) (h.getD i default))))],[(7,⟨3,.row (.ints o)⟩)],[7,999]⟩)
      ((fun (Z1:Bool)=>(Y∧(Y∧((Y∧(Y∧((0≤((k:Nat):Int))∧(((k:Nat):Int)<(h.length:Int)))))∧(Y∧(Y∧(Y∧(Y∧((Y∧(Y∧((0≤((i:Nat):Int))∧(((i:Nat):Int)<(h.length:Int)))))∧(Y∧(Y∧((Y∧(Y∧Y))∧(Y∧((Z1=true→Y)∧((Z1=true→Y)∧((Z1=true→(((Z1=true)∧Y)∧(((Z1=true)∧Y)∧((0≤((k:Nat):Int))∧(((k:Nat):Int)<(h.length:Int))))))∧((Z1=true→((Z1=true)∧Y))∧((Z1=true→Y)∧((Z1=true→Y)∧((Z1=true→(((Z1=true)∧Y)∧(((Z1=true)∧Y)∧((0≤((i:Nat):Int))∧(((i:Nat):Int)<(h.length:Int))))))∧((Z1=true→((Z1=true)∧Y))∧((Z1=true→(Y∧((((Z1=true)∧Y)∧(((Z1=true)∧Y)∧Y))∧Y)))∧((Y∧((Z1=true→(Z1=true)∧Y)∧(Z1=false→Y)))∧Y))))))))))))))))))))))) (decide (((h.getD k default).proc)=((h.getD i default).proc)))) (by kernel_rfl) (by kernel_rfl)
      ⟨tt,tt,⟨tt,tt,(by omega),(by omega)⟩,tt,tt,tt,tt,⟨tt,tt,(by omega),(by omega)⟩,tt,tt,⟨tt,tt,tt⟩,tt,(fun _=>trivial),(fun _=>trivial),(fun hG=>⟨⟨hG,tt⟩,⟨hG,tt⟩,(by have hg0 : ((h.getD k default).proc)=((h.getD i default).proc) := of_decide_eq_true hG; omega),(by have hg0 : ((h.getD k default).proc)=((h.getD i default).proc) := of_decide_eq_true hG; omega)⟩),(fun hG=>⟨hG,tt⟩),(fun _=>trivial),(fun _=>trivial),(fun hG=>⟨⟨hG,tt⟩,⟨hG,tt⟩,(by have hg0 : ((h.getD k default).proc)=((h.getD i default).proc) := of_decide_eq_true hG; omega),(by have hg0 : ((h.getD k default).proc)=((h.getD i default).proc) := of_decide_eq_true hG; omega)⟩),(fun hG=>⟨hG,tt⟩),(fun hG=>⟨tt,⟨⟨hG,tt⟩,⟨hG,tt⟩,tt⟩,tt⟩),⟨tt,(fun hp=>⟨hp,tt⟩),(fun _=>trivial)⟩,tt⟩ ?_
     refine W.if' ((decide (((h.getD k default).proc)=((h.getD i default).proc))) && (isBefore (h.getD k default) (h.getD i default))) (.b ((decide (((h.getD k default).proc)=((h.getD i default).proc))) && (isBefore (h.getD k default) (h.getD i default)))) (by kernel_rfl) rfl trivial ?_ ?_
     ·intro h41
      have h41_0 : ((h.getD k default).proc)=((h.getD i default).proc) := of_decide_eq_true (and_l h41)
      have hpw := power_le (n := (k:Int)) (by omega)
      have hpw0 := power_pos (k:Int)
      refine Lk cok tab47 hnt [] (⟨[(0,.sl (.calls h)),(3,.own 7 o.length),(4,.i ((i:Nat):Int)),(5,.i (r+(power ((k:Nat):Int)))),(6,.i ((k:Nat):Int)),(41,.b ((decide (((h.getD k default).proc)=((h.getD i default).proc))) && (isBefore (h.getD k default) (h.getD i default)))),(42,.i r),(43,.i ((k:Nat):Int)),(44,.i (power ((k:Nat):Int))),(45,.i (r+(power ((k:Nat):Int))))],[(7,⟨3,.row (.ints o)⟩)],[7,999]⟩)
       (Y∧Y∧(Y∧(Y∧Y)∧(((k:Nat):Int)≤60))∧(Y∧Y∧(Fits .i64 (r+(power ((k:Nat):Int)))))∧Y∧Y)
       ⟨tt,tt,⟨tt,⟨tt,tt⟩,(by omega)⟩,⟨tt,tt,(by exact fits_i64 (by omega) (by omega))⟩,tt,tt⟩ ?_
      refine blockQ_normal (thenQ_normal ?_)
      refine Lk cok tab47 hnt [] (⟨[(0,.sl (.calls h)),(3,.own 7 o.length),(4,.i ((i:Nat):Int)),(5,.i (r+(power ((k:Nat):Int)))),(6,.i (((k+1):Nat):Int)),(18,.i ((k:Nat):Int)),(19,.i (((k+1):Nat):Int)),(41,.b ((decide (((h.getD k default).proc)=((h.getD i default).proc))) && (isBefore (h.getD k default) (h.getD i default)))),(42,.i r),(43,.i ((k:Nat):Int)),(44,.i (power ((k:Nat):Int))),(45,.i (r+(power ((k:Nat):Int))))],[(7,⟨3,.row (.ints o)⟩)],[7,999]⟩)
       (Y∧(Y∧Y∧(Fits .i64 (((k+1):Nat):Int)))∧Y∧Y)
       ⟨tt,⟨tt,tt,(by exact fits_i64 (by omega) (by omega))⟩,tt,tt⟩ ?_
      refine thenQ_normal ?_
      refine ⟨((r+(power ((k:Nat):Int))),(k+1)),(show ((k+1)≤h.length)∧((r+(power ((k:Nat):Int)))=mask (k+1) (ownF h i)) from ⟨(by first | assumption | omega | rfl | (intro _ hjj; omega) | (simp; done) | (simp; omega)),(by first | (rw [hr]; exact (mask_skip (own_fold n41)).symm) | (rw [hr,mask_add (own_fold h41)]; rfl))⟩),(show h.length - (k+1)<h.length - k from (by first | omega | (simp_all; omega))),?_⟩
      exact Sub.of [] (@cast (((Sd (.calls h))∧(((7:Nat)=7)∧(o.length=o.length)∧((7:Nat) ∈ ([7,999] : List Nat)))∧(Si ((i:Nat):Int))∧(Si (r+(power ((k:Nat):Int))))∧(Si (((k+1):Nat):Int))∧Y)∧((((3:Nat)=3)∧(Sd (.ints o))∧((7:Nat) ∈ ([7,999] : List Nat)))∧Y)∧(true=true)∧(true=true)) _ (by kernel_rfl) ⟨⟨rfl,⟨rfl,rfl,(by decide)⟩,rfl,rfl,rfl,tt⟩,⟨⟨rfl,rfl,(by decide)⟩,tt⟩,rfl,rfl⟩)
     ·intro n41
      refine W.skip (blockQ_normal (thenQ_normal ?_))
      refine Lk cok tab47 hnt [] (⟨[(0,.sl (.calls h)),(3,.own 7 o.length),(4,.i ((i:Nat):Int)),(5,.i r),(6,.i (((k+1):Nat):Int)),(18,.i ((k:Nat):Int)),(19,.i (((k+1):Nat):Int)),(41,.b ((decide (((h.getD k default).proc)=((h.getD i default).proc))) && (isBefore (h.getD k default) (h.getD i default))))],[(7,⟨3,.row (.ints o)⟩)],[7,999]⟩)
       (Y∧(Y∧Y∧(Fits .i64 (((k+1):Nat):Int)))∧Y∧Y)
       ⟨tt,⟨tt,tt,(by exact fits_i64 (by omega) (by omega))⟩,tt,tt⟩ ?_
      refine thenQ_normal ?_
      refine ⟨(r,(k+1)),(show ((k+1)≤h.length)∧(r=mask (k+1) (ownF h i)) from ⟨(by first | assumption | omega | rfl | (intro _ hjj; omega) | (simp; done) | (simp; omega)),(by first | (rw [hr]; exact (mask_skip (own_fold n41)).symm) | (rw [hr,mask_add (own_fold h41)]; rfl))⟩),(show h.length - (k+1)<h.length - k from (by first | omega | (simp_all; omega))),?_⟩
      exact Sub.of [] (@cast (((Sd (.calls h))∧(((7:Nat)=7)∧(o.length=o.length)∧((7:Nat) ∈ ([7,999] : List Nat)))∧(Si ((i:Nat):Int))∧(Si r)∧(Si (((k+1):Nat):Int))∧Y)∧((((3:Nat)=3)∧(Sd (.ints o))∧((7:Nat) ∈ ([7,999] : List Nat)))∧Y)∧(true=true)∧(true=true)) _ (by kernel_rfl) ⟨⟨rfl,⟨rfl,rfl,(by decide)⟩,rfl,rfl,rfl,tt⟩,⟨⟨rfl,rfl,(by decide)⟩,tt⟩,rfl,rfl⟩)
    ·intro n17
     refine W.exit (thenQ_exit (thenQ_exit (blockQ_hit ?_)))
     refine thenQ_normal ?_
     refine Lk cok tab47 hnt [49] (⟨[(0,.sl (.calls h)),(3,.own 49 (List.length (o++([r])))),(4,.i ((i:Nat):Int)),(5,.i r),(6,.i ((k:Nat):Int)),(17,.b (decide (((k:Nat):Int)<(h.length:Int)))),(46,.own 7 o.length),(47,.i r),(48,.sl (.ints ([r]))),(49,.own 49 (List.length (o++([r]))))],[(49,⟨3,.row (.ints (o++([r])))⟩)],[49,48,7,999]⟩)
      (Y∧Y∧(Y∧Y)∧((Y∧(o.length=o.length))∧Y∧((o.length+(List.length ([r]))) * 8≤140737488355328))∧Y∧Y)
      ⟨tt,tt,⟨tt,tt⟩,⟨⟨tt,rfl⟩,tt,(by (first | omega | (simp only [List.length_set]; done) | (simp only [ln] at *; omega) | assumption))⟩,tt,tt⟩ ?_
     refine blockQ_normal (thenQ_normal ?_)
     refine Lk cok tab47 hnt [] (⟨[(0,.sl (.calls h)),(3,.own 49 (List.length (o++([r])))),(4,.i (((i+1):Nat):Int)),(5,.i r),(6,.i ((k:Nat):Int)),(12,.i ((i:Nat):Int)),(13,.i (((i+1):Nat):Int)),(17,.b (decide (((k:Nat):Int)<(h.length:Int)))),(46,.own 7 o.length),(47,.i r),(48,.sl (.ints ([r]))),(49,.own 49 (List.length (o++([r]))))],[(49,⟨3,.row (.ints (o++([r])))⟩)],[49,48,7,999]⟩)
      (Y∧(Y∧Y∧(Fits .i64 (((i+1):Nat):Int)))∧Y∧Y)
      ⟨tt,⟨tt,tt,(by exact fits_i64 (by omega) (by omega))⟩,tt,tt⟩ ?_
     refine thenQ_normal ?_
     refine ⟨((o++([r])),(i+1)),(show ((i+1)≤h.length)∧((o++([r]))=(List.range (i+1)).map fun j=>mask h.length (ownF h j)) from ⟨(by first | assumption | omega | rfl | (intro _ hjj; omega) | (simp; done) | (simp; omega)),(by rw [ho]; exact rows_snoc _ _ _ _ (by rw [hr,show k=h.length by omega]))⟩),(show h.length - (i+1)<h.length - i from (by first | omega | (simp_all; omega))),?_⟩
     exact Sub.of [(7,49)] (@cast (((Sd (.calls h))∧(((49:Nat)=49)∧((List.length (o++([r])))=(List.length (o++([r]))))∧((7:Nat) ∈ ([7,999] : List Nat)))∧(Si (((i+1):Nat):Int))∧Y)∧((((3:Nat)=3)∧(Sd (.ints (o++([r]))))∧((7:Nat) ∈ ([7,999] : List Nat)))∧Y)∧(true=true)∧(true=true)) _ (by kernel_rfl) ⟨⟨rfl,⟨rfl,rfl,(by decide)⟩,rfl,tt⟩,⟨⟨rfl,rfl,(by decide)⟩,tt⟩,rfl,rfl⟩)
  ·intro n11
   refine W.exit (thenQ_exit (thenQ_exit (blockQ_hit ?_)))
   refine thenQ_normal ?_
   refine Kk cok tab47 hnt [] [2] (⟨[(2,.own 7 o.length)],[(7,⟨3,.row (.ints o)⟩)],[7,999]⟩)
    (Y∧Y∧Y)
    ⟨tt,tt,tt⟩ ?_
   refine W.ret ?_
   exact endQ_ret (.own 7 o.length) (by kernel_rfl) (@cast ((o.length=o.length)∧((.ints o:Dat)=.ints (rowsOf h.length (ownF h)))∧((7:Nat) ∉ ([] : List Nat))) _ (by kernel_rfl) ⟨rfl,⟨(congrArg Dat.ints (by rw [ho,show i=h.length by omega]; rfl)),(by decide)⟩⟩)
theorem ent47 : Entr prog 47 := ⟨_,func47,rfl,by decide⟩
end Go.Proofs.Tryz

set_option linter.unusedSimpArgs false
set_option linter.unusedVariables false
namespace Go.Proofs.Tryz
open Go.Ab Go.RowKit
def fs27 : FnS := fnS [.o,.s .calls] [.str,.calls] (fun _ (s,h,_)=>(.b (explains s h (ownF h)),[],Y))
abbrev T27 : Tab := lk [(44,fs44),(45,fs45),(47,fs47)]
theorem tab27 : TabOK prog T27 := (TabOK.cons ok44 ent44 (TabOK.cons ok45 ent45 (TabOK.cons ok47 ent47 TabOK.nil)))
theorem ok27 : FnOK prog 27 fs27 := by
 refine FnOK.mk cok func27 rfl rfl rfl ?_
 rintro fl ⟨(s:ByteArray),(h : List CallD),_⟩ hpre F hnt0 _
 have hnt : F.nt=18 := hnt0.trans ntmps27
 clear hpre
 refine W.to (⟨[(0,.v (.string s)),(1,.sl (.calls h))],[],[999]⟩) rfl ?_
 refine W.lenOf 1 (.calls h) (by kernel_rfl) ?_
 intro hl_h; replace hl_h : List.length h≤9223372036854775807 := hl_h
 refine Kk cok tab27 hnt [] [0,1] (⟨[(0,.v (.string s)),(1,.sl (.calls h))],[],[999]⟩)
  (Y∧Y)
  ⟨tt,tt⟩ ?_
 refine Kk cok tab27 hnt [] [4] (⟨[(4,.b ((isObject s && validHistory h) && (decide ((0:Int)<(((List.length (ordersF s h (bitF (rowsOf h.length (ownF h))) (h.length - ([] : List Int).length) ([] : List Int))):Nat):Int)))))],[],[13,999]⟩)
  ((fun (Z1:Bool)=>(Y∧(Y∧((Y∧((Y∧(Y∧Y))∧Y))∧(Y∧((Z1=true→Y)∧((Z1=true→Y)∧((Z1=true→Y)∧((Z1=true→(Y∧((((Z1=true)∧Y)∧Y)∧(h.length≤60))))∧((Z1=true→Y)∧((Z1=true→(Y∧((((Z1=true)∧Y)∧(((Z1=true)∧Y)∧(((Z1=true)∧Y)∧(((Z1=true)∧Y)∧Y))))∧((isObject s=true)∧((validHistory h=true)∧(((rowsOf h.length (ownF h))=rowsOf h.length (bitF (rowsOf h.length (ownF h))))∧(headO h ([] : List Int))))))))∧((Z1=true→((Z1=true)∧Y))∧((Z1=true→(((Z1=true)∧Y)∧(Y∧Y)))∧((Y∧((Z1=true→(Z1=true)∧Y)∧(Z1=false→Y)))∧(Y∧Y))))))))))))))) (isObject s && validHistory h))
  ⟨tt,tt,⟨tt,⟨tt,tt,tt⟩,tt⟩,tt,(fun _=>trivial),(fun _=>trivial),(fun _=>trivial),(fun hG=>⟨tt,⟨⟨hG,tt⟩,tt⟩,(by have h6 := (valid_iff.1 (and_r hG)).1; omega)⟩),(fun _=>trivial),(fun hG=>⟨tt,⟨⟨hG,tt⟩,⟨hG,tt⟩,⟨hG,tt⟩,⟨hG,tt⟩,tt⟩,(by exact and_l hG),(by exact and_r hG),(by exact rows_self),(by exact headO_nil h)⟩),(fun hG=>⟨hG,tt⟩),(fun hG=>⟨⟨hG,tt⟩,tt,tt⟩),⟨tt,(fun hp=>⟨hp,tt⟩),(fun _=>trivial)⟩,tt,tt⟩ ?_
 refine W.ret ?_
 exact endQ_ret (.b ((isObject s && validHistory h) && (decide ((0:Int)<(((List.length (ordersF s h (bitF (rowsOf h.length (ownF h))) (h.length - ([] : List Int).length) ([] : List Int))):Nat):Int))))) (by kernel_rfl) (@cast ((.bool ((isObject s && validHistory h) && (decide ((0:Int)<(((List.length (ordersF s h (bitF (rowsOf h.length (ownF h))) (h.length - ([] : List Int).length) ([] : List Int))):Nat):Int)))):Value)=.bool (explains s h (ownF h))) _ (by kernel_rfl) (congrArg Value.bool (by exact by_gt (fun _=>rfl))))
theorem ent27 : Entr prog 27 := ⟨_,func27,rfl,by decide⟩
end Go.Proofs.Tryz

set_option linter.unusedSimpArgs false
set_option linter.unusedVariables false
namespace Go.Proofs.Tryz
open Go.Ab Go.RowKit
def fs48 : FnS := fnS [.s .calls] [.calls] (fun _ (h,_)=>(.sl (.ints (rowsOf h.length (quietF h))),[],(validHistory h=true)))
abbrev T48 : Tab := lk [(65,fs65)]
theorem tab48 : TabOK prog T48 := (TabOK.cons ok65 ent65 TabOK.nil)
theorem ok48 : FnOK prog 48 fs48 := by
 refine FnOK.mk cok func48 rfl rfl rfl ?_
 rintro fl ⟨(h : List CallD),_⟩ hpre F hnt0 _
 have hnt : F.nt=84 := hnt0.trans ntmps48
 replace hpre : (validHistory h=true) := hpre
 have hv := hpre
 refine W.to (⟨[(0,.sl (.calls h))],[],[999]⟩) rfl ?_
 have hv6 := (valid_iff.1 hv).1
 refine W.lenOf 0 (.calls h) (by kernel_rfl) ?_
 intro hl_h; replace hl_h : List.length h≤9223372036854775807 := hl_h
 refine Kk cok tab48 hnt [] [0] (⟨[(0,.sl (.calls h))],[],[999]⟩)
  (Y∧Y)
  ⟨tt,tt⟩ ?_
 refine Kk cok tab48 hnt [11] [0,3] (⟨[(0,.sl (.calls h)),(3,.own 11 (List.length (List.replicate h.length (0:Int))))],[(11,⟨3,.row (.ints (List.replicate h.length (0:Int)))⟩)],[11,999]⟩)
  (Y∧Y∧(Y∧Y∧((h.length:Int)=(h.length:Int))∧(0≤(h.length:Int))∧((h.length:Int) * 8≤281474976710656))∧Y∧Y)
  ⟨tt,tt,⟨tt,tt,rfl,(by omega),(by omega)⟩,tt,tt⟩ ?_
 refine W.seq ?_
 refine Kk cok tab48 hnt [] [0,3,4] (⟨[(0,.sl (.calls h)),(3,.own 11 (List.length (List.replicate h.length (0:Int)))),(4,.i (0:Int))],[(11,⟨3,.row (.ints (List.replicate h.length (0:Int)))⟩)],[11,999]⟩)
  (Y∧Y)
  ⟨tt,tt⟩ ?_
 refine W.block ?_
 refine W.loop (ι := (List Int) × Nat) (fun (x : (List Int) × Nat)=>match x with | (o,t)=>(⟨[(0,.sl (.calls h)),(3,.own 11 o.length),(4,.i ((t:Nat):Int))],[(11,⟨3,.row (.ints o)⟩)],[11,999]⟩:St))
  (fun (x : (List Int) × Nat)=>match x with | (o,t)=>(t≤31)∧(o=rowsOf h.length (quietT h t)))
  (fun (x : (List Int) × Nat)=>match x with | (o,t)=>(31 - t:Nat)) ((List.replicate h.length (0:Int)),0) ?_ ?_ ?_
 ·exact (show (0≤31)∧((List.replicate h.length (0:Int))=rowsOf h.length (quietT h 0)) from ⟨(by first | assumption | omega | rfl | (intro _ hjj; omega) | (simp; done) | (simp; omega)),(by exact rows_zero _ _)⟩)
 ·exact Sub.of [] (@cast (((Sd (.calls h))∧(((11:Nat)=11)∧((List.length (List.replicate h.length (0:Int)))=(List.length (List.replicate h.length (0:Int))))∧((11:Nat) ∈ ([11,999] : List Nat)))∧((.int .i64 (0:Int):Value)=.int .i64 ((0:Nat):Int))∧Y)∧((((3:Nat)=3)∧(Sd (.ints (List.replicate h.length (0:Int))))∧((11:Nat) ∈ ([11,999] : List Nat)))∧Y)∧(true=true)∧(true=true)) _ (by kernel_rfl) ⟨⟨rfl,⟨rfl,rfl,(by decide)⟩,(congrArg (Value.int .i64) (by first | rfl | omega | assumption | simp | simp_all)),tt⟩,⟨⟨rfl,rfl,(by decide)⟩,tt⟩,rfl,rfl⟩)
 ·rintro ⟨o,t⟩ hC0
  have hC : (t≤31)∧(o=rowsOf h.length (quietT h t)) := hC0
  clear hC0
  obtain ⟨ht,ho⟩ := hC
  refine W.to (⟨[(0,.sl (.calls h)),(3,.own 11 o.length),(4,.i ((t:Nat):Int))],[(11,⟨3,.row (.ints o)⟩)],[11,999]⟩) rfl ?_
  have hol : o.length=h.length := by rw [ho,rowsOf_len]
  refine W.seq ?_
  refine Kk cok tab48 hnt [] [0,3,4,13] (⟨[(0,.sl (.calls h)),(3,.own 11 o.length),(4,.i ((t:Nat):Int)),(13,.b (decide (((t:Nat):Int)≤(30:Int))))],[(11,⟨3,.row (.ints o)⟩)],[11,999]⟩)
   (Y∧(Y∧Y∧Y)∧Y)
   ⟨tt,⟨tt,tt,tt⟩,tt⟩ ?_
  refine W.ifP (((t:Nat):Int)≤(30:Int)) (.b (decide (((t:Nat):Int)≤(30:Int)))) (by kernel_rfl) rfl trivial ?_ ?_
  ·intro h13
   refine W.skip (thenQ_normal ?_)
   refine W.seq ?_
   refine W.block ?_
   refine Kk cok tab48 hnt [] [0,3,4,5] (⟨[(0,.sl (.calls h)),(3,.own 11 o.length),(4,.i ((t:Nat):Int)),(5,.b false)],[(11,⟨3,.row (.ints o)⟩)],[11,999]⟩)
    (Y∧Y)
    ⟨tt,tt⟩ ?_
   refine W.seq ?_
   refine Kk cok tab48 hnt [] [0,3,4,5,6] (⟨[(0,.sl (.calls h)),(3,.own 11 o.length),(4,.i ((t:Nat):Int)),(5,.b false),(6,.i (0:Int))],[(11,⟨3,.row (.ints o)⟩)],[11,999]⟩)
    (Y∧Y)
    ⟨tt,tt⟩ ?_
   refine W.block ?_
   refine W.loop (ι := Bool × Nat) (fun (x : Bool × Nat)=>match x with | (opn,j)=>(⟨[(0,.sl (.calls h)),(3,.own 11 o.length),(4,.i ((t:Nat):Int)),(5,.b opn),(6,.i ((j:Nat):Int))],[(11,⟨3,.row (.ints o)⟩)],[11,999]⟩:St))
    (fun (x : Bool × Nat)=>match x with | (opn,j)=>(j≤h.length)∧(opn=openB h ((t:Nat):Int) j))
    (fun (x : Bool × Nat)=>match x with | (opn,j)=>(h.length - j:Nat)) (false,0) ?_ ?_ ?_
   ·exact (show (0≤h.length)∧(false=openB h ((t:Nat):Int) 0) from ⟨(by first | assumption | omega | rfl | (intro _ hjj; omega) | (simp; done) | (simp; omega)),(by rfl)⟩)
   ·exact Sub.of [] (@cast (((Sd (.calls h))∧(((11:Nat)=11)∧(o.length=o.length)∧((11:Nat) ∈ ([11,999] : List Nat)))∧(Si ((t:Nat):Int))∧(Sv (.bool false))∧((.int .i64 (0:Int):Value)=.int .i64 ((0:Nat):Int))∧Y)∧((((3:Nat)=3)∧(Sd (.ints o))∧((11:Nat) ∈ ([11,999] : List Nat)))∧Y)∧(true=true)∧(true=true)) _ (by kernel_rfl) ⟨⟨rfl,⟨rfl,rfl,(by decide)⟩,rfl,rfl,(congrArg (Value.int .i64) (by first | rfl | omega | assumption | simp | simp_all)),tt⟩,⟨⟨rfl,rfl,(by decide)⟩,tt⟩,rfl,rfl⟩)
   ·rintro ⟨opn,j⟩ hC0
    have hC : (j≤h.length)∧(opn=openB h ((t:Nat):Int) j) := hC0
    clear hC0
    obtain ⟨hj,hop⟩ := hC
    refine W.to (⟨[(0,.sl (.calls h)),(3,.own 11 o.length),(4,.i ((t:Nat):Int)),(5,.b opn),(6,.i ((j:Nat):Int))],[(11,⟨3,.row (.ints o)⟩)],[11,999]⟩) rfl ?_
    refine W.seq ?_
    refine Kk cok tab48 hnt [] [0,3,4,5,6,19] (⟨[(0,.sl (.calls h)),(3,.own 11 o.length),(4,.i ((t:Nat):Int)),(5,.b opn),(6,.i ((j:Nat):Int)),(19,.b (decide (((j:Nat):Int)<(h.length:Int))))],[(11,⟨3,.row (.ints o)⟩)],[11,999]⟩)
     (Y∧Y∧Y∧(Y∧Y∧Y)∧Y)
     ⟨tt,tt,tt,⟨tt,tt,tt⟩,tt⟩ ?_
    refine W.ifP (((j:Nat):Int)<(h.length:Int)) (.b (decide (((j:Nat):Int)<(h.length:Int)))) (by kernel_rfl) rfl trivial ?_ ?_
    ·intro h19
     refine W.skip (thenQ_normal ?_)
     refine W.seq ?_
     refine W.block ?_
     refine Lk cok tab48 hnt [] ((fun (Z1:Bool)=>((fun (Z2:Bool)=>((fun (Z3:Bool)=>((fun (Z4:Bool)=>(⟨[(0,.sl (.calls h)),(3,.own 11 o.length),(4,.i ((t:Nat):Int)),(5,.b (opn || (Z3 && Z2))),(6,.i ((j:Nat):Int)),(19,.b (decide (((j:Nat):Int)<(h.length:Int)))),(22,.b opn),(23,.b opn),(24,.g Z1 (.sl (.calls h))),(25,.g Z1 (.i ((j:Nat):Int))),(26,.g Z1 (.ep [.i ((h.getD j default).proc),.i ((h.getD j default).obj),.i ((h.getD j default).kind),.i ((h.getD j default).arg),.i ((h.getD j default).ret),.i ((h.getD j default).frm),.i ((h.getD j default).to)])),(27,.g Z1 (.ep [.i ((h.getD j default).frm),.i ((h.getD j default).to)])),(28,.g Z1 (.i ((h.getD j default).frm))),(29,.g Z1 (.i ((t:Nat):Int))),(30,.g Z1 (.b Z3)),(31,.g Z1 (.g Z1 (.b Z3))),(32,.g Z4 (.i ((t:Nat):Int))),(33,.g Z4 (.sl (.calls h))),(34,.g Z4 (.i ((j:Nat):Int))),(35,.g Z4 (.ep [.i ((h.getD j default).proc),.i ((h.getD j default).obj),.i ((h.getD j default).kind),.i ((h.getD j default).arg),.i ((h.getD j default).ret),.i ((h.getD j default).frm),.i ((h.getD j default).to)])),(36,.g Z4 (.ep [.i ((h.getD j default).to)])),(37,.g Z4 (.i ((h.getD j default).to))),(38,.g Z4 (.b Z2)),(39,.g Z1 (.b (Z3 && Z2))),(40,.b (opn || (Z3 && Z2)))],[(11,⟨3,.row (.ints o)⟩)],[11,999]⟩:St)) (Z1 && (Z1 && Z3)))) (decide (((h.getD j default).frm)≤((t:Nat):Int))))) (decide (((t:Nat):Int)<((h.getD j default).to))))) (!opn))
      ((fun (Z1:Bool)=>((fun (Z2:Bool)=>((fun (Z3:Bool)=>(Y∧(Y∧((Z1=true→Y)∧((Z1=true→Y)∧((Z1=true→(((Z1=true)∧Y)∧(((Z1=true)∧Y)∧((0≤((j:Nat):Int))∧(((j:Nat):Int)<(h.length:Int))))))∧((Z1=true→((Z1=true)∧Y))∧((Z1=true→((Z1=true)∧Y))∧((Z1=true→Y)∧((Z1=true→(((Z1=true)∧Y)∧(((Z1=true)∧Y)∧Y)))∧((Z1=true→Y)∧((Z3=true→Y)∧((Z3=true→Y)∧((Z3=true→Y)∧((Z3=true→(((Z3=true)∧Y)∧(((Z3=true)∧Y)∧((0≤((j:Nat):Int))∧(((j:Nat):Int)<(h.length:Int))))))∧((Z3=true→((Z3=true)∧Y))∧((Z3=true→((Z3=true)∧Y))∧((Z3=true→(((Z3=true)∧Y)∧(((Z3=true)∧Y)∧Y)))∧((Z1=true→(((Z1=true)∧((Z1=true)∧Y))∧((Z2=true→(Z3=true)∧Y)∧(Z2=false→Y))))∧((Y∧((opn=true→Y)∧(opn=false→(Z1=true)∧Y)))∧(Y∧Y))))))))))))))))))))) (Z1 && (Z1 && Z2)))) (decide (((h.getD j default).frm)≤((t:Nat):Int))))) (!opn))
      ⟨tt,tt,(fun _=>trivial),(fun _=>trivial),(fun hG=>⟨⟨hG,tt⟩,⟨hG,tt⟩,(by omega),(by omega)⟩),(fun hG=>⟨hG,tt⟩),(fun hG=>⟨hG,tt⟩),(fun _=>trivial),(fun hG=>⟨⟨hG,tt⟩,⟨hG,tt⟩,tt⟩),(fun _=>trivial),(fun _=>trivial),(fun _=>trivial),(fun _=>trivial),(fun hG=>⟨⟨hG,tt⟩,⟨hG,tt⟩,(by have hg0 : ((h.getD j default).frm)≤((t:Nat):Int) := of_decide_eq_true (and_r (and_r hG)); omega),(by have hg0 : ((h.getD j default).frm)≤((t:Nat):Int) := of_decide_eq_true (and_r (and_r hG)); omega)⟩),(fun hG=>⟨hG,tt⟩),(fun hG=>⟨hG,tt⟩),(fun hG=>⟨⟨hG,tt⟩,⟨hG,tt⟩,tt⟩),(fun hG=>⟨⟨hG,hG,tt⟩,(fun hp=>⟨(and_t hG (and_t hG hp)),tt⟩),(fun _=>trivial)⟩),⟨tt,(fun _=>trivial),(fun hp=>⟨(not_t hp),tt⟩)⟩,tt,tt⟩ ?_
     refine blockQ_normal (thenQ_normal ?_)
     refine Lk cok tab48 hnt [] ((fun (Z1:Bool)=>((fun (Z2:Bool)=>((fun (Z3:Bool)=>((fun (Z4:Bool)=>(⟨[(0,.sl (.calls h)),(3,.own 11 o.length),(4,.i ((t:Nat):Int)),(5,.b (opn || (Z3 && Z2))),(6,.i (((j+1):Nat):Int)),(19,.b (decide (((j:Nat):Int)<(h.length:Int)))),(20,.i ((j:Nat):Int)),(21,.i (((j+1):Nat):Int)),(22,.b opn),(23,.b opn),(24,.g Z1 (.sl (.calls h))),(25,.g Z1 (.i ((j:Nat):Int))),(26,.g Z1 (.ep [.i ((h.getD j default).proc),.i ((h.getD j default).obj),.i ((h.getD j default).kind),.i ((h.getD j default).arg),.i ((h.getD j default).ret),.i ((h.getD j default).frm),.i ((h.getD j default).to)])),(27,.g Z1 (.ep [.i ((h.getD j default).frm),.i ((h.getD j default).to)])),(28,.g Z1 (.i ((h.getD j default).frm))),(29,.g Z1 (.i ((t:Nat):Int))),(30,.g Z1 (.b Z3)),(31,.g Z1 (.g Z1 (.b Z3))),(32,.g Z4 (.i ((t:Nat):Int))),(33,.g Z4 (.sl (.calls h))),(34,.g Z4 (.i ((j:Nat):Int))),(35,.g Z4 (.ep [.i ((h.getD j default).proc),.i ((h.getD j default).obj),.i ((h.getD j default).kind),.i ((h.getD j default).arg),.i ((h.getD j default).ret),.i ((h.getD j default).frm),.i ((h.getD j default).to)])),(36,.g Z4 (.ep [.i ((h.getD j default).to)])),(37,.g Z4 (.i ((h.getD j default).to))),(38,.g Z4 (.b Z2)),(39,.g Z1 (.b (Z3 && Z2))),(40,.b (opn || (Z3 && Z2)))],[(11,⟨3,.row (.ints o)⟩)],[11,999]⟩:St)) (Z1 && (Z1 && Z3)))) (decide (((h.getD j default).frm)≤((t:Nat):Int))))) (decide (((t:Nat):Int)<((h.getD j default).to))))) (!opn))
      (Y∧(Y∧Y∧(Fits .i64 (((j+1):Nat):Int)))∧Y∧Y)
      ⟨tt,⟨tt,tt,(by exact fits_i64 (by omega) (by omega))⟩,tt,tt⟩ ?_
     refine thenQ_normal ?_
     refine ⟨((opn || ((decide (((h.getD j default).frm)≤((t:Nat):Int))) && (decide (((t:Nat):Int)<((h.getD j default).to))))),(j+1)),(show ((j+1)≤h.length)∧((opn || ((decide (((h.getD j default).frm)≤((t:Nat):Int))) && (decide (((t:Nat):Int)<((h.getD j default).to)))))=openB h ((t:Nat):Int) (j+1)) from ⟨(by first | assumption | omega | rfl | (intro _ hjj; omega) | (simp; done) | (simp; omega)),(by rw [hop]; exact openB_succ rfl)⟩),(show h.length - (j+1)<h.length - j from (by first | omega | (simp_all; omega))),?_⟩
     exact Sub.of [] (@cast (((Sd (.calls h))∧(((11:Nat)=11)∧(o.length=o.length)∧((11:Nat) ∈ ([11,999] : List Nat)))∧(Si ((t:Nat):Int))∧(Sv (.bool (opn || ((decide (((h.getD j default).frm)≤((t:Nat):Int))) && (decide (((t:Nat):Int)<((h.getD j default).to)))))))∧(Si (((j+1):Nat):Int))∧Y)∧((((3:Nat)=3)∧(Sd (.ints o))∧((11:Nat) ∈ ([11,999] : List Nat)))∧Y)∧(true=true)∧(true=true)) _ (by kernel_rfl) ⟨⟨rfl,⟨rfl,rfl,(by decide)⟩,rfl,rfl,rfl,tt⟩,⟨⟨rfl,rfl,(by decide)⟩,tt⟩,rfl,rfl⟩)
    ·intro n19
     refine W.exit (thenQ_exit (thenQ_exit (blockQ_hit ?_)))
     refine thenQ_normal ?_
     refine Kk cok tab48 hnt [] [0,3,4,5,7] (⟨[(0,.sl (.calls h)),(3,.own 11 o.length),(4,.i ((t:Nat):Int)),(5,.b opn),(7,.i (0:Int))],[(11,⟨3,.row (.ints o)⟩)],[11,999]⟩)
      (Y∧Y)
      ⟨tt,tt⟩ ?_
     refine W.block ?_
     refine W.loop (ι := (List Int) × Nat) (fun (x : (List Int) × Nat)=>match x with | (x,i)=>(⟨[(0,.sl (.calls h)),(3,.own 11 x.length),(4,.i ((t:Nat):Int)),(5,.b opn),(7,.i ((i:Nat):Int))],[(11,⟨3,.row (.ints x)⟩)],[11,999]⟩:St))
      (fun (x : (List Int) × Nat)=>match x with | (x,i)=>(i≤h.length)∧(x=rowsOf h.length (mixF (quietT h t) (quietT h (t+1)) i 0)))
      (fun (x : (List Int) × Nat)=>match x with | (x,i)=>(h.length - i:Nat)) (o,0) ?_ ?_ ?_
     ·exact (show (0≤h.length)∧(o=rowsOf h.length (mixF (quietT h t) (quietT h (t+1)) 0 0)) from ⟨(by first | assumption | omega | rfl | (intro _ hjj; omega) | (simp; done) | (simp; omega)),(by rw [ho]; exact mix_start)⟩)
     ·exact Sub.of [] (@cast (((Sd (.calls h))∧(((11:Nat)=11)∧(o.length=o.length)∧((11:Nat) ∈ ([11,999] : List Nat)))∧(Si ((t:Nat):Int))∧(Sv (.bool opn))∧((.int .i64 (0:Int):Value)=.int .i64 ((0:Nat):Int))∧Y)∧((((3:Nat)=3)∧(Sd (.ints o))∧((11:Nat) ∈ ([11,999] : List Nat)))∧Y)∧(true=true)∧(true=true)) _ (by kernel_rfl) ⟨⟨rfl,⟨rfl,rfl,(by decide)⟩,rfl,rfl,(congrArg (Value.int .i64) (by first | rfl | omega | assumption | simp | simp_all)),tt⟩,⟨⟨rfl,rfl,(by decide)⟩,tt⟩,rfl,rfl⟩)
     ·rintro ⟨x,i⟩ hC0
      have hC : (i≤h.length)∧(x=rowsOf h.length (mixF (quietT h t) (quietT h (t+1)) i 0)) := hC0
      clear hC0
      obtain ⟨hi,hx⟩ := hC
      refine W.to (⟨[(0,.sl (.calls h)),(3,.own 11 x.length),(4,.i ((t:Nat):Int)),(5,.b opn),(7,.i ((i:Nat):Int))],[(11,⟨3,.row (.ints x)⟩)],[11,999]⟩) rfl ?_
      have hxl : x.length=h.length := by rw [hx,rowsOf_len]
      refine W.seq ?_
      refine Kk cok tab48 hnt [] [0,3,4,5,7,48] (⟨[(0,.sl (.calls h)),(3,.own 11 x.length),(4,.i ((t:Nat):Int)),(5,.b opn),(7,.i ((i:Nat):Int)),(48,.b ((decide (((i:Nat):Int)<(h.length:Int))) && (!opn)))],[(11,⟨3,.row (.ints x)⟩)],[11,999]⟩)
       ((fun (Z1:Bool)=>(Y∧(Y∧(Y∧((Y∧(Y∧Y))∧(Y∧((Z1=true→Y)∧((Z1=true→((Z1=true)∧Y))∧((Y∧((Z1=true→(Z1=true)∧Y)∧(Z1=false→Y)))∧Y))))))))) (decide (((i:Nat):Int)<(h.length:Int))))
       ⟨tt,tt,tt,⟨tt,tt,tt⟩,tt,(fun _=>trivial),(fun hG=>⟨hG,tt⟩),⟨tt,(fun hp=>⟨hp,tt⟩),(fun _=>trivial)⟩,tt⟩ ?_
      refine W.if' ((decide (((i:Nat):Int)<(h.length:Int))) && (!opn)) (.b ((decide (((i:Nat):Int)<(h.length:Int))) && (!opn))) (by kernel_rfl) rfl trivial ?_ ?_
      ·intro h48
       have h48_0 : ((i:Nat):Int)<(h.length:Int) := of_decide_eq_true (and_l h48)
       refine W.skip (thenQ_normal ?_)
       refine W.seq ?_
       refine W.block ?_
       refine Kk cok tab48 hnt [] [0,3,4,5,7,8] (⟨[(0,.sl (.calls h)),(3,.own 11 x.length),(4,.i ((t:Nat):Int)),(5,.b opn),(7,.i ((i:Nat):Int)),(8,.i (0:Int))],[(11,⟨3,.row (.ints x)⟩)],[11,999]⟩)
        (Y∧Y)
        ⟨tt,tt⟩ ?_
       refine W.block ?_
       refine W.loop (ι := (List Int) × Nat) (fun (x : (List Int) × Nat)=>match x with | (y,k)=>(⟨[(0,.sl (.calls h)),(3,.own 11 y.length),(4,.i ((t:Nat):Int)),(5,.b opn),(7,.i ((i:Nat):Int)),(8,.i ((k:Nat):Int))],[(11,⟨3,.row (.ints y)⟩)],[11,999]⟩:St))
        (fun (x : (List Int) × Nat)=>match x with | (y,k)=>(k≤h.length)∧(y=rowsOf h.length (mixF (quietT h t) (quietT h (t+1)) i k)))
        (fun (x : (List Int) × Nat)=>match x with | (y,k)=>(h.length - k:Nat)) (x,0) ?_ ?_ ?_
       ·exact (show (0≤h.length)∧(x=rowsOf h.length (mixF (quietT h t) (quietT h (t+1)) i 0)) from ⟨(by first | assumption | omega | rfl | (intro _ hjj; omega) | (simp; done) | (simp; omega)),(by exact hx)⟩)
       ·exact Sub.of [] (@cast (((Sd (.calls h))∧(((11:Nat)=11)∧(x.length=x.length)∧((11:Nat) ∈ ([11,999] : List Nat)))∧(Si ((t:Nat):Int))∧(Sv (.bool opn))∧(Si ((i:Nat):Int))∧((.int .i64 (0:Int):Value)=.int .i64 ((0:Nat):Int))∧Y)∧((((3:Nat)=3)∧(Sd (.ints x))∧((11:Nat) ∈ ([11,999] : List Nat)))∧Y)∧(true=true)∧(true=true)) _ (by kernel_rfl) ⟨⟨rfl,⟨rfl,rfl,(by decide)⟩,rfl,rfl,rfl,(congrArg (Value.int .i64) (by first | rfl | omega | assumption | simp | simp_all)),tt⟩,⟨⟨rfl,rfl,(by decide)⟩,tt⟩,rfl,rfl⟩)
       ·rintro ⟨y,k⟩ hC0
        have hC : (k≤h.length)∧(y=rowsOf h.length (mixF (quietT h t) (quietT h (t+1)) i k)) := hC0
        clear hC0
        obtain ⟨hk,hy⟩ := hC
        refine W.to (⟨[(0,.sl (.calls h)),(3,.own 11 y.length),(4,.i ((t:Nat):Int)),(5,.b opn),(7,.i ((i:Nat):Int)),(8,.i ((k:Nat):Int))],[(11,⟨3,.row (.ints y)⟩)],[11,999]⟩) rfl ?_
        have hyl : y.length=h.length := by rw [hy,rowsOf_len]
        have hob : openB h ((t:Nat):Int) h.length=false := by rw [show j=h.length by omega] at hop; rw [← hop]; exact not_f (and_r h48)
        refine W.seq ?_
        refine Kk cok tab48 hnt [] [0,3,4,5,7,8,54] (⟨[(0,.sl (.calls h)),(3,.own 11 y.length),(4,.i ((t:Nat):Int)),(5,.b opn),(7,.i ((i:Nat):Int)),(8,.i ((k:Nat):Int)),(54,.b (decide (((k:Nat):Int)<(h.length:Int))))],[(11,⟨3,.row (.ints y)⟩)],[11,999]⟩)
         (Y∧Y∧Y∧(Y∧Y∧Y)∧Y)
         ⟨tt,tt,tt,⟨tt,tt,tt⟩,tt⟩ ?_
        refine W.ifP (((k:Nat):Int)<(h.length:Int)) (.b (decide (((k:Nat):Int)<(h.length:Int)))) (by kernel_rfl) rfl trivial ?_ ?_
        ·intro h54
         refine W.skip (thenQ_normal ?_)
         refine W.seq ?_
         refine W.block ?_
         refine Kk cok tab48 hnt [] [0,3,4,5,7,8,72] (⟨[(0,.sl (.calls h)),(3,.own 11 y.length),(4,.i ((t:Nat):Int)),(5,.b opn),(7,.i ((i:Nat):Int)),(8,.i ((k:Nat):Int)),(72,.b ((decide (((h.getD k default).to)≤((t:Nat):Int))) && (decide (((t:Nat):Int)<((h.getD i default).frm)))))],[(11,⟨3,.row (.ints y)⟩)],[11,999]⟩)
          ((fun (Z1:Bool)=>(Y∧(Y∧((Y∧(Y∧((0≤((k:Nat):Int))∧(((k:Nat):Int)<(h.length:Int)))))∧(Y∧(Y∧(Y∧((Y∧(Y∧Y))∧(Y∧((Z1=true→Y)∧((Z1=true→Y)∧((Z1=true→Y)∧((Z1=true→(((Z1=true)∧Y)∧(((Z1=true)∧Y)∧((0≤((i:Nat):Int))∧(((i:Nat):Int)<(h.length:Int))))))∧((Z1=true→((Z1=true)∧Y))∧((Z1=true→((Z1=true)∧Y))∧((Z1=true→(((Z1=true)∧Y)∧(((Z1=true)∧Y)∧Y)))∧((Y∧((Z1=true→(Z1=true)∧Y)∧(Z1=false→Y)))∧Y))))))))))))))))) (decide (((h.getD k default).to)≤((t:Nat):Int))))
          ⟨tt,tt,⟨tt,tt,(by omega),(by omega)⟩,tt,tt,tt,⟨tt,tt,tt⟩,tt,(fun _=>trivial),(fun _=>trivial),(fun _=>trivial),(fun hG=>⟨⟨hG,tt⟩,⟨hG,tt⟩,(by have hg0 : ((h.getD k default).to)≤((t:Nat):Int) := of_decide_eq_true hG; omega),(by have hg0 : ((h.getD k default).to)≤((t:Nat):Int) := of_decide_eq_true hG; omega)⟩),(fun hG=>⟨hG,tt⟩),(fun hG=>⟨hG,tt⟩),(fun hG=>⟨⟨hG,tt⟩,⟨hG,tt⟩,tt⟩),⟨tt,(fun hp=>⟨hp,tt⟩),(fun _=>trivial)⟩,tt⟩ ?_
         refine W.if' ((decide (((h.getD k default).to)≤((t:Nat):Int))) && (decide (((t:Nat):Int)<((h.getD i default).frm)))) (.b ((decide (((h.getD k default).to)≤((t:Nat):Int))) && (decide (((t:Nat):Int)<((h.getD i default).frm))))) (by kernel_rfl) rfl trivial ?_ ?_
         ·intro h72
          have h72_0 : ((h.getD k default).to)≤((t:Nat):Int) := of_decide_eq_true (and_l h72)
          have h72_1 : ((t:Nat):Int)<((h.getD i default).frm) := of_decide_eq_true (and_r h72)
          refine W.LA cok tab48 hnt [] (⟨[(0,.sl (.calls h)),(3,.own 11 y.length),(4,.i ((t:Nat):Int)),(5,.b opn),(7,.i ((i:Nat):Int)),(8,.i ((k:Nat):Int)),(72,.b ((decide (((h.getD k default).to)≤((t:Nat):Int))) && (decide (((t:Nat):Int)<((h.getD i default).frm))))),(73,.own 11 y.length),(74,.i ((i:Nat):Int)),(75,.own 11 y.length),(76,.i ((i:Nat):Int)),(77,.pel 11 1 i 0),(78,.i (y.getD i 0)),(79,.i ((k:Nat):Int)),(80,.i (power ((k:Nat):Int))),(81,.i (bitsI .or .i64 (y.getD i 0) (power ((k:Nat):Int)))),(82,.pel 11 1 i 0)],[(11,⟨3,.row (.ints (List.set y i (bitsI .or .i64 (y.getD i 0) (power ((k:Nat):Int)))))⟩)],[11,999]⟩)
           (Y∧Y∧Y∧Y∧(Y∧Y∧(0≤((i:Nat):Int))∧(((i:Nat):Int)<(y.length:Int)))∧(Y∧(i<y.length))∧Y∧(Y∧(Y∧Y)∧(((k:Nat):Int)≤60))∧(Y∧Y∧Y)∧(Y∧Y∧(0≤((i:Nat):Int))∧(((i:Nat):Int)<(y.length:Int)))∧(Y∧Y∧(i<y.length))∧Y) (by kernel_rfl) (by kernel_rfl)
           ⟨tt,tt,tt,tt,⟨tt,tt,(by omega),(by omega)⟩,⟨tt,(by omega)⟩,tt,⟨tt,⟨tt,tt⟩,(by omega)⟩,⟨tt,tt,tt⟩,⟨tt,tt,(by omega),(by omega)⟩,⟨tt,tt,(by omega)⟩,tt⟩ ?_
          refine blockQ_normal (thenQ_normal ?_)
          refine Lk cok tab48 hnt [] (⟨[(0,.sl (.calls h)),(3,.own 11 y.length),(4,.i ((t:Nat):Int)),(5,.b opn),(7,.i ((i:Nat):Int)),(8,.i (((k+1):Nat):Int)),(55,.i ((k:Nat):Int)),(56,.i (((k+1):Nat):Int)),(72,.b ((decide (((h.getD k default).to)≤((t:Nat):Int))) && (decide (((t:Nat):Int)<((h.getD i default).frm))))),(73,.own 11 y.length),(74,.i ((i:Nat):Int)),(75,.own 11 y.length),(76,.i ((i:Nat):Int)),(77,.pel 11 1 i 0),(78,.i (y.getD i 0)),(79,.i ((k:Nat):Int)),(80,.i (power ((k:Nat):Int))),(81,.i (bitsI .or .i64 (y.getD i 0) (power ((k:Nat):Int)))),(82,.pel 11 1 i 0)],[(11,⟨3,.row (.ints (List.set y i (bitsI .or .i64 (y.getD i 0) (power ((k:Nat):Int)))))⟩)],[11,999]⟩)
           (Y∧(Y∧Y∧(Fits .i64 (((k+1):Nat):Int)))∧Y∧Y)
           ⟨tt,⟨tt,tt,(by exact fits_i64 (by omega) (by omega))⟩,tt,tt⟩ ?_
          refine thenQ_normal ?_
          refine ⟨((List.set y i (bitsI .or .i64 (y.getD i 0) (power ((k:Nat):Int)))),(k+1)),(show ((k+1)≤h.length)∧((List.set y i (bitsI .or .i64 (y.getD i 0) (power ((k:Nat):Int))))=rowsOf h.length (mixF (quietT h t) (quietT h (t+1)) i (k+1))) from ⟨(by first | assumption | omega | rfl | (intro _ hjj; omega) | (simp; done) | (simp; omega)),(by first | (rw [hy]; exact mix_skip (qt_no n72)) | (rw [hy]; exact mix_set (by omega) (by omega) (by omega) (qt_yes hob h72)))⟩),(show h.length - (k+1)<h.length - k from (by first | omega | (simp_all; omega))),?_⟩
          exact Sub.of [] (@cast (((Sd (.calls h))∧(((11:Nat)=11)∧(y.length=(List.length (List.set y i (bitsI .or .i64 (y.getD i 0) (power ((k:Nat):Int))))))∧((11:Nat) ∈ ([11,999] : List Nat)))∧(Si ((t:Nat):Int))∧(Sv (.bool opn))∧(Si ((i:Nat):Int))∧(Si (((k+1):Nat):Int))∧Y)∧((((3:Nat)=3)∧(Sd (.ints (List.set y i (bitsI .or .i64 (y.getD i 0) (power ((k:Nat):Int))))))∧((11:Nat) ∈ ([11,999] : List Nat)))∧Y)∧(true=true)∧(true=true)) _ (by kernel_rfl) ⟨⟨rfl,⟨rfl,(by first | rfl | omega | assumption | (symm; assumption) | simp | simp_all),(by decide)⟩,rfl,rfl,rfl,rfl,tt⟩,⟨⟨rfl,rfl,(by decide)⟩,tt⟩,rfl,rfl⟩)
         ·intro n72
          refine W.skip (blockQ_normal (thenQ_normal ?_))
          refine Lk cok tab48 hnt [] (⟨[(0,.sl (.calls h)),(3,.own 11 y.length),(4,.i ((t:Nat):Int)),(5,.b opn),(7,.i ((i:Nat):Int)),(8,.i (((k+1):Nat):Int)),(55,.i ((k:Nat):Int)),(56,.i (((k+1):Nat):Int)),(72,.b ((decide (((h.getD k default).to)≤((t:Nat):Int))) && (decide (((t:Nat):Int)<((h.getD i default).frm)))))],[(11,⟨3,.row (.ints y)⟩)],[11,999]⟩)
           (Y∧(Y∧Y∧(Fits .i64 (((k+1):Nat):Int)))∧Y∧Y)
           ⟨tt,⟨tt,tt,(by exact fits_i64 (by omega) (by omega))⟩,tt,tt⟩ ?_
          refine thenQ_normal ?_
          refine ⟨(y,(k+1)),(show ((k+1)≤h.length)∧(y=rowsOf h.length (mixF (quietT h t) (quietT h (t+1)) i (k+1))) from ⟨(by first | assumption | omega | rfl | (intro _ hjj; omega) | (simp; done) | (simp; omega)),(by first | (rw [hy]; exact mix_skip (qt_no n72)) | (rw [hy]; exact mix_set (by omega) (by omega) (by omega) (qt_yes hob h72)))⟩),(show h.length - (k+1)<h.length - k from (by first | omega | (simp_all; omega))),?_⟩
          exact Sub.of [] (@cast (((Sd (.calls h))∧(((11:Nat)=11)∧(y.length=y.length)∧((11:Nat) ∈ ([11,999] : List Nat)))∧(Si ((t:Nat):Int))∧(Sv (.bool opn))∧(Si ((i:Nat):Int))∧(Si (((k+1):Nat):Int))∧Y)∧((((3:Nat)=3)∧(Sd (.ints y))∧((11:Nat) ∈ ([11,999] : List Nat)))∧Y)∧(true=true)∧(true=true)) _ (by kernel_rfl) ⟨⟨rfl,⟨rfl,rfl,(by decide)⟩,rfl,rfl,rfl,rfl,tt⟩,⟨⟨rfl,rfl,(by decide)⟩,tt⟩,rfl,rfl⟩)
        ·intro n54
         refine W.exit (thenQ_exit (thenQ_exit (blockQ_hit ?_)))
         refine blockQ_normal (thenQ_normal ?_)
         refine Lk cok tab48 hnt [] (⟨[(0,.sl (.calls h)),(3,.own 11 y.length),(4,.i ((t:Nat):Int)),(5,.b opn),(7,.i (((i+1):Nat):Int)),(8,.i ((k:Nat):Int)),(49,.i ((i:Nat):Int)),(50,.i (((i+1):Nat):Int)),(54,.b (decide (((k:Nat):Int)<(h.length:Int))))],[(11,⟨3,.row (.ints y)⟩)],[11,999]⟩)
          (Y∧(Y∧Y∧(Fits .i64 (((i+1):Nat):Int)))∧Y∧Y)
          ⟨tt,⟨tt,tt,(by exact fits_i64 (by omega) (by omega))⟩,tt,tt⟩ ?_
         refine thenQ_normal ?_
         refine ⟨(y,(i+1)),(show ((i+1)≤h.length)∧(y=rowsOf h.length (mixF (quietT h t) (quietT h (t+1)) (i+1) 0)) from ⟨(by first | assumption | omega | rfl | (intro _ hjj; omega) | (simp; done) | (simp; omega)),(by rw [hy,show k=h.length by omega]; exact mix_next)⟩),(show h.length - (i+1)<h.length - i from (by first | omega | (simp_all; omega))),?_⟩
         exact Sub.of [] (@cast (((Sd (.calls h))∧(((11:Nat)=11)∧(y.length=y.length)∧((11:Nat) ∈ ([11,999] : List Nat)))∧(Si ((t:Nat):Int))∧(Sv (.bool opn))∧(Si (((i+1):Nat):Int))∧Y)∧((((3:Nat)=3)∧(Sd (.ints y))∧((11:Nat) ∈ ([11,999] : List Nat)))∧Y)∧(true=true)∧(true=true)) _ (by kernel_rfl) ⟨⟨rfl,⟨rfl,rfl,(by decide)⟩,rfl,rfl,rfl,tt⟩,⟨⟨rfl,rfl,(by decide)⟩,tt⟩,rfl,rfl⟩)
      ·intro n48
       refine W.exit (thenQ_exit (thenQ_exit (blockQ_hit ?_)))
       refine blockQ_normal (thenQ_normal ?_)
       refine Lk cok tab48 hnt [] (⟨[(0,.sl (.calls h)),(3,.own 11 x.length),(4,.i (((t+1):Nat):Int)),(5,.b opn),(7,.i ((i:Nat):Int)),(14,.i ((t:Nat):Int)),(15,.i (((t+1):Nat):Int)),(48,.b ((decide (((i:Nat):Int)<(h.length:Int))) && (!opn)))],[(11,⟨3,.row (.ints x)⟩)],[11,999]⟩)
        (Y∧(Y∧Y∧(Fits .i64 (((t+1):Nat):Int)))∧Y∧Y)
        ⟨tt,⟨tt,tt,(by exact fits_i64 (by omega) (by omega))⟩,tt,tt⟩ ?_
       refine thenQ_normal ?_
       refine ⟨(x,(t+1)),(show ((t+1)≤31)∧(x=rowsOf h.length (quietT h (t+1))) from ⟨(by first | assumption | omega | rfl | (intro _ hjj; omega) | (simp; done) | (simp; omega)),(by rw [hx]; exact mix_out (by rw [show j=h.length by omega] at hop; rw [← hop]; exact n48))⟩),(show 31 - (t+1)<31 - t from (by first | omega | (simp_all; omega))),?_⟩
       exact Sub.of [] (@cast (((Sd (.calls h))∧(((11:Nat)=11)∧(x.length=x.length)∧((11:Nat) ∈ ([11,999] : List Nat)))∧(Si (((t+1):Nat):Int))∧Y)∧((((3:Nat)=3)∧(Sd (.ints x))∧((11:Nat) ∈ ([11,999] : List Nat)))∧Y)∧(true=true)∧(true=true)) _ (by kernel_rfl) ⟨⟨rfl,⟨rfl,rfl,(by decide)⟩,rfl,tt⟩,⟨⟨rfl,rfl,(by decide)⟩,tt⟩,rfl,rfl⟩)
  ·intro n13
   refine W.exit (thenQ_exit (thenQ_exit (blockQ_hit ?_)))
   refine thenQ_normal ?_
   refine Kk cok tab48 hnt [] [2] (⟨[(2,.own 11 o.length)],[(11,⟨3,.row (.ints o)⟩)],[11,999]⟩)
    (Y∧Y∧Y)
    ⟨tt,tt,tt⟩ ?_
   refine W.subS [] (⟨[(2,.sl (.ints o))],[],[999]⟩) (@cast ((((o.length=o.length)∧(Sd (.ints o))∧((11:Nat) ∉ ([] : List Nat)))∧Y)∧Y∧(true=true)∧(true=true)) _ (by kernel_rfl) ⟨⟨⟨rfl,rfl,(by decide)⟩,tt⟩,tt,rfl,rfl⟩) ?_
   refine W.ret ?_
   exact endQ_ret (.sl (.ints o)) (by kernel_rfl) (@cast ((.ints o:Dat)=.ints (rowsOf h.length (quietF h))) _ (by kernel_rfl) (congrArg Dat.ints (by rw [ho]; exact quiet_fin (by omega))))
theorem ent48 : Entr prog 48 := ⟨_,func48,rfl,by decide⟩
end Go.Proofs.Tryz

set_option linter.unusedSimpArgs false
set_option linter.unusedVariables false
namespace Go.Proofs.Tryz
open Go.Ab Go.RowKit
def fs28 : FnS := fnS [.o,.s .calls] [.str,.calls] (fun _ (s,h,_)=>(.b (explains s h (quietF h)),[],Y))
abbrev T28 : Tab := lk [(44,fs44),(45,fs45),(48,fs48)]
theorem tab28 : TabOK prog T28 := (TabOK.cons ok44 ent44 (TabOK.cons ok45 ent45 (TabOK.cons ok48 ent48 TabOK.nil)))
theorem ok28 : FnOK prog 28 fs28 := by
 refine FnOK.mk cok func28 rfl rfl rfl ?_
 rintro fl ⟨(s:ByteArray),(h : List CallD),_⟩ hpre F hnt0 _
 have hnt : F.nt=18 := hnt0.trans ntmps28
 clear hpre
 refine W.to (⟨[(0,.v (.string s)),(1,.sl (.calls h))],[],[999]⟩) rfl ?_
 refine W.lenOf 1 (.calls h) (by kernel_rfl) ?_
 intro hl_h; replace hl_h : List.length h≤9223372036854775807 := hl_h
 refine Kk cok tab28 hnt [] [0,1] (⟨[(0,.v (.string s)),(1,.sl (.calls h))],[],[999]⟩)
  (Y∧Y)
  ⟨tt,tt⟩ ?_
 refine Kk cok tab28 hnt [] [4] (⟨[(4,.b ((isObject s && validHistory h) && (decide ((0:Int)<(((List.length (ordersF s h (bitF (rowsOf h.length (quietF h))) (h.length - ([] : List Int).length) ([] : List Int))):Nat):Int)))))],[],[13,999]⟩)
  ((fun (Z1:Bool)=>(Y∧(Y∧((Y∧((Y∧(Y∧Y))∧Y))∧(Y∧((Z1=true→Y)∧((Z1=true→Y)∧((Z1=true→Y)∧((Z1=true→(Y∧((((Z1=true)∧Y)∧Y)∧(validHistory h=true))))∧((Z1=true→Y)∧((Z1=true→(Y∧((((Z1=true)∧Y)∧(((Z1=true)∧Y)∧(((Z1=true)∧Y)∧(((Z1=true)∧Y)∧Y))))∧((isObject s=true)∧((validHistory h=true)∧(((rowsOf h.length (quietF h))=rowsOf h.length (bitF (rowsOf h.length (quietF h))))∧(headO h ([] : List Int))))))))∧((Z1=true→((Z1=true)∧Y))∧((Z1=true→(((Z1=true)∧Y)∧(Y∧Y)))∧((Y∧((Z1=true→(Z1=true)∧Y)∧(Z1=false→Y)))∧(Y∧Y))))))))))))))) (isObject s && validHistory h))
  ⟨tt,tt,⟨tt,⟨tt,tt,tt⟩,tt⟩,tt,(fun _=>trivial),(fun _=>trivial),(fun _=>trivial),(fun hG=>⟨tt,⟨⟨hG,tt⟩,tt⟩,(by exact and_r hG)⟩),(fun _=>trivial),(fun hG=>⟨tt,⟨⟨hG,tt⟩,⟨hG,tt⟩,⟨hG,tt⟩,⟨hG,tt⟩,tt⟩,(by exact and_l hG),(by exact and_r hG),(by exact rows_self),(by exact headO_nil h)⟩),(fun hG=>⟨hG,tt⟩),(fun hG=>⟨⟨hG,tt⟩,tt,tt⟩),⟨tt,(fun hp=>⟨hp,tt⟩),(fun _=>trivial)⟩,tt,tt⟩ ?_
 refine W.ret ?_
 exact endQ_ret (.b ((isObject s && validHistory h) && (decide ((0:Int)<(((List.length (ordersF s h (bitF (rowsOf h.length (quietF h))) (h.length - ([] : List Int).length) ([] : List Int))):Nat):Int))))) (by kernel_rfl) (@cast ((.bool ((isObject s && validHistory h) && (decide ((0:Int)<(((List.length (ordersF s h (bitF (rowsOf h.length (quietF h))) (h.length - ([] : List Int).length) ([] : List Int))):Nat):Int)))):Value)=.bool (explains s h (quietF h))) _ (by kernel_rfl) (congrArg Value.bool (by exact by_gt (fun _=>rfl))))
theorem ent28 : Entr prog 28 := ⟨_,func28,rfl,by decide⟩
end Go.Proofs.Tryz
