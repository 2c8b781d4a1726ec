import Derived.Test.YtbmbdlgifplglaaGreatDoorZF3S0
import Derived.Test.YtbmbdlgifplglaaGreatDoorZF3S1
import Derived.Test.YtbmbdlgifplglaaGreatDoorZF3S2
import Derived.Test.YtbmbdlgifplglaaGreatDoorZF3S3
set_option maxRecDepth 100000
set_option maxHeartbeats 1000000
set_option linter.unusedSimpArgs false
set_option linter.unusedVariables false
namespace Go.Proofs.Tryz
open Go.Ab Go.RowKit
def fs22 : FnS := fnS [.o] [.str] (fun _ (s,_)=>(.tup [.sl (.calls (outS s.data.toList)),.b (validHistory (outS s.data.toList))],[],(s.size≤1999999)))
abbrev T22 : Tab := lk [(21,fs21),(39,fs39),(43,fs43)]
theorem tab22 : TabOK prog T22 := (TabOK.cons ok21 ent21 (TabOK.cons ok39 ent39 (TabOK.cons ok43 ent43 TabOK.nil)))
theorem ok22 : FnOK prog 22 fs22 := by
 refine FnOK.mk cok func22 rfl rfl rfl ?_
 rintro fl ⟨(s:ByteArray),_⟩ hpre F hnt0 _
 have hnt : F.nt=29 := hnt0.trans ntmps22
 replace hpre : (s.size≤1999999) := hpre
 have hz := hpre
 refine W.to (⟨[(0,.v (.string s))],[],[999]⟩) rfl ?_
 have hp : ∀ i,(List.getD (splitB8 32 s) i default).size≤s.size := split8_piece 32 s
 have hsl := split8_len 32 s
 refine Kk cok tab22 hnt [] [0] (⟨[(0,.v (.string s))],[],[999]⟩)
  (Y∧Y∧Y)
  ⟨tt,tt,tt⟩ ?_
 refine Kk cok tab22 hnt [7] [0,4] (⟨[(0,.v (.string s)),(4,.own 7 (List.length ([] : List CallD)))],[(7,⟨59,.row (.calls ([] : List CallD))⟩)],[7,999]⟩)
  (Y∧Y∧Y)
  ⟨tt,tt,tt⟩ ?_
 refine W.seq ?_
 refine Kk cok tab22 hnt [] [0,4,9] (⟨[(0,.v (.string s)),(4,.own 7 (List.length ([] : List CallD))),(9,.b (!(eqS s nEmpty)))],[(7,⟨59,.row (.calls ([] : List CallD))⟩)],[7,999]⟩)
  (Y∧(Y∧Y∧Y)∧Y)
  ⟨tt,⟨tt,tt,tt⟩,tt⟩ ?_
 refine W.if' (!(eqS s nEmpty)) (.b (!(eqS s nEmpty))) (by kernel_rfl) rfl trivial ?_ ?_
 ·intro h9
  refine Kk cok tab22 hnt [] [4,5] (⟨[(4,.own 7 (List.length ([] : List CallD))),(5,.sl (.strs (splitB8 (32:Int) s)))],[(7,⟨59,.row (.calls ([] : List CallD))⟩)],[11,7,999]⟩)
   (Y∧((Y∧(Y∧Y∧Y)∧(0≤(32:Int)∧(32:Int)≤255)∧(s.size≤2000000))∧((List.length (splitB8 (32:Int) s))=(List.length (splitB8 (32:Int) s))))∧Y∧Y)
   ⟨tt,⟨⟨tt,⟨tt,tt,tt⟩,(by omega),(by omega)⟩,rfl⟩,tt,tt⟩ ?_
  refine Kk cok tab22 hnt [] [4,5,6] (⟨[(4,.own 7 (List.length ([] : List CallD))),(5,.sl (.strs (splitB8 (32:Int) s))),(6,.i (0:Int))],[(7,⟨59,.row (.calls ([] : List CallD))⟩)],[11,7,999]⟩)
   (Y∧Y)
   ⟨tt,tt⟩ ?_
  refine W.block ?_
  refine W.loop (ι := Nat × (List CallD)) (fun (x : Nat × (List CallD))=>match x with | (i,o)=>(⟨[(4,.own 7 o.length),(5,.sl (.strs (splitB8 (32:Int) s))),(6,.i ((i:Nat):Int))],[(7,⟨59,.row (.calls o)⟩)],[7,999]⟩:St))
   (fun (x : Nat × (List CallD))=>match x with | (i,o)=>(i≤(splitB8 32 s).length)∧(o=readUpS (splitB8 32 s) i))
   (fun (x : Nat × (List CallD))=>match x with | (i,o)=>((splitB8 32 s).length - i:Nat)) (0,([] : List CallD)) ?_ ?_ ?_
  ·exact (show (0≤(splitB8 32 s).length)∧(([] : List CallD)=readUpS (splitB8 32 s) 0) from ⟨(by first | assumption | omega | rfl | (intro _ hjj; omega) | (simp; done) | (simp; omega)),(by rfl)⟩)
  ·exact Sub.of [] (@cast (((((7:Nat)=7)∧((List.length ([] : List CallD))=(List.length ([] : List CallD)))∧((7:Nat) ∈ ([7,999] : List Nat)))∧(Sd (.strs (splitB8 (32:Int) s)))∧((.int .i64 (0:Int):Value)=.int .i64 ((0:Nat):Int))∧Y)∧((((59:Nat)=59)∧(Sd (.calls ([] : List CallD)))∧((7:Nat) ∈ ([7,999] : List Nat)))∧Y)∧(true=true)∧(true=true)) _ (by kernel_rfl) ⟨⟨⟨rfl,rfl,(by decide)⟩,rfl,(congrArg (Value.int .i64) (by first | rfl | omega | assumption | simp | simp_all)),tt⟩,⟨⟨rfl,rfl,(by decide)⟩,tt⟩,rfl,rfl⟩)
  ·rintro ⟨i,o⟩ hC0
   have hC : (i≤(splitB8 32 s).length)∧(o=readUpS (splitB8 32 s) i) := hC0
   clear hC0
   obtain ⟨hi,ho⟩ := hC
   refine W.to (⟨[(4,.own 7 o.length),(5,.sl (.strs (splitB8 (32:Int) s))),(6,.i ((i:Nat):Int))],[(7,⟨59,.row (.calls o)⟩)],[7,999]⟩) rfl ?_
   have hol : o.length=i := by rw [ho]; exact readUp_lenS hi
   have hpi := hp i
   refine W.seq ?_
   refine Kk cok tab22 hnt [] [4,5,6,15] (⟨[(4,.own 7 o.length),(5,.sl (.strs (splitB8 (32:Int) s))),(6,.i ((i:Nat):Int)),(15,.b (decide (((i:Nat):Int)<(((List.length (splitB8 (32:Int) s)):Nat):Int))))],[(7,⟨59,.row (.calls o)⟩)],[7,999]⟩)
    (Y∧Y∧Y∧(Y∧Y∧Y)∧Y)
    ⟨tt,tt,tt,⟨tt,tt,tt⟩,tt⟩ ?_
   refine W.ifP (((i:Nat):Int)<(((List.length (splitB8 (32:Int) s)):Nat):Int)) (.b (decide (((i:Nat):Int)<(((List.length (splitB8 (32:Int) s)):Nat):Int)))) (by kernel_rfl) rfl trivial ?_ ?_
   ·intro h15
    refine W.skip (thenQ_normal ?_)
    refine W.seq ?_
    refine W.block ?_
    refine Lk cok tab22 hnt [25] (⟨[(4,.own 25 (List.length (o++([(readS (List.getD (splitB8 (32:Int) s) i default).data.toList)])))),(5,.sl (.strs (splitB8 (32:Int) s))),(6,.i ((i:Nat):Int)),(15,.b (decide (((i:Nat):Int)<(((List.length (splitB8 (32:Int) s)):Nat):Int)))),(18,.own 7 o.length),(19,.sl (.strs (splitB8 (32:Int) s))),(20,.i ((i:Nat):Int)),(21,.ep [.v (.string (List.getD (splitB8 (32:Int) s) i default))]),(22,.v (.string (List.getD (splitB8 (32:Int) s) i default))),(23,.agg [.i ((readS (List.getD (splitB8 (32:Int) s) i default).data.toList).proc),.i ((readS (List.getD (splitB8 (32:Int) s) i default).data.toList).obj),.i ((readS (List.getD (splitB8 (32:Int) s) i default).data.toList).kind),.i ((readS (List.getD (splitB8 (32:Int) s) i default).data.toList).arg),.i ((readS (List.getD (splitB8 (32:Int) s) i default).data.toList).ret),.i ((readS (List.getD (splitB8 (32:Int) s) i default).data.toList).frm),.i ((readS (List.getD (splitB8 (32:Int) s) i default).data.toList).to)]),(24,.sl (.calls ([(readS (List.getD (splitB8 (32:Int) s) i default).data.toList)]))),(25,.own 25 (List.length (o++([(readS (List.getD (splitB8 (32:Int) s) i default).data.toList)]))))],[(25,⟨59,.row (.calls (o++([(readS (List.getD (splitB8 (32:Int) s) i default).data.toList)])))⟩)],[25,24,7,999]⟩)
     (Y∧Y∧Y∧(Y∧Y∧(0≤((i:Nat):Int))∧(((i:Nat):Int)<(((List.length (splitB8 (32:Int) s)):Nat):Int)))∧Y∧(Y∧(Y∧Y)∧((List.getD (splitB8 (32:Int) s) i default).size≤2000000))∧(Y∧Y)∧((Y∧(o.length=o.length))∧Y∧((o.length+(List.length ([(readS (List.getD (splitB8 (32:Int) s) i default).data.toList)]))) * 56≤140737488355328))∧Y∧Y)
     ⟨tt,tt,tt,⟨tt,tt,(by omega),(by omega)⟩,tt,⟨tt,⟨tt,tt⟩,(by omega)⟩,⟨tt,tt⟩,⟨⟨tt,rfl⟩,tt,(by (try simp only [List.length_append,List.length_cons,List.length_nil,List.length_set]); omega)⟩,tt,tt⟩ ?_
    refine blockQ_normal (thenQ_normal ?_)
    refine Lk cok tab22 hnt [] (⟨[(4,.own 25 (List.length (o++([(readS (List.getD (splitB8 (32:Int) s) i default).data.toList)])))),(5,.sl (.strs (splitB8 (32:Int) s))),(6,.i (((i+1):Nat):Int)),(15,.b (decide (((i:Nat):Int)<(((List.length (splitB8 (32:Int) s)):Nat):Int)))),(16,.i ((i:Nat):Int)),(17,.i (((i+1):Nat):Int)),(18,.own 7 o.length),(19,.sl (.strs (splitB8 (32:Int) s))),(20,.i ((i:Nat):Int)),(21,.ep [.v (.string (List.getD (splitB8 (32:Int) s) i default))]),(22,.v (.string (List.getD (splitB8 (32:Int) s) i default))),(23,.agg [.i ((readS (List.getD (splitB8 (32:Int) s) i default).data.toList).proc),.i ((readS (List.getD (splitB8 (32:Int) s) i default).data.toList).obj),.i ((readS (List.getD (splitB8 (32:Int) s) i default).data.toList).kind),.i ((readS (List.getD (splitB8 (32:Int) s) i default).data.toList).arg),.i ((readS (List.getD (splitB8 (32:Int) s) i default).data.toList).ret),.i ((readS (List.getD (splitB8 (32:Int) s) i default).data.toList).frm),.i ((readS (List.getD (splitB8 (32:Int) s) i default).data.toList).to)]),(24,.sl (.calls ([(readS (List.getD (splitB8 (32:Int) s) i default).data.toList)]))),(25,.own 25 (List.length (o++([(readS (List.getD (splitB8 (32:Int) s) i default).data.toList)]))))],[(25,⟨59,.row (.calls (o++([(readS (List.getD (splitB8 (32:Int) s) i default).data.toList)])))⟩)],[25,24,7,999]⟩)
     (Y∧(Y∧Y∧(Fits .i64 (((i+1):Nat):Int)))∧Y∧Y)
     ⟨tt,⟨tt,tt,(by exact fits_i64 (by omega) (by omega))⟩,tt,tt⟩ ?_
    refine thenQ_normal ?_
    refine ⟨((i+1),(o++([(readS (List.getD (splitB8 (32:Int) s) i default).data.toList)]))),(show ((i+1)≤(splitB8 32 s).length)∧((o++([(readS (List.getD (splitB8 (32:Int) s) i default).data.toList)]))=readUpS (splitB8 32 s) (i+1)) from ⟨(by first | assumption | omega | rfl | (intro _ hjj; omega) | (simp; done) | (simp; omega)),(by exact readUpS_next ho (by omega))⟩),(show (splitB8 32 s).length - (i+1)<(splitB8 32 s).length - i from (by first | omega | (simp_all; omega))),?_⟩
    exact Sub.of [(7,25)] (@cast (((((25:Nat)=25)∧((List.length (o++([(readS (List.getD (splitB8 (32:Int) s) i default).data.toList)])))=(List.length (o++([(readS (List.getD (splitB8 (32:Int) s) i default).data.toList)]))))∧((7:Nat) ∈ ([7,999] : List Nat)))∧(Sd (.strs (splitB8 (32:Int) s)))∧(Si (((i+1):Nat):Int))∧Y)∧((((59:Nat)=59)∧(Sd (.calls (o++([(readS (List.getD (splitB8 (32:Int) s) i default).data.toList)]))))∧((7:Nat) ∈ ([7,999] : List Nat)))∧Y)∧(true=true)∧(true=true)) _ (by kernel_rfl) ⟨⟨⟨rfl,rfl,(by decide)⟩,rfl,rfl,tt⟩,⟨⟨rfl,rfl,(by decide)⟩,tt⟩,rfl,rfl⟩)
   ·intro n15
    have hO := outS_some (s := s) (fun e=>Bool.false_ne_true ((not_f h9).symm.trans e)) ho (by omega)
    refine W.exit (thenQ_exit (thenQ_exit (blockQ_hit ?_)))
    refine thenQ_normal ?_
    refine Kk cok tab22 hnt [] [2,3] (⟨[(2,.own 7 o.length),(3,.b (validHistory o))],[(7,⟨59,.row (.calls o)⟩)],[7,999]⟩)
     (Y∧Y∧(Y∧((Y∧(o.length=o.length))∧Y)∧Y)∧Y∧Y∧Y)
     ⟨tt,tt,⟨tt,⟨⟨tt,rfl⟩,tt⟩,tt⟩,tt,tt,tt⟩ ?_
    refine W.ret ?_
    exact endQ_ret (.tup [.own 7 o.length,.b (validHistory o)]) (by kernel_rfl) (@cast (((o.length=o.length)∧((.calls o:Dat)=.calls (outS s.data.toList))∧((7:Nat) ∉ ([] : List Nat)))∧((.bool (validHistory o):Value)=.bool (validHistory (outS s.data.toList)))∧Y) _ (by kernel_rfl) ⟨⟨rfl,(congrArg Dat.calls (by first | exact hO | (rw [hO]))),(by decide)⟩,(congrArg Value.bool (by first | exact hO | (rw [hO]))),tt⟩)
 ·intro n9
  have hO := outS_none (s := s) (not_g n9)
  refine W.skip (thenQ_normal ?_)
  refine Kk cok tab22 hnt [] [2,3] (⟨[(2,.own 7 (List.length ([] : List CallD))),(3,.b (validHistory ([] : List CallD)))],[(7,⟨59,.row (.calls ([] : List CallD))⟩)],[7,999]⟩)
   (Y∧Y∧(Y∧((Y∧((List.length ([] : List CallD))=(List.length ([] : List CallD))))∧Y)∧Y)∧Y∧Y∧Y)
   ⟨tt,tt,⟨tt,⟨⟨tt,rfl⟩,tt⟩,tt⟩,tt,tt,tt⟩ ?_
  refine W.ret ?_
  exact endQ_ret (.tup [.own 7 (List.length ([] : List CallD)),.b (validHistory ([] : List CallD))]) (by kernel_rfl) (@cast ((((List.length ([] : List CallD))=(List.length ([] : List CallD)))∧((.calls ([] : List CallD):Dat)=.calls (outS s.data.toList))∧((7:Nat) ∉ ([] : List Nat)))∧((.bool (validHistory ([] : List CallD)):Value)=.bool (validHistory (outS s.data.toList)))∧Y) _ (by kernel_rfl) ⟨⟨rfl,(congrArg Dat.calls (by first | exact hO | (rw [hO]))),(by decide)⟩,(congrArg Value.bool (by first | exact hO | (rw [hO]))),tt⟩)
theorem ent22 : Entr prog 22 := ⟨_,func22,rfl,by decide⟩
end Go.Proofs.Tryz

set_option linter.unusedSimpArgs false
set_option linter.unusedVariables false
namespace Go.Proofs.Tryz
open Go.Ab Go.RowKit
def fs23 : FnS := fnS [.o] [.str] (fun _ (s,_)=>(.b (isObject s),[],Y))
abbrev T23 : Tab := lk []
theorem tab23 : TabOK prog T23 := TabOK.nil
theorem ok23 : FnOK prog 23 fs23 := by
 refine FnOK.mk cok func23 rfl rfl rfl ?_
 rintro fl ⟨(s:ByteArray),_⟩ hpre F hnt0 _
 have hnt : F.nt=25 := hnt0.trans ntmps23
 clear hpre
 refine W.to (⟨[(0,.v (.string s))],[],[999]⟩) rfl ?_
 refine Kk cok tab23 hnt [] [0] (⟨[(0,.v (.string s))],[],[999]⟩)
  (Y∧Y)
  ⟨tt,tt⟩ ?_
 refine Kk cok tab23 hnt [] [2] (⟨[(2,.b ((((((eqS s nRegister) || (eqS s nQueue)) || (eqS s nStack)) || (eqS s nCounter)) || (eqS s nSet)) || (eqS s nMost)))],[],[999]⟩)
  ((fun (Z1:Bool)=>((fun (Z2:Bool)=>((fun (Z3:Bool)=>((fun (Z4:Bool)=>((fun (Z5:Bool)=>(Y∧((Y∧(Y∧Y))∧(Y∧(((!Z1)=true→Y)∧(((!Z1)=true→((((!Z1)=true)∧Y)∧(Y∧Y)))∧((Y∧((Z1=true→Y)∧(Z1=false→((!Z1)=true)∧Y)))∧(Y∧(((!Z2)=true→Y)∧(((!Z2)=true→((((!Z2)=true)∧Y)∧(Y∧Y)))∧((Y∧((Z2=true→Y)∧(Z2=false→((!Z2)=true)∧Y)))∧(Y∧(((!Z3)=true→Y)∧(((!Z3)=true→((((!Z3)=true)∧Y)∧(Y∧Y)))∧((Y∧((Z3=true→Y)∧(Z3=false→((!Z3)=true)∧Y)))∧(Y∧(((!Z4)=true→Y)∧(((!Z4)=true→((((!Z4)=true)∧Y)∧(Y∧Y)))∧((Y∧((Z4=true→Y)∧(Z4=false→((!Z4)=true)∧Y)))∧(Y∧(((!Z5)=true→Y)∧(((!Z5)=true→((((!Z5)=true)∧Y)∧(Y∧Y)))∧((Y∧((Z5=true→Y)∧(Z5=false→((!Z5)=true)∧Y)))∧(Y∧Y)))))))))))))))))))))))) (Z4 || (eqS s nSet)))) (Z3 || (eqS s nCounter)))) (Z2 || (eqS s nStack)))) (Z1 || (eqS s nQueue)))) (eqS s nRegister))
  ⟨tt,⟨tt,tt,tt⟩,tt,(fun _=>trivial),(fun hG=>⟨⟨hG,tt⟩,tt,tt⟩),⟨tt,(fun _=>trivial),(fun hp=>⟨(not_t hp),tt⟩)⟩,tt,(fun _=>trivial),(fun hG=>⟨⟨hG,tt⟩,tt,tt⟩),⟨tt,(fun _=>trivial),(fun hp=>⟨(not_t hp),tt⟩)⟩,tt,(fun _=>trivial),(fun hG=>⟨⟨hG,tt⟩,tt,tt⟩),⟨tt,(fun _=>trivial),(fun hp=>⟨(not_t hp),tt⟩)⟩,tt,(fun _=>trivial),(fun hG=>⟨⟨hG,tt⟩,tt,tt⟩),⟨tt,(fun _=>trivial),(fun hp=>⟨(not_t hp),tt⟩)⟩,tt,(fun _=>trivial),(fun hG=>⟨⟨hG,tt⟩,tt,tt⟩),⟨tt,(fun _=>trivial),(fun hp=>⟨(not_t hp),tt⟩)⟩,tt,tt⟩ ?_
 refine W.ret ?_
 exact endQ_ret (.b ((((((eqS s nRegister) || (eqS s nQueue)) || (eqS s nStack)) || (eqS s nCounter)) || (eqS s nSet)) || (eqS s nMost))) (by kernel_rfl) (@cast ((.bool ((((((eqS s nRegister) || (eqS s nQueue)) || (eqS s nStack)) || (eqS s nCounter)) || (eqS s nSet)) || (eqS s nMost)):Value)=.bool (isObject s)) _ (by kernel_rfl) (congrArg Value.bool (by first | rfl | simp_all)))
theorem ent23 : Entr prog 23 := ⟨_,func23,rfl,by decide⟩
end Go.Proofs.Tryz

set_option linter.unusedSimpArgs false
set_option linter.unusedVariables false
namespace Go.Proofs.Tryz
open Go.Ab Go.RowKit
def fs25 : FnS := fnS [.s .calls] [.calls] (fun _ (h,_)=>(.i (widthS h),[],Y))
abbrev T25 : Tab := lk []
theorem tab25 : TabOK prog T25 := TabOK.nil
theorem ok25 : FnOK prog 25 fs25 := by
 refine FnOK.mk cok func25 rfl rfl rfl ?_
 rintro fl ⟨(h : List CallD),_⟩ hpre F hnt0 _
 have hnt : F.nt=49 := hnt0.trans ntmps25
 clear hpre
 refine W.to (⟨[(0,.sl (.calls h))],[],[999]⟩) rfl ?_
 refine W.lenOf 0 (.calls h) (by kernel_rfl) ?_
 intro hl_h; replace hl_h : List.length h≤9223372036854775807 := hl_h
 refine Kk cok tab25 hnt [] [0] (⟨[(0,.sl (.calls h))],[],[999]⟩)
  (Y∧Y)
  ⟨tt,tt⟩ ?_
 refine Kk cok tab25 hnt [] [0,3] (⟨[(0,.sl (.calls h)),(3,.i (0:Int))],[],[999]⟩)
  (Y∧Y)
  ⟨tt,tt⟩ ?_
 refine W.seq ?_
 refine Kk cok tab25 hnt [] [0,3,4] (⟨[(0,.sl (.calls h)),(3,.i (0:Int)),(4,.i (0:Int))],[],[999]⟩)
  (Y∧Y)
  ⟨tt,tt⟩ ?_
 refine W.block ?_
 refine W.loop (ι := Int × Nat) (fun (x : Int × Nat)=>match x with | (out,i)=>(⟨[(0,.sl (.calls h)),(3,.i out),(4,.i ((i:Nat):Int))],[],[999]⟩:St))
  (fun (x : Int × Nat)=>match x with | (out,i)=>(i≤h.length)∧(out=maxN i (fun jj=>openAt h (callAt h jj).frm)))
  (fun (x : Int × Nat)=>match x with | (out,i)=>(h.length - i:Nat)) ((0:Int),0) ?_ ?_ ?_
 ·exact (show (0≤h.length)∧((0:Int)=maxN 0 (fun jj=>openAt h (callAt h jj).frm)) from ⟨(by first | assumption | omega | rfl | (intro _ hjj; omega) | (simp; done) | (simp; omega)),(by rfl)⟩)
 ·exact Sub.of [] (@cast (((Sd (.calls h))∧(Si (0:Int))∧((.int .i64 (0:Int):Value)=.int .i64 ((0:Nat):Int))∧Y)∧Y∧(true=true)∧(true=true)) _ (by kernel_rfl) ⟨⟨rfl,rfl,(congrArg (Value.int .i64) (by first | rfl | omega | assumption | simp | simp_all)),tt⟩,tt,rfl,rfl⟩)
 ·rintro ⟨out,i⟩ hC0
  have hC : (i≤h.length)∧(out=maxN i (fun jj=>openAt h (callAt h jj).frm)) := hC0
  clear hC0
  obtain ⟨hi,ho⟩ := hC
  refine W.to (⟨[(0,.sl (.calls h)),(3,.i out),(4,.i ((i:Nat):Int))],[],[999]⟩) rfl ?_
  refine W.seq ?_
  refine Kk cok tab25 hnt [] [0,3,4,10] (⟨[(0,.sl (.calls h)),(3,.i out),(4,.i ((i:Nat):Int)),(10,.b (decide (((i:Nat):Int)<(h.length:Int))))],[],[999]⟩)
   (Y∧Y∧Y∧(Y∧Y∧Y)∧Y)
   ⟨tt,tt,tt,⟨tt,tt,tt⟩,tt⟩ ?_
  refine W.ifP (((i:Nat):Int)<(h.length:Int)) (.b (decide (((i:Nat):Int)<(h.length:Int)))) (by kernel_rfl) rfl trivial ?_ ?_
  ·intro h10
   refine W.skip (thenQ_normal ?_)
   refine W.seq ?_
   refine W.block ?_
   refine Kk cok tab25 hnt [] [0,3,4,5] (⟨[(0,.sl (.calls h)),(3,.i out),(4,.i ((i:Nat):Int)),(5,.i (0:Int))],[],[999]⟩)
    (Y∧Y)
    ⟨tt,tt⟩ ?_
   refine W.seq ?_
   refine Kk cok tab25 hnt [] [0,3,4,5,6] (⟨[(0,.sl (.calls h)),(3,.i out),(4,.i ((i:Nat):Int)),(5,.i (0:Int)),(6,.i (0:Int))],[],[999]⟩)
    (Y∧Y)
    ⟨tt,tt⟩ ?_
   refine W.block ?_
   refine W.loop (ι := Int × Nat) (fun (x : Int × Nat)=>match x with | (n,k)=>(⟨[(0,.sl (.calls h)),(3,.i out),(4,.i ((i:Nat):Int)),(5,.i n),(6,.i ((k:Nat):Int))],[],[999]⟩:St))
    (fun (x : Int × Nat)=>match x with | (n,k)=>(k≤h.length)∧(n=(((h.take k).countP (openP (callAt h i).frm):Nat):Int)))
    (fun (x : Int × Nat)=>match x with | (n,k)=>(h.length - k:Nat)) ((0:Int),0) ?_ ?_ ?_
   ·exact (show (0≤h.length)∧((0:Int)=(((h.take 0).countP (openP (callAt h i).frm):Nat):Int)) from ⟨(by first | assumption | omega | rfl | (intro _ hjj; omega) | (simp; done) | (simp; omega)),(by rfl)⟩)
   ·exact Sub.of [] (@cast (((Sd (.calls h))∧(Si out)∧(Si ((i:Nat):Int))∧(Si (0:Int))∧((.int .i64 (0:Int):Value)=.int .i64 ((0:Nat):Int))∧Y)∧Y∧(true=true)∧(true=true)) _ (by kernel_rfl) ⟨⟨rfl,rfl,rfl,rfl,(congrArg (Value.int .i64) (by first | rfl | omega | assumption | simp | simp_all)),tt⟩,tt,rfl,rfl⟩)
   ·rintro ⟨n,k⟩ hC0
    have hC : (k≤h.length)∧(n=(((h.take k).countP (openP (callAt h i).frm):Nat):Int)) := hC0
    clear hC0
    obtain ⟨hk,hn⟩ := hC
    refine W.to (⟨[(0,.sl (.calls h)),(3,.i out),(4,.i ((i:Nat):Int)),(5,.i n),(6,.i ((k:Nat):Int))],[],[999]⟩) rfl ?_
    have hcb := take_count_le h k (openP (callAt h i).frm)
    refine W.seq ?_
    refine Kk cok tab25 hnt [] [0,3,4,5,6,16] (⟨[(0,.sl (.calls h)),(3,.i out),(4,.i ((i:Nat):Int)),(5,.i n),(6,.i ((k:Nat):Int)),(16,.b (decide (((k:Nat):Int)<(h.length:Int))))],[],[999]⟩)
     (Y∧Y∧Y∧(Y∧Y∧Y)∧Y)
     ⟨tt,tt,tt,⟨tt,tt,tt⟩,tt⟩ ?_
    refine W.ifP (((k:Nat):Int)<(h.length:Int)) (.b (decide (((k:Nat):Int)<(h.length:Int)))) (by kernel_rfl) rfl trivial ?_ ?_
    ·intro h16
     refine W.skip (thenQ_normal ?_)
     refine W.seq ?_
     refine W.block ?_
     refine W.KA cok tab25 hnt [] [0,3,4,5,6,42] (⟨[(0,.sl (.calls h)),(3,.i out),(4,.i ((i:Nat):Int)),(5,.i n),(6,.i ((k:Nat):Int)),(42,.b ((decide (((h.getD k default).frm)≤((h.getD i default).frm))) && (decide (((h.getD i default).frm)<((h.getD k default).to)))))],[],[999]⟩)
      ((fun (Z1:Bool)=>(Y∧(Y∧((Y∧(Y∧((0≤((k:Nat):Int))∧(((k:Nat):Int)<(h.length:Int)))))∧(Y∧(Y∧(Y∧(Y∧((Y∧(Y∧((0≤((i:Nat):Int))∧(((i:Nat):Int)<(h.length:Int)))))∧(Y∧(Y∧((Y∧(Y∧Y))∧(Y∧((Z1=true→Y)∧((Z1=true→Y)∧((Z1=true→(((Z1=true)∧Y)∧(((Z1=true)∧Y)∧((0≤((i:Nat):Int))∧(((i:Nat):Int)<(h.length:Int))))))∧((Z1=true→((Z1=true)∧Y))∧((Z1=true→((Z1=true)∧Y))∧((Z1=true→Y)∧((Z1=true→Y)∧((Z1=true→(((Z1=true)∧Y)∧(((Z1=true)∧Y)∧((0≤((k:Nat):Int))∧(((k:Nat):Int)<(h.length:Int))))))∧((Z1=true→((Z1=true)∧Y))∧((Z1=true→((Z1=true)∧Y))∧((Z1=true→(((Z1=true)∧Y)∧(((Z1=true)∧Y)∧Y)))∧((Y∧((Z1=true→(Z1=true)∧Y)∧(Z1=false→Y)))∧Y))))))))))))))))))))))))) (decide (((h.getD k default).frm)≤((h.getD i default).frm)))) (by kernel_rfl) (by kernel_rfl)
      ⟨tt,tt,⟨tt,tt,(by omega),(by omega)⟩,tt,tt,tt,tt,⟨tt,tt,(by omega),(by omega)⟩,tt,tt,⟨tt,tt,tt⟩,tt,(fun _=>trivial),(fun _=>trivial),(fun hG=>⟨⟨hG,tt⟩,⟨hG,tt⟩,(by have hg0 : ((h.getD k default).frm)≤((h.getD i default).frm) := of_decide_eq_true hG; omega),(by have hg0 : ((h.getD k default).frm)≤((h.getD i default).frm) := of_decide_eq_true hG; omega)⟩),(fun hG=>⟨hG,tt⟩),(fun hG=>⟨hG,tt⟩),(fun _=>trivial),(fun _=>trivial),(fun hG=>⟨⟨hG,tt⟩,⟨hG,tt⟩,(by have hg0 : ((h.getD k default).frm)≤((h.getD i default).frm) := of_decide_eq_true hG; omega),(by have hg0 : ((h.getD k default).frm)≤((h.getD i default).frm) := of_decide_eq_true hG; omega)⟩),(fun hG=>⟨hG,tt⟩),(fun hG=>⟨hG,tt⟩),(fun hG=>⟨⟨hG,tt⟩,⟨hG,tt⟩,tt⟩),⟨tt,(fun hp=>⟨hp,tt⟩),(fun _=>trivial)⟩,tt⟩ ?_
     refine W.if' ((decide (((h.getD k default).frm)≤((h.getD i default).frm))) && (decide (((h.getD i default).frm)<((h.getD k default).to)))) (.b ((decide (((h.getD k default).frm)≤((h.getD i default).frm))) && (decide (((h.getD i default).frm)<((h.getD k default).to))))) (by kernel_rfl) rfl trivial ?_ ?_
     ·intro h42
      have h42_0 : ((h.getD k default).frm)≤((h.getD i default).frm) := of_decide_eq_true (and_l h42)
      have h42_1 : ((h.getD i default).frm)<((h.getD k default).to) := of_decide_eq_true (and_r h42)
      refine Lk cok tab25 hnt [] (⟨[(0,.sl (.calls h)),(3,.i out),(4,.i ((i:Nat):Int)),(5,.i (n+(1:Int))),(6,.i ((k:Nat):Int)),(42,.b ((decide (((h.getD k default).frm)≤((h.getD i default).frm))) && (decide (((h.getD i default).frm)<((h.getD k default).to))))),(43,.i n),(44,.i (n+(1:Int)))],[],[999]⟩)
       (Y∧(Y∧Y∧(Fits .i64 (n+(1:Int))))∧Y∧Y)
       ⟨tt,⟨tt,tt,(by exact fits_i64 (by omega) (by omega))⟩,tt,tt⟩ ?_
      refine blockQ_normal (thenQ_normal ?_)
      refine Lk cok tab25 hnt [] (⟨[(0,.sl (.calls h)),(3,.i out),(4,.i ((i:Nat):Int)),(5,.i (n+(1:Int))),(6,.i (((k+1):Nat):Int)),(17,.i ((k:Nat):Int)),(18,.i (((k+1):Nat):Int)),(42,.b ((decide (((h.getD k default).frm)≤((h.getD i default).frm))) && (decide (((h.getD i default).frm)<((h.getD k default).to))))),(43,.i n),(44,.i (n+(1:Int)))],[],[999]⟩)
       (Y∧(Y∧Y∧(Fits .i64 (((k+1):Nat):Int)))∧Y∧Y)
       ⟨tt,⟨tt,tt,(by exact fits_i64 (by omega) (by omega))⟩,tt,tt⟩ ?_
      refine thenQ_normal ?_
      refine ⟨((n+(1:Int)),(k+1)),(show ((k+1)≤h.length)∧((n+(1:Int))=(((h.take (k+1)).countP (openP (callAt h i).frm):Nat):Int)) from ⟨(by first | assumption | omega | rfl | (intro _ hjj; omega) | (simp; done) | (simp; omega)),(by rw [take_count (openP (callAt h i).frm) (by omega),hn]; first | (rw [if_pos (show openP (callAt h i).frm (h.getD k default)=true from h42)]) | (rw [if_neg (by rw [show openP (callAt h i).frm (h.getD k default)=false from n42]; simp)]; omega))⟩),(show h.length - (k+1)<h.length - k from (by first | omega | (simp_all; omega))),?_⟩
      exact Sub.of [] (@cast (((Sd (.calls h))∧(Si out)∧(Si ((i:Nat):Int))∧(Si (n+(1:Int)))∧(Si (((k+1):Nat):Int))∧Y)∧Y∧(true=true)∧(true=true)) _ (by kernel_rfl) ⟨⟨rfl,rfl,rfl,rfl,rfl,tt⟩,tt,rfl,rfl⟩)
     ·intro n42
      refine W.skip (blockQ_normal (thenQ_normal ?_))
      refine Lk cok tab25 hnt [] (⟨[(0,.sl (.calls h)),(3,.i out),(4,.i ((i:Nat):Int)),(5,.i n),(6,.i (((k+1):Nat):Int)),(17,.i ((k:Nat):Int)),(18,.i (((k+1):Nat):Int)),(42,.b ((decide (((h.getD k default).frm)≤((h.getD i default).frm))) && (decide (((h.getD i default).frm)<((h.getD k default).to)))))],[],[999]⟩)
       (Y∧(Y∧Y∧(Fits .i64 (((k+1):Nat):Int)))∧Y∧Y)
       ⟨tt,⟨tt,tt,(by exact fits_i64 (by omega) (by omega))⟩,tt,tt⟩ ?_
      refine thenQ_normal ?_
      refine ⟨(n,(k+1)),(show ((k+1)≤h.length)∧(n=(((h.take (k+1)).countP (openP (callAt h i).frm):Nat):Int)) from ⟨(by first | assumption | omega | rfl | (intro _ hjj; omega) | (simp; done) | (simp; omega)),(by rw [take_count (openP (callAt h i).frm) (by omega),hn]; first | (rw [if_pos (show openP (callAt h i).frm (h.getD k default)=true from h42)]) | (rw [if_neg (by rw [show openP (callAt h i).frm (h.getD k default)=false from n42]; simp)]; omega))⟩),(show h.length - (k+1)<h.length - k from (by first | omega | (simp_all; omega))),?_⟩
      exact Sub.of [] (@cast (((Sd (.calls h))∧(Si out)∧(Si ((i:Nat):Int))∧(Si n)∧(Si (((k+1):Nat):Int))∧Y)∧Y∧(true=true)∧(true=true)) _ (by kernel_rfl) ⟨⟨rfl,rfl,rfl,rfl,rfl,tt⟩,tt,rfl,rfl⟩)
    ·intro n16
     refine W.exit (thenQ_exit (thenQ_exit (blockQ_hit ?_)))
     refine thenQ_normal ?_
     refine Lk cok tab25 hnt [] (⟨[(0,.sl (.calls h)),(3,.i (max out n)),(4,.i ((i:Nat):Int)),(5,.i n),(6,.i ((k:Nat):Int)),(16,.b (decide (((k:Nat):Int)<(h.length:Int)))),(45,.i out),(46,.i n),(47,.i (max out n))],[],[999]⟩)
      (Y∧Y∧(Y∧Y)∧Y∧Y)
      ⟨tt,tt,⟨tt,tt⟩,tt,tt⟩ ?_
     refine blockQ_normal (thenQ_normal ?_)
     refine Lk cok tab25 hnt [] (⟨[(0,.sl (.calls h)),(3,.i (max out n)),(4,.i (((i+1):Nat):Int)),(5,.i n),(6,.i ((k:Nat):Int)),(11,.i ((i:Nat):Int)),(12,.i (((i+1):Nat):Int)),(16,.b (decide (((k:Nat):Int)<(h.length:Int)))),(45,.i out),(46,.i n),(47,.i (max out n))],[],[999]⟩)
      (Y∧(Y∧Y∧(Fits .i64 (((i+1):Nat):Int)))∧Y∧Y)
      ⟨tt,⟨tt,tt,(by exact fits_i64 (by omega) (by omega))⟩,tt,tt⟩ ?_
     refine thenQ_normal ?_
     refine ⟨((max out n),(i+1)),(show ((i+1)≤h.length)∧((max out n)=maxN (i+1) (fun jj=>openAt h (callAt h jj).frm)) from ⟨(by first | assumption | omega | rfl | (intro _ hjj; omega) | (simp; done) | (simp; omega)),(by rw [ho,hn,show k=h.length by omega,List.take_length]; rfl)⟩),(show h.length - (i+1)<h.length - i from (by first | omega | (simp_all; omega))),?_⟩
     exact Sub.of [] (@cast (((Sd (.calls h))∧(Si (max out n))∧(Si (((i+1):Nat):Int))∧Y)∧Y∧(true=true)∧(true=true)) _ (by kernel_rfl) ⟨⟨rfl,rfl,rfl,tt⟩,tt,rfl,rfl⟩)
  ·intro n10
   refine W.exit (thenQ_exit (thenQ_exit (blockQ_hit ?_)))
   refine thenQ_normal ?_
   refine Kk cok tab25 hnt [] [2] (⟨[(2,.i out)],[],[999]⟩)
    (Y∧Y∧Y)
    ⟨tt,tt,tt⟩ ?_
   refine W.ret ?_
   exact endQ_ret (.i out) (by kernel_rfl) (@cast ((.int .i64 out:Value)=.int .i64 (widthS h)) _ (by kernel_rfl) (congrArg (Value.int .i64) (by rw [ho,show i=h.length by omega]; rfl)))
theorem ent25 : Entr prog 25 := ⟨_,func25,rfl,by decide⟩
end Go.Proofs.Tryz

set_option linter.unusedSimpArgs false
set_option linter.unusedVariables false
namespace Go.Proofs.Tryz
open Go.Ab Go.RowKit
def fs44 : FnS := fnS [.o,.s .calls] [.str,.calls] (fun _ (s,h,_)=>(.b (isObject s && validHistory h),[],Y))
abbrev T44 : Tab := lk [(23,fs23),(39,fs39)]
theorem tab44 : TabOK prog T44 := (TabOK.cons ok23 ent23 (TabOK.cons ok39 ent39 TabOK.nil))
theorem ok44 : FnOK prog 44 fs44 := by
 refine FnOK.mk cok func44 rfl rfl rfl ?_
 rintro fl ⟨(s:ByteArray),(h : List CallD),_⟩ hpre F hnt0 _
 have hnt : F.nt=11 := hnt0.trans ntmps44
 clear hpre
 refine W.to (⟨[(0,.v (.string s)),(1,.sl (.calls h))],[],[999]⟩) rfl ?_
 refine W.lenOf 1 (.calls h) (by kernel_rfl) ?_
 intro hl_h; replace hl_h : List.length h≤9223372036854775807 := hl_h
 refine Kk cok tab44 hnt [] [0,1] (⟨[(0,.v (.string s)),(1,.sl (.calls h))],[],[999]⟩)
  (Y∧Y)
  ⟨tt,tt⟩ ?_
 refine Kk cok tab44 hnt [] [4] (⟨[(4,.b ((isObject s) && (validHistory h)))],[],[999]⟩)
  ((fun (Z1:Bool)=>(Y∧((Y∧((Y∧Y)∧Y))∧(Y∧((Z1=true→Y)∧((Z1=true→(Y∧((((Z1=true)∧Y)∧Y)∧Y)))∧((Y∧((Z1=true→(Z1=true)∧Y)∧(Z1=false→Y)))∧(Y∧Y)))))))) (isObject s))
  ⟨tt,⟨tt,⟨tt,tt⟩,tt⟩,tt,(fun _=>trivial),(fun hG=>⟨tt,⟨⟨hG,tt⟩,tt⟩,tt⟩),⟨tt,(fun hp=>⟨hp,tt⟩),(fun _=>trivial)⟩,tt,tt⟩ ?_
 refine W.ret ?_
 exact endQ_ret (.b ((isObject s) && (validHistory h))) (by kernel_rfl) (@cast ((.bool ((isObject s) && (validHistory h)):Value)=.bool (isObject s && validHistory h)) _ (by kernel_rfl) (congrArg Value.bool (by rfl)))
theorem ent44 : Entr prog 44 := ⟨_,func44,rfl,by decide⟩
end Go.Proofs.Tryz

set_option linter.unusedSimpArgs false
set_option linter.unusedVariables false
namespace Go.Proofs.Tryz
open Go.Ab Go.RowKit
def fs67 : FnS := fnS [.o,.o] [.call,.call] (fun _ (a,b,_)=>(.b (isBefore a b),[],Y))
abbrev T67 : Tab := lk []
theorem tab67 : TabOK prog T67 := TabOK.nil
theorem ok67 : FnOK prog 67 fs67 := by
 refine FnOK.mk cok func67 rfl rfl rfl ?_
 rintro fl ⟨(a:CallD),(b:CallD),_⟩ hpre F hnt0 _
 have hnt : F.nt=10 := hnt0.trans ntmps67
 clear hpre
 refine W.to (⟨[(0,.agg [.i a.proc,.i a.obj,.i a.kind,.i a.arg,.i a.ret,.i a.frm,.i a.to]),(1,.agg [.i b.proc,.i b.obj,.i b.kind,.i b.arg,.i b.ret,.i b.frm,.i b.to])],[],[999]⟩) rfl ?_
 refine Kk cok tab67 hnt [] [2,3] (⟨[(2,.ptr 2 0),(3,.ptr 3 0)],[(2,⟨59,.fix [.i a.proc,.i a.obj,.i a.kind,.i a.arg,.i a.ret,.i a.frm,.i a.to]⟩),(3,⟨59,.fix [.i b.proc,.i b.obj,.i b.kind,.i b.arg,.i b.ret,.i b.frm,.i b.to]⟩)],[3,2,999]⟩)
  (Y∧Y∧Y∧Y)
  ⟨tt,tt,tt,tt⟩ ?_
 refine Kk cok tab67 hnt [] [4] (⟨[(4,.b (decide (a.to<b.frm)))],[(2,⟨59,.fix [.i a.proc,.i a.obj,.i a.kind,.i a.arg,.i a.ret,.i a.frm,.i a.to]⟩),(3,⟨59,.fix [.i b.proc,.i b.obj,.i b.kind,.i b.arg,.i b.ret,.i b.frm,.i b.to]⟩)],[3,2,999]⟩)
  (Y∧Y∧Y∧Y∧(Y∧Y∧Y)∧Y∧Y)
  ⟨tt,tt,tt,tt,⟨tt,tt,tt⟩,tt,tt⟩ ?_
 refine W.ret ?_
 exact endQ_ret (.b (decide (a.to<b.frm))) (by kernel_rfl) (@cast ((.bool (decide (a.to<b.frm)):Value)=.bool (isBefore a b)) _ (by kernel_rfl) (congrArg Value.bool (by first | rfl | simp_all)))
theorem ent67 : Entr prog 67 := ⟨_,func67,rfl,by decide⟩
end Go.Proofs.Tryz

set_option linter.unusedSimpArgs false
set_option linter.unusedVariables false
namespace Go.Proofs.Tryz
open Go.Ab Go.RowKit
def fs65 : FnS := fnS [.o] [.int] (fun _ (n,_)=>(.i (power n),[],(n≤60)))
abbrev T65 : Tab := lk []
theorem tab65 : TabOK prog T65 := TabOK.nil
theorem ok65 : FnOK prog 65 fs65 := by
 refine FnOK.mk cok func65 rfl rfl rfl ?_
 rintro fl ⟨(n:Int),_⟩ hpre F hnt0 _
 have hnt : F.nt=11 := hnt0.trans ntmps65
 replace hpre : (n≤60) := hpre
 have hn := hpre
 refine W.to (⟨[(0,.i n)],[],[999]⟩) rfl ?_
 refine Kk cok tab65 hnt [] [0] (⟨[(0,.i n)],[],[999]⟩)
  (Y∧Y)
  ⟨tt,tt⟩ ?_
 refine Kk cok tab65 hnt [] [0,3] (⟨[(0,.i n),(3,.i (1:Int))],[],[999]⟩)
  (Y∧Y)
  ⟨tt,tt⟩ ?_
 refine W.seq ?_
 refine W.block ?_
 refine W.loop (ι := Int × Int) (fun (x : Int × Int)=>match x with | (k,x)=>(⟨[(0,.i k),(3,.i x)],[],[999]⟩:St))
  (fun (x : Int × Int)=>match x with | (k,x)=>(k≤n)∧(x * power k=power n)∧(1≤x))
  (fun (x : Int × Int)=>match x with | (k,x)=>(k.toNat:Nat)) (n,(1:Int)) ?_ ?_ ?_
 ·exact (show (n≤n)∧((1:Int) * power n=power n)∧(1≤(1:Int)) from ⟨(by first | assumption | omega | rfl | (intro _ hjj; omega) | (simp; done) | (simp; omega)),(by exact Int.one_mul _),(by first | assumption | omega | rfl | (intro _ hjj; omega) | (simp; done) | (simp; omega))⟩)
 ·exact Sub.of [] (@cast (((Si n)∧(Si (1:Int))∧Y)∧Y∧(true=true)∧(true=true)) _ (by kernel_rfl) ⟨⟨rfl,rfl,tt⟩,tt,rfl,rfl⟩)
 ·rintro ⟨k,x⟩ hC0
  have hC : (k≤n)∧(x * power k=power n)∧(1≤x) := hC0
  clear hC0
  obtain ⟨hk,hx,hx0⟩ := hC
  refine W.to (⟨[(0,.i k),(3,.i x)],[],[999]⟩) rfl ?_
  have hp := power_le (n := n) hn
  have hxp : x≤power n := power_factor hx hx0
  refine W.seq ?_
  refine Kk cok tab65 hnt [] [0,3,5] (⟨[(0,.i k),(3,.i x),(5,.b (decide ((0:Int)<k)))],[],[999]⟩)
   (Y∧(Y∧Y∧Y)∧Y)
   ⟨tt,⟨tt,tt,tt⟩,tt⟩ ?_
  refine W.ifP ((0:Int)<k) (.b (decide ((0:Int)<k))) (by kernel_rfl) rfl trivial ?_ ?_
  ·intro h5
   refine W.skip (thenQ_normal ?_)
   refine W.seq ?_
   refine W.block ?_
   refine Lk cok tab65 hnt [] (⟨[(0,.i k),(3,.i ((2:Int) * x)),(5,.b (decide ((0:Int)<k))),(8,.i x),(9,.i ((2:Int) * x))],[],[999]⟩)
    (Y∧(Y∧Y∧(Fits .i64 ((2:Int) * x)))∧Y∧Y)
    ⟨tt,⟨tt,tt,(by exact fits_i64 (by omega) (by omega))⟩,tt,tt⟩ ?_
   refine blockQ_normal (thenQ_normal ?_)
   refine Lk cok tab65 hnt [] (⟨[(0,.i (k - (1:Int))),(3,.i ((2:Int) * x)),(5,.b (decide ((0:Int)<k))),(6,.i k),(7,.i (k - (1:Int))),(8,.i x),(9,.i ((2:Int) * x))],[],[999]⟩)
    (Y∧(Y∧Y∧(Fits .i64 (k - (1:Int))))∧Y∧Y)
    ⟨tt,⟨tt,tt,(by exact fits_i64 (by omega) (by omega))⟩,tt,tt⟩ ?_
   refine thenQ_normal ?_
   refine ⟨((k - (1:Int)),((2:Int) * x)),(show ((k - (1:Int))≤n)∧(((2:Int) * x) * power (k - (1:Int))=power n)∧(1≤((2:Int) * x)) from ⟨(by first | assumption | omega | rfl | (intro _ hjj; omega) | (simp; done) | (simp; omega)),(by rw [← hx]; exact power_step h5),(by first | assumption | omega | rfl | (intro _ hjj; omega) | (simp; done) | (simp; omega))⟩),(show (k - (1:Int)).toNat<k.toNat from (by first | omega | (simp_all; omega))),?_⟩
   exact Sub.of [] (@cast (((Si (k - (1:Int)))∧(Si ((2:Int) * x))∧Y)∧Y∧(true=true)∧(true=true)) _ (by kernel_rfl) ⟨⟨rfl,rfl,tt⟩,tt,rfl,rfl⟩)
  ·intro n5
   refine W.exit (thenQ_exit (thenQ_exit (blockQ_hit ?_)))
   refine thenQ_normal ?_
   refine Kk cok tab65 hnt [] [2] (⟨[(2,.i x)],[],[999]⟩)
    (Y∧Y∧Y)
    ⟨tt,tt,tt⟩ ?_
   refine W.ret ?_
   exact endQ_ret (.i x) (by kernel_rfl) (@cast ((.int .i64 x:Value)=.int .i64 (power n)) _ (by kernel_rfl) (congrArg (Value.int .i64) (by first | rfl | exact power_done hx n5)))
theorem ent65 : Entr prog 65 := ⟨_,func65,rfl,by decide⟩
end Go.Proofs.Tryz

set_option linter.unusedSimpArgs false
set_option linter.unusedVariables false
namespace Go.Proofs.Tryz
open Go.Ab Go.RowKit
def fs46 : FnS := fnS [.s .calls] [.calls] (fun _ (h,_)=>(.sl (.ints (rowsOf h.length (aheadF h))),[],(h.length≤60)))
abbrev T46 : Tab := lk [(65,fs65),(67,fs67)]
theorem tab46 : TabOK prog T46 := (TabOK.cons ok65 ent65 (TabOK.cons ok67 ent67 TabOK.nil))
theorem ok46 : FnOK prog 46 fs46 := by
 refine FnOK.mk cok func46 rfl rfl rfl ?_
 rintro fl ⟨(h : List CallD),_⟩ hpre F hnt0 _
 have hnt : F.nt=38 := hnt0.trans ntmps46
 replace hpre : (h.length≤60) := hpre
 have hn := hpre
 refine W.to (⟨[(0,.sl (.calls h))],[],[999]⟩) rfl ?_
 refine W.lenOf 0 (.calls h) (by kernel_rfl) ?_
 intro hl_h; replace hl_h : List.length h≤9223372036854775807 := hl_h
 refine Kk cok tab46 hnt [] [0] (⟨[(0,.sl (.calls h))],[],[999]⟩)
  (Y∧Y)
  ⟨tt,tt⟩ ?_
 refine Kk cok tab46 hnt [7] [0,3] (⟨[(0,.sl (.calls h)),(3,.own 7 (List.length ([] : List Int)))],[(7,⟨3,.row (.ints ([] : List Int))⟩)],[7,999]⟩)
  (Y∧Y∧Y)
  ⟨tt,tt,tt⟩ ?_
 refine W.seq ?_
 refine Kk cok tab46 hnt [] [0,3,4] (⟨[(0,.sl (.calls h)),(3,.own 7 (List.length ([] : List Int))),(4,.i (0:Int))],[(7,⟨3,.row (.ints ([] : List Int))⟩)],[7,999]⟩)
  (Y∧Y)
  ⟨tt,tt⟩ ?_
 refine W.block ?_
 refine W.loop (ι := (List Int) × Nat) (fun (x : (List Int) × Nat)=>match x with | (o,i)=>(⟨[(0,.sl (.calls h)),(3,.own 7 o.length),(4,.i ((i:Nat):Int))],[(7,⟨3,.row (.ints o)⟩)],[7,999]⟩:St))
  (fun (x : (List Int) × Nat)=>match x with | (o,i)=>(i≤h.length)∧(o=(List.range i).map fun j=>mask h.length (aheadF h j)))
  (fun (x : (List Int) × Nat)=>match x with | (o,i)=>(h.length - i:Nat)) (([] : List Int),0) ?_ ?_ ?_
 ·exact (show (0≤h.length)∧(([] : List Int)=(List.range 0).map fun j=>mask h.length (aheadF h j)) from ⟨(by first | assumption | omega | rfl | (intro _ hjj; omega) | (simp; done) | (simp; omega)),(by rfl)⟩)
 ·exact Sub.of [] (@cast (((Sd (.calls h))∧(((7:Nat)=7)∧((List.length ([] : List Int))=(List.length ([] : List Int)))∧((7:Nat) ∈ ([7,999] : List Nat)))∧((.int .i64 (0:Int):Value)=.int .i64 ((0:Nat):Int))∧Y)∧((((3:Nat)=3)∧(Sd (.ints ([] : List Int)))∧((7:Nat) ∈ ([7,999] : List Nat)))∧Y)∧(true=true)∧(true=true)) _ (by kernel_rfl) ⟨⟨rfl,⟨rfl,rfl,(by decide)⟩,(congrArg (Value.int .i64) (by first | rfl | omega | assumption | simp | simp_all)),tt⟩,⟨⟨rfl,rfl,(by decide)⟩,tt⟩,rfl,rfl⟩)
 ·rintro ⟨o,i⟩ hC0
  have hC : (i≤h.length)∧(o=(List.range i).map fun j=>mask h.length (aheadF h j)) := hC0
  clear hC0
  obtain ⟨hi,ho⟩ := hC
  refine W.to (⟨[(0,.sl (.calls h)),(3,.own 7 o.length),(4,.i ((i:Nat):Int))],[(7,⟨3,.row (.ints o)⟩)],[7,999]⟩) rfl ?_
  have hol : o.length=i := by rw [ho]; simp
  refine W.seq ?_
  refine Kk cok tab46 hnt [] [0,3,4,11] (⟨[(0,.sl (.calls h)),(3,.own 7 o.length),(4,.i ((i:Nat):Int)),(11,.b (decide (((i:Nat):Int)<(h.length:Int))))],[(7,⟨3,.row (.ints o)⟩)],[7,999]⟩)
   (Y∧Y∧Y∧(Y∧Y∧Y)∧Y)
   ⟨tt,tt,tt,⟨tt,tt,tt⟩,tt⟩ ?_
  refine W.ifP (((i:Nat):Int)<(h.length:Int)) (.b (decide (((i:Nat):Int)<(h.length:Int)))) (by kernel_rfl) rfl trivial ?_ ?_
  ·intro h11
   refine W.skip (thenQ_normal ?_)
   refine W.seq ?_
   refine W.block ?_
   refine Kk cok tab46 hnt [] [0,3,4,5] (⟨[(0,.sl (.calls h)),(3,.own 7 o.length),(4,.i ((i:Nat):Int)),(5,.i (0:Int))],[(7,⟨3,.row (.ints o)⟩)],[7,999]⟩)
    (Y∧Y)
    ⟨tt,tt⟩ ?_
   refine W.seq ?_
   refine Kk cok tab46 hnt [] [0,3,4,5,6] (⟨[(0,.sl (.calls h)),(3,.own 7 o.length),(4,.i ((i:Nat):Int)),(5,.i (0:Int)),(6,.i (0:Int))],[(7,⟨3,.row (.ints o)⟩)],[7,999]⟩)
    (Y∧Y)
    ⟨tt,tt⟩ ?_
   refine W.block ?_
   refine W.loop (ι := Int × Nat) (fun (x : Int × Nat)=>match x with | (r,k)=>(⟨[(0,.sl (.calls h)),(3,.own 7 o.length),(4,.i ((i:Nat):Int)),(5,.i r),(6,.i ((k:Nat):Int))],[(7,⟨3,.row (.ints o)⟩)],[7,999]⟩:St))
    (fun (x : Int × Nat)=>match x with | (r,k)=>(k≤h.length)∧(r=mask k (aheadF h i)))
    (fun (x : Int × Nat)=>match x with | (r,k)=>(h.length - k:Nat)) ((0:Int),0) ?_ ?_ ?_
   ·exact (show (0≤h.length)∧((0:Int)=mask 0 (aheadF h i)) from ⟨(by first | assumption | omega | rfl | (intro _ hjj; omega) | (simp; done) | (simp; omega)),(by rfl)⟩)
   ·exact Sub.of [] (@cast (((Sd (.calls h))∧(((7:Nat)=7)∧(o.length=o.length)∧((7:Nat) ∈ ([7,999] : List Nat)))∧(Si ((i:Nat):Int))∧(Si (0:Int))∧((.int .i64 (0:Int):Value)=.int .i64 ((0:Nat):Int))∧Y)∧((((3:Nat)=3)∧(Sd (.ints o))∧((7:Nat) ∈ ([7,999] : List Nat)))∧Y)∧(true=true)∧(true=true)) _ (by kernel_rfl) ⟨⟨rfl,⟨rfl,rfl,(by decide)⟩,rfl,rfl,(congrArg (Value.int .i64) (by first | rfl | omega | assumption | simp | simp_all)),tt⟩,⟨⟨rfl,rfl,(by decide)⟩,tt⟩,rfl,rfl⟩)
   ·rintro ⟨r,k⟩ hC0
    have hC : (k≤h.length)∧(r=mask k (aheadF h i)) := hC0
    clear hC0
    obtain ⟨hk,hr⟩ := hC
    refine W.to (⟨[(0,.sl (.calls h)),(3,.own 7 o.length),(4,.i ((i:Nat):Int)),(5,.i r),(6,.i ((k:Nat):Int))],[(7,⟨3,.row (.ints o)⟩)],[7,999]⟩) rfl ?_
    have hmb := mask_bnd k (aheadF h i) (by omega)
    refine W.seq ?_
    refine Kk cok tab46 hnt [] [0,3,4,5,6,17] (⟨[(0,.sl (.calls h)),(3,.own 7 o.length),(4,.i ((i:Nat):Int)),(5,.i r),(6,.i ((k:Nat):Int)),(17,.b (decide (((k:Nat):Int)<(h.length:Int))))],[(7,⟨3,.row (.ints o)⟩)],[7,999]⟩)
     (Y∧Y∧Y∧(Y∧Y∧Y)∧Y)
     ⟨tt,tt,tt,⟨tt,tt,tt⟩,tt⟩ ?_
    refine W.ifP (((k:Nat):Int)<(h.length:Int)) (.b (decide (((k:Nat):Int)<(h.length:Int)))) (by kernel_rfl) rfl trivial ?_ ?_
    ·intro h17
     refine W.skip (thenQ_normal ?_)
     refine W.seq ?_
     refine W.block ?_
     refine W.KA cok tab46 hnt [] [0,3,4,5,6,28] (⟨[(0,.sl (.calls h)),(3,.own 7 o.length),(4,.i ((i:Nat):Int)),(5,.i r),(6,.i ((k:Nat):Int)),(28,.b (isBefore (h.getD k default) (h.getD i default)))],[(7,⟨3,.row (.ints o)⟩)],[7,999]⟩)
      (Y∧Y∧(Y∧Y∧(0≤((k:Nat):Int))∧(((k:Nat):Int)<(h.length:Int)))∧Y∧Y∧Y∧(Y∧Y∧(0≤((i:Nat):Int))∧(((i:Nat):Int)<(h.length:Int)))∧Y∧(Y∧(Y∧Y∧Y)∧Y)∧Y) (by kernel_rfl) (by kernel_rfl)
      ⟨tt,tt,⟨tt,tt,(by omega),(by omega)⟩,tt,tt,tt,⟨tt,tt,(by omega),(by omega)⟩,tt,⟨tt,⟨tt,tt,tt⟩,tt⟩,tt⟩ ?_
     refine W.if' (isBefore (h.getD k default) (h.getD i default)) (.b (isBefore (h.getD k default) (h.getD i default))) (by kernel_rfl) rfl trivial ?_ ?_
     ·intro h28
      have hpw := power_le (n := (k:Int)) (by omega)
      have hpw0 := power_pos (k:Int)
      refine Lk cok tab46 hnt [] (⟨[(0,.sl (.calls h)),(3,.own 7 o.length),(4,.i ((i:Nat):Int)),(5,.i (r+(power ((k:Nat):Int)))),(6,.i ((k:Nat):Int)),(28,.b (isBefore (h.getD k default) (h.getD i default))),(29,.i r),(30,.i ((k:Nat):Int)),(31,.i (power ((k:Nat):Int))),(32,.i (r+(power ((k:Nat):Int))))],[(7,⟨3,.row (.ints o)⟩)],[7,999]⟩)
       (Y∧Y∧(Y∧(Y∧Y)∧(((k:Nat):Int)≤60))∧(Y∧Y∧(Fits .i64 (r+(power ((k:Nat):Int)))))∧Y∧Y)
       ⟨tt,tt,⟨tt,⟨tt,tt⟩,(by omega)⟩,⟨tt,tt,(by exact fits_i64 (by omega) (by omega))⟩,tt,tt⟩ ?_
      refine blockQ_normal (thenQ_normal ?_)
      refine Lk cok tab46 hnt [] (⟨[(0,.sl (.calls h)),(3,.own 7 o.length),(4,.i ((i:Nat):Int)),(5,.i (r+(power ((k:Nat):Int)))),(6,.i (((k+1):Nat):Int)),(18,.i ((k:Nat):Int)),(19,.i (((k+1):Nat):Int)),(28,.b (isBefore (h.getD k default) (h.getD i default))),(29,.i r),(30,.i ((k:Nat):Int)),(31,.i (power ((k:Nat):Int))),(32,.i (r+(power ((k:Nat):Int))))],[(7,⟨3,.row (.ints o)⟩)],[7,999]⟩)
       (Y∧(Y∧Y∧(Fits .i64 (((k+1):Nat):Int)))∧Y∧Y)
       ⟨tt,⟨tt,tt,(by exact fits_i64 (by omega) (by omega))⟩,tt,tt⟩ ?_
      refine thenQ_normal ?_
      refine ⟨((r+(power ((k:Nat):Int))),(k+1)),(show ((k+1)≤h.length)∧((r+(power ((k:Nat):Int)))=mask (k+1) (aheadF h i)) from ⟨(by first | assumption | omega | rfl | (intro _ hjj; omega) | (simp; done) | (simp; omega)),(by first | (rw [hr]; exact (mask_skip (n28)).symm) | (rw [hr,mask_add (h28)]; rfl))⟩),(show h.length - (k+1)<h.length - k from (by first | omega | (simp_all; omega))),?_⟩
      exact Sub.of [] (@cast (((Sd (.calls h))∧(((7:Nat)=7)∧(o.length=o.length)∧((7:Nat) ∈ ([7,999] : List Nat)))∧(Si ((i:Nat):Int))∧(Si (r+(power ((k:Nat):Int))))∧(Si (((k+1):Nat):Int))∧Y)∧((((3:Nat)=3)∧(Sd (.ints o))∧((7:Nat) ∈ ([7,999] : List Nat)))∧Y)∧(true=true)∧(true=true)) _ (by kernel_rfl) ⟨⟨rfl,⟨rfl,rfl,(by decide)⟩,rfl,rfl,rfl,tt⟩,⟨⟨rfl,rfl,(by decide)⟩,tt⟩,rfl,rfl⟩)
     ·intro n28
      refine W.skip (blockQ_normal (thenQ_normal ?_))
      refine Lk cok tab46 hnt [] (⟨[(0,.sl (.calls h)),(3,.own 7 o.length),(4,.i ((i:Nat):Int)),(5,.i r),(6,.i (((k+1):Nat):Int)),(18,.i ((k:Nat):Int)),(19,.i (((k+1):Nat):Int)),(28,.b (isBefore (h.getD k default) (h.getD i default)))],[(7,⟨3,.row (.ints o)⟩)],[7,999]⟩)
       (Y∧(Y∧Y∧(Fits .i64 (((k+1):Nat):Int)))∧Y∧Y)
       ⟨tt,⟨tt,tt,(by exact fits_i64 (by omega) (by omega))⟩,tt,tt⟩ ?_
      refine thenQ_normal ?_
      refine ⟨(r,(k+1)),(show ((k+1)≤h.length)∧(r=mask (k+1) (aheadF h i)) from ⟨(by first | assumption | omega | rfl | (intro _ hjj; omega) | (simp; done) | (simp; omega)),(by first | (rw [hr]; exact (mask_skip (n28)).symm) | (rw [hr,mask_add (h28)]; rfl))⟩),(show h.length - (k+1)<h.length - k from (by first | omega | (simp_all; omega))),?_⟩
      exact Sub.of [] (@cast (((Sd (.calls h))∧(((7:Nat)=7)∧(o.length=o.length)∧((7:Nat) ∈ ([7,999] : List Nat)))∧(Si ((i:Nat):Int))∧(Si r)∧(Si (((k+1):Nat):Int))∧Y)∧((((3:Nat)=3)∧(Sd (.ints o))∧((7:Nat) ∈ ([7,999] : List Nat)))∧Y)∧(true=true)∧(true=true)) _ (by kernel_rfl) ⟨⟨rfl,⟨rfl,rfl,(by decide)⟩,rfl,rfl,rfl,tt⟩,⟨⟨rfl,rfl,(by decide)⟩,tt⟩,rfl,rfl⟩)
    ·intro n17
     refine W.exit (thenQ_exit (thenQ_exit (blockQ_hit ?_)))
     refine thenQ_normal ?_
     refine Lk cok tab46 hnt [36] (⟨[(0,.sl (.calls h)),(3,.own 36 (List.length (o++([r])))),(4,.i ((i:Nat):Int)),(5,.i r),(6,.i ((k:Nat):Int)),(17,.b (decide (((k:Nat):Int)<(h.length:Int)))),(33,.own 7 o.length),(34,.i r),(35,.sl (.ints ([r]))),(36,.own 36 (List.length (o++([r]))))],[(36,⟨3,.row (.ints (o++([r])))⟩)],[36,35,7,999]⟩)
      (Y∧Y∧(Y∧Y)∧((Y∧(o.length=o.length))∧Y∧((o.length+(List.length ([r]))) * 8≤140737488355328))∧Y∧Y)
      ⟨tt,tt,⟨tt,tt⟩,⟨⟨tt,rfl⟩,tt,(by (first | omega | (simp only [List.length_set]; done) | (simp only [ln] at *; omega) | assumption))⟩,tt,tt⟩ ?_
     refine blockQ_normal (thenQ_normal ?_)
     refine Lk cok tab46 hnt [] (⟨[(0,.sl (.calls h)),(3,.own 36 (List.length (o++([r])))),(4,.i (((i+1):Nat):Int)),(5,.i r),(6,.i ((k:Nat):Int)),(12,.i ((i:Nat):Int)),(13,.i (((i+1):Nat):Int)),(17,.b (decide (((k:Nat):Int)<(h.length:Int)))),(33,.own 7 o.length),(34,.i r),(35,.sl (.ints ([r]))),(36,.own 36 (List.length (o++([r]))))],[(36,⟨3,.row (.ints (o++([r])))⟩)],[36,35,7,999]⟩)
      (Y∧(Y∧Y∧(Fits .i64 (((i+1):Nat):Int)))∧Y∧Y)
      ⟨tt,⟨tt,tt,(by exact fits_i64 (by omega) (by omega))⟩,tt,tt⟩ ?_
     refine thenQ_normal ?_
     refine ⟨((o++([r])),(i+1)),(show ((i+1)≤h.length)∧((o++([r]))=(List.range (i+1)).map fun j=>mask h.length (aheadF h j)) from ⟨(by first | assumption | omega | rfl | (intro _ hjj; omega) | (simp; done) | (simp; omega)),(by rw [ho]; exact rows_snoc _ _ _ _ (by rw [hr,show k=h.length by omega]))⟩),(show h.length - (i+1)<h.length - i from (by first | omega | (simp_all; omega))),?_⟩
     exact Sub.of [(7,36)] (@cast (((Sd (.calls h))∧(((36:Nat)=36)∧((List.length (o++([r])))=(List.length (o++([r]))))∧((7:Nat) ∈ ([7,999] : List Nat)))∧(Si (((i+1):Nat):Int))∧Y)∧((((3:Nat)=3)∧(Sd (.ints (o++([r]))))∧((7:Nat) ∈ ([7,999] : List Nat)))∧Y)∧(true=true)∧(true=true)) _ (by kernel_rfl) ⟨⟨rfl,⟨rfl,rfl,(by decide)⟩,rfl,tt⟩,⟨⟨rfl,rfl,(by decide)⟩,tt⟩,rfl,rfl⟩)
  ·intro n11
   refine W.exit (thenQ_exit (thenQ_exit (blockQ_hit ?_)))
   refine thenQ_normal ?_
   refine Kk cok tab46 hnt [] [2] (⟨[(2,.own 7 o.length)],[(7,⟨3,.row (.ints o)⟩)],[7,999]⟩)
    (Y∧Y∧Y)
    ⟨tt,tt,tt⟩ ?_
   refine W.ret ?_
   exact endQ_ret (.own 7 o.length) (by kernel_rfl) (@cast ((o.length=o.length)∧((.ints o:Dat)=.ints (rowsOf h.length (aheadF h)))∧((7:Nat) ∉ ([] : List Nat))) _ (by kernel_rfl) ⟨rfl,⟨(congrArg Dat.ints (by rw [ho,show i=h.length by omega]; rfl)),(by decide)⟩⟩)
theorem ent46 : Entr prog 46 := ⟨_,func46,rfl,by decide⟩
end Go.Proofs.Tryz

set_option linter.unusedSimpArgs false
set_option linter.unusedVariables false
namespace Go.Proofs.Tryz
open Go.Ab Go.RowKit
def fs88 : FnS := fnS [.s .ints,.o] [.ints,.int] (fun _ (l,n,_)=>(.b (hasInt l n),[],Y))
abbrev T88 : Tab := lk []
theorem tab88 : TabOK prog T88 := TabOK.nil
theorem ok88 : FnOK prog 88 fs88 := by
 refine FnOK.mk cok func88 rfl rfl rfl ?_
 rintro fl ⟨(l : List Int),(n:Int),_⟩ hpre F hnt0 _
 have hnt : F.nt=18 := hnt0.trans ntmps88
 clear hpre
 refine W.to (⟨[(0,.sl (.ints l)),(1,.i n)],[],[999]⟩) rfl ?_
 refine W.lenOf 0 (.ints l) (by kernel_rfl) ?_
 intro hl_l; replace hl_l : List.length l≤9223372036854775807 := hl_l
 refine Kk cok tab88 hnt [] [0,1] (⟨[(0,.sl (.ints l)),(1,.i n)],[],[999]⟩)
  (Y∧Y)
  ⟨tt,tt⟩ ?_
 refine W.seq ?_
 refine Kk cok tab88 hnt [] [0,1,5] (⟨[(0,.sl (.ints l)),(1,.i n),(5,.i (0:Int))],[],[999]⟩)
  (Y∧Y)
  ⟨tt,tt⟩ ?_
 refine W.block ?_
 refine W.loop (ι := Nat) (fun (i:Nat)=>(⟨[(0,.sl (.ints l)),(1,.i n),(5,.i ((i:Nat):Int))],[],[999]⟩:St))
  (fun (i:Nat)=>(i≤l.length)∧(∀ j,j<i→decide (l.getD j 0=n)=false))
  (fun (i:Nat)=>(l.length - i:Nat)) (0) ?_ ?_ ?_
 ·exact (show (0≤l.length)∧(∀ j,j<0→decide (l.getD j 0=n)=false) from ⟨(by first | assumption | omega | rfl | (intro _ hjj; omega) | (simp; done) | (simp; omega)),(by exact upto_zero)⟩)
 ·exact Sub.of [] (@cast (((Sd (.ints l))∧(Si n)∧((.int .i64 (0:Int):Value)=.int .i64 ((0:Nat):Int))∧Y)∧Y∧(true=true)∧(true=true)) _ (by kernel_rfl) ⟨⟨rfl,rfl,(congrArg (Value.int .i64) (by first | rfl | omega | assumption | simp | simp_all)),tt⟩,tt,rfl,rfl⟩)
 ·rintro i hC0
  have hC : (i≤l.length)∧(∀ j,j<i→decide (l.getD j 0=n)=false) := hC0
  clear hC0
  obtain ⟨hi,hA⟩ := hC
  refine W.to (⟨[(0,.sl (.ints l)),(1,.i n),(5,.i ((i:Nat):Int))],[],[999]⟩) rfl ?_
  refine W.seq ?_
  refine Kk cok tab88 hnt [] [0,1,5,9] (⟨[(0,.sl (.ints l)),(1,.i n),(5,.i ((i:Nat):Int)),(9,.b (decide (((i:Nat):Int)<(l.length:Int))))],[],[999]⟩)
   (Y∧Y∧Y∧(Y∧Y∧Y)∧Y)
   ⟨tt,tt,tt,⟨tt,tt,tt⟩,tt⟩ ?_
  refine W.ifP (((i:Nat):Int)<(l.length:Int)) (.b (decide (((i:Nat):Int)<(l.length:Int)))) (by kernel_rfl) rfl trivial ?_ ?_
  ·intro h9
   refine W.skip (thenQ_normal ?_)
   refine W.seq ?_
   refine W.block ?_
   refine Kk cok tab88 hnt [] [0,1,5,17] (⟨[(0,.sl (.ints l)),(1,.i n),(5,.i ((i:Nat):Int)),(17,.b (decide ((l.getD i 0)=n)))],[],[999]⟩)
    (Y∧Y∧(Y∧Y∧(0≤((i:Nat):Int))∧(((i:Nat):Int)<(l.length:Int)))∧Y∧Y∧(Y∧Y∧Y)∧Y)
    ⟨tt,tt,⟨tt,tt,(by omega),(by omega)⟩,tt,tt,⟨tt,tt,tt⟩,tt⟩ ?_
   refine W.ifP ((l.getD i 0)=n) (.b (decide ((l.getD i 0)=n))) (by kernel_rfl) rfl trivial ?_ ?_
   ·intro h17
    refine Kk cok tab88 hnt [] [4] (⟨[(4,.b true)],[],[999]⟩)
     (Y∧Y)
     ⟨tt,tt⟩ ?_
    refine W.ret (blockQ_ret (thenQ_ret (thenQ_ret (blockQ_ret (thenQ_ret ?_)))))
    exact endQ_ret (.b true) (by kernel_rfl) (@cast ((.bool true:Value)=.bool (hasInt l n)) _ (by kernel_rfl) (congrArg Value.bool (by unfold hasInt; symm; exact anyN_true (i := i) (by omega) (decide_eq_true h17))))
   ·intro n17
    refine W.skip (blockQ_normal (thenQ_normal ?_))
    refine Lk cok tab88 hnt [] (⟨[(0,.sl (.ints l)),(1,.i n),(5,.i (((i+1):Nat):Int)),(10,.i ((i:Nat):Int)),(11,.i (((i+1):Nat):Int)),(17,.b (decide ((l.getD i 0)=n)))],[],[999]⟩)
     (Y∧(Y∧Y∧(Fits .i64 (((i+1):Nat):Int)))∧Y∧Y)
     ⟨tt,⟨tt,tt,(by exact fits_i64 (by omega) (by omega))⟩,tt,tt⟩ ?_
    refine thenQ_normal ?_
    refine ⟨((i+1)),(show ((i+1)≤l.length)∧(∀ j,j<(i+1)→decide (l.getD j 0=n)=false) from ⟨(by first | assumption | omega | rfl | (intro _ hjj; omega) | (simp; done) | (simp; omega)),(by exact upto_succ hA (decide_eq_false n17))⟩),(show l.length - (i+1)<l.length - i from (by first | omega | (simp_all; omega))),?_⟩
    exact Sub.of [] (@cast (((Sd (.ints l))∧(Si n)∧(Si (((i+1):Nat):Int))∧Y)∧Y∧(true=true)∧(true=true)) _ (by kernel_rfl) ⟨⟨rfl,rfl,rfl,tt⟩,tt,rfl,rfl⟩)
  ·intro n9
   refine W.exit (thenQ_exit (thenQ_exit (blockQ_hit ?_)))
   refine thenQ_normal ?_
   refine Kk cok tab88 hnt [] [4] (⟨[(4,.b false)],[],[999]⟩)
    (Y∧Y)
    ⟨tt,tt⟩ ?_
   refine W.ret ?_
   exact endQ_ret (.b false) (by kernel_rfl) (@cast ((.bool false:Value)=.bool (hasInt l n)) _ (by kernel_rfl) (congrArg Value.bool (by unfold hasInt; symm; exact anyN_false (fun j hj=>hA j (by omega)))))
theorem ent88 : Entr prog 88 := ⟨_,func88,rfl,by decide⟩
end Go.Proofs.Tryz
