import Derived.Test.YtbmbdlgifplglaaGreatDoorZF3S0
import Derived.Test.YtbmbdlgifplglaaGreatDoorZF3S8
import Derived.Test.YtbmbdlgifplglaaGreatDoorZF3S1
import Derived.Test.YtbmbdlgifplglaaGreatDoorZF3S7
import Derived.Test.YtbmbdlgifplglaaGreatDoorFrameB
import Derived.Shelf.Slices.Delete
import Derived.Shelf.Slices.Clone
set_option maxRecDepth 100000
set_option maxHeartbeats 1000000
set_option linter.unusedSimpArgs false
set_option linter.unusedVariables false
namespace Go.Proofs.Tryz
open Go.Ab Go.RowKit
def fs76 : FnS := fnS [.o] [.call] (fun _ (c,_)=>(.v (.string (callTextB c)),[],(isCall c=true)))
abbrev T76 : Tab := lk [(36,fs36)]
theorem tab76 : TabOK prog T76 := (TabOK.cons ok36 ent36 TabOK.nil)
theorem ok76 : FnOK prog 76 fs76 := by
 refine FnOK.mk cok func76 rfl rfl rfl ?_
 rintro fl ⟨(c:CallD),_⟩ hpre F hnt0 _
 have hnt : F.nt=39 := hnt0.trans ntmps76
 replace hpre : (isCall c=true) := hpre
 have hc := hpre
 refine W.to (⟨[(0,.agg [.i c.proc,.i c.obj,.i c.kind,.i c.arg,.i c.ret,.i c.frm,.i c.to])],[],[999]⟩) rfl ?_
 have hf := call_facts hc
 have s0 := numB_size c.proc
 have s1 := numB_size c.arg
 have s2 := numB_size c.ret
 have s3 := numB_size c.frm
 have s4 := numB_size c.to
 refine Kk cok tab76 hnt [] [1] (⟨[(1,.ptr 1 0)],[(1,⟨59,.fix [.i c.proc,.i c.obj,.i c.kind,.i c.arg,.i c.ret,.i c.frm,.i c.to]⟩)],[1,999]⟩)
  (Y∧Y∧Y)
  ⟨tt,tt,tt⟩ ?_
 refine W.KA cok tab76 hnt [] [2] (⟨[(2,.v (.string ((((((((((numB c.proc)++((⟨#[120,121]⟩:ByteArray).extract (Int.toNat c.obj) (Int.toNat (c.obj+(1:Int)))))++((⟨#[112,116,108]⟩:ByteArray).extract (Int.toNat c.kind) (Int.toNat (c.kind+(1:Int)))))++(numB c.arg))++(⟨#[61]⟩:ByteArray))++(numB c.ret))++(⟨#[64]⟩:ByteArray))++(numB c.frm))++(⟨#[45]⟩:ByteArray))++(numB c.to))))],[(1,⟨59,.fix [.i c.proc,.i c.obj,.i c.kind,.i c.arg,.i c.ret,.i c.frm,.i c.to]⟩)],[1,999]⟩)
  (Y∧Y∧(Y∧(Y∧Y)∧(-9223372036854775808≤c.proc)∧(c.proc≤9223372036854775807))∧Y∧Y∧Y∧Y∧(Y∧Y∧(Fits .i64 (c.obj+(1:Int))))∧(Y∧Y∧Y∧(0≤c.obj)∧(c.obj≤(c.obj+(1:Int)))∧((c.obj+(1:Int))≤((((⟨#[120,121]⟩:ByteArray).size):Nat):Int)))∧(Y∧Y∧((numB c.proc).size+((⟨#[120,121]⟩:ByteArray).extract (Int.toNat c.obj) (Int.toNat (c.obj+(1:Int)))).size≤9223372036854775807))∧Y∧Y∧Y∧Y∧(Y∧Y∧(Fits .i64 (c.kind+(1:Int))))∧(Y∧Y∧Y∧(0≤c.kind)∧(c.kind≤(c.kind+(1:Int)))∧((c.kind+(1:Int))≤((((⟨#[112,116,108]⟩:ByteArray).size):Nat):Int)))∧(Y∧Y∧(((numB c.proc)++((⟨#[120,121]⟩:ByteArray).extract (Int.toNat c.obj) (Int.toNat (c.obj+(1:Int))))).size+((⟨#[112,116,108]⟩:ByteArray).extract (Int.toNat c.kind) (Int.toNat (c.kind+(1:Int)))).size≤9223372036854775807))∧Y∧Y∧(Y∧(Y∧Y)∧(-9223372036854775808≤c.arg)∧(c.arg≤9223372036854775807))∧(Y∧Y∧((((numB c.proc)++((⟨#[120,121]⟩:ByteArray).extract (Int.toNat c.obj) (Int.toNat (c.obj+(1:Int)))))++((⟨#[112,116,108]⟩:ByteArray).extract (Int.toNat c.kind) (Int.toNat (c.kind+(1:Int))))).size+(numB c.arg).size≤9223372036854775807))∧(Y∧Y∧(((((numB c.proc)++((⟨#[120,121]⟩:ByteArray).extract (Int.toNat c.obj) (Int.toNat (c.obj+(1:Int)))))++((⟨#[112,116,108]⟩:ByteArray).extract (Int.toNat c.kind) (Int.toNat (c.kind+(1:Int)))))++(numB c.arg)).size+(⟨#[61]⟩:ByteArray).size≤9223372036854775807))∧Y∧Y∧(Y∧(Y∧Y)∧(-9223372036854775808≤c.ret)∧(c.ret≤9223372036854775807))∧(Y∧Y∧((((((numB c.proc)++((⟨#[120,121]⟩:ByteArray).extract (Int.toNat c.obj) (Int.toNat (c.obj+(1:Int)))))++((⟨#[112,116,108]⟩:ByteArray).extract (Int.toNat c.kind) (Int.toNat (c.kind+(1:Int)))))++(numB c.arg))++(⟨#[61]⟩:ByteArray)).size+(numB c.ret).size≤9223372036854775807))∧(Y∧Y∧(((((((numB c.proc)++((⟨#[120,121]⟩:ByteArray).extract (Int.toNat c.obj) (Int.toNat (c.obj+(1:Int)))))++((⟨#[112,116,108]⟩:ByteArray).extract (Int.toNat c.kind) (Int.toNat (c.kind+(1:Int)))))++(numB c.arg))++(⟨#[61]⟩:ByteArray))++(numB c.ret)).size+(⟨#[64]⟩:ByteArray).size≤9223372036854775807))∧Y∧Y∧(Y∧(Y∧Y)∧(-9223372036854775808≤c.frm)∧(c.frm≤9223372036854775807))∧(Y∧Y∧((((((((numB c.proc)++((⟨#[120,121]⟩:ByteArray).extract (Int.toNat c.obj) (Int.toNat (c.obj+(1:Int)))))++((⟨#[112,116,108]⟩:ByteArray).extract (Int.toNat c.kind) (Int.toNat (c.kind+(1:Int)))))++(numB c.arg))++(⟨#[61]⟩:ByteArray))++(numB c.ret))++(⟨#[64]⟩:ByteArray)).size+(numB c.frm).size≤9223372036854775807))∧(Y∧Y∧(((((((((numB c.proc)++((⟨#[120,121]⟩:ByteArray).extract (Int.toNat c.obj) (Int.toNat (c.obj+(1:Int)))))++((⟨#[112,116,108]⟩:ByteArray).extract (Int.toNat c.kind) (Int.toNat (c.kind+(1:Int)))))++(numB c.arg))++(⟨#[61]⟩:ByteArray))++(numB c.ret))++(⟨#[64]⟩:ByteArray))++(numB c.frm)).size+(⟨#[45]⟩:ByteArray).size≤9223372036854775807))∧Y∧Y∧(Y∧(Y∧Y)∧(-9223372036854775808≤c.to)∧(c.to≤9223372036854775807))∧(Y∧Y∧((((((((((numB c.proc)++((⟨#[120,121]⟩:ByteArray).extract (Int.toNat c.obj) (Int.toNat (c.obj+(1:Int)))))++((⟨#[112,116,108]⟩:ByteArray).extract (Int.toNat c.kind) (Int.toNat (c.kind+(1:Int)))))++(numB c.arg))++(⟨#[61]⟩:ByteArray))++(numB c.ret))++(⟨#[64]⟩:ByteArray))++(numB c.frm))++(⟨#[45]⟩:ByteArray)).size+(numB c.to).size≤9223372036854775807))∧Y∧Y) (by kernel_rfl) (by kernel_rfl)
  ⟨tt,tt,⟨tt,⟨tt,tt⟩,(by omega),(by omega)⟩,tt,tt,tt,tt,⟨tt,tt,(by exact fits_i64 (by omega) (by omega))⟩,⟨tt,tt,tt,(by omega),(by omega),(by (try simp only [ByteArray.size_append,ByteArray.size_extract,sz1,sz2,sz3,sz10]); omega)⟩,⟨tt,tt,(by (try simp only [ByteArray.size_append,ByteArray.size_extract,sz1,sz2,sz3,sz10]); omega)⟩,tt,tt,tt,tt,⟨tt,tt,(by exact fits_i64 (by omega) (by omega))⟩,⟨tt,tt,tt,(by omega),(by omega),(by (try simp only [ByteArray.size_append,ByteArray.size_extract,sz1,sz2,sz3,sz10]); omega)⟩,⟨tt,tt,(by (try simp only [ByteArray.size_append,ByteArray.size_extract,sz1,sz2,sz3,sz10]); omega)⟩,tt,tt,⟨tt,⟨tt,tt⟩,(by omega),(by omega)⟩,⟨tt,tt,(by (try simp only [ByteArray.size_append,ByteArray.size_extract,sz1,sz2,sz3,sz10]); omega)⟩,⟨tt,tt,(by (try simp only [ByteArray.size_append,ByteArray.size_extract,sz1,sz2,sz3,sz10]); omega)⟩,tt,tt,⟨tt,⟨tt,tt⟩,(by omega),(by omega)⟩,⟨tt,tt,(by (try simp only [ByteArray.size_append,ByteArray.size_extract,sz1,sz2,sz3,sz10]); omega)⟩,⟨tt,tt,(by (try simp only [ByteArray.size_append,ByteArray.size_extract,sz1,sz2,sz3,sz10]); omega)⟩,tt,tt,⟨tt,⟨tt,tt⟩,(by omega),(by omega)⟩,⟨tt,tt,(by (try simp only [ByteArray.size_append,ByteArray.size_extract,sz1,sz2,sz3,sz10]); omega)⟩,⟨tt,tt,(by (try simp only [ByteArray.size_append,ByteArray.size_extract,sz1,sz2,sz3,sz10]); omega)⟩,tt,tt,⟨tt,⟨tt,tt⟩,(by omega),(by omega)⟩,⟨tt,tt,(by (try simp only [ByteArray.size_append,ByteArray.size_extract,sz1,sz2,sz3,sz10]); omega)⟩,tt,tt⟩ ?_
 refine W.ret ?_
 exact endQ_ret (.v (.string ((((((((((numB c.proc)++((⟨#[120,121]⟩:ByteArray).extract (Int.toNat c.obj) (Int.toNat (c.obj+(1:Int)))))++((⟨#[112,116,108]⟩:ByteArray).extract (Int.toNat c.kind) (Int.toNat (c.kind+(1:Int)))))++(numB c.arg))++(⟨#[61]⟩:ByteArray))++(numB c.ret))++(⟨#[64]⟩:ByteArray))++(numB c.frm))++(⟨#[45]⟩:ByteArray))++(numB c.to)))) (by kernel_rfl) (@cast (((.string ((((((((((numB c.proc)++((⟨#[120,121]⟩:ByteArray).extract (Int.toNat c.obj) (Int.toNat (c.obj+(1:Int)))))++((⟨#[112,116,108]⟩:ByteArray).extract (Int.toNat c.kind) (Int.toNat (c.kind+(1:Int)))))++(numB c.arg))++(⟨#[61]⟩:ByteArray))++(numB c.ret))++(⟨#[64]⟩:ByteArray))++(numB c.frm))++(⟨#[45]⟩:ByteArray))++(numB c.to))):Value)=(.string (callTextB c))) _ (by kernel_rfl) (congrArg Value.string (by exact text_val hc)))
theorem ent76 : Entr prog 76 := ⟨_,func76,rfl,by decide⟩
end Go.Proofs.Tryz

set_option linter.unusedSimpArgs false
set_option linter.unusedVariables false
namespace Go.Proofs.Tryz
open Go.Ab Go.RowKit Go.Shelf Go.Proofs Go.Lib
def fs77 : FnS := fnS [.s .strs,.o] [.strs,.str] (fun _ (xs,sep,_)=>(.v (.string (joinB xs sep)),[],(List.length xs≤1000)∧((joinB xs sep).size≤1000000)))
def renJ : Go.Shelf.Ren := ⟨fun k=>bif Nat.beq k 156 then 77 else bif Nat.beq k 165 then 98 else bif Nat.beq k 166 then 99 else bif Nat.beq k 169 then 100 else bif Nat.beq k 240 then 117 else bif Nat.beq k 241 then 118 else bif Nat.beq k 276 then 131 else bif Nat.beq k 277 then 132 else k,fun k=>bif Nat.beq k 0 then 0 else bif Nat.beq k 3 then 3 else bif Nat.beq k 4 then 4 else bif Nat.beq k 5 then 5 else bif Nat.beq k 9 then 9 else bif Nat.beq k 20 then 20 else bif Nat.beq k 31 then 22 else bif Nat.beq k 37 then 28 else bif Nat.beq k 70 then 98 else bif Nat.beq k 72 then 100 else bif Nat.beq k 75 then 81 else bif Nat.beq k 76 then 82 else bif Nat.beq k 80 then 102 else bif Nat.beq k 127 then 117 else bif Nat.beq k 164 then 136 else k,fun k=>k⟩
set_option maxRecDepth 100000 in
theorem laysJ : Go.Proofs.Lays.n156 prog renJ where
 mixed := by kernel_rfl
 f156 := by kernel_rfl
 f165 := by kernel_rfl
 f166 := by kernel_rfl
 f169 := by kernel_rfl
 f240 := by kernel_rfl
 f241 := by kernel_rfl
 f276 := by kernel_rfl
 f277 := by kernel_rfl
 t0 := underlying0
 a0 := isAgg0
 z0 := sizeOf0
 v0 := zeroValue0
 t3 := underlying3
 a3 := isAgg3
 z3 := sizeOf3
 v3 := zeroValue3
 t4 := underlying4
 a4 := isAgg4
 z4 := sizeOf4
 v4 := zeroValue4
 t9 := underlying9
 a9 := isAgg9
 z9 := sizeOf9
 v9 := zeroValue9
 t20 := underlying20
 a20 := isAgg20
 z20 := sizeOf20
 v20 := zeroValue20
 t31 := underlying22
 a31 := isAgg22
 z31 := sizeOf22
 v31 := zeroValue22
 t37 := underlying28
 a37 := isAgg28
 z37 := sizeOf28
 v37 := zeroValue28
 t70 := underlying98
 a70 := isAgg98
 z70 := sizeOf98
 v70 := zeroValue98
 t72 := underlying100
 a72 := isAgg100
 z72 := sizeOf100
 v72 := zeroValue100
 t75 := underlying81
 a75 := isAgg81
 z75 := sizeOf81
 v75 := zeroValue81
 t76 := underlying82
 a76 := isAgg82
 z76 := sizeOf82
 v76 := zeroValue82
 t127 := underlying117
 a127 := isAgg117
 z127 := sizeOf117
 v127 := zeroValue117
 t164 := underlying136
 a164 := isAgg136
 z164 := sizeOf136
 v164 := zeroValue136
set_option maxRecDepth 100000 in
theorem extraJ : Go.Proofs.Builder.Extra prog renJ where
 sizeBuilder := by kernel_rfl
 liesBuilder := by kernel_rfl
 t5 := underlying5
 a5 := isAgg5
 z5 := sizeOf5
 v5 := zeroValue5
 infoByte := by kernel_rfl
 cellsByte := by kernel_rfl
 sizeByte := by kernel_rfl
 neB5 := by decide
theorem ok77 : FnOK prog 77 fs77 := join_ok laysJ extraJ
theorem ent77 : Entr prog 77 := ⟨_,func77,rfl,by decide⟩
end Go.Proofs.Tryz

set_option linter.unusedSimpArgs false
set_option linter.unusedVariables false
namespace Go.Proofs.Tryz
open Go.Ab Go.RowKit
def fs53 : FnS := fnS [.s .calls] [.calls] (fun _ (h,_)=>(.v (.string (histB h)),[],Y))
abbrev T53 : Tab := lk [(52,fs52),(76,fs76),(77,fs77)]
theorem tab53 : TabOK prog T53 := (TabOK.cons ok52 ent52 (TabOK.cons ok76 ent76 (TabOK.cons ok77 ent77 TabOK.nil)))
theorem ok53 : FnOK prog 53 fs53 := by
 refine FnOK.mk cok func53 rfl rfl rfl ?_
 rintro fl ⟨(h : List CallD),_⟩ hpre F hnt0 _
 have hnt : F.nt=24 := hnt0.trans ntmps53
 clear hpre
 refine W.to (⟨[(0,.sl (.calls h))],[],[999]⟩) rfl ?_
 refine W.lenOf 0 (.calls h) (by kernel_rfl) ?_
 intro hl_h; replace hl_h : List.length h≤9223372036854775807 := hl_h
 refine Kk cok tab53 hnt [] [0] (⟨[(0,.sl (.calls h))],[],[999]⟩)
  (Y∧Y)
  ⟨tt,tt⟩ ?_
 refine W.seq ?_
 refine Kk cok tab53 hnt [] [0,8] (⟨[(0,.sl (.calls h)),(8,.b (!(validHistory h)))],[],[999]⟩)
  (Y∧(Y∧(Y∧Y)∧Y)∧Y∧Y)
  ⟨tt,⟨tt,⟨tt,tt⟩,tt⟩,tt,tt⟩ ?_
 refine W.if' (!(validHistory h)) (.b (!(validHistory h))) (by kernel_rfl) rfl trivial ?_ ?_
 ·intro h8
  refine Kk cok tab53 hnt [] [2] (⟨[(2,.v (.string nEmpty))],[],[999]⟩)
   (Y∧Y)
   ⟨tt,tt⟩ ?_
  refine W.ret (thenQ_ret ?_)
  exact endQ_ret (.v (.string nEmpty)) (by kernel_rfl) (@cast (((.string nEmpty):Value)=(.string (histB h))) _ (by kernel_rfl) (congrArg Value.string (by exact histB_no (not_f h8))))
 ·intro n8
  have hv : validHistory h=true := not_g n8
  have h6 := valid_len hv
  refine W.skip (thenQ_normal ?_)
  refine Kk cok tab53 hnt [9] [0,3] (⟨[(0,.sl (.calls h)),(3,.own 9 (List.length ([] : List ByteArray)))],[(9,⟨9,.row (.strs ([] : List ByteArray))⟩)],[9,999]⟩)
   (Y∧Y∧Y)
   ⟨tt,tt,tt⟩ ?_
  refine W.seq ?_
  refine Kk cok tab53 hnt [] [3,10,11,12] (⟨[(3,.own 9 (List.length ([] : List ByteArray))),(10,.sl (.calls h)),(11,.i (h.length:Int)),(12,.i (0:Int))],[(9,⟨9,.row (.strs ([] : List ByteArray))⟩)],[9,999]⟩)
   (Y∧Y∧Y∧Y)
   ⟨tt,tt,tt,tt⟩ ?_
  refine W.block ?_
  refine W.loop (ι := Nat × (List ByteArray)) (fun (x : Nat × (List ByteArray))=>match x with | (i,o)=>(⟨[(3,.own 9 o.length),(10,.sl (.calls h)),(11,.i (h.length:Int)),(12,.i ((i:Nat):Int))],[(9,⟨9,.row (.strs o)⟩)],[9,999]⟩:St))
   (fun (x : Nat × (List ByteArray))=>match x with | (i,o)=>(i≤h.length)∧(o=textUp h i))
   (fun (x : Nat × (List ByteArray))=>match x with | (i,o)=>(h.length - i:Nat)) (0,([] : List ByteArray)) ?_ ?_ ?_
  ·exact (show (0≤h.length)∧(([] : List ByteArray)=textUp h 0) from ⟨(by first | assumption | omega | rfl | (intro _ hjj; omega) | (simp; done) | (simp; omega)),(by rfl)⟩)
  ·exact Sub.of [] (@cast (((((9:Nat)=9)∧((List.length ([] : List ByteArray))=(List.length ([] : List ByteArray)))∧((9:Nat) ∈ ([9,999] : List Nat)))∧(Sd (.calls h))∧(Si (h.length:Int))∧((.int .i64 (0:Int):Value)=.int .i64 ((0:Nat):Int))∧Y)∧((((9:Nat)=9)∧(Sd (.strs ([] : List ByteArray)))∧((9:Nat) ∈ ([9,999] : List Nat)))∧Y)∧(true=true)∧(true=true)) _ (by kernel_rfl) ⟨⟨⟨rfl,rfl,(by decide)⟩,rfl,rfl,(congrArg (Value.int .i64) (by first | rfl | omega | assumption | simp | simp_all)),tt⟩,⟨⟨rfl,rfl,(by decide)⟩,tt⟩,rfl,rfl⟩)
  ·rintro ⟨i,o⟩ hC0
   have hC : (i≤h.length)∧(o=textUp h i) := hC0
   clear hC0
   obtain ⟨hi,ho⟩ := hC
   refine W.to (⟨[(3,.own 9 o.length),(10,.sl (.calls h)),(11,.i (h.length:Int)),(12,.i ((i:Nat):Int))],[(9,⟨9,.row (.strs o)⟩)],[9,999]⟩) rfl ?_
   have hol : o.length=i := by rw [ho]; exact textUp_len hi
   have hjs := join_size ho
   refine Kk cok tab53 hnt [] [3,10,11,12,13] (⟨[(3,.own 9 o.length),(10,.sl (.calls h)),(11,.i (h.length:Int)),(12,.i ((i:Nat):Int)),(13,.b (decide (((i:Nat):Int)<(h.length:Int))))],[(9,⟨9,.row (.strs o)⟩)],[9,999]⟩)
    ((Y∧Y∧Y)∧Y)
    ⟨⟨tt,tt,tt⟩,tt⟩ ?_
   refine W.seq ?_
   refine W.ifP (((i:Nat):Int)<(h.length:Int)) (.b (decide (((i:Nat):Int)<(h.length:Int)))) (by kernel_rfl) rfl trivial ?_ ?_
   ·intro h13
    refine W.skip (thenQ_normal ?_)
    refine W.seq ?_
    refine W.block ?_
    refine Kk cok tab53 hnt [] [3,5,10,11,12] (⟨[(3,.own 9 o.length),(5,.ptr 5 0),(10,.sl (.calls h)),(11,.i (h.length:Int)),(12,.i ((i:Nat):Int))],[(5,⟨59,.fix [.i ((h.getD i default).proc),.i ((h.getD i default).obj),.i ((h.getD i default).kind),.i ((h.getD i default).arg),.i ((h.getD i default).ret),.i ((h.getD i default).frm),.i ((h.getD i default).to)]⟩),(9,⟨9,.row (.strs o)⟩)],[5,9,999]⟩)
     ((Y∧Y∧(0≤((i:Nat):Int))∧(((i:Nat):Int)<(h.length:Int)))∧Y∧Y∧(Y∧Y)∧Y)
     ⟨⟨tt,tt,(by omega),(by omega)⟩,tt,tt,⟨tt,tt⟩,tt⟩ ?_
    refine Lk cok tab53 hnt [20] (⟨[(3,.own 20 (List.length (o++([callTextB (h.getD i default)])))),(5,.ptr 5 0),(10,.sl (.calls h)),(11,.i (h.length:Int)),(12,.i ((i:Nat):Int)),(16,.own 9 o.length),(17,.agg [.i ((h.getD i default).proc),.i ((h.getD i default).obj),.i ((h.getD i default).kind),.i ((h.getD i default).arg),.i ((h.getD i default).ret),.i ((h.getD i default).frm),.i ((h.getD i default).to)]),(18,.v (.string (callTextB (h.getD i default)))),(19,.sl (.strs ([callTextB (h.getD i default)]))),(20,.own 20 (List.length (o++([callTextB (h.getD i default)]))))],[(5,⟨59,.fix [.i ((h.getD i default).proc),.i ((h.getD i default).obj),.i ((h.getD i default).kind),.i ((h.getD i default).arg),.i ((h.getD i default).ret),.i ((h.getD i default).frm),.i ((h.getD i default).to)]⟩),(20,⟨9,.row (.strs (o++([callTextB (h.getD i default)])))⟩)],[20,19,5,9,999]⟩)
     (Y∧Y∧(Y∧(Y∧Y)∧(isCall (h.getD i default)=true))∧(Y∧Y)∧((Y∧(o.length=o.length))∧Y∧((o.length+(List.length ([callTextB (h.getD i default)]))) * 16≤140737488355328))∧Y∧Y)
     ⟨tt,tt,⟨tt,⟨tt,tt⟩,(by have h9 := valid_call hv _ (getD_mem h default (show i<h.length by omega)); exact h9)⟩,⟨tt,tt⟩,⟨⟨tt,rfl⟩,tt,(by (try simp only [List.length_append,List.length_cons,List.length_nil]); omega)⟩,tt,tt⟩ ?_
    refine blockQ_normal (thenQ_normal ?_)
    refine Lk cok tab53 hnt [] (⟨[(3,.own 20 (List.length (o++([callTextB (h.getD i default)])))),(5,.ptr 5 0),(10,.sl (.calls h)),(11,.i (h.length:Int)),(12,.i (((i+1):Nat):Int)),(16,.own 9 o.length),(17,.agg [.i ((h.getD i default).proc),.i ((h.getD i default).obj),.i ((h.getD i default).kind),.i ((h.getD i default).arg),.i ((h.getD i default).ret),.i ((h.getD i default).frm),.i ((h.getD i default).to)]),(18,.v (.string (callTextB (h.getD i default)))),(19,.sl (.strs ([callTextB (h.getD i default)]))),(20,.own 20 (List.length (o++([callTextB (h.getD i default)])))),(21,.i (((i+1):Nat):Int))],[(5,⟨59,.fix [.i ((h.getD i default).proc),.i ((h.getD i default).obj),.i ((h.getD i default).kind),.i ((h.getD i default).arg),.i ((h.getD i default).ret),.i ((h.getD i default).frm),.i ((h.getD i default).to)]⟩),(20,⟨9,.row (.strs (o++([callTextB (h.getD i default)])))⟩)],[20,19,5,9,999]⟩)
     ((Y∧Y∧(Fits .i64 (((i+1):Nat):Int)))∧Y∧Y)
     ⟨⟨tt,tt,(by exact fits_i64 (by omega) (by omega))⟩,tt,tt⟩ ?_
    refine thenQ_normal ?_
    refine ⟨((i+1),(o++([callTextB (h.getD i default)]))),(show ((i+1)≤h.length)∧((o++([callTextB (h.getD i default)]))=textUp h (i+1)) from ⟨(by first | assumption | omega | rfl | (intro _ hjj; omega) | (simp; done) | (simp; omega)),(by exact textUp_next ho (by omega))⟩),(show h.length - (i+1)<h.length - i from (by first | omega | (simp_all; omega))),?_⟩
    exact Sub.of [(9,20)] (@cast (((((20:Nat)=20)∧((List.length (o++([callTextB (h.getD i default)])))=(List.length (o++([callTextB (h.getD i default)]))))∧((9:Nat) ∈ ([9,999] : List Nat)))∧(Sd (.calls h))∧(Si (h.length:Int))∧(Si (((i+1):Nat):Int))∧Y)∧((((9:Nat)=9)∧(Sd (.strs (o++([callTextB (h.getD i default)]))))∧((9:Nat) ∈ ([9,999] : List Nat)))∧Y)∧(true=true)∧(true=true)) _ (by kernel_rfl) ⟨⟨⟨rfl,rfl,(by decide)⟩,rfl,rfl,rfl,tt⟩,⟨⟨rfl,rfl,(by decide)⟩,tt⟩,rfl,rfl⟩)
   ·intro n13
    refine W.exit (thenQ_exit (thenQ_exit (blockQ_hit ?_)))
    refine thenQ_normal ?_
    refine Kk cok tab53 hnt [] [2] (⟨[(2,.v (.string (joinB o (⟨#[32]⟩:ByteArray))))],[(9,⟨9,.row (.strs o)⟩)],[9,999]⟩)
     (Y∧(Y∧((Y∧(o.length=o.length))∧Y∧Y)∧(List.length o≤1000)∧((joinB o (⟨#[32]⟩:ByteArray)).size≤1000000))∧Y∧Y)
     ⟨tt,⟨tt,⟨⟨tt,rfl⟩,tt,tt⟩,(by omega),(by omega)⟩,tt,tt⟩ ?_
    refine W.ret ?_
    exact endQ_ret (.v (.string (joinB o (⟨#[32]⟩:ByteArray)))) (by kernel_rfl) (@cast (((.string (joinB o (⟨#[32]⟩:ByteArray))):Value)=(.string (histB h))) _ (by kernel_rfl) (congrArg Value.string (by exact join_all hv ho (by omega))))
theorem ent53 : Entr prog 53 := ⟨_,func53,rfl,by decide⟩
end Go.Proofs.Tryz

set_option linter.unusedSimpArgs false
set_option linter.unusedVariables false
namespace Go.Proofs.Tryz
open Go.Ab Go.RowKit
def fs31 : FnS := fnS [.o] [.str] (fun _ (s,_)=>(.tup [.own 0 (List.length ((parseI s.data.toList).1)),.b ((parseI s.data.toList).2)],[(59,.calls ((parseI s.data.toList).1))],(s.size≤1999999)))
abbrev T31 : Tab := lk [(29,fs29),(51,fs51),(52,fs52),(53,fs53)]
theorem tab31 : TabOK prog T31 := (TabOK.cons ok29 ent29 (TabOK.cons ok51 ent51 (TabOK.cons ok52 ent52 (TabOK.cons ok53 ent53 TabOK.nil))))
theorem ok31 : FnOK prog 31 fs31 := by
 refine FnOK.mk cok func31 rfl rfl rfl ?_
 rintro fl ⟨(s:ByteArray),_⟩ hpre F hnt0 _
 have hnt : F.nt=34 := hnt0.trans ntmps31
 replace hpre : (s.size≤1999999) := hpre
 have hz := hpre
 refine W.to (⟨[(0,.v (.string s))],[],[999]⟩) rfl ?_
 have hp : ∀ i,(List.getD (splitNB (⟨#[32]⟩:ByteArray) 7 s) i default).size≤s.size := splitN_psz (⟨#[32]⟩:ByteArray) s 7
 have hsl : (((splitNB (⟨#[32]⟩:ByteArray) 7 s).length:Nat):Int)≤7 := splitN_size (by decide)
 refine Kk cok tab31 hnt [] [0] (⟨[(0,.v (.string s))],[],[999]⟩)
  (Y∧Y∧Y)
  ⟨tt,tt,tt⟩ ?_
 refine Kk cok tab31 hnt [7] [0,4] (⟨[(0,.v (.string s)),(4,.own 7 (List.length ([] : List CallD)))],[(7,⟨59,.row (.calls ([] : List CallD))⟩)],[7,999]⟩)
  (Y∧Y∧Y)
  ⟨tt,tt,tt⟩ ?_
 refine W.seq ?_
 refine Kk cok tab31 hnt [] [0,4,9] (⟨[(0,.v (.string s)),(4,.own 7 (List.length ([] : List CallD))),(9,.b (eqS s nEmpty))],[(7,⟨59,.row (.calls ([] : List CallD))⟩)],[7,999]⟩)
  (Y∧(Y∧Y∧Y)∧Y)
  ⟨tt,⟨tt,tt,tt⟩,tt⟩ ?_
 refine W.if' (eqS s nEmpty) (.b (eqS s nEmpty)) (by kernel_rfl) rfl trivial ?_ ?_
 ·intro h9
  have hE := pi_empty (s := s) h9
  refine Kk cok tab31 hnt [] [2,3] (⟨[(2,.own 7 (List.length ([] : List CallD))),(3,.b true)],[(7,⟨59,.row (.calls ([] : List CallD))⟩)],[7,999]⟩)
   (Y∧Y∧Y∧Y)
   ⟨tt,tt,tt,tt⟩ ?_
  refine W.ret (thenQ_ret ?_)
  exact endQ_rows [(0,7)] (.tup [.own 7 (List.length ([] : List CallD)),.b true]) (by kernel_rfl) (@cast ((((7:Nat)=7)∧((List.length ([] : List CallD))=(List.length ((parseI s.data.toList).1)))∧((0:Nat) ∈ ([0] : List Nat)))∧((.bool true:Value)=.bool ((parseI s.data.toList).2))∧Y) _ (by kernel_rfl) ⟨⟨rfl,(by first | rfl | omega | assumption | (symm; assumption) | (exact congrArg List.length (by first | (rw [hE]; done) | (rw [hE]; rfl) | (rw [hE]; exact hol) | rfl)) | (first | (rw [hE]; done) | (rw [hE]; rfl) | (rw [hE]; exact hol) | rfl; done) | simp | simp_all),(by decide)⟩,(congrArg Value.bool (by first | rfl | omega | assumption | (first | (rw [hE]; done) | (rw [hE]; rfl) | (rw [hE]; exact hol) | rfl; done) | simp | simp_all)),tt⟩) (@cast ((((59:Nat)=59)∧((.calls ([] : List CallD):Dat)=.calls ((parseI s.data.toList).1))∧((0:Nat) ∈ ([0] : List Nat)))∧Y) _ (by kernel_rfl) ⟨⟨rfl,(congrArg Dat.calls (by first | (rw [hE]; done) | (rw [hE]; rfl) | (rw [hE]; exact hol) | rfl)),(by decide)⟩,tt⟩) (by kernel_rfl)
 ·intro n9
  refine W.skip (thenQ_normal ?_)
  refine W.seq ?_
  refine Kk cok tab31 hnt [] [0,4,12,13,14] (⟨[(0,.v (.string s)),(4,.own 7 (List.length ([] : List CallD))),(12,.sl (.strs (splitNB (⟨#[32]⟩:ByteArray) (7:Int) s))),(13,.i (((List.length (splitNB (⟨#[32]⟩:ByteArray) (7:Int) s)):Nat):Int)),(14,.i (0:Int))],[(7,⟨59,.row (.calls ([] : List CallD))⟩)],[12,7,999]⟩)
   (Y∧((Y∧(Y∧Y∧Y∧Y)∧((⟨#[32]⟩:ByteArray).size=1)∧(1≤(7:Int)∧(7:Int)≤1000)∧(s.size≤2000000))∧((List.length (splitNB (⟨#[32]⟩:ByteArray) (7:Int) s))=(List.length (splitNB (⟨#[32]⟩:ByteArray) (7:Int) s))))∧Y∧Y∧Y)
   ⟨tt,⟨⟨tt,⟨tt,tt,tt,tt⟩,(by rfl),(by omega),(by omega)⟩,rfl⟩,tt,tt,tt⟩ ?_
  refine W.block ?_
  refine W.loop (ι := Nat × (List CallD)) (fun (x : Nat × (List CallD))=>match x with | (i,o)=>(⟨[(0,.v (.string s)),(4,.own 7 o.length),(12,.sl (.strs (splitNB (⟨#[32]⟩:ByteArray) (7:Int) s))),(13,.i (((List.length (splitNB (⟨#[32]⟩:ByteArray) (7:Int) s)):Nat):Int)),(14,.i ((i:Nat):Int))],[(7,⟨59,.row (.calls o)⟩)],[7,999]⟩:St))
   (fun (x : Nat × (List CallD))=>match x with | (i,o)=>(i≤(splitNB (⟨#[32]⟩:ByteArray) 7 s).length)∧(o=readUpI (splitNB (⟨#[32]⟩:ByteArray) 7 s) i))
   (fun (x : Nat × (List CallD))=>match x with | (i,o)=>((splitNB (⟨#[32]⟩:ByteArray) 7 s).length - i:Nat)) (0,([] : List CallD)) ?_ ?_ ?_
  ·exact (show (0≤(splitNB (⟨#[32]⟩:ByteArray) 7 s).length)∧(([] : List CallD)=readUpI (splitNB (⟨#[32]⟩:ByteArray) 7 s) 0) from ⟨(by first | assumption | omega | rfl | (intro _ hjj; omega) | (simp; done) | (simp; omega)),(by rfl)⟩)
  ·exact Sub.of [] (@cast (((((.string s):Value)=(.string s))∧(((7:Nat)=7)∧((List.length ([] : List CallD))=(List.length ([] : List CallD)))∧((7:Nat) ∈ ([7,999] : List Nat)))∧(Sd (.strs (splitNB (⟨#[32]⟩:ByteArray) (7:Int) s)))∧(Si (((List.length (splitNB (⟨#[32]⟩:ByteArray) (7:Int) s)):Nat):Int))∧((.int .i64 (0:Int):Value)=.int .i64 ((0:Nat):Int))∧Y)∧((((59:Nat)=59)∧(Sd (.calls ([] : List CallD)))∧((7:Nat) ∈ ([7,999] : List Nat)))∧Y)∧(true=true)∧(true=true)) _ (by kernel_rfl) ⟨⟨rfl,⟨rfl,rfl,(by decide)⟩,rfl,rfl,(congrArg (Value.int .i64) (by first | rfl | omega | assumption | simp | simp_all)),tt⟩,⟨⟨rfl,rfl,(by decide)⟩,tt⟩,rfl,rfl⟩)
  ·rintro ⟨i,o⟩ hC0
   have hC : (i≤(splitNB (⟨#[32]⟩:ByteArray) 7 s).length)∧(o=readUpI (splitNB (⟨#[32]⟩:ByteArray) 7 s) i) := hC0
   clear hC0
   obtain ⟨hi,ho⟩ := hC
   refine W.to (⟨[(0,.v (.string s)),(4,.own 7 o.length),(12,.sl (.strs (splitNB (⟨#[32]⟩:ByteArray) (7:Int) s))),(13,.i (((List.length (splitNB (⟨#[32]⟩:ByteArray) (7:Int) s)):Nat):Int)),(14,.i ((i:Nat):Int))],[(7,⟨59,.row (.calls o)⟩)],[7,999]⟩) rfl ?_
   have hol : o.length=i := by rw [ho]; exact readUp_lenI hi
   have hpi := hp i
   refine Kk cok tab31 hnt [] [0,4,12,13,14,15] (⟨[(0,.v (.string s)),(4,.own 7 o.length),(12,.sl (.strs (splitNB (⟨#[32]⟩:ByteArray) (7:Int) s))),(13,.i (((List.length (splitNB (⟨#[32]⟩:ByteArray) (7:Int) s)):Nat):Int)),(14,.i ((i:Nat):Int)),(15,.b (decide (((i:Nat):Int)<(((List.length (splitNB (⟨#[32]⟩:ByteArray) (7:Int) s)):Nat):Int))))],[(7,⟨59,.row (.calls o)⟩)],[7,999]⟩)
    ((Y∧Y∧Y)∧Y)
    ⟨⟨tt,tt,tt⟩,tt⟩ ?_
   refine W.seq ?_
   refine W.ifP (((i:Nat):Int)<(((List.length (splitNB (⟨#[32]⟩:ByteArray) (7:Int) s)):Nat):Int)) (.b (decide (((i:Nat):Int)<(((List.length (splitNB (⟨#[32]⟩:ByteArray) (7:Int) s)):Nat):Int)))) (by kernel_rfl) rfl trivial ?_ ?_
   ·intro h15
    refine W.skip (thenQ_normal ?_)
    refine W.seq ?_
    refine W.block ?_
    refine Kk cok tab31 hnt [] [0,4,6,12,13,14] (⟨[(0,.v (.string s)),(4,.own 7 o.length),(6,.v (.string (List.getD (splitNB (⟨#[32]⟩:ByteArray) (7:Int) s) i default))),(12,.sl (.strs (splitNB (⟨#[32]⟩:ByteArray) (7:Int) s))),(13,.i (((List.length (splitNB (⟨#[32]⟩:ByteArray) (7:Int) s)):Nat):Int)),(14,.i ((i:Nat):Int))],[(7,⟨59,.row (.calls o)⟩)],[7,999]⟩)
     ((Y∧Y∧(0≤((i:Nat):Int))∧(((i:Nat):Int)<(((List.length (splitNB (⟨#[32]⟩:ByteArray) (7:Int) s)):Nat):Int)))∧Y∧Y∧Y)
     ⟨⟨tt,tt,(by omega),(by (first | omega | (simp only [List.length_set]; done) | (simp only [ln] at *; omega) | assumption))⟩,tt,tt,tt⟩ ?_
    refine Lk cok tab31 hnt [22] (⟨[(0,.v (.string s)),(4,.own 22 (List.length (o++([(readI (List.getD (splitNB (⟨#[32]⟩:ByteArray) (7:Int) s) i default).data.toList)])))),(6,.v (.string (List.getD (splitNB (⟨#[32]⟩:ByteArray) (7:Int) s) i default))),(12,.sl (.strs (splitNB (⟨#[32]⟩:ByteArray) (7:Int) s))),(13,.i (((List.length (splitNB (⟨#[32]⟩:ByteArray) (7:Int) s)):Nat):Int)),(14,.i ((i:Nat):Int)),(18,.own 7 o.length),(19,.v (.string (List.getD (splitNB (⟨#[32]⟩:ByteArray) (7:Int) s) i default))),(20,.agg [.i ((readI (List.getD (splitNB (⟨#[32]⟩:ByteArray) (7:Int) s) i default).data.toList).proc),.i ((readI (List.getD (splitNB (⟨#[32]⟩:ByteArray) (7:Int) s) i default).data.toList).obj),.i ((readI (List.getD (splitNB (⟨#[32]⟩:ByteArray) (7:Int) s) i default).data.toList).kind),.i ((readI (List.getD (splitNB (⟨#[32]⟩:ByteArray) (7:Int) s) i default).data.toList).arg),.i ((readI (List.getD (splitNB (⟨#[32]⟩:ByteArray) (7:Int) s) i default).data.toList).ret),.i ((readI (List.getD (splitNB (⟨#[32]⟩:ByteArray) (7:Int) s) i default).data.toList).frm),.i ((readI (List.getD (splitNB (⟨#[32]⟩:ByteArray) (7:Int) s) i default).data.toList).to)]),(21,.sl (.calls ([(readI (List.getD (splitNB (⟨#[32]⟩:ByteArray) (7:Int) s) i default).data.toList)]))),(22,.own 22 (List.length (o++([(readI (List.getD (splitNB (⟨#[32]⟩:ByteArray) (7:Int) s) i default).data.toList)]))))],[(22,⟨59,.row (.calls (o++([(readI (List.getD (splitNB (⟨#[32]⟩:ByteArray) (7:Int) s) i default).data.toList)])))⟩)],[22,21,7,999]⟩)
     (Y∧Y∧(Y∧(Y∧Y)∧((List.getD (splitNB (⟨#[32]⟩:ByteArray) (7:Int) s) i default).size≤2000000))∧(Y∧Y)∧((Y∧(o.length=o.length))∧Y∧((o.length+(List.length ([(readI (List.getD (splitNB (⟨#[32]⟩:ByteArray) (7:Int) s) i default).data.toList)]))) * 56≤140737488355328))∧Y∧Y)
     ⟨tt,tt,⟨tt,⟨tt,tt⟩,(by omega)⟩,⟨tt,tt⟩,⟨⟨tt,rfl⟩,tt,(by (try simp only [List.length_append,List.length_cons,List.length_nil,List.length_set]); omega)⟩,tt,tt⟩ ?_
    refine blockQ_normal (thenQ_normal ?_)
    refine Lk cok tab31 hnt [] (⟨[(0,.v (.string s)),(4,.own 22 (List.length (o++([(readI (List.getD (splitNB (⟨#[32]⟩:ByteArray) (7:Int) s) i default).data.toList)])))),(6,.v (.string (List.getD (splitNB (⟨#[32]⟩:ByteArray) (7:Int) s) i default))),(12,.sl (.strs (splitNB (⟨#[32]⟩:ByteArray) (7:Int) s))),(13,.i (((List.length (splitNB (⟨#[32]⟩:ByteArray) (7:Int) s)):Nat):Int)),(14,.i (((i+1):Nat):Int)),(18,.own 7 o.length),(19,.v (.string (List.getD (splitNB (⟨#[32]⟩:ByteArray) (7:Int) s) i default))),(20,.agg [.i ((readI (List.getD (splitNB (⟨#[32]⟩:ByteArray) (7:Int) s) i default).data.toList).proc),.i ((readI (List.getD (splitNB (⟨#[32]⟩:ByteArray) (7:Int) s) i default).data.toList).obj),.i ((readI (List.getD (splitNB (⟨#[32]⟩:ByteArray) (7:Int) s) i default).data.toList).kind),.i ((readI (List.getD (splitNB (⟨#[32]⟩:ByteArray) (7:Int) s) i default).data.toList).arg),.i ((readI (List.getD (splitNB (⟨#[32]⟩:ByteArray) (7:Int) s) i default).data.toList).ret),.i ((readI (List.getD (splitNB (⟨#[32]⟩:ByteArray) (7:Int) s) i default).data.toList).frm),.i ((readI (List.getD (splitNB (⟨#[32]⟩:ByteArray) (7:Int) s) i default).data.toList).to)]),(21,.sl (.calls ([(readI (List.getD (splitNB (⟨#[32]⟩:ByteArray) (7:Int) s) i default).data.toList)]))),(22,.own 22 (List.length (o++([(readI (List.getD (splitNB (⟨#[32]⟩:ByteArray) (7:Int) s) i default).data.toList)])))),(23,.i (((i+1):Nat):Int))],[(22,⟨59,.row (.calls (o++([(readI (List.getD (splitNB (⟨#[32]⟩:ByteArray) (7:Int) s) i default).data.toList)])))⟩)],[22,21,7,999]⟩)
     ((Y∧Y∧(Fits .i64 (((i+1):Nat):Int)))∧Y∧Y)
     ⟨⟨tt,tt,(by exact fits_i64 (by omega) (by omega))⟩,tt,tt⟩ ?_
    refine thenQ_normal ?_
    refine ⟨((i+1),(o++([(readI (List.getD (splitNB (⟨#[32]⟩:ByteArray) (7:Int) s) i default).data.toList)]))),(show ((i+1)≤(splitNB (⟨#[32]⟩:ByteArray) 7 s).length)∧((o++([(readI (List.getD (splitNB (⟨#[32]⟩:ByteArray) (7:Int) s) i default).data.toList)]))=readUpI (splitNB (⟨#[32]⟩:ByteArray) 7 s) (i+1)) from ⟨(by first | assumption | omega | rfl | (intro _ hjj; omega) | (simp; done) | (simp; omega)),(by exact readUpI_next ho (by omega))⟩),(show (splitNB (⟨#[32]⟩:ByteArray) 7 s).length - (i+1)<(splitNB (⟨#[32]⟩:ByteArray) 7 s).length - i from (by first | omega | (simp_all; omega))),?_⟩
    exact Sub.of [(7,22)] (@cast (((((.string s):Value)=(.string s))∧(((22:Nat)=22)∧((List.length (o++([(readI (List.getD (splitNB (⟨#[32]⟩:ByteArray) (7:Int) s) i default).data.toList)])))=(List.length (o++([(readI (List.getD (splitNB (⟨#[32]⟩:ByteArray) (7:Int) s) i default).data.toList)]))))∧((7:Nat) ∈ ([7,999] : List Nat)))∧(Sd (.strs (splitNB (⟨#[32]⟩:ByteArray) (7:Int) s)))∧(Si (((List.length (splitNB (⟨#[32]⟩:ByteArray) (7:Int) s)):Nat):Int))∧(Si (((i+1):Nat):Int))∧Y)∧((((59:Nat)=59)∧(Sd (.calls (o++([(readI (List.getD (splitNB (⟨#[32]⟩:ByteArray) (7:Int) s) i default).data.toList)]))))∧((7:Nat) ∈ ([7,999] : List Nat)))∧Y)∧(true=true)∧(true=true)) _ (by kernel_rfl) ⟨⟨rfl,⟨rfl,rfl,(by decide)⟩,rfl,rfl,rfl,tt⟩,⟨⟨rfl,rfl,(by decide)⟩,tt⟩,rfl,rfl⟩)
   ·intro n15
    have hO := readUpI_all (s := s) (sep := (⟨#[32]⟩:ByteArray)) rfl ho (by omega)
    refine W.exit (thenQ_exit (thenQ_exit (blockQ_hit ?_)))
    refine thenQ_normal ?_
    refine W.seq ?_
    refine Kk cok tab31 hnt [] [4,32] (⟨[(4,.own 7 o.length),(32,.b ((!(validHistory o)) || (!(eqS (histB o) s))))],[(7,⟨59,.row (.calls o)⟩)],[7,999]⟩)
     ((fun (Z1:Bool)=>(Y∧((Y∧(((Y∧(o.length=o.length))∧Y)∧Y))∧(Y∧(Y∧(((!Z1)=true→Y)∧(((!Z1)=true→(Y∧((((((!Z1)=true)∧Y)∧(o.length=o.length))∧Y)∧Y)))∧(((!Z1)=true→Y)∧(((!Z1)=true→((((!Z1)=true)∧Y)∧((((!Z1)=true)∧Y)∧Y)))∧((Y∧((Z1=true→Y)∧(Z1=false→((!Z1)=true)∧Y)))∧Y)))))))))) (!(validHistory o)))
     ⟨tt,⟨tt,⟨⟨tt,rfl⟩,tt⟩,tt⟩,tt,tt,(fun _=>trivial),(fun hG=>⟨tt,⟨⟨⟨hG,tt⟩,rfl⟩,tt⟩,tt⟩),(fun _=>trivial),(fun hG=>⟨⟨hG,tt⟩,⟨hG,tt⟩,tt⟩),⟨tt,(fun _=>trivial),(fun hp=>⟨(not_t hp),tt⟩)⟩,tt⟩ ?_
    refine W.if' ((!(validHistory o)) || (!(eqS (histB o) s))) (.b ((!(validHistory o)) || (!(eqS (histB o) s)))) (by kernel_rfl) rfl trivial ?_ ?_
    ·intro h32
     have hE := pi_rest (s := s) (fun e=>Bool.false_ne_true (n9.symm.trans e)) hO h32
     rw [cond_true] at hE
     refine Kk cok tab31 hnt [] [2,3] (⟨[(2,.v (.slice none 0 0)),(3,.b false)],[(7,⟨59,.row (.calls o)⟩)],[7,999]⟩)
      (Y∧Y∧Y)
      ⟨tt,tt,tt⟩ ?_
     refine W.nilOwn 2 813 none 59 (.calls ([] : List CallD)) (.v (.slice none 0 0)) (.own 813 0) (⟨[(2,.own 813 0),(3,.b false)],[(7,⟨59,.row (.calls o)⟩),(813,⟨59,.row (.calls ([] : List CallD))⟩)],[813,7,999]⟩) (by kernel_rfl) (by kernel_rfl) (by kernel_rfl) (by kernel_rfl) (by kernel_rfl) ?_
     refine W.ret (thenQ_ret ?_)
     exact endQ_rows [(0,813)] (.tup [.own 813 0,.b false]) (by kernel_rfl) (@cast ((((813:Nat)=813)∧(0=(List.length ((parseI s.data.toList).1)))∧((0:Nat) ∈ ([0] : List Nat)))∧((.bool false:Value)=.bool ((parseI s.data.toList).2))∧Y) _ (by kernel_rfl) ⟨⟨rfl,(by first | rfl | omega | assumption | (symm; assumption) | (exact congrArg List.length (by first | (rw [hE]; done) | (rw [hE]; rfl) | (rw [hE]; exact hol) | rfl)) | (first | (rw [hE]; done) | (rw [hE]; rfl) | (rw [hE]; exact hol) | rfl; done) | simp | simp_all),(by decide)⟩,(congrArg Value.bool (by first | rfl | omega | assumption | (first | (rw [hE]; done) | (rw [hE]; rfl) | (rw [hE]; exact hol) | rfl; done) | simp | simp_all)),tt⟩) (@cast ((((59:Nat)=59)∧((.calls ([] : List CallD):Dat)=.calls ((parseI s.data.toList).1))∧((0:Nat) ∈ ([0] : List Nat)))∧Y) _ (by kernel_rfl) ⟨⟨rfl,(congrArg Dat.calls (by first | (rw [hE]; done) | (rw [hE]; rfl) | (rw [hE]; exact hol) | rfl)),(by decide)⟩,tt⟩) (by kernel_rfl)
    ·intro n32
     have hE := pi_rest (s := s) (fun e=>Bool.false_ne_true (n9.symm.trans e)) hO n32
     rw [cond_false] at hE
     refine W.skip (thenQ_normal ?_)
     refine Kk cok tab31 hnt [] [2,3] (⟨[(2,.own 7 o.length),(3,.b true)],[(7,⟨59,.row (.calls o)⟩)],[7,999]⟩)
      (Y∧Y∧Y∧Y)
      ⟨tt,tt,tt,tt⟩ ?_
     refine W.ret ?_
     exact endQ_rows [(0,7)] (.tup [.own 7 o.length,.b true]) (by kernel_rfl) (@cast ((((7:Nat)=7)∧(o.length=(List.length ((parseI s.data.toList).1)))∧((0:Nat) ∈ ([0] : List Nat)))∧((.bool true:Value)=.bool ((parseI s.data.toList).2))∧Y) _ (by kernel_rfl) ⟨⟨rfl,(by first | rfl | omega | assumption | (symm; assumption) | (exact congrArg List.length (by first | (rw [hE]; done) | (rw [hE]; rfl) | (rw [hE]; exact hol) | rfl)) | (first | (rw [hE]; done) | (rw [hE]; rfl) | (rw [hE]; exact hol) | rfl; done) | simp | simp_all),(by decide)⟩,(congrArg Value.bool (by first | rfl | omega | assumption | (first | (rw [hE]; done) | (rw [hE]; rfl) | (rw [hE]; exact hol) | rfl; done) | simp | simp_all)),tt⟩) (@cast ((((59:Nat)=59)∧((.calls o:Dat)=.calls ((parseI s.data.toList).1))∧((0:Nat) ∈ ([0] : List Nat)))∧Y) _ (by kernel_rfl) ⟨⟨rfl,(congrArg Dat.calls (by first | (rw [hE]; done) | (rw [hE]; rfl) | (rw [hE]; exact hol) | rfl)),(by decide)⟩,tt⟩) (by kernel_rfl)
theorem ent31 : Entr prog 31 := ⟨_,func31,rfl,by decide⟩
end Go.Proofs.Tryz

set_option linter.unusedSimpArgs false
set_option linter.unusedVariables false
namespace Go.Proofs.Tryz
open Go.Ab Go.RowKit
def fs54 : FnS := fnS [.o] [.str] (fun _ (s,_)=>(.b (isSingle s),[],Y))
abbrev T54 : Tab := lk []
theorem tab54 : TabOK prog T54 := TabOK.nil
theorem ok54 : FnOK prog 54 fs54 := by
 refine FnOK.mk cok func54 rfl rfl rfl ?_
 rintro fl ⟨(s:ByteArray),_⟩ hpre F hnt0 _
 have hnt : F.nt=13 := hnt0.trans ntmps54
 clear hpre
 refine W.to (⟨[(0,.v (.string s))],[],[999]⟩) rfl ?_
 refine Kk cok tab54 hnt [] [0] (⟨[(0,.v (.string s))],[],[999]⟩)
  (Y∧Y)
  ⟨tt,tt⟩ ?_
 refine Kk cok tab54 hnt [] [2] (⟨[(2,.b (((eqS s nRegister) || (eqS s nCounter)) || (eqS s nMost)))],[],[999]⟩)
  ((fun (Z1:Bool)=>((fun (Z2:Bool)=>(Y∧((Y∧(Y∧Y))∧(Y∧(((!Z1)=true→Y)∧(((!Z1)=true→((((!Z1)=true)∧Y)∧(Y∧Y)))∧((Y∧((Z1=true→Y)∧(Z1=false→((!Z1)=true)∧Y)))∧(Y∧(((!Z2)=true→Y)∧(((!Z2)=true→((((!Z2)=true)∧Y)∧(Y∧Y)))∧((Y∧((Z2=true→Y)∧(Z2=false→((!Z2)=true)∧Y)))∧(Y∧Y)))))))))))) (Z1 || (eqS s nCounter)))) (eqS s nRegister))
  ⟨tt,⟨tt,tt,tt⟩,tt,(fun _=>trivial),(fun hG=>⟨⟨hG,tt⟩,tt,tt⟩),⟨tt,(fun _=>trivial),(fun hp=>⟨(not_t hp),tt⟩)⟩,tt,(fun _=>trivial),(fun hG=>⟨⟨hG,tt⟩,tt,tt⟩),⟨tt,(fun _=>trivial),(fun hp=>⟨(not_t hp),tt⟩)⟩,tt,tt⟩ ?_
 refine W.ret ?_
 exact endQ_ret (.b (((eqS s nRegister) || (eqS s nCounter)) || (eqS s nMost))) (by kernel_rfl) (@cast ((.bool (((eqS s nRegister) || (eqS s nCounter)) || (eqS s nMost)):Value)=.bool (isSingle s)) _ (by kernel_rfl) (congrArg Value.bool (by first | rfl | simp_all)))
theorem ent54 : Entr prog 54 := ⟨_,func54,rfl,by decide⟩
end Go.Proofs.Tryz

set_option linter.unusedSimpArgs false
set_option linter.unusedVariables false
namespace Go.Proofs.Tryz
open Go.Ab Go.RowKit
def fs32 : FnS := fnS [.o] [.str] (fun _ (s,_)=>(.b (isObject s),[],Y))
abbrev T32 : Tab := lk [(54,fs54)]
theorem tab32 : TabOK prog T32 := (TabOK.cons ok54 ent54 TabOK.nil)
theorem ok32 : FnOK prog 32 fs32 := by
 refine FnOK.mk cok func32 rfl rfl rfl ?_
 rintro fl ⟨(s:ByteArray),_⟩ hpre F hnt0 _
 have hnt : F.nt=17 := hnt0.trans ntmps32
 clear hpre
 refine W.to (⟨[(0,.v (.string s))],[],[999]⟩) rfl ?_
 refine Kk cok tab32 hnt [] [0] (⟨[(0,.v (.string s))],[],[999]⟩)
  (Y∧Y)
  ⟨tt,tt⟩ ?_
 refine Kk cok tab32 hnt [] [2] (⟨[(2,.b ((((isSingle s) || (eqS s nQueue)) || (eqS s nStack)) || (eqS s nSet)))],[],[999]⟩)
  ((fun (Z1:Bool)=>((fun (Z2:Bool)=>((fun (Z3:Bool)=>(Y∧((Y∧((Y∧Y)∧Y))∧(Y∧(((!Z1)=true→Y)∧(((!Z1)=true→((((!Z1)=true)∧Y)∧(Y∧Y)))∧((Y∧((Z1=true→Y)∧(Z1=false→((!Z1)=true)∧Y)))∧(Y∧(((!Z2)=true→Y)∧(((!Z2)=true→((((!Z2)=true)∧Y)∧(Y∧Y)))∧((Y∧((Z2=true→Y)∧(Z2=false→((!Z2)=true)∧Y)))∧(Y∧(((!Z3)=true→Y)∧(((!Z3)=true→((((!Z3)=true)∧Y)∧(Y∧Y)))∧((Y∧((Z3=true→Y)∧(Z3=false→((!Z3)=true)∧Y)))∧(Y∧Y)))))))))))))))) (Z2 || (eqS s nStack)))) (Z1 || (eqS s nQueue)))) (isSingle s))
  ⟨tt,⟨tt,⟨tt,tt⟩,tt⟩,tt,(fun _=>trivial),(fun hG=>⟨⟨hG,tt⟩,tt,tt⟩),⟨tt,(fun _=>trivial),(fun hp=>⟨(not_t hp),tt⟩)⟩,tt,(fun _=>trivial),(fun hG=>⟨⟨hG,tt⟩,tt,tt⟩),⟨tt,(fun _=>trivial),(fun hp=>⟨(not_t hp),tt⟩)⟩,tt,(fun _=>trivial),(fun hG=>⟨⟨hG,tt⟩,tt,tt⟩),⟨tt,(fun _=>trivial),(fun hp=>⟨(not_t hp),tt⟩)⟩,tt,tt⟩ ?_
 refine W.ret ?_
 exact endQ_ret (.b ((((isSingle s) || (eqS s nQueue)) || (eqS s nStack)) || (eqS s nSet))) (by kernel_rfl) (@cast ((.bool ((((isSingle s) || (eqS s nQueue)) || (eqS s nStack)) || (eqS s nSet)):Value)=.bool (isObject s)) _ (by kernel_rfl) (congrArg Value.bool (by exact single_obj s)))
theorem ent32 : Entr prog 32 := ⟨_,func32,rfl,by decide⟩
end Go.Proofs.Tryz

set_option linter.unusedSimpArgs false
set_option linter.unusedVariables false
namespace Go.Proofs.Tryz
open Go.Ab Go.RowKit
def fs101 : FnS := fnS [.o,.o,.o] [.int,.int,(.ep .calls)] (fun _ (i,k,h,_)=>(.b (ownF h i.toNat k.toNat),[],(0≤i∧i<h.length)∧(0≤k∧k<h.length)))
abbrev T101 : Tab := lk [(86,fs86)]
theorem tab101 : TabOK prog T101 := (TabOK.cons ok86 ent86 TabOK.nil)
theorem ok101 : FnOK prog 101 fs101 := by
 refine FnOK.mk cok func101 rfl rfl rfl ?_
 rintro fl ⟨(i:Int),(k:Int),(h : List CallD),_⟩ hpre F hnt0 _
 have hnt : F.nt=28 := hnt0.trans ntmps101
 replace hpre : (0≤i∧i<h.length)∧(0≤k∧k<h.length) := hpre
 obtain ⟨hi,hk⟩ := hpre
 refine W.to (⟨[(0,.i i),(1,.i k),(2,.ep [.sl (.calls h)])],[],[999]⟩) rfl ?_
 refine Kk cok tab101 hnt [] [0,1,2] (⟨[(0,.i i),(1,.i k),(2,.ep [.sl (.calls h)])],[],[999]⟩)
  (Y∧Y)
  ⟨tt,tt⟩ ?_
 refine W.KA cok tab101 hnt [] [5] (⟨[(5,.b ((decide (((h.getD (Int.toNat i) default).proc)=((h.getD (Int.toNat k) default).proc))) && (isBefore (h.getD (Int.toNat k) default) (h.getD (Int.toNat i) default))))],[],[999]⟩)
  ((fun (Z1:Bool)=>(Y∧(Y∧((Y∧(Y∧((0≤i)∧(i<(h.length:Int)))))∧(Y∧(Y∧(Y∧(Y∧((Y∧(Y∧((0≤k)∧(k<(h.length:Int)))))∧(Y∧(Y∧((Y∧(Y∧Y))∧(Y∧((Z1=true→Y)∧((Z1=true→Y)∧((Z1=true→(((Z1=true)∧Y)∧(((Z1=true)∧Y)∧((0≤k)∧(k<(h.length:Int))))))∧((Z1=true→((Z1=true)∧Y))∧((Z1=true→Y)∧((Z1=true→Y)∧((Z1=true→(((Z1=true)∧Y)∧(((Z1=true)∧Y)∧((0≤i)∧(i<(h.length:Int))))))∧((Z1=true→((Z1=true)∧Y))∧((Z1=true→(Y∧((((Z1=true)∧Y)∧(((Z1=true)∧Y)∧Y))∧Y)))∧((Y∧((Z1=true→(Z1=true)∧Y)∧(Z1=false→Y)))∧(Y∧Y)))))))))))))))))))))))) (decide (((h.getD (Int.toNat i) default).proc)=((h.getD (Int.toNat k) default).proc)))) (by kernel_rfl) (by kernel_rfl)
  ⟨tt,tt,⟨tt,tt,(by omega),(by omega)⟩,tt,tt,tt,tt,⟨tt,tt,(by omega),(by omega)⟩,tt,tt,⟨tt,tt,tt⟩,tt,(fun _=>trivial),(fun _=>trivial),(fun hG=>⟨⟨hG,tt⟩,⟨hG,tt⟩,(by have hg0 : ((h.getD (Int.toNat i) default).proc)=((h.getD (Int.toNat k) default).proc) := of_decide_eq_true hG; omega),(by have hg0 : ((h.getD (Int.toNat i) default).proc)=((h.getD (Int.toNat k) default).proc) := of_decide_eq_true hG; omega)⟩),(fun hG=>⟨hG,tt⟩),(fun _=>trivial),(fun _=>trivial),(fun hG=>⟨⟨hG,tt⟩,⟨hG,tt⟩,(by have hg0 : ((h.getD (Int.toNat i) default).proc)=((h.getD (Int.toNat k) default).proc) := of_decide_eq_true hG; omega),(by have hg0 : ((h.getD (Int.toNat i) default).proc)=((h.getD (Int.toNat k) default).proc) := of_decide_eq_true hG; omega)⟩),(fun hG=>⟨hG,tt⟩),(fun hG=>⟨tt,⟨⟨hG,tt⟩,⟨hG,tt⟩,tt⟩,tt⟩),⟨tt,(fun hp=>⟨hp,tt⟩),(fun _=>trivial)⟩,tt,tt⟩ ?_
 refine W.ret ?_
 exact endQ_ret (.b ((decide (((h.getD (Int.toNat i) default).proc)=((h.getD (Int.toNat k) default).proc))) && (isBefore (h.getD (Int.toNat k) default) (h.getD (Int.toNat i) default)))) (by kernel_rfl) (@cast ((.bool ((decide (((h.getD (Int.toNat i) default).proc)=((h.getD (Int.toNat k) default).proc))) && (isBefore (h.getD (Int.toNat k) default) (h.getD (Int.toNat i) default))):Value)=.bool (ownF h i.toNat k.toNat)) _ (by kernel_rfl) (congrArg Value.bool (by first | rfl | simp_all)))
theorem ent101 : Entr prog 101 := ⟨_,func101,rfl,by decide⟩
end Go.Proofs.Tryz

set_option linter.unusedSimpArgs false
set_option linter.unusedVariables false
namespace Go.Proofs.Tryz
open Go.Ab Go.RowKit
def fs82OwnAhead : FnS := fnS [.o,.o] [.int,(.fn1 101 (.ep .calls))] (fun _ (n,h,_)=>(.sl (.ints (rowsOf n.toNat (ownF h))),[],(0≤n∧n≤60∧n=h.length)))
abbrev T82OwnAhead : Tab := lk [(101,fs101)]
theorem tab82OwnAhead : TabOK prog T82OwnAhead := (TabOK.cons ok101 ent101 TabOK.nil)
theorem ok82OwnAhead : FnOK prog 82 fs82OwnAhead := by
 refine FnOK.mk cok func82 rfl rfl rfl ?_
 rintro fl ⟨(n:Int),(h : List CallD),_⟩ hpre F hnt0 _
 have hnt : F.nt=35 := hnt0.trans ntmps82
 replace hpre : (0≤n∧n≤60∧n=h.length) := hpre
 have hn := hpre
 refine W.to (⟨[(0,.i n),(1,.fn 101 [.ep [.sl (.calls h)]])],[],[999]⟩) rfl ?_
 refine Kk cok tab82OwnAhead hnt [] [0,1] (⟨[(0,.i n),(1,.fn 101 [.ep [.sl (.calls h)]])],[],[999]⟩)
  (Y∧Y)
  ⟨tt,tt⟩ ?_
 refine Kk cok tab82OwnAhead hnt [9] [0,1,5] (⟨[(0,.i n),(1,.fn 101 [.ep [.sl (.calls h)]]),(5,.own 9 (List.length (List.replicate (Int.toNat n) (0:Int))))],[(9,⟨3,.row (.ints (List.replicate (Int.toNat n) (0:Int)))⟩)],[9,999]⟩)
  (Y∧(Y∧Y∧(n=n)∧(0≤n)∧(n * 8≤281474976710656))∧Y∧Y)
  ⟨tt,⟨tt,tt,rfl,(by omega),(by omega)⟩,tt,tt⟩ ?_
 refine W.seq ?_
 refine Kk cok tab82OwnAhead hnt [] [0,1,5,11,12] (⟨[(0,.i n),(1,.fn 101 [.ep [.sl (.calls h)]]),(5,.own 9 (List.length (List.replicate (Int.toNat n) (0:Int)))),(11,.i (((List.length (List.replicate (Int.toNat n) (0:Int))):Nat):Int)),(12,.i (0:Int))],[(9,⟨3,.row (.ints (List.replicate (Int.toNat n) (0:Int)))⟩)],[9,999]⟩)
  (Y∧Y∧Y∧Y)
  ⟨tt,tt,tt,tt⟩ ?_
 refine W.block ?_
 refine W.loop (ι := Nat × (List Int)) (fun (x : Nat × (List Int))=>match x with | (i,o)=>(⟨[(0,.i n),(1,.fn 101 [.ep [.sl (.calls h)]]),(5,.own 9 o.length),(11,.i (((List.length (List.replicate (Int.toNat n) (0:Int))):Nat):Int)),(12,.i ((i:Nat):Int))],[(9,⟨3,.row (.ints o)⟩)],[9,999]⟩:St))
  (fun (x : Nat × (List Int))=>match x with | (i,o)=>(i≤n.toNat)∧(o=partRows n.toNat (ownF h) i 0))
  (fun (x : Nat × (List Int))=>match x with | (i,o)=>(n.toNat - i:Nat)) (0,(List.replicate (Int.toNat n) (0:Int))) ?_ ?_ ?_
 ·exact (show (0≤n.toNat)∧((List.replicate (Int.toNat n) (0:Int))=partRows n.toNat (ownF h) 0 0) from ⟨(by first | assumption | omega | rfl | (intro _ hjj; omega) | (simp; done) | (simp; omega)),(by exact partRows_zero _ _)⟩)
 ·exact Sub.of [] (@cast (((Si n)∧(((101:Nat)=101)∧(((.ep [.sl (.calls h)] : AV)=.ep [.sl (.calls h)])∧(([] : List Nat)=[]))∧Y)∧(((9:Nat)=9)∧((List.length (List.replicate (Int.toNat n) (0:Int)))=(List.length (List.replicate (Int.toNat n) (0:Int))))∧((9:Nat) ∈ ([9,999] : List Nat)))∧(Si (((List.length (List.replicate (Int.toNat n) (0:Int))):Nat):Int))∧((.int .i64 (0:Int):Value)=.int .i64 ((0:Nat):Int))∧Y)∧((((3:Nat)=3)∧(Sd (.ints (List.replicate (Int.toNat n) (0:Int))))∧((9:Nat) ∈ ([9,999] : List Nat)))∧Y)∧(true=true)∧(true=true)) _ (by kernel_rfl) ⟨⟨rfl,⟨rfl,⟨rfl,rfl⟩,tt⟩,⟨rfl,rfl,(by decide)⟩,rfl,(congrArg (Value.int .i64) (by first | rfl | omega | assumption | simp | simp_all)),tt⟩,⟨⟨rfl,rfl,(by decide)⟩,tt⟩,rfl,rfl⟩)
 ·rintro ⟨i,o⟩ hC0
  have hC : (i≤n.toNat)∧(o=partRows n.toNat (ownF h) i 0) := hC0
  clear hC0
  obtain ⟨hi,ho⟩ := hC
  refine W.to (⟨[(0,.i n),(1,.fn 101 [.ep [.sl (.calls h)]]),(5,.own 9 o.length),(11,.i (((List.length (List.replicate (Int.toNat n) (0:Int))):Nat):Int)),(12,.i ((i:Nat):Int))],[(9,⟨3,.row (.ints o)⟩)],[9,999]⟩) rfl ?_
  have hol : o.length=n.toNat := by rw [ho]; exact partRows_len _ _ _ _
  refine Kk cok tab82OwnAhead hnt [] [0,1,5,11,12,13] (⟨[(0,.i n),(1,.fn 101 [.ep [.sl (.calls h)]]),(5,.own 9 o.length),(11,.i (((List.length (List.replicate (Int.toNat n) (0:Int))):Nat):Int)),(12,.i ((i:Nat):Int)),(13,.b (decide (((i:Nat):Int)<(((List.length (List.replicate (Int.toNat n) (0:Int))):Nat):Int))))],[(9,⟨3,.row (.ints o)⟩)],[9,999]⟩)
   ((Y∧Y∧Y)∧Y)
   ⟨⟨tt,tt,tt⟩,tt⟩ ?_
  refine W.seq ?_
  refine W.ifP (((i:Nat):Int)<(((List.length (List.replicate (Int.toNat n) (0:Int))):Nat):Int)) (.b (decide (((i:Nat):Int)<(((List.length (List.replicate (Int.toNat n) (0:Int))):Nat):Int)))) (by kernel_rfl) rfl trivial ?_ ?_
  ·intro h13
   have h13' := h13
   simp only [ln] at h13'
   refine W.skip (thenQ_normal ?_)
   refine W.seq ?_
   refine W.block ?_
   refine Kk cok tab82OwnAhead hnt [] [0,1,5,6,11,12] (⟨[(0,.i n),(1,.fn 101 [.ep [.sl (.calls h)]]),(5,.own 9 o.length),(6,.i ((i:Nat):Int)),(11,.i (((List.length (List.replicate (Int.toNat n) (0:Int))):Nat):Int)),(12,.i ((i:Nat):Int))],[(9,⟨3,.row (.ints o)⟩)],[9,999]⟩)
    (Y∧Y∧Y)
    ⟨tt,tt,tt⟩ ?_
   refine Kk cok tab82OwnAhead hnt [] [0,1,5,6,11,12,15,16] (⟨[(0,.i n),(1,.fn 101 [.ep [.sl (.calls h)]]),(5,.own 9 o.length),(6,.i ((i:Nat):Int)),(11,.i (((List.length (List.replicate (Int.toNat n) (0:Int))):Nat):Int)),(12,.i ((i:Nat):Int)),(15,.i n),(16,.i (0:Int))],[(9,⟨3,.row (.ints o)⟩)],[9,999]⟩)
    (Y∧Y∧Y)
    ⟨tt,tt,tt⟩ ?_
   refine W.block ?_
   refine W.loop (ι := Nat × (List Int)) (fun (x : Nat × (List Int))=>match x with | (k,x)=>(⟨[(0,.i n),(1,.fn 101 [.ep [.sl (.calls h)]]),(5,.own 9 o.length),(6,.i ((i:Nat):Int)),(11,.i (((List.length (List.replicate (Int.toNat n) (0:Int))):Nat):Int)),(12,.i ((i:Nat):Int)),(15,.i n),(16,.i ((k:Nat):Int))],[(9,⟨3,.row (.ints x)⟩)],[9,999]⟩:St))
    (fun (x : Nat × (List Int))=>match x with | (k,x)=>(k≤n.toNat)∧(x=partRows n.toNat (ownF h) i k))
    (fun (x : Nat × (List Int))=>match x with | (k,x)=>(n.toNat - k:Nat)) (0,o) ?_ ?_ ?_
   ·exact (show (0≤n.toNat)∧(o=partRows n.toNat (ownF h) i 0) from ⟨(by first | assumption | omega | rfl | (intro _ hjj; omega) | (simp; done) | (simp; omega)),(by exact ho)⟩)
   ·exact Sub.of [] (@cast (((Si n)∧(((101:Nat)=101)∧(((.ep [.sl (.calls h)] : AV)=.ep [.sl (.calls h)])∧(([] : List Nat)=[]))∧Y)∧(((9:Nat)=9)∧(o.length=o.length)∧((9:Nat) ∈ ([9,999] : List Nat)))∧(Si ((i:Nat):Int))∧(Si (((List.length (List.replicate (Int.toNat n) (0:Int))):Nat):Int))∧(Si ((i:Nat):Int))∧(Si n)∧((.int .i64 (0:Int):Value)=.int .i64 ((0:Nat):Int))∧Y)∧((((3:Nat)=3)∧(Sd (.ints o))∧((9:Nat) ∈ ([9,999] : List Nat)))∧Y)∧(true=true)∧(true=true)) _ (by kernel_rfl) ⟨⟨rfl,⟨rfl,⟨rfl,rfl⟩,tt⟩,⟨rfl,rfl,(by decide)⟩,rfl,rfl,rfl,rfl,(congrArg (Value.int .i64) (by first | rfl | omega | assumption | simp | simp_all)),tt⟩,⟨⟨rfl,rfl,(by decide)⟩,tt⟩,rfl,rfl⟩)
   ·rintro ⟨k,x⟩ hC0
    have hC : (k≤n.toNat)∧(x=partRows n.toNat (ownF h) i k) := hC0
    clear hC0
    obtain ⟨hk,hx⟩ := hC
    refine W.to (⟨[(0,.i n),(1,.fn 101 [.ep [.sl (.calls h)]]),(5,.own 9 o.length),(6,.i ((i:Nat):Int)),(11,.i (((List.length (List.replicate (Int.toNat n) (0:Int))):Nat):Int)),(12,.i ((i:Nat):Int)),(15,.i n),(16,.i ((k:Nat):Int))],[(9,⟨3,.row (.ints x)⟩)],[9,999]⟩) rfl ?_
    have hxl : x.length=n.toNat := by rw [hx]; exact partRows_len _ _ _ _
    refine Kk cok tab82OwnAhead hnt [] [0,1,5,6,11,12,15,16,17] (⟨[(0,.i n),(1,.fn 101 [.ep [.sl (.calls h)]]),(5,.own 9 o.length),(6,.i ((i:Nat):Int)),(11,.i (((List.length (List.replicate (Int.toNat n) (0:Int))):Nat):Int)),(12,.i ((i:Nat):Int)),(15,.i n),(16,.i ((k:Nat):Int)),(17,.b (decide (((k:Nat):Int)<n)))],[(9,⟨3,.row (.ints x)⟩)],[9,999]⟩)
     ((Y∧Y∧Y)∧Y)
     ⟨⟨tt,tt,tt⟩,tt⟩ ?_
    refine W.seq ?_
    refine W.ifP (((k:Nat):Int)<n) (.b (decide (((k:Nat):Int)<n))) (by kernel_rfl) rfl trivial ?_ ?_
    ·intro h17
     refine W.skip (thenQ_normal ?_)
     refine W.seq ?_
     refine W.block ?_
     refine Kk cok tab82OwnAhead hnt [] [0,1,5,6,7,11,12,15,16] (⟨[(0,.i n),(1,.fn 101 [.ep [.sl (.calls h)]]),(5,.own 9 o.length),(6,.i ((i:Nat):Int)),(7,.i ((k:Nat):Int)),(11,.i (((List.length (List.replicate (Int.toNat n) (0:Int))):Nat):Int)),(12,.i ((i:Nat):Int)),(15,.i n),(16,.i ((k:Nat):Int))],[(9,⟨3,.row (.ints x)⟩)],[9,999]⟩)
      (Y∧Y∧Y)
      ⟨tt,tt,tt⟩ ?_
     refine Kk cok tab82OwnAhead hnt [] [0,1,5,6,7,11,12,15,16,22] (⟨[(0,.i n),(1,.fn 101 [.ep [.sl (.calls h)]]),(5,.own 9 o.length),(6,.i ((i:Nat):Int)),(7,.i ((k:Nat):Int)),(11,.i (((List.length (List.replicate (Int.toNat n) (0:Int))):Nat):Int)),(12,.i ((i:Nat):Int)),(15,.i n),(16,.i ((k:Nat):Int)),(22,.b (ownF h ((i:Nat):Int).toNat ((k:Nat):Int).toNat))],[(9,⟨3,.row (.ints x)⟩)],[9,999]⟩)
      (Y∧Y∧Y∧(Y∧(Y∧Y∧Y∧Y)∧(0≤((i:Nat):Int)∧((i:Nat):Int)<h.length)∧0≤((k:Nat):Int)∧((k:Nat):Int)<h.length)∧Y)
      ⟨tt,tt,tt,⟨tt,⟨tt,tt,tt,tt⟩,(by omega),(by omega)⟩,tt⟩ ?_
     refine W.if' (ownF h ((i:Nat):Int).toNat ((k:Nat):Int).toNat) (.b (ownF h ((i:Nat):Int).toNat ((k:Nat):Int).toNat)) (by kernel_rfl) rfl trivial ?_ ?_
     ·intro h22
      refine Lk cok tab82OwnAhead hnt [] (⟨[(0,.i n),(1,.fn 101 [.ep [.sl (.calls h)]]),(5,.own 9 o.length),(6,.i ((i:Nat):Int)),(7,.i ((k:Nat):Int)),(11,.i (((List.length (List.replicate (Int.toNat n) (0:Int))):Nat):Int)),(12,.i ((i:Nat):Int)),(15,.i n),(16,.i ((k:Nat):Int)),(22,.b (ownF h ((i:Nat):Int).toNat ((k:Nat):Int).toNat)),(23,.own 9 o.length),(24,.i ((i:Nat):Int)),(25,.pel 9 1 i 0),(26,.i (x.getD i 0)),(27,.i ((k:Nat):Int)),(28,.v (.int .u64 ((k:Nat):Int))),(29,.i (shlI .i64 (1:Int) ((k:Nat):Int))),(30,.i (bitsI .or .i64 (x.getD i 0) (shlI .i64 (1:Int) ((k:Nat):Int)))),(31,.pel 9 1 i 0)],[(9,⟨3,.row (.ints (List.set x i (bitsI .or .i64 (x.getD i 0) (shlI .i64 (1:Int) ((k:Nat):Int)))))⟩)],[9,999]⟩)
       (Y∧Y∧(Y∧Y∧(0≤((i:Nat):Int))∧(((i:Nat):Int)<(o.length:Int)))∧(Y∧(i<x.length))∧Y∧(Y∧(Fits .u64 ((k:Nat):Int)))∧(Y∧Y∧(0≤((k:Nat):Int))∧(Fits .i64 (shlI .i64 (1:Int) ((k:Nat):Int))))∧(Y∧Y∧Y)∧(Y∧Y∧(0≤((i:Nat):Int))∧(((i:Nat):Int)<(o.length:Int)))∧(Y∧Y∧(i<x.length))∧Y)
       ⟨tt,tt,⟨tt,tt,(by omega),(by omega)⟩,⟨tt,(by omega)⟩,tt,⟨tt,(by exact fits_u64 (by omega) (by omega))⟩,⟨tt,tt,(by omega),(by exact fits_shl (by omega))⟩,⟨tt,tt,tt⟩,⟨tt,tt,(by omega),(by omega)⟩,⟨tt,tt,(by omega)⟩,tt⟩ ?_
      refine blockQ_normal (thenQ_normal ?_)
      refine Lk cok tab82OwnAhead hnt [] (⟨[(0,.i n),(1,.fn 101 [.ep [.sl (.calls h)]]),(5,.own 9 o.length),(6,.i ((i:Nat):Int)),(7,.i ((k:Nat):Int)),(11,.i (((List.length (List.replicate (Int.toNat n) (0:Int))):Nat):Int)),(12,.i ((i:Nat):Int)),(15,.i n),(16,.i (((k+1):Nat):Int)),(22,.b (ownF h ((i:Nat):Int).toNat ((k:Nat):Int).toNat)),(23,.own 9 o.length),(24,.i ((i:Nat):Int)),(25,.pel 9 1 i 0),(26,.i (x.getD i 0)),(27,.i ((k:Nat):Int)),(28,.v (.int .u64 ((k:Nat):Int))),(29,.i (shlI .i64 (1:Int) ((k:Nat):Int))),(30,.i (bitsI .or .i64 (x.getD i 0) (shlI .i64 (1:Int) ((k:Nat):Int)))),(31,.pel 9 1 i 0),(32,.i (((k+1):Nat):Int))],[(9,⟨3,.row (.ints (List.set x i (bitsI .or .i64 (x.getD i 0) (shlI .i64 (1:Int) ((k:Nat):Int)))))⟩)],[9,999]⟩)
       ((Y∧Y∧(Fits .i64 (((k+1):Nat):Int)))∧Y∧Y)
       ⟨⟨tt,tt,(by exact fits_i64 (by omega) (by omega))⟩,tt,tt⟩ ?_
      refine thenQ_normal ?_
      refine ⟨((k+1),(List.set x i (bitsI .or .i64 (x.getD i 0) (shlI .i64 (1:Int) ((k:Nat):Int))))),(show ((k+1)≤n.toNat)∧((List.set x i (bitsI .or .i64 (x.getD i 0) (shlI .i64 (1:Int) ((k:Nat):Int))))=partRows n.toNat (ownF h) i (k+1)) from ⟨(by first | assumption | omega | rfl | (intro _ hjj; omega) | (simp; done) | (simp; omega)),(by first | (rw [hx]; exact partRows_skip n22) | (rw [hx]; exact partRows_set (by omega) (by rw [partRows_get _ (by omega)]; exact mask_or _ (by omega) h22)))⟩),(show n.toNat - (k+1)<n.toNat - k from (by first | omega | (simp_all; omega))),?_⟩
      exact Sub.of [] (@cast (((Si n)∧(((101:Nat)=101)∧(((.ep [.sl (.calls h)] : AV)=.ep [.sl (.calls h)])∧(([] : List Nat)=[]))∧Y)∧(((9:Nat)=9)∧(o.length=o.length)∧((9:Nat) ∈ ([9,999] : List Nat)))∧(Si ((i:Nat):Int))∧(Si (((List.length (List.replicate (Int.toNat n) (0:Int))):Nat):Int))∧(Si ((i:Nat):Int))∧(Si n)∧(Si (((k+1):Nat):Int))∧Y)∧((((3:Nat)=3)∧(Sd (.ints (List.set x i (bitsI .or .i64 (x.getD i 0) (shlI .i64 (1:Int) ((k:Nat):Int))))))∧((9:Nat) ∈ ([9,999] : List Nat)))∧Y)∧(true=true)∧(true=true)) _ (by kernel_rfl) ⟨⟨rfl,⟨rfl,⟨rfl,rfl⟩,tt⟩,⟨rfl,rfl,(by decide)⟩,rfl,rfl,rfl,rfl,rfl,tt⟩,⟨⟨rfl,rfl,(by decide)⟩,tt⟩,rfl,rfl⟩)
     ·intro n22
      refine W.skip (blockQ_normal (thenQ_normal ?_))
      refine Lk cok tab82OwnAhead hnt [] (⟨[(0,.i n),(1,.fn 101 [.ep [.sl (.calls h)]]),(5,.own 9 o.length),(6,.i ((i:Nat):Int)),(7,.i ((k:Nat):Int)),(11,.i (((List.length (List.replicate (Int.toNat n) (0:Int))):Nat):Int)),(12,.i ((i:Nat):Int)),(15,.i n),(16,.i (((k+1):Nat):Int)),(22,.b (ownF h ((i:Nat):Int).toNat ((k:Nat):Int).toNat)),(32,.i (((k+1):Nat):Int))],[(9,⟨3,.row (.ints x)⟩)],[9,999]⟩)
       ((Y∧Y∧(Fits .i64 (((k+1):Nat):Int)))∧Y∧Y)
       ⟨⟨tt,tt,(by exact fits_i64 (by omega) (by omega))⟩,tt,tt⟩ ?_
      refine thenQ_normal ?_
      refine ⟨((k+1),x),(show ((k+1)≤n.toNat)∧(x=partRows n.toNat (ownF h) i (k+1)) from ⟨(by first | assumption | omega | rfl | (intro _ hjj; omega) | (simp; done) | (simp; omega)),(by first | (rw [hx]; exact partRows_skip n22) | (rw [hx]; exact partRows_set (by omega) (by rw [partRows_get _ (by omega)]; exact mask_or _ (by omega) h22)))⟩),(show n.toNat - (k+1)<n.toNat - k from (by first | omega | (simp_all; omega))),?_⟩
      exact Sub.of [] (@cast (((Si n)∧(((101:Nat)=101)∧(((.ep [.sl (.calls h)] : AV)=.ep [.sl (.calls h)])∧(([] : List Nat)=[]))∧Y)∧(((9:Nat)=9)∧(o.length=o.length)∧((9:Nat) ∈ ([9,999] : List Nat)))∧(Si ((i:Nat):Int))∧(Si (((List.length (List.replicate (Int.toNat n) (0:Int))):Nat):Int))∧(Si ((i:Nat):Int))∧(Si n)∧(Si (((k+1):Nat):Int))∧Y)∧((((3:Nat)=3)∧(Sd (.ints x))∧((9:Nat) ∈ ([9,999] : List Nat)))∧Y)∧(true=true)∧(true=true)) _ (by kernel_rfl) ⟨⟨rfl,⟨rfl,⟨rfl,rfl⟩,tt⟩,⟨rfl,rfl,(by decide)⟩,rfl,rfl,rfl,rfl,rfl,tt⟩,⟨⟨rfl,rfl,(by decide)⟩,tt⟩,rfl,rfl⟩)
    ·intro n17
     refine W.exit (thenQ_exit (thenQ_exit (blockQ_hit ?_)))
     refine blockQ_normal (thenQ_normal ?_)
     refine Lk cok tab82OwnAhead hnt [] (⟨[(0,.i n),(1,.fn 101 [.ep [.sl (.calls h)]]),(5,.own 9 o.length),(6,.i ((i:Nat):Int)),(11,.i (((List.length (List.replicate (Int.toNat n) (0:Int))):Nat):Int)),(12,.i (((i+1):Nat):Int)),(15,.i n),(16,.i ((k:Nat):Int)),(17,.b (decide (((k:Nat):Int)<n))),(33,.i (((i+1):Nat):Int))],[(9,⟨3,.row (.ints x)⟩)],[9,999]⟩)
      ((Y∧Y∧(Fits .i64 (((i+1):Nat):Int)))∧Y∧Y)
      ⟨⟨tt,tt,(by exact fits_i64 (by omega) (by omega))⟩,tt,tt⟩ ?_
     refine thenQ_normal ?_
     refine ⟨((i+1),x),(show ((i+1)≤n.toNat)∧(x=partRows n.toNat (ownF h) (i+1) 0) from ⟨(by first | assumption | omega | rfl | (intro _ hjj; omega) | (simp; done) | (simp; omega)),(by rw [hx,← partRows_next]; congr 1; omega)⟩),(show n.toNat - (i+1)<n.toNat - i from (by first | omega | (simp_all; omega))),?_⟩
     exact Sub.of [] (@cast (((Si n)∧(((101:Nat)=101)∧(((.ep [.sl (.calls h)] : AV)=.ep [.sl (.calls h)])∧(([] : List Nat)=[]))∧Y)∧(((9:Nat)=9)∧(o.length=x.length)∧((9:Nat) ∈ ([9,999] : List Nat)))∧(Si (((List.length (List.replicate (Int.toNat n) (0:Int))):Nat):Int))∧(Si (((i+1):Nat):Int))∧Y)∧((((3:Nat)=3)∧(Sd (.ints x))∧((9:Nat) ∈ ([9,999] : List Nat)))∧Y)∧(true=true)∧(true=true)) _ (by kernel_rfl) ⟨⟨rfl,⟨rfl,⟨rfl,rfl⟩,tt⟩,⟨rfl,(by first | rfl | omega | assumption | (symm; assumption) | simp | simp_all),(by decide)⟩,rfl,rfl,tt⟩,⟨⟨rfl,rfl,(by decide)⟩,tt⟩,rfl,rfl⟩)
  ·intro n13
   have n13' := n13
   simp only [ln] at n13'
   refine W.exit (thenQ_exit (thenQ_exit (blockQ_hit ?_)))
   refine thenQ_normal ?_
   refine Kk cok tab82OwnAhead hnt [] [4] (⟨[(4,.own 9 o.length)],[(9,⟨3,.row (.ints o)⟩)],[9,999]⟩)
    (Y∧Y∧Y)
    ⟨tt,tt,tt⟩ ?_
   refine W.subS [] (⟨[(4,.sl (.ints o))],[],[999]⟩) (@cast ((((o.length=o.length)∧(Sd (.ints o))∧((9:Nat) ∉ ([] : List Nat)))∧Y)∧Y∧(true=true)∧(true=true)) _ (by kernel_rfl) ⟨⟨⟨rfl,rfl,(by decide)⟩,tt⟩,tt,rfl,rfl⟩) ?_
   refine W.ret ?_
   exact endQ_ret (.sl (.ints o)) (by kernel_rfl) (@cast ((.ints o:Dat)=.ints (rowsOf n.toNat (ownF h))) _ (by kernel_rfl) (congrArg Dat.ints (by rw [ho,← partRows_end]; congr 1; omega)))
theorem ent82OwnAhead : Entr prog 82 := ⟨_,func82,rfl,by decide⟩
end Go.Proofs.Tryz

set_option linter.unusedSimpArgs false
set_option linter.unusedVariables false
namespace Go.Proofs.Tryz
open Go.Ab Go.RowKit
def fs78 : FnS := fnS [.s .calls] [.calls] (fun _ (h,_)=>(.sl (.ints (ownAhead h)),[],Y))
abbrev T78 : Tab := lk [(52,fs52),(82,fs82OwnAhead)]
theorem tab78 : TabOK prog T78 := (TabOK.cons ok52 ent52 (TabOK.cons ok82OwnAhead ent82OwnAhead TabOK.nil))
theorem ok78 : FnOK prog 78 fs78 := by
 refine FnOK.mk cok func78 rfl rfl rfl ?_
 rintro fl ⟨(h : List CallD),_⟩ hpre F hnt0 _
 have hnt : F.nt=10 := hnt0.trans ntmps78
 clear hpre
 refine W.to (⟨[(0,.sl (.calls h))],[],[999]⟩) rfl ?_
 refine W.lenOf 0 (.calls h) (by kernel_rfl) ?_
 intro hl_h; replace hl_h : List.length h≤9223372036854775807 := hl_h
 refine Kk cok tab78 hnt [] [1] (⟨[(1,.ptr 1 0)],[(1,⟨38,.fix [.sl (.calls h)]⟩)],[1,999]⟩)
  (Y∧Y∧Y)
  ⟨tt,tt,tt⟩ ?_
 refine W.subS [] (⟨[(1,.ep [.sl (.calls h)])],[],[999]⟩) (@cast ((((([.sl (.calls h)] : List AV)=[.sl (.calls h)])∧(([] : List Nat)=[])∧((1:Nat) ∉ ([] : List Nat)))∧Y)∧Y∧(true=true)∧(true=true)) _ (by kernel_rfl) ⟨⟨⟨rfl,rfl,(by decide)⟩,tt⟩,tt,rfl,rfl⟩) ?_
 refine W.seq ?_
 refine Kk cok tab78 hnt [] [1,5] (⟨[(1,.ep [.sl (.calls h)]),(5,.b (!(validHistory h)))],[],[999]⟩)
  (Y∧(Y∧(Y∧Y)∧Y)∧Y∧Y)
  ⟨tt,⟨tt,⟨tt,tt⟩,tt⟩,tt,tt⟩ ?_
 refine W.if' (!(validHistory h)) (.b (!(validHistory h))) (by kernel_rfl) rfl trivial ?_ ?_
 ·intro h5
  refine Kk cok tab78 hnt [] [2] (⟨[(2,.v (.slice none 0 0))],[],[999]⟩)
   (Y∧Y)
   ⟨tt,tt⟩ ?_
  refine W.ret (thenQ_ret ?_)
  exact endQ_ret (.v (.slice none 0 0)) (by kernel_rfl) (@cast (((Value.slice none 0 0:Value)=.slice none 0 0)∧((Dat.ints (ownAhead h)).len=0)) _ (by kernel_rfl) ⟨rfl,(by show List.length (ownAhead h)=0; unfold ownAhead; rw [not_f h5]; rfl)⟩)
 ·intro n5
  refine W.skip (thenQ_normal ?_)
  refine Kk cok tab78 hnt [] [2] (⟨[(2,.sl (.ints (rowsOf (h.length:Int).toNat (ownF h))))],[],[999]⟩)
   (Y∧Y∧Y∧(Y∧(Y∧Y∧Y)∧0≤(h.length:Int)∧(h.length:Int)≤60∧(h.length:Int)=h.length)∧Y∧Y)
   ⟨tt,tt,tt,⟨tt,⟨tt,tt,tt⟩,(by have hv := (valid_iff.1 (not_g n5)).1; omega)⟩,tt,tt⟩ ?_
  refine W.ret ?_
  exact endQ_ret (.sl (.ints (rowsOf (h.length:Int).toNat (ownF h)))) (by kernel_rfl) (@cast ((.ints (rowsOf (h.length:Int).toNat (ownF h)):Dat)=.ints (ownAhead h)) _ (by kernel_rfl) (congrArg Dat.ints (by unfold ownAhead; rw [not_g n5]; rfl)))
theorem ent78 : Entr prog 78 := ⟨_,func78,rfl,by decide⟩
end Go.Proofs.Tryz

namespace Go.Ab
open Go.RowKit Go.Shelf Go.Proofs
theorem elem_ints (l : List Int) (k:Nat) : (Dat.ints l).elem k=[.v (.int .i64 (l.getD k 0))] := rfl
theorem delete_core {P : Program} {ρ : Ren} (L : Lays2.n23 P ρ) {t : TypeId} (l : List Int) (i j:Int) (hi0 : 0≤i) (hij : i<j) (hjl : j≤((l.length:Nat):Int)) (w : World) (T : Nat→Prop) (vals : List Value) (bC : Option Nat)
  (hargs' : ArgsRep w T [.c .ints t,.o,.o] [.sl (.ints l),.v (.int .i64 i),.v (.int .i64 j)] vals bC) :
  Calls P (ρ.f 23) vals.toArray w fun en w' => ∃ y β',en=.returned y∧PostF w T bC w' β' (.own 0 (List.length (l.take i.toNat++l.drop j.toNat))) [(t,.ints (l.take i.toNat++l.drop j.toNat))] y := by
  match vals,hargs' with
  | [y0,y1,y2],h =>
   simp only [ArgsRep] at h
   obtain ⟨⟨d,hd,_,hc⟩,h1,h2,_⟩ := h
   cases hd
   simp only [Rep] at h1 h2
   subst h1
   subst h2
   rcases hc with ⟨_,hz,_⟩ | ⟨g,cap,cur,rfl,rfl,hgw,hTg,hcell,hlen,hcap,hsz,hrow⟩
   ·simp only [Dat.len] at hz; omega
   ·have hm : maxLen=9223372036854775807 := by decide
    have hsz' : cur.size=cap := by simpa [Dat.esz] using hsz
    have hlen' : l.length≤cap := hlen
    have hH : Sort.Holds (Value.int .i64) w g 0 l.toArray := by
     intro k hk
     have hk' : k<l.length := by simpa using hk
     obtain ⟨y,hy1,hy2⟩ := hrow k 0 _ hk' (by rw [elem_ints]; rfl)
     simp only [Rep] at hy2
     subst hy2
     have e1 : cur[k]? = some (.int .i64 (l.getD k 0)) := by simpa [Dat.esz] using hy1
     constructor
     ·unfold World.cell?
      simp only [hcell,Nat.zero_add]
      rw [if_neg (by simp),e1]
      simp [List.getD_eq_getElem?_getD,hk']
     ·unfold World.frozen?
      simp only [hcell]
      simp
    have hcall := Any.slices_Delete_int L g 0 cap i.toNat j.toNat l w hH hlen' (by omega) (by omega) (by omega)
    rw [show ((i.toNat:Nat):Int)=i by omega,show ((j.toNat:Nat):Int)=j by omega] at hcall
    refine hcall.mono ?_
    rintro e w' ⟨rfl,q,rfl⟩
    let res := l.take i.toNat++l.drop j.toNat
    have hrl : res.length=l.length - (j.toNat - i.toNat) := by
     simp only [res,List.length_append,List.length_take,List.length_drop]; omega
    let all := (l.take i.toNat++l.drop j.toNat++List.replicate (j.toNat - i.toNat) 0)
    have hal : all.length=l.length := by
     simp only [all,List.length_append,List.length_take,List.length_drop,List.length_replicate]; omega
    have hcell' : (Sort.putRow (Value.int .i64) (Sort.ahead w q) g 0 all.toArray).heap[g]? = some (.cells (Sort.putCells (Value.int .i64) 0 all.toArray cur) t (0,0)) := by
     show (w.heap.modify g _)[g]? = _
     rw [Array.getElem?_modify,if_pos rfl,hcell]
     rfl
    refine ⟨_,fun k=>if k=0 then some (.blk g cap) else none,rfl,?_⟩
    refine ⟨rfl,rfl,rfl,?_,?_,?_,?_,?_,?_,?_⟩
    ·simp [Sort.ahead]
    ·intro b hb hne
     show (w.heap.modify g _)[b]? = _
     rw [Array.getElem?_modify,if_neg (fun hh=>hne (by rw [hh]))]
    ·simp only [Rep,OwnRep]
     exact .inr ⟨g,cap,rfl,(show res.length≤cap by omega),by rw [← hrl]⟩
    ·intro k c hk
     cases k with
     | succ k=>simp [rowsHeap] at hk
     | zero =>
      simp only [rowsHeap,List.getElem?_cons_zero,Option.map_some,Option.some.injEq] at hk
      subst hk
      simp only [LocOK,CellsOK]
      refine .inr ⟨g,cap,_,rfl,hcell',?_,hcap,?_,?_⟩
      ·show res.length≤cap
       omega
      ·simp [Sort.putCells,hsz',Dat.esz]
      ·intro k jj x hk hx
       have hk' : k<res.length := hk
       rw [elem_ints] at hx
       cases jj with
       | succ jj=>simp at hx
       | zero =>
        simp only [List.getElem?_cons_zero,Option.some.injEq] at hx
        subst hx
        refine ⟨.int .i64 (res.getD k 0),?_,by simp only [Rep]; rfl⟩
        have hkc : k<cur.size := by omega
        have hka : k<all.length := by omega
        simp only [Dat.esz,Nat.mul_one,Nat.add_zero,Sort.putCells,Array.getElem?_mapIdx]
        rw [Array.getElem?_eq_getElem hkc,Option.map_some,if_pos (by constructor <;> simp <;> omega)]
        have e2 : all.getD k 0=res.getD k 0 := by
         simp only [List.getD_eq_getElem?_getD]
         show (res++_)[k]?.getD 0=_
         rw [List.getElem?_append_left hk']
        rw [← e2]
        simp [List.getD_eq_getElem?_getD,hka]
    ·intro k k' c c' g1 cap1 cap2 e1 e2 _ _
     cases k with
     | succ k=>simp [rowsHeap] at e1
     | zero =>
      cases k' with
      | succ k'=>simp [rowsHeap] at e2
      | zero=>rfl
    ·intro k c g1 cap1 _ hb
     by_cases hk : k=0
     ·subst hk
      simp only [if_true,Option.some.injEq,Bl.blk.injEq] at hb
      left; rw [hb.1]
     ·rw [if_neg hk] at hb; cases hb
    ·intro k p hp
     by_cases hk : k=0
     ·subst hk; simp
     ·rw [if_neg hk] at hp; cases hp
theorem delete_ok {P : Program} {ρ : Ren} (L : Lays2.n23 P ρ) {t : TypeId} :
  FnOK P (ρ.f 23) (fnS [.c .ints t,.o,.o] [.ints,.int,.int] (fun _ (l,i,j,_)=>(.own 0 (List.length (l.take i.toNat++l.drop j.toNat)),[(t,.ints (l.take i.toNat++l.drop j.toNat))],0≤i∧i<j∧j≤((List.length l:Nat):Int)))) := by
 intro fl args r rows φ hg hφ w T vals bC hT _ hargs
 simp only [fnS] at hg
 split at hg
 ·rename_i a ha
  simp only [Option.some.injEq] at hg
  have hx := decL_encL ha
  subst hx
  obtain ⟨l,i,j,u⟩ := a
  simp only [Prod.mk.injEq] at hg
  obtain ⟨rfl,rfl,rfl⟩ := hg
  exact delete_core L l i j hφ.1 hφ.2.1 hφ.2.2 w T vals bC hargs
 ·cases hg
end Go.Ab

namespace Go.Ab
open Go.RowKit Go.Shelf Go.Proofs
theorem clone_post {w w' : World} {T : Nat→Prop} {t : TypeId} {l : List Int} {v' : Value} (hown : w'.ownsRow w.heap.size t 1 v' l.length (l.map (Value.int .i64))) (hb : Below w.heap.size w w') :
  ∃ β',PostF w T none w' β' (.own 0 l.length) [(t,.ints l)] v' := by
 obtain ⟨_,h⟩ := hown
 rcases h with ⟨rfl,hn⟩ | ⟨g,cap,cur,rfl,hg,hcell,hlen,hcap,hsz,htake⟩
 ·refine ⟨fun k=>if k=0 then some .nil else none,hb.os,hb.tape,hb.output,hb.size,fun b hb' _=>hb.block b hb',?_,?_,?_,?_,?_⟩
  ·simp only [Rep]; exact Or.inl ⟨rfl,hn,rfl⟩
  ·intro k c hk
   cases k with
   | succ k=>simp [rowsHeap] at hk
   | zero =>
    simp only [rowsHeap,List.getElem?_cons_zero,Option.map_some,Option.some.injEq] at hk
    subst hk
    simp only [LocOK,CellsOK]
    exact .inl ⟨rfl,hn⟩
  ·intro k k' c c' g1 cap1 cap2 e1 e2 hb1 _
   by_cases hk : k=0
   ·rw [hk] at hb1; simp at hb1
   ·rw [if_neg hk] at hb1; cases hb1
  ·intro k c g1 cap1 _ hb1
   by_cases hk : k=0
   ·rw [hk] at hb1; simp at hb1
   ·rw [if_neg hk] at hb1; cases hb1
  ·intro k p hp
   by_cases hk : k=0
   ·subst hk; simp
   ·rw [if_neg hk] at hp; cases hp
 ·refine ⟨fun k=>if k=0 then some (.blk g cap) else none,hb.os,hb.tape,hb.output,hb.size,fun b hb' _=>hb.block b hb',?_,?_,?_,?_,?_⟩
  ·simp only [Rep,OwnRep]; exact .inr ⟨g,cap,rfl,hlen,rfl⟩
  ·intro k c hk
   cases k with
   | succ k=>simp [rowsHeap] at hk
   | zero =>
    simp only [rowsHeap,List.getElem?_cons_zero,Option.map_some,Option.some.injEq] at hk
    subst hk
    simp only [LocOK,CellsOK]
    refine .inr ⟨g,cap,cur,rfl,hcell,hlen,hcap,hsz,?_⟩
    intro k jj x hk hx
    have hk' : k<l.length := hk
    rw [elem_ints] at hx
    cases jj with
    | succ jj=>simp at hx
    | zero =>
     simp only [List.getElem?_cons_zero,Option.some.injEq] at hx
     subst hx
     refine ⟨.int .i64 (l.getD k 0),?_,by simp only [Rep]⟩
     have e1 : (cur.toList.take (l.length * 1))[k]? = some (.int .i64 (l.getD k 0)) := by
      rw [htake,List.getElem?_map,List.getElem?_eq_getElem hk']
      simp [List.getD_eq_getElem?_getD,hk']
     rw [List.getElem?_take,if_pos (by omega)] at e1
     simpa [Dat.esz] using e1
  ·intro k k' c c' g1 cap1 cap2 e1 e2 _ _
   cases k with
   | succ k=>simp [rowsHeap] at e1
   | zero =>
    cases k' with
    | succ k'=>simp [rowsHeap] at e2
    | zero=>rfl
  ·intro k c g1 cap1 _ hb1
   by_cases hk : k=0
   ·subst hk
    simp only [if_true,Option.some.injEq,Bl.blk.injEq] at hb1
    right; omega
   ·rw [if_neg hk] at hb1; cases hb1
  ·intro k p hp
   by_cases hk : k=0
   ·subst hk; simp
   ·rw [if_neg hk] at hp; cases hp
theorem clone_core {P : Program} {ρ : Ren} (L : Lays2.n15 P ρ) (l : List Int) (hbig : l.length * 8≤140737488355328) (w : World) (T : Nat→Prop) (vals : List Value) (bC : Option Nat)
  (hargs : ArgsRep w T [.s .ints] [.sl (.ints l)] vals bC) :
  Calls P (ρ.f 15) vals.toArray w fun en w' => ∃ y β',en=.returned y∧PostF w T bC w' β' (.own 0 (List.length l)) [(ρ.t 3,.ints l)] y := by
 match vals,hargs with
 | [y0],h =>
  simp only [ArgsRep] at h
  obtain ⟨h1,rfl⟩ := h
  simp only [Rep,SlRep,FlatRep] at h1
  obtain ⟨a,c,rfl,hlc,hcm,hd⟩ := h1
  cases l with
  | nil =>
   cases a with
   | none =>
    refine (Any.slices_Clone_int_nil L 0 c w).mono ?_
    rintro e w' ⟨rfl,rfl⟩
    obtain ⟨β',h⟩ := clone_post (T := T) (t := ρ.t 3) (l := []) (World.ownsRow_nil w' w'.heap.size (ρ.t 3) 1) (Below.refl w'.heap.size w')
    exact ⟨_,β',rfl,h⟩
   | some ad =>
    refine (Any.slices_Clone_int_zero L ad c w).mono ?_
    rintro e w' ⟨v',rfl,hown,_,hb⟩
    obtain ⟨β',h⟩ := clone_post (T := T) (t := ρ.t 3) (l := []) hown hb
    exact ⟨_,β',rfl,h⟩
  | cons x0 l0 =>
   rcases hd with hd | ⟨ad,rfl,hT,hc⟩
   ·simp at hd
   ·have hcc : ∀ k,k<(x0 :: l0).length→w.cell? (ad.add k)=some (.int .i64 ((x0 :: l0).getD k 0)) := fun k hk=>by
     have := hc k 0 _ hk (show ((Dat.ints (x0 :: l0)).flat k)[0]? = some (.int .i64 ((x0 :: l0).getD k 0)) from rfl)
     simpa using this
    obtain ⟨b,off,sp⟩ := ad
    cases sp with
    | some s0 =>
     have := hcc 0 (by simp)
     rw [Addr.add_zero'] at this
     unfold World.cell? at this
     simp at this
     split at this <;> cases this
    | none =>
     refine (Any.slices_Clone_int L b off (x0 :: l0).length c (x0 :: l0) w (Nat.le_refl _) hbig (fun j hj=>by
      have := hcc j hj
      rwa [Addr.add_lit] at this)).mono ?_
     rintro e w' ⟨v',rfl,hown,_,hb⟩
     rw [List.take_length] at hown
     obtain ⟨β',h⟩ := clone_post (T := T) (t := ρ.t 3) (l := x0 :: l0) hown hb
     exact ⟨_,β',rfl,h⟩
theorem clone_ok {P : Program} {ρ : Ren} (L : Lays2.n15 P ρ) :
  FnOK P (ρ.f 15) (fnS [.s .ints] [.ints] (fun _ (l,_)=>(.own 0 (List.length l),[(ρ.t 3,.ints l)],List.length l * 8≤140737488355328))) := by
 intro fl args r rows φ hg hφ w T vals bC hT _ hargs
 simp only [fnS] at hg
 split at hg
 ·rename_i a ha
  simp only [Option.some.injEq] at hg
  have hx := decL_encL ha
  subst hx
  obtain ⟨l,u⟩ := a
  simp only [Prod.mk.injEq] at hg
  obtain ⟨rfl,rfl,rfl⟩ := hg
  exact clone_core L l hφ w T vals bC hargs
 ·cases hg
end Go.Ab

set_option linter.unusedSimpArgs false
set_option linter.unusedVariables false
namespace Go.Proofs.Tryz
open Go.Ab Go.RowKit Go.Shelf Go.Proofs
def fs81 : FnS := fnS [.s .ints] [.ints] (fun _ (l,_)=>(.own 0 l.length,[(3,.ints l)],(l.length * 8≤140737488355328)))
def ren15 : Go.Shelf.Ren := ⟨fun _=>81,fun k=>bif Nat.beq k 22 then 36 else bif Nat.beq k 3 then 3 else bif Nat.beq k 4 then 4 else k,fun k=>k⟩
set_option maxRecDepth 100000 in
theorem lays15 : Lays2.n15 prog ren15 where
 mixed := by kernel_rfl
 f15 := by kernel_rfl
 t3 := underlying3
 a3 := isAgg3
 z3 := sizeOf3
 v3 := zeroValue3
 t4 := underlying4
 a4 := isAgg4
 z4 := sizeOf4
 v4 := zeroValue4
 t22 := underlying36
 a22 := isAgg36
 z22 := sizeOf36
 v22 := zeroValue36
 i3 := by kernel_rfl
theorem ok81 : FnOK prog 81 fs81 := clone_ok lays15
theorem ent81 : Entr prog 81 := ⟨_,func81,rfl,by decide⟩
end Go.Proofs.Tryz

set_option linter.unusedSimpArgs false
set_option linter.unusedVariables false
namespace Go.Proofs.Tryz
open Go.Ab Go.RowKit
def fs119 : FnS := fnS [.o,.c .ints 3,.o] [.str,.ints,.call] (fun _ (s,l,c,_)=>(.tup [.sl (.ints ((iSingle s l c).1)),.i ((iSingle s l c).2)],[],(∀ j,j<l.length→0≤l.getD j 0∧l.getD j 0≤20)∧(0≤c.arg∧c.arg≤3)∧(l.length≤20)))
abbrev T119 : Tab := lk []
theorem tab119 : TabOK prog T119 := TabOK.nil
theorem ok119 : FnOK prog 119 fs119 := by
 refine FnOK.mk cok func119 rfl rfl rfl ?_
 rintro fl ⟨(s:ByteArray),(l : List Int),(c:CallD),_⟩ hpre F hnt0 _
 have hnt : F.nt=45 := hnt0.trans ntmps119
 replace hpre : (∀ j,j<l.length→0≤l.getD j 0∧l.getD j 0≤20)∧(0≤c.arg∧c.arg≤3)∧(l.length≤20) := hpre
 obtain ⟨hs,ha,hl⟩ := hpre
 refine W.to (⟨[(0,.v (.string s)),(1,.own 999 l.length),(2,.agg [.i c.proc,.i c.obj,.i c.kind,.i c.arg,.i c.ret,.i c.frm,.i c.to])],[(999,⟨3,.row (.ints l)⟩)],[999]⟩) rfl ?_
 refine Kk cok tab119 hnt [] [0,1,5] (⟨[(0,.v (.string s)),(1,.own 999 l.length),(5,.ptr 5 0)],[(5,⟨59,.fix [.i c.proc,.i c.obj,.i c.kind,.i c.arg,.i c.ret,.i c.frm,.i c.to]⟩),(999,⟨3,.row (.ints l)⟩)],[5,999]⟩)
  (Y∧Y∧Y∧Y)
  ⟨tt,tt,tt,tt⟩ ?_
 refine Kk cok tab119 hnt [] [0,1,5,8] (⟨[(0,.v (.string s)),(1,.own 999 l.length),(5,.ptr 5 0),(8,.i (0:Int))],[(5,⟨59,.fix [.i c.proc,.i c.obj,.i c.kind,.i c.arg,.i c.ret,.i c.frm,.i c.to]⟩),(999,⟨3,.row (.ints l)⟩)],[5,999]⟩)
  (Y∧Y)
  ⟨tt,tt⟩ ?_
 refine W.seq ?_
 refine Kk cok tab119 hnt [] [0,1,5,8,11] (⟨[(0,.v (.string s)),(1,.own 999 l.length),(5,.ptr 5 0),(8,.i (0:Int)),(11,.b (decide ((l.length:Int)=(1:Int))))],[(5,⟨59,.fix [.i c.proc,.i c.obj,.i c.kind,.i c.arg,.i c.ret,.i c.frm,.i c.to]⟩),(999,⟨3,.row (.ints l)⟩)],[5,999]⟩)
  (Y∧Y∧(Y∧Y∧Y)∧Y)
  ⟨tt,tt,⟨tt,tt,tt⟩,tt⟩ ?_
 refine W.meetT (ι := Int) (fun (v:Int)=>(⟨[(0,.v (.string s)),(1,.own 999 l.length),(5,.ptr 5 0),(8,.i v)],[(5,⟨59,.fix [.i c.proc,.i c.obj,.i c.kind,.i c.arg,.i c.ret,.i c.frm,.i c.to]⟩),(999,⟨3,.row (.ints l)⟩)],[5,999]⟩:St)) (fun (v:Int)=>(v=oneOf l)∧(0≤v∧v≤20)) ?_ ?_
 ·skip
  refine W.ifP ((l.length:Int)=(1:Int)) (.b (decide ((l.length:Int)=(1:Int)))) (by kernel_rfl) rfl trivial ?_ ?_
  ·intro h11
   refine Lk cok tab119 hnt [] (⟨[(0,.v (.string s)),(1,.own 999 l.length),(5,.ptr 5 0),(8,.i (l.getD 0 0)),(11,.b (decide ((l.length:Int)=(1:Int)))),(12,.own 999 l.length),(13,.pel 999 1 0 0),(14,.i (l.getD 0 0))],[(5,⟨59,.fix [.i c.proc,.i c.obj,.i c.kind,.i c.arg,.i c.ret,.i c.frm,.i c.to]⟩),(999,⟨3,.row (.ints l)⟩)],[5,999]⟩)
    (Y∧(Y∧Y∧(0≤(0:Int))∧((0:Int)<(l.length:Int)))∧(Y∧(0<l.length))∧Y∧Y)
    ⟨tt,⟨tt,tt,(by omega),(by omega)⟩,⟨tt,(by omega)⟩,tt,tt⟩ ?_
   refine thenQ_normal ?_
   refine ⟨((l.getD 0 0)),(show ((l.getD 0 0)=oneOf l)∧(0≤(l.getD 0 0)∧(l.getD 0 0)≤20) from ⟨(by unfold oneOf; first | (rw [decide_eq_true h11]; rfl) | (rw [decide_eq_false n11]; rfl)),(by first | omega | (have := hs 0 (by omega); omega))⟩),?_⟩
   exact Sub.of [] (@cast (((((.string s):Value)=(.string s))∧(((999:Nat)=999)∧(l.length=l.length)∧((999:Nat) ∈ ([5,999] : List Nat)))∧(((5:Nat)=5)∧((0:Nat)=0)∧((5:Nat) ∈ ([5,999] : List Nat)))∧(Si (l.getD 0 0))∧Y)∧((((59:Nat)=59)∧((Si c.proc)∧(Si c.obj)∧(Si c.kind)∧(Si c.arg)∧(Si c.ret)∧(Si c.frm)∧(Si c.to)∧Y)∧((5:Nat) ∈ ([5,999] : List Nat)))∧(((3:Nat)=3)∧(Sd (.ints l))∧((999:Nat) ∈ ([5,999] : List Nat)))∧Y)∧(true=true)∧(true=true)) _ (by kernel_rfl) ⟨⟨rfl,⟨rfl,rfl,(by decide)⟩,⟨rfl,rfl,(by decide)⟩,rfl,tt⟩,⟨⟨rfl,⟨rfl,rfl,rfl,rfl,rfl,rfl,rfl,tt⟩,(by decide)⟩,⟨rfl,rfl,(by decide)⟩,tt⟩,rfl,rfl⟩)
  ·intro n11
   refine W.skip (thenQ_normal ?_)
   refine ⟨((0:Int)),(show ((0:Int)=oneOf l)∧(0≤(0:Int)∧(0:Int)≤20) from ⟨(by unfold oneOf; first | (rw [decide_eq_true h11]; rfl) | (rw [decide_eq_false n11]; rfl)),(by first | omega | (have := hs 0 (by omega); omega))⟩),?_⟩
   exact Sub.of [] (@cast (((((.string s):Value)=(.string s))∧(((999:Nat)=999)∧(l.length=l.length)∧((999:Nat) ∈ ([5,999] : List Nat)))∧(((5:Nat)=5)∧((0:Nat)=0)∧((5:Nat) ∈ ([5,999] : List Nat)))∧(Si (0:Int))∧Y)∧((((59:Nat)=59)∧((Si c.proc)∧(Si c.obj)∧(Si c.kind)∧(Si c.arg)∧(Si c.ret)∧(Si c.frm)∧(Si c.to)∧Y)∧((5:Nat) ∈ ([5,999] : List Nat)))∧(((3:Nat)=3)∧(Sd (.ints l))∧((999:Nat) ∈ ([5,999] : List Nat)))∧Y)∧(true=true)∧(true=true)) _ (by kernel_rfl) ⟨⟨rfl,⟨rfl,rfl,(by decide)⟩,⟨rfl,rfl,(by decide)⟩,rfl,tt⟩,⟨⟨rfl,⟨rfl,rfl,rfl,rfl,rfl,rfl,rfl,tt⟩,(by decide)⟩,⟨rfl,rfl,(by decide)⟩,tt⟩,rfl,rfl⟩)
 ·rintro v hC0
  have hC : (v=oneOf l)∧(0≤v∧v≤20) := hC0
  clear hC0
  obtain ⟨hv,hvb⟩ := hC
  refine W.to (⟨[(0,.v (.string s)),(1,.own 999 l.length),(5,.ptr 5 0),(8,.i v)],[(5,⟨59,.fix [.i c.proc,.i c.obj,.i c.kind,.i c.arg,.i c.ret,.i c.frm,.i c.to]⟩),(999,⟨3,.row (.ints l)⟩)],[5,999]⟩) rfl ?_
  refine W.seq ?_
  refine W.block ?_
  refine Kk cok tab119 hnt [] [0,1,5,8,15] (⟨[(0,.v (.string s)),(1,.own 999 l.length),(5,.ptr 5 0),(8,.i v),(15,.b (decide (c.kind=(2:Int))))],[(5,⟨59,.fix [.i c.proc,.i c.obj,.i c.kind,.i c.arg,.i c.ret,.i c.frm,.i c.to]⟩),(999,⟨3,.row (.ints l)⟩)],[5,999]⟩)
   (Y∧Y∧(Y∧Y∧Y)∧Y∧Y)
   ⟨tt,tt,⟨tt,tt,tt⟩,tt,tt⟩ ?_
  refine W.ifP (c.kind=(2:Int)) (.b (decide (c.kind=(2:Int)))) (by kernel_rfl) rfl trivial ?_ ?_
  ·intro h15
   refine Kk cok tab119 hnt [] [6,7] (⟨[(6,.own 999 l.length),(7,.i v)],[(5,⟨59,.fix [.i c.proc,.i c.obj,.i c.kind,.i c.arg,.i c.ret,.i c.frm,.i c.to]⟩),(999,⟨3,.row (.ints l)⟩)],[5,999]⟩)
    (Y∧Y∧Y∧Y∧Y)
    ⟨tt,tt,tt,tt,tt⟩ ?_
   refine W.ret (blockQ_ret (thenQ_ret ?_))
   exact endQ_ret (.tup [.own 999 l.length,.i v]) (by kernel_rfl) (@cast (((l.length=l.length)∧((.ints l:Dat)=.ints ((iSingle s l c).1))∧((999:Nat) ∉ ([] : List Nat)))∧((.int .i64 v:Value)=.int .i64 ((iSingle s l c).2))∧Y) _ (by kernel_rfl) ⟨⟨rfl,(congrArg Dat.ints (by subst hv; simp only [iSingle,(decide_eq_true h15),bb,List.length_nil])),(by decide)⟩,(congrArg (Value.int .i64) (by subst hv; simp only [iSingle,(decide_eq_true h15),bb,List.length_nil])),tt⟩)
  ·intro n15
   refine Kk cok tab119 hnt [] [0,5,8,21] (⟨[(0,.v (.string s)),(5,.ptr 5 0),(8,.i v),(21,.b (decide (c.kind=(1:Int))))],[(5,⟨59,.fix [.i c.proc,.i c.obj,.i c.kind,.i c.arg,.i c.ret,.i c.frm,.i c.to]⟩),(999,⟨3,.row (.ints l)⟩)],[5,999]⟩)
    (Y∧Y∧(Y∧Y∧Y)∧Y∧Y)
    ⟨tt,tt,⟨tt,tt,tt⟩,tt,tt⟩ ?_
   refine W.ifP (c.kind=(1:Int)) (.b (decide (c.kind=(1:Int)))) (by kernel_rfl) rfl trivial ?_ ?_
   ·intro h21
    refine Kk cok tab119 hnt [] [6,7] (⟨[(6,.v (.slice none 0 0)),(7,.i v)],[(5,⟨59,.fix [.i c.proc,.i c.obj,.i c.kind,.i c.arg,.i c.ret,.i c.frm,.i c.to]⟩),(999,⟨3,.row (.ints l)⟩)],[5,999]⟩)
     (Y∧Y∧Y∧Y)
     ⟨tt,tt,tt,tt⟩ ?_
    refine W.ret (blockQ_ret (thenQ_ret ?_))
    exact endQ_ret (.tup [.v (.slice none 0 0),.i v]) (by kernel_rfl) (@cast ((((Value.slice none 0 0:Value)=.slice none 0 0)∧((Dat.ints ((iSingle s l c).1)).len=0))∧((.int .i64 v:Value)=.int .i64 ((iSingle s l c).2))∧Y) _ (by kernel_rfl) ⟨⟨rfl,(by show List.length ((iSingle s l c).1)=0; subst hv; simp only [iSingle,(decide_eq_true h21),(decide_eq_false n15),bb,List.length_nil])⟩,(congrArg (Value.int .i64) (by subst hv; simp only [iSingle,(decide_eq_true h21),(decide_eq_false n15),bb,List.length_nil])),tt⟩)
   ·intro n21
    refine Kk cok tab119 hnt [] [0,5,8,26] (⟨[(0,.v (.string s)),(5,.ptr 5 0),(8,.i v),(26,.b (eqS s nCounter))],[(5,⟨59,.fix [.i c.proc,.i c.obj,.i c.kind,.i c.arg,.i c.ret,.i c.frm,.i c.to]⟩),(999,⟨3,.row (.ints l)⟩)],[5,999]⟩)
     (Y∧(Y∧Y∧Y)∧Y∧Y)
     ⟨tt,⟨tt,tt,tt⟩,tt,tt⟩ ?_
    refine W.if' (eqS s nCounter) (.b (eqS s nCounter)) (by kernel_rfl) rfl trivial ?_ ?_
    ·intro h26
     refine Kk cok tab119 hnt [] [6,7] (⟨[(6,.sl (.ints ([(v+c.arg)]))),(7,.i (0:Int))],[(5,⟨59,.fix [.i c.proc,.i c.obj,.i c.kind,.i c.arg,.i c.ret,.i c.frm,.i c.to]⟩),(999,⟨3,.row (.ints l)⟩)],[33,5,999]⟩)
      (Y∧Y∧Y∧(Y∧Y∧(Fits .i64 (v+c.arg)))∧(Y∧Y)∧Y∧Y∧Y)
      ⟨tt,tt,tt,⟨tt,tt,(by exact fits_i64 (by omega) (by omega))⟩,⟨tt,tt⟩,tt,tt,tt⟩ ?_
     refine W.ret (blockQ_ret (thenQ_ret ?_))
     exact endQ_ret (.tup [.sl (.ints ([(v+c.arg)])),.i (0:Int)]) (by kernel_rfl) (@cast (((.ints ([(v+c.arg)]):Dat)=.ints ((iSingle s l c).1))∧((.int .i64 (0:Int):Value)=.int .i64 ((iSingle s l c).2))∧Y) _ (by kernel_rfl) ⟨(congrArg Dat.ints (by subst hv; simp only [iSingle,h26,(decide_eq_false n15),(decide_eq_false n21),bb,List.length_nil])),(congrArg (Value.int .i64) (by subst hv; simp only [iSingle,h26,(decide_eq_false n15),(decide_eq_false n21),bb,List.length_nil])),tt⟩)
    ·intro n26
     refine Kk cok tab119 hnt [] [5,8,34] (⟨[(5,.ptr 5 0),(8,.i v),(34,.b (eqS s nMost))],[(5,⟨59,.fix [.i c.proc,.i c.obj,.i c.kind,.i c.arg,.i c.ret,.i c.frm,.i c.to]⟩),(999,⟨3,.row (.ints l)⟩)],[5,999]⟩)
      (Y∧(Y∧Y∧Y)∧Y∧Y)
      ⟨tt,⟨tt,tt,tt⟩,tt,tt⟩ ?_
     refine W.if' (eqS s nMost) (.b (eqS s nMost)) (by kernel_rfl) rfl trivial ?_ ?_
     ·intro h34
      refine Kk cok tab119 hnt [] [6,7] (⟨[(6,.sl (.ints ([(max v c.arg)]))),(7,.i (0:Int))],[(5,⟨59,.fix [.i c.proc,.i c.obj,.i c.kind,.i c.arg,.i c.ret,.i c.frm,.i c.to]⟩),(999,⟨3,.row (.ints l)⟩)],[41,5,999]⟩)
       (Y∧Y∧Y∧(Y∧Y)∧(Y∧Y)∧Y∧Y∧Y)
       ⟨tt,tt,tt,⟨tt,tt⟩,⟨tt,tt⟩,tt,tt,tt⟩ ?_
      refine W.ret (blockQ_ret (thenQ_ret ?_))
      exact endQ_ret (.tup [.sl (.ints ([(max v c.arg)])),.i (0:Int)]) (by kernel_rfl) (@cast (((.ints ([(max v c.arg)]):Dat)=.ints ((iSingle s l c).1))∧((.int .i64 (0:Int):Value)=.int .i64 ((iSingle s l c).2))∧Y) _ (by kernel_rfl) ⟨(congrArg Dat.ints (by subst hv; simp only [iSingle,h34,(decide_eq_false n15),(decide_eq_false n21),n26,bb,List.length_nil])),(congrArg (Value.int .i64) (by subst hv; simp only [iSingle,h34,(decide_eq_false n15),(decide_eq_false n21),n26,bb,List.length_nil])),tt⟩)
     ·intro n34
      refine W.skip (blockQ_normal (thenQ_normal ?_))
      refine Kk cok tab119 hnt [] [6,7] (⟨[(6,.sl (.ints ([c.arg]))),(7,.i (0:Int))],[(5,⟨59,.fix [.i c.proc,.i c.obj,.i c.kind,.i c.arg,.i c.ret,.i c.frm,.i c.to]⟩),(999,⟨3,.row (.ints l)⟩)],[44,5,999]⟩)
       (Y∧Y∧(Y∧Y)∧Y∧Y∧Y)
       ⟨tt,tt,⟨tt,tt⟩,tt,tt,tt⟩ ?_
      refine W.ret ?_
      exact endQ_ret (.tup [.sl (.ints ([c.arg])),.i (0:Int)]) (by kernel_rfl) (@cast (((.ints ([c.arg]):Dat)=.ints ((iSingle s l c).1))∧((.int .i64 (0:Int):Value)=.int .i64 ((iSingle s l c).2))∧Y) _ (by kernel_rfl) ⟨(congrArg Dat.ints (by subst hv; simp only [iSingle,(decide_eq_false n15),(decide_eq_false n21),n26,n34,bb,List.length_nil])),(congrArg (Value.int .i64) (by subst hv; simp only [iSingle,(decide_eq_false n15),(decide_eq_false n21),n26,n34,bb,List.length_nil])),tt⟩)
theorem ent119 : Entr prog 119 := ⟨_,func119,rfl,by decide⟩
end Go.Proofs.Tryz
