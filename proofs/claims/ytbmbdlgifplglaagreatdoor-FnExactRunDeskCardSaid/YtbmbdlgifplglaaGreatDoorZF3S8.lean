import Derived.Test.YtbmbdlgifplglaaGreatDoorZF3S0
import Derived.Test.YtbmbdlgifplglaaGreatDoorZF3S2
import Derived.Test.YtbmbdlgifplglaaGreatDoorZF3S1
set_option maxRecDepth 100000
set_option maxHeartbeats 1000000
set_option linter.unusedSimpArgs false
set_option linter.unusedVariables false
namespace Go.Proofs.Tryz
open Go.Ab Go.RowKit
def fs50 : FnS := fnS [.s .strs,.o] [.strs,.str] (fun _ (l,x,_)=>(.i (firstI l.length (fun jj=>eqS x (l.getD jj default))),[],Y))
abbrev T50 : Tab := lk []
theorem tab50 : TabOK prog T50 := TabOK.nil
theorem ok50 : FnOK prog 50 fs50 := by
 refine FnOK.mk cok func50 rfl rfl rfl ?_
 rintro fl ⟨(l : List ByteArray),(x:ByteArray),_⟩ hpre F hnt0 _
 have hnt : F.nt=19 := hnt0.trans ntmps50
 clear hpre
 refine W.to (⟨[(0,.sl (.strs l)),(1,.v (.string x))],[],[999]⟩) rfl ?_
 refine W.lenOf 0 (.strs l) (by kernel_rfl) ?_
 intro hl_l; replace hl_l : List.length l≤9223372036854775807 := hl_l
 refine Kk cok tab50 hnt [] [0,1] (⟨[(0,.sl (.strs l)),(1,.v (.string x))],[],[999]⟩)
  (Y∧Y)
  ⟨tt,tt⟩ ?_
 refine W.seq ?_
 refine Kk cok tab50 hnt [] [0,1,7,8] (⟨[(0,.sl (.strs l)),(1,.v (.string x)),(7,.i (l.length:Int)),(8,.i (0:Int))],[],[999]⟩)
  (Y∧Y∧Y∧Y)
  ⟨tt,tt,tt,tt⟩ ?_
 refine W.block ?_
 refine W.loop (ι := Nat) (fun (i:Nat)=>(⟨[(0,.sl (.strs l)),(1,.v (.string x)),(7,.i (l.length:Int)),(8,.i ((i:Nat):Int))],[],[999]⟩:St))
  (fun (i:Nat)=>(i≤l.length)∧(∀ jj,jj<i→(eqS x (l.getD jj default))=false))
  (fun (i:Nat)=>(l.length - i:Nat)) (0) ?_ ?_ ?_
 ·exact (show (0≤l.length)∧(∀ jj,jj<0→(eqS x (l.getD jj default))=false) from ⟨(by first | assumption | omega | rfl | (intro _ hjj; omega) | (simp; done) | (simp; omega)),(by exact upto_zero)⟩)
 ·exact Sub.of [] (@cast (((Sd (.strs l))∧(((.string x):Value)=(.string x))∧(Si (l.length:Int))∧((.int .i64 (0:Int):Value)=.int .i64 ((0:Nat):Int))∧Y)∧Y∧(true=true)∧(true=true)) _ (by kernel_rfl) ⟨⟨rfl,rfl,rfl,(congrArg (Value.int .i64) (by first | rfl | omega | assumption | simp | simp_all)),tt⟩,tt,rfl,rfl⟩)
 ·rintro i hC0
  have hC : (i≤l.length)∧(∀ jj,jj<i→(eqS x (l.getD jj default))=false) := hC0
  clear hC0
  obtain ⟨hi,hA⟩ := hC
  refine W.to (⟨[(0,.sl (.strs l)),(1,.v (.string x)),(7,.i (l.length:Int)),(8,.i ((i:Nat):Int))],[],[999]⟩) rfl ?_
  refine Kk cok tab50 hnt [] [0,1,7,8,9] (⟨[(0,.sl (.strs l)),(1,.v (.string x)),(7,.i (l.length:Int)),(8,.i ((i:Nat):Int)),(9,.b (decide (((i:Nat):Int)<(l.length:Int))))],[],[999]⟩)
   ((Y∧Y∧Y)∧Y)
   ⟨⟨tt,tt,tt⟩,tt⟩ ?_
  refine W.seq ?_
  refine W.ifP (((i:Nat):Int)<(l.length:Int)) (.b (decide (((i:Nat):Int)<(l.length:Int)))) (by kernel_rfl) rfl trivial ?_ ?_
  ·intro h9
   refine W.skip (thenQ_normal ?_)
   refine W.seq ?_
   refine W.block ?_
   refine Kk cok tab50 hnt [] [0,1,5,7,8] (⟨[(0,.sl (.strs l)),(1,.v (.string x)),(5,.i ((i:Nat):Int)),(7,.i (l.length:Int)),(8,.i ((i:Nat):Int))],[],[999]⟩)
    (Y∧Y∧Y)
    ⟨tt,tt,tt⟩ ?_
   refine Kk cok tab50 hnt [] [0,1,5,7,8,16] (⟨[(0,.sl (.strs l)),(1,.v (.string x)),(5,.i ((i:Nat):Int)),(7,.i (l.length:Int)),(8,.i ((i:Nat):Int)),(16,.b (eqS x (l.getD i default)))],[],[999]⟩)
    (Y∧Y∧Y∧(Y∧Y∧(0≤((i:Nat):Int))∧(((i:Nat):Int)<(l.length:Int)))∧Y∧(Y∧Y∧Y)∧Y)
    ⟨tt,tt,tt,⟨tt,tt,(by omega),(by omega)⟩,tt,⟨tt,tt,tt⟩,tt⟩ ?_
   refine W.if' (eqS x (l.getD i default)) (.b (eqS x (l.getD i default))) (by kernel_rfl) rfl trivial ?_ ?_
   ·intro h16
    refine Kk cok tab50 hnt [] [4] (⟨[(4,.i ((i:Nat):Int))],[],[999]⟩)
     (Y∧Y∧Y)
     ⟨tt,tt,tt⟩ ?_
    refine W.ret (blockQ_ret (thenQ_ret (thenQ_ret (blockQ_ret (thenQ_ret ?_)))))
    exact endQ_ret (.i ((i:Nat):Int)) (by kernel_rfl) (@cast ((.int .i64 ((i:Nat):Int):Value)=.int .i64 (firstI l.length (fun jj=>eqS x (l.getD jj default)))) _ (by kernel_rfl) (congrArg (Value.int .i64) (by exact (firstI_yes (by omega) h16 hA).symm)))
   ·intro n16
    refine W.skip (blockQ_normal (thenQ_normal ?_))
    refine Lk cok tab50 hnt [] (⟨[(0,.sl (.strs l)),(1,.v (.string x)),(5,.i ((i:Nat):Int)),(7,.i (l.length:Int)),(8,.i (((i+1):Nat):Int)),(16,.b (eqS x (l.getD i default))),(18,.i (((i+1):Nat):Int))],[],[999]⟩)
     ((Y∧Y∧(Fits .i64 (((i+1):Nat):Int)))∧Y∧Y)
     ⟨⟨tt,tt,(by exact fits_i64 (by omega) (by omega))⟩,tt,tt⟩ ?_
    refine thenQ_normal ?_
    refine ⟨((i+1)),(show ((i+1)≤l.length)∧(∀ jj,jj<(i+1)→(eqS x (l.getD jj default))=false) from ⟨(by first | assumption | omega | rfl | (intro _ hjj; omega) | (simp; done) | (simp; omega)),(by exact upto_succ hA n16)⟩),(show l.length - (i+1)<l.length - i from (by first | omega | (simp_all; omega))),?_⟩
    exact Sub.of [] (@cast (((Sd (.strs l))∧(((.string x):Value)=(.string x))∧(Si (l.length:Int))∧(Si (((i+1):Nat):Int))∧Y)∧Y∧(true=true)∧(true=true)) _ (by kernel_rfl) ⟨⟨rfl,rfl,rfl,rfl,tt⟩,tt,rfl,rfl⟩)
  ·intro n9
   refine W.exit (thenQ_exit (thenQ_exit (blockQ_hit ?_)))
   refine thenQ_normal ?_
   refine Kk cok tab50 hnt [] [4] (⟨[(4,.i (-1:Int))],[],[999]⟩)
    (Y∧Y)
    ⟨tt,tt⟩ ?_
   refine W.ret ?_
   exact endQ_ret (.i (-1:Int)) (by kernel_rfl) (@cast ((.int .i64 (-1:Int):Value)=.int .i64 (firstI l.length (fun jj=>eqS x (l.getD jj default)))) _ (by kernel_rfl) (congrArg (Value.int .i64) (by exact (firstI_no (fun j hj=>hA j (by omega))).symm)))
theorem ent50 : Entr prog 50 := ⟨_,func50,rfl,by decide⟩
end Go.Proofs.Tryz

set_option linter.unusedSimpArgs false
set_option linter.unusedVariables false
namespace Go.Proofs.Tryz
open Go.Ab Go.RowKit
def fs30 : FnS := fnS [.s .strs,.o] [.strs,.str] (fun _ (l,x,_)=>(.b (hasS l x),[],Y))
abbrev T30 : Tab := lk [(50,fs50)]
theorem tab30 : TabOK prog T30 := (TabOK.cons ok50 ent50 TabOK.nil)
theorem ok30 : FnOK prog 30 fs30 := by
 refine FnOK.mk cok func30 rfl rfl rfl ?_
 rintro fl ⟨(l : List ByteArray),(x:ByteArray),_⟩ hpre F hnt0 _
 have hnt : F.nt=9 := hnt0.trans ntmps30
 clear hpre
 refine W.to (⟨[(0,.sl (.strs l)),(1,.v (.string x))],[],[999]⟩) rfl ?_
 refine W.lenOf 0 (.strs l) (by kernel_rfl) ?_
 intro hl_l; replace hl_l : List.length l≤9223372036854775807 := hl_l
 refine Kk cok tab30 hnt [] [0,1] (⟨[(0,.sl (.strs l)),(1,.v (.string x))],[],[999]⟩)
  (Y∧Y)
  ⟨tt,tt⟩ ?_
 refine Kk cok tab30 hnt [] [4] (⟨[(4,.b (decide ((0:Int)≤(firstI l.length (fun jj=>eqS x (l.getD jj default))))))],[],[999]⟩)
  (Y∧Y∧(Y∧(Y∧Y∧Y)∧Y)∧(Y∧Y∧Y)∧Y∧Y)
  ⟨tt,tt,⟨tt,⟨tt,tt,tt⟩,tt⟩,⟨tt,tt,tt⟩,tt,tt⟩ ?_
 refine W.ret ?_
 exact endQ_ret (.b (decide ((0:Int)≤(firstI l.length (fun jj=>eqS x (l.getD jj default)))))) (by kernel_rfl) (@cast ((.bool (decide ((0:Int)≤(firstI l.length (fun jj=>eqS x (l.getD jj default))))):Value)=.bool (hasS l x)) _ (by kernel_rfl) (congrArg Value.bool (by exact firstI_has _ _)))
theorem ent30 : Entr prog 30 := ⟨_,func30,rfl,by decide⟩
end Go.Proofs.Tryz

set_option linter.unusedSimpArgs false
set_option linter.unusedVariables false
namespace Go.Proofs.Tryz
open Go.Ab Go.RowKit Go.Shelf Go.Proofs Go.Lib
def fs92 : FnS := fnS [.o,.o] [.str,.str] (fun _ (s,sep,_)=>(.i (idxB s sep),[],(sep.size=1)))
def renL : Go.Shelf.Ren := ⟨fun k=>bif Nat.beq k 217 then 94 else bif Nat.beq k 219 then 92 else bif Nat.beq k 224 then 109 else bif Nat.beq k 225 then 108 else bif Nat.beq k 266 then 111 else bif Nat.beq k 267 then 110 else bif Nat.beq k 314 then 127 else k,fun k=>bif Nat.beq k 3 then 3 else bif Nat.beq k 4 then 4 else bif Nat.beq k 5 then 5 else bif Nat.beq k 9 then 9 else bif Nat.beq k 46 then 89 else bif Nat.beq k 51 then 121 else bif Nat.beq k 146 then 129 else k,fun k=>bif Nat.beq k 1 then 0 else k⟩
set_option maxRecDepth 100000 in
theorem laysL : Go.Proofs.Lays.n219 prog renL where
 mixed := by kernel_rfl
 f217 := by kernel_rfl
 f219 := by kernel_rfl
 f224 := by kernel_rfl
 f225 := by kernel_rfl
 f266 := by kernel_rfl
 f267 := by kernel_rfl
 f314 := by kernel_rfl
 t3 := underlying3
 a3 := isAgg3
 z3 := sizeOf3
 v3 := zeroValue3
 t4 := underlying4
 a4 := isAgg4
 z4 := sizeOf4
 v4 := zeroValue4
 t5 := underlying5
 a5 := isAgg5
 z5 := sizeOf5
 v5 := zeroValue5
 t9 := underlying9
 a9 := isAgg9
 z9 := sizeOf9
 v9 := zeroValue9
 t46 := underlying89
 a46 := isAgg89
 z46 := sizeOf89
 v46 := zeroValue89
 t51 := underlying121
 a51 := isAgg121
 z51 := sizeOf121
 v51 := zeroValue121
 t146 := underlying129
 a146 := isAgg129
 z146 := sizeOf129
 v146 := zeroValue129
 g1 := by kernel_rfl
theorem ok92 : FnOK prog 92 fs92 := lindex_ok laysL
theorem ent92 : Entr prog 92 := ⟨_,func92,rfl,by decide⟩
end Go.Proofs.Tryz

set_option linter.unusedSimpArgs false
set_option linter.unusedVariables false
namespace Go.Proofs.Tryz
open Go.Ab Go.RowKit
def fs93 : FnS := fnS [.o,.o] [.str,.str] (fun _ (s,sep,_)=>(.tup [.v (.string (cutB1 s sep)),.v (.string (cutB2 s sep)),.b (decide (0≤idxB s sep))],[],(sep.size=1)∧(s.size≤2000000)))
abbrev T93 : Tab := lk [(92,fs92)]
theorem tab93 : TabOK prog T93 := (TabOK.cons ok92 ent92 TabOK.nil)
theorem ok93 : FnOK prog 93 fs93 := by
 refine FnOK.mk cok func93 rfl rfl rfl ?_
 rintro fl ⟨(s:ByteArray),(sep:ByteArray),_⟩ hpre F hnt0 _
 have hnt : F.nt=23 := hnt0.trans ntmps93
 replace hpre : (sep.size=1)∧(s.size≤2000000) := hpre
 obtain ⟨hs,hz⟩ := hpre
 refine W.to (⟨[(0,.v (.string s)),(1,.v (.string sep))],[],[999]⟩) rfl ?_
 have hb := idx_bnd s sep
 refine Kk cok tab93 hnt [] [0,1] (⟨[(0,.v (.string s)),(1,.v (.string sep))],[],[999]⟩)
  (Y∧Y∧Y∧Y)
  ⟨tt,tt,tt,tt⟩ ?_
 refine W.seq ?_
 refine Kk cok tab93 hnt [] [0,1,7] (⟨[(0,.v (.string s)),(1,.v (.string sep)),(7,.i (idxB s sep))],[],[999]⟩)
  (Y∧Y∧(Y∧(Y∧Y∧Y)∧(sep.size=1))∧Y∧Y)
  ⟨tt,tt,⟨tt,⟨tt,tt,tt⟩,(by exact hs)⟩,tt,tt⟩ ?_
 refine Kk cok tab93 hnt [] [0,1,7,12] (⟨[(0,.v (.string s)),(1,.v (.string sep)),(7,.i (idxB s sep)),(12,.b (decide ((0:Int)≤(idxB s sep))))],[],[999]⟩)
  (Y∧(Y∧Y∧Y)∧Y)
  ⟨tt,⟨tt,tt,tt⟩,tt⟩ ?_
 refine W.ifP ((0:Int)≤(idxB s sep)) (.b (decide ((0:Int)≤(idxB s sep)))) (by kernel_rfl) rfl trivial ?_ ?_
 ·intro h12
  refine W.KA cok tab93 hnt [] [4,5,6] (⟨[(4,.v (.string (s.extract 0 (Int.toNat (idxB s sep))))),(5,.v (.string (s.extract (Int.toNat ((idxB s sep)+((sep.size:Nat):Int))) s.size))),(6,.b true)],[],[999]⟩)
   (Y∧Y∧(Y∧Y∧Y∧(0≤(0:Int))∧((0:Int)≤(idxB s sep))∧((idxB s sep)≤((s.size:Nat):Int)))∧Y∧Y∧Y∧Y∧(Y∧Y∧(Fits .i64 ((idxB s sep)+((sep.size:Nat):Int))))∧(Y∧Y∧Y∧(0≤((idxB s sep)+((sep.size:Nat):Int)))∧(((idxB s sep)+((sep.size:Nat):Int))≤((s.size:Nat):Int))∧(((s.size:Nat):Int)≤((s.size:Nat):Int)))∧Y∧Y∧Y∧Y) (by kernel_rfl) (by kernel_rfl)
   ⟨tt,tt,⟨tt,tt,tt,(by omega),(by omega),(by omega)⟩,tt,tt,tt,tt,⟨tt,tt,(by exact fits_i64 (by omega) (by omega))⟩,⟨tt,tt,tt,(by omega),(by omega),(by omega)⟩,tt,tt,tt,tt⟩ ?_
  refine W.ret (thenQ_ret ?_)
  exact endQ_ret (.tup [.v (.string (s.extract 0 (Int.toNat (idxB s sep)))),.v (.string (s.extract (Int.toNat ((idxB s sep)+((sep.size:Nat):Int))) s.size)),.b true]) (by kernel_rfl) (@cast ((((.string (s.extract 0 (Int.toNat (idxB s sep)))):Value)=(.string (cutB1 s sep)))∧(((.string (s.extract (Int.toNat ((idxB s sep)+((sep.size:Nat):Int))) s.size)):Value)=(.string (cutB2 s sep)))∧((.bool true:Value)=.bool (decide (0≤idxB s sep)))∧Y) _ (by kernel_rfl) ⟨(congrArg Value.string (by first | exact cut_yes1 h12 | exact cut_yes2 hs h12 | exact (decide_eq_true h12).symm)),(congrArg Value.string (by first | exact cut_yes1 h12 | exact cut_yes2 hs h12 | exact (decide_eq_true h12).symm)),(congrArg Value.bool (by first | exact cut_yes1 h12 | exact cut_yes2 hs h12 | exact (decide_eq_true h12).symm)),tt⟩)
 ·intro n12
  refine W.skip (thenQ_normal ?_)
  refine Kk cok tab93 hnt [] [4,5,6] (⟨[(4,.v (.string s)),(5,.v (.string nEmpty)),(6,.b false)],[],[999]⟩)
   (Y∧Y∧Y∧Y∧Y)
   ⟨tt,tt,tt,tt,tt⟩ ?_
  refine W.ret ?_
  exact endQ_ret (.tup [.v (.string s),.v (.string nEmpty),.b false]) (by kernel_rfl) (@cast ((((.string s):Value)=(.string (cutB1 s sep)))∧(((.string nEmpty):Value)=(.string (cutB2 s sep)))∧((.bool false:Value)=.bool (decide (0≤idxB s sep)))∧Y) _ (by kernel_rfl) ⟨(congrArg Value.string (by first | exact cut_no1 n12 | exact cut_no2 n12 | exact (decide_eq_false n12).symm)),(congrArg Value.string (by first | exact cut_no1 n12 | exact cut_no2 n12 | exact (decide_eq_false n12).symm)),(congrArg Value.bool (by first | exact cut_no1 n12 | exact cut_no2 n12 | exact (decide_eq_false n12).symm)),tt⟩)
theorem ent93 : Entr prog 93 := ⟨_,func93,rfl,by decide⟩
end Go.Proofs.Tryz

set_option linter.unusedSimpArgs false
set_option linter.unusedVariables false
namespace Go.Proofs.Tryz
open Go.Ab Go.RowKit
def fs71 : FnS := fnS [.o,.o] [.str,.str] (fun _ (s,sep,_)=>(.tup [.v (.string (cutB1 s sep)),.v (.string (cutB2 s sep)),.b (decide (0≤idxB s sep))],[],(sep.size=1)∧(s.size≤2000000)))
abbrev T71 : Tab := lk [(93,fs93)]
theorem tab71 : TabOK prog T71 := (TabOK.cons ok93 ent93 TabOK.nil)
theorem ok71 : FnOK prog 71 fs71 := by
 refine FnOK.mk cok func71 rfl rfl rfl ?_
 rintro fl ⟨(s:ByteArray),(sep:ByteArray),_⟩ hpre F hnt0 _
 have hnt : F.nt=13 := hnt0.trans ntmps71
 replace hpre : (sep.size=1)∧(s.size≤2000000) := hpre
 obtain ⟨hs,hz⟩ := hpre
 refine W.to (⟨[(0,.v (.string s)),(1,.v (.string sep))],[],[999]⟩) rfl ?_
 refine Kk cok tab71 hnt [] [0,1] (⟨[(0,.v (.string s)),(1,.v (.string sep))],[],[999]⟩)
  (Y∧Y∧Y∧Y)
  ⟨tt,tt,tt,tt⟩ ?_
 refine Kk cok tab71 hnt [] [4,5,6] (⟨[(4,.v (.string (cutB1 s sep))),(5,.v (.string (cutB2 s sep))),(6,.b (decide (0≤idxB s sep)))],[],[999]⟩)
  (Y∧Y∧(Y∧(Y∧Y∧Y)∧(sep.size=1)∧(s.size≤2000000))∧Y∧Y∧Y∧Y∧Y∧Y∧Y)
  ⟨tt,tt,⟨tt,⟨tt,tt,tt⟩,(by omega),(by omega)⟩,tt,tt,tt,tt,tt,tt,tt⟩ ?_
 refine W.ret ?_
 exact endQ_ret (.tup [.v (.string (cutB1 s sep)),.v (.string (cutB2 s sep)),.b (decide (0≤idxB s sep))]) (by kernel_rfl) (@cast ((((.string (cutB1 s sep)):Value)=(.string (cutB1 s sep)))∧(((.string (cutB2 s sep)):Value)=(.string (cutB2 s sep)))∧(Sv (.bool (decide (0≤idxB s sep))))∧Y) _ (by kernel_rfl) ⟨rfl,rfl,rfl,tt⟩)
theorem ent71 : Entr prog 71 := ⟨_,func71,rfl,by decide⟩
end Go.Proofs.Tryz

set_option linter.unusedSimpArgs false
set_option linter.unusedVariables false
namespace Go.Proofs.Tryz
open Go.Ab Go.RowKit Go.Shelf Go.Proofs Go.Lib
def fs72 : FnS := fnS [.o,.o] [.str,.u8] (fun _ (s,c,_)=>(.i (Lib.indexByte s.data.toList (Int.toNat c).toUInt8),[],Y))
def renB : Go.Shelf.Ren := ⟨fun k=>bif Nat.beq k 137 then 72 else bif Nat.beq k 217 then 94 else bif Nat.beq k 266 then 111 else k,fun k=>bif Nat.beq k 3 then 3 else bif Nat.beq k 5 then 5 else bif Nat.beq k 9 then 9 else k,fun k=>k⟩
set_option maxRecDepth 100000 in
theorem laysB : Go.Proofs.Lays.n137 prog renB where
 mixed := by kernel_rfl
 f137 := by kernel_rfl
 f217 := by kernel_rfl
 f266 := by kernel_rfl
 t3 := underlying3
 a3 := isAgg3
 z3 := sizeOf3
 v3 := zeroValue3
 t5 := underlying5
 a5 := isAgg5
 z5 := sizeOf5
 v5 := zeroValue5
 t9 := underlying9
 a9 := isAgg9
 z9 := sizeOf9
 v9 := zeroValue9
theorem ok72 : FnOK prog 72 fs72 := indexByte_ok laysB
theorem ent72 : Entr prog 72 := ⟨_,func72,rfl,by decide⟩
end Go.Proofs.Tryz

set_option linter.unusedSimpArgs false
set_option linter.unusedVariables false
namespace Go.Proofs.Tryz
open Go.Ab Go.RowKit Go.Shelf Go.Proofs Go.Lib
def fs73 : FnS := fnS [.o] [.str] (fun _ (s,_)=>(.tup [.i (atoiV s.data.toList),.any],[],(s.size≤2000000)))
def renA : Go.Shelf.Ren := ⟨fun k=>bif Nat.beq k 129 then 123 else bif Nat.beq k 171 then 36 else bif Nat.beq k 172 then 73 else bif Nat.beq k 205 then 130 else bif Nat.beq k 243 then 58 else bif Nat.beq k 244 then 95 else bif Nat.beq k 245 then 96 else bif Nat.beq k 246 then 84 else bif Nat.beq k 247 then 112 else bif Nat.beq k 279 then 113 else bif Nat.beq k 280 then 114 else bif Nat.beq k 281 then 115 else bif Nat.beq k 282 then 116 else bif Nat.beq k 283 then 103 else bif Nat.beq k 284 then 104 else bif Nat.beq k 285 then 105 else bif Nat.beq k 286 then 106 else bif Nat.beq k 287 then 128 else bif Nat.beq k 316 then 129 else bif Nat.beq k 317 then 122 else bif Nat.beq k 318 then 124 else bif Nat.beq k 319 then 125 else bif Nat.beq k 320 then 126 else bif Nat.beq k 321 then 137 else bif Nat.beq k 322 then 138 else bif Nat.beq k 337 then 135 else bif Nat.beq k 338 then 136 else k,fun k=>bif Nat.beq k 0 then 0 else bif Nat.beq k 2 then 2 else bif Nat.beq k 3 then 3 else bif Nat.beq k 4 then 4 else bif Nat.beq k 5 then 5 else bif Nat.beq k 9 then 9 else bif Nat.beq k 20 then 20 else bif Nat.beq k 21 then 21 else bif Nat.beq k 37 then 28 else bif Nat.beq k 46 then 89 else bif Nat.beq k 51 then 121 else bif Nat.beq k 53 then 106 else bif Nat.beq k 75 then 81 else bif Nat.beq k 76 then 82 else bif Nat.beq k 80 then 102 else bif Nat.beq k 85 then 112 else bif Nat.beq k 127 then 117 else bif Nat.beq k 143 then 143 else bif Nat.beq k 145 then 145 else bif Nat.beq k 167 then 111 else bif Nat.beq k 168 then 114 else bif Nat.beq k 171 then 105 else bif Nat.beq k 173 then 109 else bif Nat.beq k 175 then 131 else bif Nat.beq k 210 then 134 else bif Nat.beq k 212 then 120 else bif Nat.beq k 213 then 122 else bif Nat.beq k 232 then 146 else bif Nat.beq k 233 then 147 else k,fun k=>bif Nat.beq k 15 then 4 else bif Nat.beq k 16 then 5 else bif Nat.beq k 17 then 1 else bif Nat.beq k 18 then 6 else bif Nat.beq k 19 then 7 else k⟩
set_option maxRecDepth 100000 in
theorem laysA : Go.Proofs.LaysC.n172 prog renA where
 mixed := by kernel_rfl
 f129 := by kernel_rfl
 f171 := by kernel_rfl
 f172 := by kernel_rfl
 f205 := by kernel_rfl
 f243 := by kernel_rfl
 f244 := by kernel_rfl
 f245 := by kernel_rfl
 f246 := by kernel_rfl
 f247 := by kernel_rfl
 f279 := by kernel_rfl
 f280 := by kernel_rfl
 f281 := by kernel_rfl
 f282 := by kernel_rfl
 f283 := by kernel_rfl
 f284 := by kernel_rfl
 f285 := by kernel_rfl
 f286 := by kernel_rfl
 f287 := by kernel_rfl
 f316 := by kernel_rfl
 f317 := by kernel_rfl
 f318 := by kernel_rfl
 f319 := by kernel_rfl
 f320 := by kernel_rfl
 f321 := by kernel_rfl
 f322 := by kernel_rfl
 f337 := by kernel_rfl
 f338 := by kernel_rfl
 t0 := underlying0
 a0 := isAgg0
 z0 := sizeOf0
 v0 := zeroValue0
 t2 := underlying2
 a2 := isAgg2
 z2 := sizeOf2
 v2 := zeroValue2
 t3 := underlying3
 a3 := isAgg3
 z3 := sizeOf3
 v3 := zeroValue3
 t4 := underlying4
 a4 := isAgg4
 z4 := sizeOf4
 v4 := zeroValue4
 t5 := underlying5
 a5 := isAgg5
 z5 := sizeOf5
 v5 := zeroValue5
 t9 := underlying9
 a9 := isAgg9
 z9 := sizeOf9
 v9 := zeroValue9
 t20 := underlying20
 a20 := isAgg20
 z20 := sizeOf20
 v20 := zeroValue20
 t21 := underlying21
 a21 := isAgg21
 z21 := sizeOf21
 v21 := zeroValue21
 t37 := underlying28
 a37 := isAgg28
 z37 := sizeOf28
 v37 := zeroValue28
 t46 := underlying89
 a46 := isAgg89
 z46 := sizeOf89
 v46 := zeroValue89
 t51 := underlying121
 a51 := isAgg121
 z51 := sizeOf121
 v51 := zeroValue121
 t53 := underlying106
 a53 := isAgg106
 z53 := sizeOf106
 v53 := zeroValue106
 t75 := underlying81
 a75 := isAgg81
 z75 := sizeOf81
 v75 := zeroValue81
 t76 := underlying82
 a76 := isAgg82
 z76 := sizeOf82
 v76 := zeroValue82
 t85 := underlying112
 a85 := isAgg112
 z85 := sizeOf112
 v85 := zeroValue112
 t127 := underlying117
 a127 := isAgg117
 z127 := sizeOf117
 v127 := zeroValue117
 t143 := underlying143
 a143 := isAgg143
 z143 := sizeOf143
 v143 := zeroValue143
 t145 := underlying145
 a145 := isAgg145
 z145 := sizeOf145
 v145 := zeroValue145
 t167 := underlying111
 a167 := isAgg111
 z167 := sizeOf111
 v167 := zeroValue111
 t168 := underlying114
 a168 := isAgg114
 z168 := sizeOf114
 v168 := zeroValue114
 t171 := underlying105
 a171 := isAgg105
 z171 := sizeOf105
 v171 := zeroValue105
 t173 := underlying109
 a173 := isAgg109
 z173 := sizeOf109
 v173 := zeroValue109
 t175 := underlying131
 a175 := isAgg131
 z175 := sizeOf131
 v175 := zeroValue131
 t210 := underlying134
 a210 := isAgg134
 z210 := sizeOf134
 v210 := zeroValue134
 t212 := underlying120
 a212 := isAgg120
 z212 := sizeOf120
 v212 := zeroValue120
 t213 := underlying122
 a213 := isAgg122
 z213 := sizeOf122
 t232 := underlying146
 a232 := isAgg146
 z232 := sizeOf146
 v232 := zeroValue146
 t233 := underlying147
 a233 := isAgg147
 z233 := sizeOf147
 v233 := zeroValue147
 g15 := by kernel_rfl
 g16 := by kernel_rfl
 g17 := by kernel_rfl
 g18 := by kernel_rfl
 g19 := by kernel_rfl
 t80 := underlying102
 a80 := isAgg102
 z80 := sizeOf102
 v80 := zeroValue102
 i0 := by kernel_rfl
 i2 := by kernel_rfl
 i3 := by kernel_rfl
 i4 := by kernel_rfl
 i5 := by kernel_rfl
 i9 := by kernel_rfl
 i20 := by kernel_rfl
 i21 := by kernel_rfl
 i37 := by kernel_rfl
 i46 := by kernel_rfl
 i51 := by kernel_rfl
 i53 := by kernel_rfl
 i75 := by kernel_rfl
 i76 := by kernel_rfl
 i80 := by kernel_rfl
 i85 := by kernel_rfl
 i127 := by kernel_rfl
 i143 := by kernel_rfl
 i145 := by kernel_rfl
 i167 := by kernel_rfl
 i168 := by kernel_rfl
 i171 := by kernel_rfl
 i173 := by kernel_rfl
 i175 := by kernel_rfl
 i210 := by kernel_rfl
 i212 := by kernel_rfl
 i232 := by kernel_rfl
 i233 := by kernel_rfl
 m15 := by kernel_rfl
 m16 := by kernel_rfl
 m17 := by kernel_rfl
 m18 := by kernel_rfl
 m19 := by kernel_rfl
 c0 := by kernel_rfl
 c2 := by kernel_rfl
 c3 := by kernel_rfl
 c4 := by kernel_rfl
 c5 := by kernel_rfl
 c9 := by kernel_rfl
 c20 := by kernel_rfl
 c21 := by kernel_rfl
 c37 := by kernel_rfl
 c46 := by kernel_rfl
 c51 := by kernel_rfl
 c53 := by kernel_rfl
 c75 := by kernel_rfl
 c76 := by kernel_rfl
 c80 := by kernel_rfl
 c85 := by kernel_rfl
 c127 := by kernel_rfl
 c143 := by kernel_rfl
 c145 := by kernel_rfl
 c167 := by kernel_rfl
 c168 := by kernel_rfl
 c171 := by kernel_rfl
 c173 := by kernel_rfl
 c175 := by kernel_rfl
 c210 := by kernel_rfl
 c212 := by kernel_rfl
 c213 := by kernel_rfl
 c232 := by kernel_rfl
 c233 := by kernel_rfl
theorem ok73 : FnOK prog 73 fs73 := atoi_ok laysA (by decide) (by decide)
theorem ent73 : Entr prog 73 := ⟨_,func73,rfl,by decide⟩
end Go.Proofs.Tryz

set_option linter.unusedSimpArgs false
set_option linter.unusedVariables false
namespace Go.Proofs.Tryz
open Go.Ab Go.RowKit
def fs51 : FnS := fnS [.o] [.str] (fun _ (w,_)=>(.agg [.i ((readI w.data.toList).proc),.i ((readI w.data.toList).obj),.i ((readI w.data.toList).kind),.i ((readI w.data.toList).arg),.i ((readI w.data.toList).ret),.i ((readI w.data.toList).frm),.i ((readI w.data.toList).to)],[],(w.size≤2000000)))
abbrev T51 : Tab := lk [(71,fs71),(72,fs72),(73,fs73)]
theorem tab51 : TabOK prog T51 := (TabOK.cons ok71 ent71 (TabOK.cons ok72 ent72 (TabOK.cons ok73 ent73 TabOK.nil)))
theorem ok51 : FnOK prog 51 fs51 := by
 refine FnOK.mk cok func51 rfl rfl rfl ?_
 rintro fl ⟨(w:ByteArray),_⟩ hpre F hnt0 _
 have hnt : F.nt=70 := hnt0.trans ntmps51
 replace hpre : (w.size≤2000000) := hpre
 have hz := hpre
 refine W.to (⟨[(0,.v (.string w))],[],[999]⟩) rfl ?_
 have c1 := cut_size w (⟨#[61]⟩:ByteArray)
 have c2 := cut_size (cutB2 w (⟨#[61]⟩:ByteArray)) (⟨#[64]⟩:ByteArray)
 have c3 := cut_size (cutB2 (cutB2 w (⟨#[61]⟩:ByteArray)) (⟨#[64]⟩:ByteArray)) (⟨#[45]⟩:ByteArray)
 have hu : ∀ (s:ByteArray) (i:Nat),((UInt8.toNat (List.getD s.data.toList i 0):Nat):Int)≤255 := fun s i=>by have := (List.getD s.data.toList i 0).toNat_lt; omega
 refine Kk cok tab51 hnt [] [0,2] (⟨[(0,.v (.string w)),(2,.ptr 2 0)],[(2,⟨59,.fix [.i (0:Int),.i (0:Int),.i (0:Int),.i (0:Int),.i (0:Int),.i (0:Int),.i (0:Int)]⟩)],[2,999]⟩)
  (Y∧Y)
  ⟨tt,tt⟩ ?_
 refine Kk cok tab51 hnt [] [2,3,4] (⟨[(2,.ptr 2 0),(3,.v (.string (cutB1 w (⟨#[61]⟩:ByteArray)))),(4,.v (.string (cutB2 w (⟨#[61]⟩:ByteArray))))],[(2,⟨59,.fix [.i (0:Int),.i (0:Int),.i (0:Int),.i (0:Int),.i (0:Int),.i (0:Int),.i (0:Int)]⟩)],[2,999]⟩)
  (Y∧(Y∧(Y∧Y∧Y)∧((⟨#[61]⟩:ByteArray).size=1)∧(w.size≤2000000))∧Y∧Y∧Y∧Y∧Y∧Y∧Y∧Y)
  ⟨tt,⟨tt,⟨tt,tt,tt⟩,(by rfl),(by omega)⟩,tt,tt,tt,tt,tt,tt,tt,tt⟩ ?_
 refine Kk cok tab51 hnt [] [2,3,6,7] (⟨[(2,.ptr 2 0),(3,.v (.string (cutB1 w (⟨#[61]⟩:ByteArray)))),(6,.v (.string (cutB1 (cutB2 w (⟨#[61]⟩:ByteArray)) (⟨#[64]⟩:ByteArray)))),(7,.v (.string (cutB2 (cutB2 w (⟨#[61]⟩:ByteArray)) (⟨#[64]⟩:ByteArray))))],[(2,⟨59,.fix [.i (0:Int),.i (0:Int),.i (0:Int),.i (0:Int),.i (0:Int),.i (0:Int),.i (0:Int)]⟩)],[2,999]⟩)
  (Y∧(Y∧(Y∧Y∧Y)∧((⟨#[64]⟩:ByteArray).size=1)∧((cutB2 w (⟨#[61]⟩:ByteArray)).size≤2000000))∧Y∧Y∧Y∧Y∧Y∧Y∧Y∧Y)
  ⟨tt,⟨tt,⟨tt,tt,tt⟩,(by rfl),(by omega)⟩,tt,tt,tt,tt,tt,tt,tt,tt⟩ ?_
 refine Kk cok tab51 hnt [] [2,3,6,9,10] (⟨[(2,.ptr 2 0),(3,.v (.string (cutB1 w (⟨#[61]⟩:ByteArray)))),(6,.v (.string (cutB1 (cutB2 w (⟨#[61]⟩:ByteArray)) (⟨#[64]⟩:ByteArray)))),(9,.v (.string (cutB1 (cutB2 (cutB2 w (⟨#[61]⟩:ByteArray)) (⟨#[64]⟩:ByteArray)) (⟨#[45]⟩:ByteArray)))),(10,.v (.string (cutB2 (cutB2 (cutB2 w (⟨#[61]⟩:ByteArray)) (⟨#[64]⟩:ByteArray)) (⟨#[45]⟩:ByteArray))))],[(2,⟨59,.fix [.i (0:Int),.i (0:Int),.i (0:Int),.i (0:Int),.i (0:Int),.i (0:Int),.i (0:Int)]⟩)],[2,999]⟩)
  (Y∧(Y∧(Y∧Y∧Y)∧((⟨#[45]⟩:ByteArray).size=1)∧((cutB2 (cutB2 w (⟨#[61]⟩:ByteArray)) (⟨#[64]⟩:ByteArray)).size≤2000000))∧Y∧Y∧Y∧Y∧Y∧Y∧Y∧Y)
  ⟨tt,⟨tt,⟨tt,tt,tt⟩,(by rfl),(by omega)⟩,tt,tt,tt,tt,tt,tt,tt,tt⟩ ?_
 refine Kk cok tab51 hnt [] [2,3,6,9,10,12] (⟨[(2,.ptr 2 0),(3,.v (.string (cutB1 w (⟨#[61]⟩:ByteArray)))),(6,.v (.string (cutB1 (cutB2 w (⟨#[61]⟩:ByteArray)) (⟨#[64]⟩:ByteArray)))),(9,.v (.string (cutB1 (cutB2 (cutB2 w (⟨#[61]⟩:ByteArray)) (⟨#[64]⟩:ByteArray)) (⟨#[45]⟩:ByteArray)))),(10,.v (.string (cutB2 (cutB2 (cutB2 w (⟨#[61]⟩:ByteArray)) (⟨#[64]⟩:ByteArray)) (⟨#[45]⟩:ByteArray)))),(12,.ptr 12 0)],[(2,⟨59,.fix [.i (0:Int),.i (0:Int),.i (0:Int),.i (0:Int),.i (0:Int),.i (0:Int),.i (0:Int)]⟩),(12,⟨59,.fix [.i (0:Int),.i (0:Int),.i (0:Int),.i (0:Int),.i (0:Int),.i (0:Int),.i (0:Int)]⟩)],[12,2,999]⟩)
  (Y∧Y∧(Y∧Y)∧Y)
  ⟨tt,tt,⟨tt,tt⟩,tt⟩ ?_
 refine W.seq ?_
 refine Kk cok tab51 hnt [] [2,3,6,9,10,12,34] (⟨[(2,.ptr 2 0),(3,.v (.string (cutB1 w (⟨#[61]⟩:ByteArray)))),(6,.v (.string (cutB1 (cutB2 w (⟨#[61]⟩:ByteArray)) (⟨#[64]⟩:ByteArray)))),(9,.v (.string (cutB1 (cutB2 (cutB2 w (⟨#[61]⟩:ByteArray)) (⟨#[64]⟩:ByteArray)) (⟨#[45]⟩:ByteArray)))),(10,.v (.string (cutB2 (cutB2 (cutB2 w (⟨#[61]⟩:ByteArray)) (⟨#[64]⟩:ByteArray)) (⟨#[45]⟩:ByteArray)))),(12,.ptr 12 0),(34,.b (decide (((((cutB1 w (⟨#[61]⟩:ByteArray)).size):Nat):Int)=(4:Int))))],[(2,⟨59,.fix [.i (0:Int),.i (0:Int),.i (0:Int),.i (0:Int),.i (0:Int),.i (0:Int),.i (0:Int)]⟩),(12,⟨59,.fix [.i (0:Int),.i (0:Int),.i (0:Int),.i (0:Int),.i (0:Int),.i (0:Int),.i (0:Int)]⟩)],[12,2,999]⟩)
  (Y∧Y∧(Y∧Y∧Y)∧Y)
  ⟨tt,tt,⟨tt,tt,tt⟩,tt⟩ ?_
 refine W.ifP (((((cutB1 w (⟨#[61]⟩:ByteArray)).size):Nat):Int)=(4:Int)) (.b (decide (((((cutB1 w (⟨#[61]⟩:ByteArray)).size):Nat):Int)=(4:Int)))) (by kernel_rfl) rfl trivial ?_ ?_
 ·intro h34
  have hu0 := hu (cutB1 w (⟨#[61]⟩:ByteArray)) 0
  have hu1 := hu (cutB1 w (⟨#[61]⟩:ByteArray)) 1
  have hu3 := hu (cutB1 w (⟨#[61]⟩:ByteArray)) 3
  obtain ⟨_,_,_,_,_,_,_⟩ := cd_eta _ _ _ _ _ _ _ _ (ri_four (w := w) (sep1 := (⟨#[61]⟩:ByteArray)) (sep2 := (⟨#[64]⟩:ByteArray)) (sep3 := (⟨#[45]⟩:ByteArray)) rfl rfl rfl h34)
  refine W.LA cok tab51 hnt [] (⟨[(2,.ptr 2 0),(3,.v (.string (cutB1 w (⟨#[61]⟩:ByteArray)))),(6,.v (.string (cutB1 (cutB2 w (⟨#[61]⟩:ByteArray)) (⟨#[64]⟩:ByteArray)))),(9,.v (.string (cutB1 (cutB2 (cutB2 w (⟨#[61]⟩:ByteArray)) (⟨#[64]⟩:ByteArray)) (⟨#[45]⟩:ByteArray)))),(10,.v (.string (cutB2 (cutB2 (cutB2 w (⟨#[61]⟩:ByteArray)) (⟨#[64]⟩:ByteArray)) (⟨#[45]⟩:ByteArray)))),(12,.ptr 12 0),(34,.b (decide (((((cutB1 w (⟨#[61]⟩:ByteArray)).size):Nat):Int)=(4:Int)))),(35,.v (.string (cutB1 w (⟨#[61]⟩:ByteArray)))),(36,.v (.int .u8 (((UInt8.toNat (List.getD (cutB1 w (⟨#[61]⟩:ByteArray)).data.toList 0 0)):Nat):Int))),(37,.i (((UInt8.toNat (List.getD (cutB1 w (⟨#[61]⟩:ByteArray)).data.toList 0 0)):Nat):Int)),(38,.i ((((UInt8.toNat (List.getD (cutB1 w (⟨#[61]⟩:ByteArray)).data.toList 0 0)):Nat):Int) - (48:Int))),(39,.v (.string (cutB1 w (⟨#[61]⟩:ByteArray)))),(40,.v (.int .u8 (((UInt8.toNat (List.getD (cutB1 w (⟨#[61]⟩:ByteArray)).data.toList 1 0)):Nat):Int))),(41,.i (((UInt8.toNat (List.getD (cutB1 w (⟨#[61]⟩:ByteArray)).data.toList 1 0)):Nat):Int)),(42,.i ((((UInt8.toNat (List.getD (cutB1 w (⟨#[61]⟩:ByteArray)).data.toList 1 0)):Nat):Int) - (120:Int))),(43,.v (.string (cutB1 w (⟨#[61]⟩:ByteArray)))),(44,.v (.int .u8 (((UInt8.toNat (List.getD (cutB1 w (⟨#[61]⟩:ByteArray)).data.toList 2 0)):Nat):Int))),(45,.i (Lib.indexByte (⟨#[112,116,108]⟩:ByteArray).data.toList (Int.toNat (((UInt8.toNat (List.getD (cutB1 w (⟨#[61]⟩:ByteArray)).data.toList 2 0)):Nat):Int)).toUInt8)),(46,.v (.string (cutB1 w (⟨#[61]⟩:ByteArray)))),(47,.v (.int .u8 (((UInt8.toNat (List.getD (cutB1 w (⟨#[61]⟩:ByteArray)).data.toList 3 0)):Nat):Int))),(48,.i (((UInt8.toNat (List.getD (cutB1 w (⟨#[61]⟩:ByteArray)).data.toList 3 0)):Nat):Int)),(49,.i ((((UInt8.toNat (List.getD (cutB1 w (⟨#[61]⟩:ByteArray)).data.toList 3 0)):Nat):Int) - (48:Int))),(50,.agg [.i ((((UInt8.toNat (List.getD (cutB1 w (⟨#[61]⟩:ByteArray)).data.toList 0 0)):Nat):Int) - (48:Int)),.i ((((UInt8.toNat (List.getD (cutB1 w (⟨#[61]⟩:ByteArray)).data.toList 1 0)):Nat):Int) - (120:Int)),.i (Lib.indexByte (⟨#[112,116,108]⟩:ByteArray).data.toList (Int.toNat (((UInt8.toNat (List.getD (cutB1 w (⟨#[61]⟩:ByteArray)).data.toList 2 0)):Nat):Int)).toUInt8),.i ((((UInt8.toNat (List.getD (cutB1 w (⟨#[61]⟩:ByteArray)).data.toList 3 0)):Nat):Int) - (48:Int)),.i (0:Int),.i (0:Int),.i (0:Int)])],[(2,⟨59,.fix [.i (0:Int),.i (0:Int),.i (0:Int),.i (0:Int),.i (0:Int),.i (0:Int),.i (0:Int)]⟩),(12,⟨59,.fix [.i ((((UInt8.toNat (List.getD (cutB1 w (⟨#[61]⟩:ByteArray)).data.toList 0 0)):Nat):Int) - (48:Int)),.i ((((UInt8.toNat (List.getD (cutB1 w (⟨#[61]⟩:ByteArray)).data.toList 1 0)):Nat):Int) - (120:Int)),.i (Lib.indexByte (⟨#[112,116,108]⟩:ByteArray).data.toList (Int.toNat (((UInt8.toNat (List.getD (cutB1 w (⟨#[61]⟩:ByteArray)).data.toList 2 0)):Nat):Int)).toUInt8),.i ((((UInt8.toNat (List.getD (cutB1 w (⟨#[61]⟩:ByteArray)).data.toList 3 0)):Nat):Int) - (48:Int)),.i (0:Int),.i (0:Int),.i (0:Int)]⟩)],[12,2,999]⟩)
   (Y∧(Y∧Y∧(0≤(0:Int))∧((0:Int)<(((cutB1 w (⟨#[61]⟩:ByteArray)).size:Nat):Int)))∧(Y∧(Fits .i64 (((UInt8.toNat (List.getD (cutB1 w (⟨#[61]⟩:ByteArray)).data.toList 0 0)):Nat):Int)))∧(Y∧Y∧(Fits .i64 ((((UInt8.toNat (List.getD (cutB1 w (⟨#[61]⟩:ByteArray)).data.toList 0 0)):Nat):Int) - (48:Int))))∧Y∧(Y∧Y∧(0≤(1:Int))∧((1:Int)<(((cutB1 w (⟨#[61]⟩:ByteArray)).size:Nat):Int)))∧(Y∧(Fits .i64 (((UInt8.toNat (List.getD (cutB1 w (⟨#[61]⟩:ByteArray)).data.toList 1 0)):Nat):Int)))∧(Y∧Y∧(Fits .i64 ((((UInt8.toNat (List.getD (cutB1 w (⟨#[61]⟩:ByteArray)).data.toList 1 0)):Nat):Int) - (120:Int))))∧Y∧(Y∧Y∧(0≤(2:Int))∧((2:Int)<(((cutB1 w (⟨#[61]⟩:ByteArray)).size:Nat):Int)))∧(Y∧(Y∧Y∧Y)∧Y)∧Y∧(Y∧Y∧(0≤(3:Int))∧((3:Int)<(((cutB1 w (⟨#[61]⟩:ByteArray)).size:Nat):Int)))∧(Y∧(Fits .i64 (((UInt8.toNat (List.getD (cutB1 w (⟨#[61]⟩:ByteArray)).data.toList 3 0)):Nat):Int)))∧(Y∧Y∧(Fits .i64 ((((UInt8.toNat (List.getD (cutB1 w (⟨#[61]⟩:ByteArray)).data.toList 3 0)):Nat):Int) - (48:Int))))∧(Y∧Y∧Y∧Y∧Y)∧(Y∧Y)∧Y) (by kernel_rfl) (by kernel_rfl)
   ⟨tt,⟨tt,tt,(by omega),(by omega)⟩,⟨tt,(by exact fits_i64 (by omega) (by omega))⟩,⟨tt,tt,(by exact fits_i64 (by omega) (by omega))⟩,tt,⟨tt,tt,(by omega),(by omega)⟩,⟨tt,(by exact fits_i64 (by omega) (by omega))⟩,⟨tt,tt,(by exact fits_i64 (by omega) (by omega))⟩,tt,⟨tt,tt,(by omega),(by omega)⟩,⟨tt,⟨tt,tt,tt⟩,tt⟩,tt,⟨tt,tt,(by omega),(by omega)⟩,⟨tt,(by exact fits_i64 (by omega) (by omega))⟩,⟨tt,tt,(by exact fits_i64 (by omega) (by omega))⟩,⟨tt,tt,tt,tt,tt⟩,⟨tt,tt⟩,tt⟩ ?_
  refine thenQ_normal ?_
  refine Kk cok tab51 hnt [] [2,9,10,12] (⟨[(2,.ptr 2 0),(9,.v (.string (cutB1 (cutB2 (cutB2 w (⟨#[61]⟩:ByteArray)) (⟨#[64]⟩:ByteArray)) (⟨#[45]⟩:ByteArray)))),(10,.v (.string (cutB2 (cutB2 (cutB2 w (⟨#[61]⟩:ByteArray)) (⟨#[64]⟩:ByteArray)) (⟨#[45]⟩:ByteArray)))),(12,.ptr 12 0)],[(2,⟨59,.fix [.i (0:Int),.i (0:Int),.i (0:Int),.i (0:Int),.i (0:Int),.i (0:Int),.i (0:Int)]⟩),(12,⟨59,.fix [.i ((((UInt8.toNat (List.getD (cutB1 w (⟨#[61]⟩:ByteArray)).data.toList 0 0)):Nat):Int) - (48:Int)),.i ((((UInt8.toNat (List.getD (cutB1 w (⟨#[61]⟩:ByteArray)).data.toList 1 0)):Nat):Int) - (120:Int)),.i (Lib.indexByte (⟨#[112,116,108]⟩:ByteArray).data.toList (Int.toNat (((UInt8.toNat (List.getD (cutB1 w (⟨#[61]⟩:ByteArray)).data.toList 2 0)):Nat):Int)).toUInt8),.i ((((UInt8.toNat (List.getD (cutB1 w (⟨#[61]⟩:ByteArray)).data.toList 3 0)):Nat):Int) - (48:Int)),.i (atoiV (cutB1 (cutB2 w (⟨#[61]⟩:ByteArray)) (⟨#[64]⟩:ByteArray)).data.toList),.i (0:Int),.i (0:Int)]⟩)],[12,2,999]⟩)
   (Y∧(Y∧(Y∧Y)∧((cutB1 (cutB2 w (⟨#[61]⟩:ByteArray)) (⟨#[64]⟩:ByteArray)).size≤2000000))∧Y∧Y∧Y∧Y∧(Y∧Y)∧Y)
   ⟨tt,⟨tt,⟨tt,tt⟩,(by omega)⟩,tt,tt,tt,tt,⟨tt,tt⟩,tt⟩ ?_
  refine Kk cok tab51 hnt [] [2,10,12] (⟨[(2,.ptr 2 0),(10,.v (.string (cutB2 (cutB2 (cutB2 w (⟨#[61]⟩:ByteArray)) (⟨#[64]⟩:ByteArray)) (⟨#[45]⟩:ByteArray)))),(12,.ptr 12 0)],[(2,⟨59,.fix [.i (0:Int),.i (0:Int),.i (0:Int),.i (0:Int),.i (0:Int),.i (0:Int),.i (0:Int)]⟩),(12,⟨59,.fix [.i ((((UInt8.toNat (List.getD (cutB1 w (⟨#[61]⟩:ByteArray)).data.toList 0 0)):Nat):Int) - (48:Int)),.i ((((UInt8.toNat (List.getD (cutB1 w (⟨#[61]⟩:ByteArray)).data.toList 1 0)):Nat):Int) - (120:Int)),.i (Lib.indexByte (⟨#[112,116,108]⟩:ByteArray).data.toList (Int.toNat (((UInt8.toNat (List.getD (cutB1 w (⟨#[61]⟩:ByteArray)).data.toList 2 0)):Nat):Int)).toUInt8),.i ((((UInt8.toNat (List.getD (cutB1 w (⟨#[61]⟩:ByteArray)).data.toList 3 0)):Nat):Int) - (48:Int)),.i (atoiV (cutB1 (cutB2 w (⟨#[61]⟩:ByteArray)) (⟨#[64]⟩:ByteArray)).data.toList),.i (atoiV (cutB1 (cutB2 (cutB2 w (⟨#[61]⟩:ByteArray)) (⟨#[64]⟩:ByteArray)) (⟨#[45]⟩:ByteArray)).data.toList),.i (0:Int)]⟩)],[12,2,999]⟩)
   (Y∧(Y∧(Y∧Y)∧((cutB1 (cutB2 (cutB2 w (⟨#[61]⟩:ByteArray)) (⟨#[64]⟩:ByteArray)) (⟨#[45]⟩:ByteArray)).size≤2000000))∧Y∧Y∧Y∧Y∧(Y∧Y)∧Y)
   ⟨tt,⟨tt,⟨tt,tt⟩,(by omega)⟩,tt,tt,tt,tt,⟨tt,tt⟩,tt⟩ ?_
  refine Kk cok tab51 hnt [] [2,12] (⟨[(2,.ptr 2 0),(12,.ptr 12 0)],[(2,⟨59,.fix [.i (0:Int),.i (0:Int),.i (0:Int),.i (0:Int),.i (0:Int),.i (0:Int),.i (0:Int)]⟩),(12,⟨59,.fix [.i ((((UInt8.toNat (List.getD (cutB1 w (⟨#[61]⟩:ByteArray)).data.toList 0 0)):Nat):Int) - (48:Int)),.i ((((UInt8.toNat (List.getD (cutB1 w (⟨#[61]⟩:ByteArray)).data.toList 1 0)):Nat):Int) - (120:Int)),.i (Lib.indexByte (⟨#[112,116,108]⟩:ByteArray).data.toList (Int.toNat (((UInt8.toNat (List.getD (cutB1 w (⟨#[61]⟩:ByteArray)).data.toList 2 0)):Nat):Int)).toUInt8),.i ((((UInt8.toNat (List.getD (cutB1 w (⟨#[61]⟩:ByteArray)).data.toList 3 0)):Nat):Int) - (48:Int)),.i (atoiV (cutB1 (cutB2 w (⟨#[61]⟩:ByteArray)) (⟨#[64]⟩:ByteArray)).data.toList),.i (atoiV (cutB1 (cutB2 (cutB2 w (⟨#[61]⟩:ByteArray)) (⟨#[64]⟩:ByteArray)) (⟨#[45]⟩:ByteArray)).data.toList),.i (atoiV (cutB2 (cutB2 (cutB2 w (⟨#[61]⟩:ByteArray)) (⟨#[64]⟩:ByteArray)) (⟨#[45]⟩:ByteArray)).data.toList)]⟩)],[12,2,999]⟩)
   (Y∧(Y∧(Y∧Y)∧((cutB2 (cutB2 (cutB2 w (⟨#[61]⟩:ByteArray)) (⟨#[64]⟩:ByteArray)) (⟨#[45]⟩:ByteArray)).size≤2000000))∧Y∧Y∧Y∧Y∧(Y∧Y)∧Y)
   ⟨tt,⟨tt,⟨tt,tt⟩,(by omega)⟩,tt,tt,tt,tt,⟨tt,tt⟩,tt⟩ ?_
  refine Kk cok tab51 hnt [] [2] (⟨[(2,.ptr 2 0)],[(2,⟨59,.fix [.i ((((UInt8.toNat (List.getD (cutB1 w (⟨#[61]⟩:ByteArray)).data.toList 0 0)):Nat):Int) - (48:Int)),.i ((((UInt8.toNat (List.getD (cutB1 w (⟨#[61]⟩:ByteArray)).data.toList 1 0)):Nat):Int) - (120:Int)),.i (Lib.indexByte (⟨#[112,116,108]⟩:ByteArray).data.toList (Int.toNat (((UInt8.toNat (List.getD (cutB1 w (⟨#[61]⟩:ByteArray)).data.toList 2 0)):Nat):Int)).toUInt8),.i ((((UInt8.toNat (List.getD (cutB1 w (⟨#[61]⟩:ByteArray)).data.toList 3 0)):Nat):Int) - (48:Int)),.i (atoiV (cutB1 (cutB2 w (⟨#[61]⟩:ByteArray)) (⟨#[64]⟩:ByteArray)).data.toList),.i (atoiV (cutB1 (cutB2 (cutB2 w (⟨#[61]⟩:ByteArray)) (⟨#[64]⟩:ByteArray)) (⟨#[45]⟩:ByteArray)).data.toList),.i (atoiV (cutB2 (cutB2 (cutB2 w (⟨#[61]⟩:ByteArray)) (⟨#[64]⟩:ByteArray)) (⟨#[45]⟩:ByteArray)).data.toList)]⟩),(12,⟨59,.fix [.i ((((UInt8.toNat (List.getD (cutB1 w (⟨#[61]⟩:ByteArray)).data.toList 0 0)):Nat):Int) - (48:Int)),.i ((((UInt8.toNat (List.getD (cutB1 w (⟨#[61]⟩:ByteArray)).data.toList 1 0)):Nat):Int) - (120:Int)),.i (Lib.indexByte (⟨#[112,116,108]⟩:ByteArray).data.toList (Int.toNat (((UInt8.toNat (List.getD (cutB1 w (⟨#[61]⟩:ByteArray)).data.toList 2 0)):Nat):Int)).toUInt8),.i ((((UInt8.toNat (List.getD (cutB1 w (⟨#[61]⟩:ByteArray)).data.toList 3 0)):Nat):Int) - (48:Int)),.i (atoiV (cutB1 (cutB2 w (⟨#[61]⟩:ByteArray)) (⟨#[64]⟩:ByteArray)).data.toList),.i (atoiV (cutB1 (cutB2 (cutB2 w (⟨#[61]⟩:ByteArray)) (⟨#[64]⟩:ByteArray)) (⟨#[45]⟩:ByteArray)).data.toList),.i (atoiV (cutB2 (cutB2 (cutB2 w (⟨#[61]⟩:ByteArray)) (⟨#[64]⟩:ByteArray)) (⟨#[45]⟩:ByteArray)).data.toList)]⟩)],[12,2,999]⟩)
   (Y∧(Y∧Y)∧Y)
   ⟨tt,⟨tt,tt⟩,tt⟩ ?_
  refine W.ret ?_
  exact endQ_ret (.agg [.i ((((UInt8.toNat (List.getD (cutB1 w (⟨#[61]⟩:ByteArray)).data.toList 0 0)):Nat):Int) - (48:Int)),.i ((((UInt8.toNat (List.getD (cutB1 w (⟨#[61]⟩:ByteArray)).data.toList 1 0)):Nat):Int) - (120:Int)),.i (Lib.indexByte (⟨#[112,116,108]⟩:ByteArray).data.toList (Int.toNat (((UInt8.toNat (List.getD (cutB1 w (⟨#[61]⟩:ByteArray)).data.toList 2 0)):Nat):Int)).toUInt8),.i ((((UInt8.toNat (List.getD (cutB1 w (⟨#[61]⟩:ByteArray)).data.toList 3 0)):Nat):Int) - (48:Int)),.i (atoiV (cutB1 (cutB2 w (⟨#[61]⟩:ByteArray)) (⟨#[64]⟩:ByteArray)).data.toList),.i (atoiV (cutB1 (cutB2 (cutB2 w (⟨#[61]⟩:ByteArray)) (⟨#[64]⟩:ByteArray)) (⟨#[45]⟩:ByteArray)).data.toList),.i (atoiV (cutB2 (cutB2 (cutB2 w (⟨#[61]⟩:ByteArray)) (⟨#[64]⟩:ByteArray)) (⟨#[45]⟩:ByteArray)).data.toList)]) (by kernel_rfl) (@cast (((.int .i64 ((((UInt8.toNat (List.getD (cutB1 w (⟨#[61]⟩:ByteArray)).data.toList 0 0)):Nat):Int) - (48:Int)):Value)=.int .i64 ((readI w.data.toList).proc))∧((.int .i64 ((((UInt8.toNat (List.getD (cutB1 w (⟨#[61]⟩:ByteArray)).data.toList 1 0)):Nat):Int) - (120:Int)):Value)=.int .i64 ((readI w.data.toList).obj))∧((.int .i64 (Lib.indexByte (⟨#[112,116,108]⟩:ByteArray).data.toList (Int.toNat (((UInt8.toNat (List.getD (cutB1 w (⟨#[61]⟩:ByteArray)).data.toList 2 0)):Nat):Int)).toUInt8):Value)=.int .i64 ((readI w.data.toList).kind))∧((.int .i64 ((((UInt8.toNat (List.getD (cutB1 w (⟨#[61]⟩:ByteArray)).data.toList 3 0)):Nat):Int) - (48:Int)):Value)=.int .i64 ((readI w.data.toList).arg))∧((.int .i64 (atoiV (cutB1 (cutB2 w (⟨#[61]⟩:ByteArray)) (⟨#[64]⟩:ByteArray)).data.toList):Value)=.int .i64 ((readI w.data.toList).ret))∧((.int .i64 (atoiV (cutB1 (cutB2 (cutB2 w (⟨#[61]⟩:ByteArray)) (⟨#[64]⟩:ByteArray)) (⟨#[45]⟩:ByteArray)).data.toList):Value)=.int .i64 ((readI w.data.toList).frm))∧((.int .i64 (atoiV (cutB2 (cutB2 (cutB2 w (⟨#[61]⟩:ByteArray)) (⟨#[64]⟩:ByteArray)) (⟨#[45]⟩:ByteArray)).data.toList):Value)=.int .i64 ((readI w.data.toList).to))∧Y) _ (by kernel_rfl) ⟨(congrArg (Value.int .i64) (by (try rw [u8_back]); with_reducible assumption)),(congrArg (Value.int .i64) (by (try rw [u8_back]); with_reducible assumption)),(congrArg (Value.int .i64) (by (try rw [u8_back]); with_reducible assumption)),(congrArg (Value.int .i64) (by (try rw [u8_back]); with_reducible assumption)),(congrArg (Value.int .i64) (by (try rw [u8_back]); with_reducible assumption)),(congrArg (Value.int .i64) (by (try rw [u8_back]); with_reducible assumption)),(congrArg (Value.int .i64) (by (try rw [u8_back]); with_reducible assumption)),tt⟩)
 ·intro n34
  obtain ⟨_,_,_,_,_,_,_⟩ := cd_eta _ _ _ _ _ _ _ _ (ri_not (w := w) (sep1 := (⟨#[61]⟩:ByteArray)) (sep2 := (⟨#[64]⟩:ByteArray)) (sep3 := (⟨#[45]⟩:ByteArray)) rfl rfl rfl n34)
  refine W.skip (thenQ_normal ?_)
  refine Kk cok tab51 hnt [] [2,9,10,12] (⟨[(2,.ptr 2 0),(9,.v (.string (cutB1 (cutB2 (cutB2 w (⟨#[61]⟩:ByteArray)) (⟨#[64]⟩:ByteArray)) (⟨#[45]⟩:ByteArray)))),(10,.v (.string (cutB2 (cutB2 (cutB2 w (⟨#[61]⟩:ByteArray)) (⟨#[64]⟩:ByteArray)) (⟨#[45]⟩:ByteArray)))),(12,.ptr 12 0)],[(2,⟨59,.fix [.i (0:Int),.i (0:Int),.i (0:Int),.i (0:Int),.i (0:Int),.i (0:Int),.i (0:Int)]⟩),(12,⟨59,.fix [.i (0:Int),.i (0:Int),.i (0:Int),.i (0:Int),.i (atoiV (cutB1 (cutB2 w (⟨#[61]⟩:ByteArray)) (⟨#[64]⟩:ByteArray)).data.toList),.i (0:Int),.i (0:Int)]⟩)],[12,2,999]⟩)
   (Y∧(Y∧(Y∧Y)∧((cutB1 (cutB2 w (⟨#[61]⟩:ByteArray)) (⟨#[64]⟩:ByteArray)).size≤2000000))∧Y∧Y∧Y∧Y∧(Y∧Y)∧Y)
   ⟨tt,⟨tt,⟨tt,tt⟩,(by omega)⟩,tt,tt,tt,tt,⟨tt,tt⟩,tt⟩ ?_
  refine Kk cok tab51 hnt [] [2,10,12] (⟨[(2,.ptr 2 0),(10,.v (.string (cutB2 (cutB2 (cutB2 w (⟨#[61]⟩:ByteArray)) (⟨#[64]⟩:ByteArray)) (⟨#[45]⟩:ByteArray)))),(12,.ptr 12 0)],[(2,⟨59,.fix [.i (0:Int),.i (0:Int),.i (0:Int),.i (0:Int),.i (0:Int),.i (0:Int),.i (0:Int)]⟩),(12,⟨59,.fix [.i (0:Int),.i (0:Int),.i (0:Int),.i (0:Int),.i (atoiV (cutB1 (cutB2 w (⟨#[61]⟩:ByteArray)) (⟨#[64]⟩:ByteArray)).data.toList),.i (atoiV (cutB1 (cutB2 (cutB2 w (⟨#[61]⟩:ByteArray)) (⟨#[64]⟩:ByteArray)) (⟨#[45]⟩:ByteArray)).data.toList),.i (0:Int)]⟩)],[12,2,999]⟩)
   (Y∧(Y∧(Y∧Y)∧((cutB1 (cutB2 (cutB2 w (⟨#[61]⟩:ByteArray)) (⟨#[64]⟩:ByteArray)) (⟨#[45]⟩:ByteArray)).size≤2000000))∧Y∧Y∧Y∧Y∧(Y∧Y)∧Y)
   ⟨tt,⟨tt,⟨tt,tt⟩,(by omega)⟩,tt,tt,tt,tt,⟨tt,tt⟩,tt⟩ ?_
  refine Kk cok tab51 hnt [] [2,12] (⟨[(2,.ptr 2 0),(12,.ptr 12 0)],[(2,⟨59,.fix [.i (0:Int),.i (0:Int),.i (0:Int),.i (0:Int),.i (0:Int),.i (0:Int),.i (0:Int)]⟩),(12,⟨59,.fix [.i (0:Int),.i (0:Int),.i (0:Int),.i (0:Int),.i (atoiV (cutB1 (cutB2 w (⟨#[61]⟩:ByteArray)) (⟨#[64]⟩:ByteArray)).data.toList),.i (atoiV (cutB1 (cutB2 (cutB2 w (⟨#[61]⟩:ByteArray)) (⟨#[64]⟩:ByteArray)) (⟨#[45]⟩:ByteArray)).data.toList),.i (atoiV (cutB2 (cutB2 (cutB2 w (⟨#[61]⟩:ByteArray)) (⟨#[64]⟩:ByteArray)) (⟨#[45]⟩:ByteArray)).data.toList)]⟩)],[12,2,999]⟩)
   (Y∧(Y∧(Y∧Y)∧((cutB2 (cutB2 (cutB2 w (⟨#[61]⟩:ByteArray)) (⟨#[64]⟩:ByteArray)) (⟨#[45]⟩:ByteArray)).size≤2000000))∧Y∧Y∧Y∧Y∧(Y∧Y)∧Y)
   ⟨tt,⟨tt,⟨tt,tt⟩,(by omega)⟩,tt,tt,tt,tt,⟨tt,tt⟩,tt⟩ ?_
  refine Kk cok tab51 hnt [] [2] (⟨[(2,.ptr 2 0)],[(2,⟨59,.fix [.i (0:Int),.i (0:Int),.i (0:Int),.i (0:Int),.i (atoiV (cutB1 (cutB2 w (⟨#[61]⟩:ByteArray)) (⟨#[64]⟩:ByteArray)).data.toList),.i (atoiV (cutB1 (cutB2 (cutB2 w (⟨#[61]⟩:ByteArray)) (⟨#[64]⟩:ByteArray)) (⟨#[45]⟩:ByteArray)).data.toList),.i (atoiV (cutB2 (cutB2 (cutB2 w (⟨#[61]⟩:ByteArray)) (⟨#[64]⟩:ByteArray)) (⟨#[45]⟩:ByteArray)).data.toList)]⟩),(12,⟨59,.fix [.i (0:Int),.i (0:Int),.i (0:Int),.i (0:Int),.i (atoiV (cutB1 (cutB2 w (⟨#[61]⟩:ByteArray)) (⟨#[64]⟩:ByteArray)).data.toList),.i (atoiV (cutB1 (cutB2 (cutB2 w (⟨#[61]⟩:ByteArray)) (⟨#[64]⟩:ByteArray)) (⟨#[45]⟩:ByteArray)).data.toList),.i (atoiV (cutB2 (cutB2 (cutB2 w (⟨#[61]⟩:ByteArray)) (⟨#[64]⟩:ByteArray)) (⟨#[45]⟩:ByteArray)).data.toList)]⟩)],[12,2,999]⟩)
   (Y∧(Y∧Y)∧Y)
   ⟨tt,⟨tt,tt⟩,tt⟩ ?_
  refine W.ret ?_
  exact endQ_ret (.agg [.i (0:Int),.i (0:Int),.i (0:Int),.i (0:Int),.i (atoiV (cutB1 (cutB2 w (⟨#[61]⟩:ByteArray)) (⟨#[64]⟩:ByteArray)).data.toList),.i (atoiV (cutB1 (cutB2 (cutB2 w (⟨#[61]⟩:ByteArray)) (⟨#[64]⟩:ByteArray)) (⟨#[45]⟩:ByteArray)).data.toList),.i (atoiV (cutB2 (cutB2 (cutB2 w (⟨#[61]⟩:ByteArray)) (⟨#[64]⟩:ByteArray)) (⟨#[45]⟩:ByteArray)).data.toList)]) (by kernel_rfl) (@cast (((.int .i64 (0:Int):Value)=.int .i64 ((readI w.data.toList).proc))∧((.int .i64 (0:Int):Value)=.int .i64 ((readI w.data.toList).obj))∧((.int .i64 (0:Int):Value)=.int .i64 ((readI w.data.toList).kind))∧((.int .i64 (0:Int):Value)=.int .i64 ((readI w.data.toList).arg))∧((.int .i64 (atoiV (cutB1 (cutB2 w (⟨#[61]⟩:ByteArray)) (⟨#[64]⟩:ByteArray)).data.toList):Value)=.int .i64 ((readI w.data.toList).ret))∧((.int .i64 (atoiV (cutB1 (cutB2 (cutB2 w (⟨#[61]⟩:ByteArray)) (⟨#[64]⟩:ByteArray)) (⟨#[45]⟩:ByteArray)).data.toList):Value)=.int .i64 ((readI w.data.toList).frm))∧((.int .i64 (atoiV (cutB2 (cutB2 (cutB2 w (⟨#[61]⟩:ByteArray)) (⟨#[64]⟩:ByteArray)) (⟨#[45]⟩:ByteArray)).data.toList):Value)=.int .i64 ((readI w.data.toList).to))∧Y) _ (by kernel_rfl) ⟨(congrArg (Value.int .i64) (by (try rw [u8_back]); with_reducible assumption)),(congrArg (Value.int .i64) (by (try rw [u8_back]); with_reducible assumption)),(congrArg (Value.int .i64) (by (try rw [u8_back]); with_reducible assumption)),(congrArg (Value.int .i64) (by (try rw [u8_back]); with_reducible assumption)),(congrArg (Value.int .i64) (by (try rw [u8_back]); with_reducible assumption)),(congrArg (Value.int .i64) (by (try rw [u8_back]); with_reducible assumption)),(congrArg (Value.int .i64) (by (try rw [u8_back]); with_reducible assumption)),tt⟩)
theorem ent51 : Entr prog 51 := ⟨_,func51,rfl,by decide⟩
end Go.Proofs.Tryz

set_option linter.unusedSimpArgs false
set_option linter.unusedVariables false
namespace Go.Proofs.Tryz
open Go.Ab Go.RowKit
def fs97 : FnS := fnS [.o,.o,.o] [.int,.int,.int] (fun _ (n,low,high,_)=>(.b (within n low high),[],Y))
abbrev T97 : Tab := lk []
theorem tab97 : TabOK prog T97 := TabOK.nil
theorem ok97 : FnOK prog 97 fs97 := by
 refine FnOK.mk cok func97 rfl rfl rfl ?_
 rintro fl ⟨(n:Int),(low:Int),(high:Int),_⟩ hpre F hnt0 _
 have hnt : F.nt=15 := hnt0.trans ntmps97
 clear hpre
 refine W.to (⟨[(0,.i n),(1,.i low),(2,.i high)],[],[999]⟩) rfl ?_
 refine Kk cok tab97 hnt [] [0,1,2] (⟨[(0,.i n),(1,.i low),(2,.i high)],[],[999]⟩)
  (Y∧Y)
  ⟨tt,tt⟩ ?_
 refine Kk cok tab97 hnt [] [6] (⟨[(6,.b ((decide (low≤n)) && (decide (n≤high))))],[],[999]⟩)
  ((fun (Z1:Bool)=>(Y∧(Y∧((Y∧(Y∧Y))∧(Y∧((Z1=true→Y)∧((Z1=true→Y)∧((Z1=true→(((Z1=true)∧Y)∧(((Z1=true)∧Y)∧Y)))∧((Y∧((Z1=true→(Z1=true)∧Y)∧(Z1=false→Y)))∧(Y∧Y)))))))))) (decide (low≤n)))
  ⟨tt,tt,⟨tt,tt,tt⟩,tt,(fun _=>trivial),(fun _=>trivial),(fun hG=>⟨⟨hG,tt⟩,⟨hG,tt⟩,tt⟩),⟨tt,(fun hp=>⟨hp,tt⟩),(fun _=>trivial)⟩,tt,tt⟩ ?_
 refine W.ret ?_
 exact endQ_ret (.b ((decide (low≤n)) && (decide (n≤high)))) (by kernel_rfl) (@cast ((.bool ((decide (low≤n)) && (decide (n≤high))):Value)=.bool (within n low high)) _ (by kernel_rfl) (congrArg Value.bool (by first | rfl | simp_all)))
theorem ent97 : Entr prog 97 := ⟨_,func97,rfl,by decide⟩
end Go.Proofs.Tryz

set_option linter.unusedSimpArgs false
set_option linter.unusedVariables false
namespace Go.Proofs.Tryz
open Go.Ab Go.RowKit
def fs74 : FnS := fnS [.o] [.call] (fun _ (c,_)=>(.b (isCall c),[],Y))
abbrev T74 : Tab := lk [(97,fs97)]
theorem tab74 : TabOK prog T74 := (TabOK.cons ok97 ent97 TabOK.nil)
theorem ok74 : FnOK prog 74 fs74 := by
 refine FnOK.mk cok func74 rfl rfl rfl ?_
 rintro fl ⟨(c:CallD),_⟩ hpre F hnt0 _
 have hnt : F.nt=43 := hnt0.trans ntmps74
 clear hpre
 refine W.to (⟨[(0,.agg [.i c.proc,.i c.obj,.i c.kind,.i c.arg,.i c.ret,.i c.frm,.i c.to])],[],[999]⟩) rfl ?_
 refine Kk cok tab74 hnt [] [1] (⟨[(1,.ptr 1 0)],[(1,⟨59,.fix [.i c.proc,.i c.obj,.i c.kind,.i c.arg,.i c.ret,.i c.frm,.i c.to]⟩)],[1,999]⟩)
  (Y∧Y∧Y)
  ⟨tt,tt,tt⟩ ?_
 refine Kk cok tab74 hnt [] [2] (⟨[(2,.b ((((((((within c.proc (0:Int) (2:Int)) && (within c.obj (0:Int) (1:Int))) && (within c.kind (0:Int) (2:Int))) && (within c.arg (0:Int) (3:Int))) && (within c.ret (-1:Int) (20:Int))) && (within c.frm (0:Int) (30:Int))) && (within c.to (0:Int) (30:Int))) && (decide (c.frm<c.to))))],[(1,⟨59,.fix [.i c.proc,.i c.obj,.i c.kind,.i c.arg,.i c.ret,.i c.frm,.i c.to]⟩)],[1,999]⟩)
  ((fun (Z1:Bool)=>((fun (Z2:Bool)=>((fun (Z3:Bool)=>((fun (Z4:Bool)=>((fun (Z5:Bool)=>((fun (Z6:Bool)=>((fun (Z7:Bool)=>(Y∧(Y∧((Y∧((Y∧(Y∧(Y∧Y)))∧Y))∧(Y∧((Z1=true→Y)∧((Z1=true→((Z1=true)∧Y))∧((Z1=true→(Y∧((((Z1=true)∧Y)∧(Y∧(Y∧Y)))∧Y)))∧((Y∧((Z1=true→(Z1=true)∧Y)∧(Z1=false→Y)))∧(Y∧((Z2=true→Y)∧((Z2=true→((Z2=true)∧Y))∧((Z2=true→(Y∧((((Z2=true)∧Y)∧(Y∧(Y∧Y)))∧Y)))∧((Y∧((Z2=true→(Z2=true)∧Y)∧(Z2=false→Y)))∧(Y∧((Z3=true→Y)∧((Z3=true→((Z3=true)∧Y))∧((Z3=true→(Y∧((((Z3=true)∧Y)∧(Y∧(Y∧Y)))∧Y)))∧((Y∧((Z3=true→(Z3=true)∧Y)∧(Z3=false→Y)))∧(Y∧((Z4=true→Y)∧((Z4=true→((Z4=true)∧Y))∧((Z4=true→(Y∧((((Z4=true)∧Y)∧(Y∧(Y∧Y)))∧Y)))∧((Y∧((Z4=true→(Z4=true)∧Y)∧(Z4=false→Y)))∧(Y∧((Z5=true→Y)∧((Z5=true→((Z5=true)∧Y))∧((Z5=true→(Y∧((((Z5=true)∧Y)∧(Y∧(Y∧Y)))∧Y)))∧((Y∧((Z5=true→(Z5=true)∧Y)∧(Z5=false→Y)))∧(Y∧((Z6=true→Y)∧((Z6=true→((Z6=true)∧Y))∧((Z6=true→(Y∧((((Z6=true)∧Y)∧(Y∧(Y∧Y)))∧Y)))∧((Y∧((Z6=true→(Z6=true)∧Y)∧(Z6=false→Y)))∧(Y∧((Z7=true→Y)∧((Z7=true→((Z7=true)∧Y))∧((Z7=true→Y)∧((Z7=true→((Z7=true)∧Y))∧((Z7=true→(((Z7=true)∧Y)∧(((Z7=true)∧Y)∧Y)))∧((Y∧((Z7=true→(Z7=true)∧Y)∧(Z7=false→Y)))∧(Y∧Y)))))))))))))))))))))))))))))))))))))))))) (Z6 && (within c.to (0:Int) (30:Int))))) (Z5 && (within c.frm (0:Int) (30:Int))))) (Z4 && (within c.ret (-1:Int) (20:Int))))) (Z3 && (within c.arg (0:Int) (3:Int))))) (Z2 && (within c.kind (0:Int) (2:Int))))) (Z1 && (within c.obj (0:Int) (1:Int))))) (within c.proc (0:Int) (2:Int)))
  ⟨tt,tt,⟨tt,⟨tt,tt,tt,tt⟩,tt⟩,tt,(fun _=>trivial),(fun hG=>⟨hG,tt⟩),(fun hG=>⟨tt,⟨⟨hG,tt⟩,tt,tt,tt⟩,tt⟩),⟨tt,(fun hp=>⟨hp,tt⟩),(fun _=>trivial)⟩,tt,(fun _=>trivial),(fun hG=>⟨hG,tt⟩),(fun hG=>⟨tt,⟨⟨hG,tt⟩,tt,tt,tt⟩,tt⟩),⟨tt,(fun hp=>⟨hp,tt⟩),(fun _=>trivial)⟩,tt,(fun _=>trivial),(fun hG=>⟨hG,tt⟩),(fun hG=>⟨tt,⟨⟨hG,tt⟩,tt,tt,tt⟩,tt⟩),⟨tt,(fun hp=>⟨hp,tt⟩),(fun _=>trivial)⟩,tt,(fun _=>trivial),(fun hG=>⟨hG,tt⟩),(fun hG=>⟨tt,⟨⟨hG,tt⟩,tt,tt,tt⟩,tt⟩),⟨tt,(fun hp=>⟨hp,tt⟩),(fun _=>trivial)⟩,tt,(fun _=>trivial),(fun hG=>⟨hG,tt⟩),(fun hG=>⟨tt,⟨⟨hG,tt⟩,tt,tt,tt⟩,tt⟩),⟨tt,(fun hp=>⟨hp,tt⟩),(fun _=>trivial)⟩,tt,(fun _=>trivial),(fun hG=>⟨hG,tt⟩),(fun hG=>⟨tt,⟨⟨hG,tt⟩,tt,tt,tt⟩,tt⟩),⟨tt,(fun hp=>⟨hp,tt⟩),(fun _=>trivial)⟩,tt,(fun _=>trivial),(fun hG=>⟨hG,tt⟩),(fun _=>trivial),(fun hG=>⟨hG,tt⟩),(fun hG=>⟨⟨hG,tt⟩,⟨hG,tt⟩,tt⟩),⟨tt,(fun hp=>⟨hp,tt⟩),(fun _=>trivial)⟩,tt,tt⟩ ?_
 refine W.ret ?_
 exact endQ_ret (.b ((((((((within c.proc (0:Int) (2:Int)) && (within c.obj (0:Int) (1:Int))) && (within c.kind (0:Int) (2:Int))) && (within c.arg (0:Int) (3:Int))) && (within c.ret (-1:Int) (20:Int))) && (within c.frm (0:Int) (30:Int))) && (within c.to (0:Int) (30:Int))) && (decide (c.frm<c.to)))) (by kernel_rfl) (@cast ((.bool ((((((((within c.proc (0:Int) (2:Int)) && (within c.obj (0:Int) (1:Int))) && (within c.kind (0:Int) (2:Int))) && (within c.arg (0:Int) (3:Int))) && (within c.ret (-1:Int) (20:Int))) && (within c.frm (0:Int) (30:Int))) && (within c.to (0:Int) (30:Int))) && (decide (c.frm<c.to))):Value)=.bool (isCall c)) _ (by kernel_rfl) (congrArg Value.bool (by first | rfl | simp_all)))
theorem ent74 : Entr prog 74 := ⟨_,func74,rfl,by decide⟩
end Go.Proofs.Tryz

set_option linter.unusedSimpArgs false
set_option linter.unusedVariables false
namespace Go.Proofs.Tryz
open Go.Ab Go.RowKit
def fs86 : FnS := fnS [.o,.o] [.call,.call] (fun _ (a,b,_)=>(.b (isBefore a b),[],Y))
abbrev T86 : Tab := lk []
theorem tab86 : TabOK prog T86 := TabOK.nil
theorem ok86 : FnOK prog 86 fs86 := by
 refine FnOK.mk cok func86 rfl rfl rfl ?_
 rintro fl ⟨(a:CallD),(b:CallD),_⟩ hpre F hnt0 _
 have hnt : F.nt=10 := hnt0.trans ntmps86
 clear hpre
 refine W.to (⟨[(0,.agg [.i a.proc,.i a.obj,.i a.kind,.i a.arg,.i a.ret,.i a.frm,.i a.to]),(1,.agg [.i b.proc,.i b.obj,.i b.kind,.i b.arg,.i b.ret,.i b.frm,.i b.to])],[],[999]⟩) rfl ?_
 refine Kk cok tab86 hnt [] [2,3] (⟨[(2,.ptr 2 0),(3,.ptr 3 0)],[(2,⟨59,.fix [.i a.proc,.i a.obj,.i a.kind,.i a.arg,.i a.ret,.i a.frm,.i a.to]⟩),(3,⟨59,.fix [.i b.proc,.i b.obj,.i b.kind,.i b.arg,.i b.ret,.i b.frm,.i b.to]⟩)],[3,2,999]⟩)
  (Y∧Y∧Y∧Y)
  ⟨tt,tt,tt,tt⟩ ?_
 refine Kk cok tab86 hnt [] [4] (⟨[(4,.b (decide (a.to<b.frm)))],[(2,⟨59,.fix [.i a.proc,.i a.obj,.i a.kind,.i a.arg,.i a.ret,.i a.frm,.i a.to]⟩),(3,⟨59,.fix [.i b.proc,.i b.obj,.i b.kind,.i b.arg,.i b.ret,.i b.frm,.i b.to]⟩)],[3,2,999]⟩)
  (Y∧Y∧Y∧Y∧(Y∧Y∧Y)∧Y∧Y)
  ⟨tt,tt,tt,tt,⟨tt,tt,tt⟩,tt,tt⟩ ?_
 refine W.ret ?_
 exact endQ_ret (.b (decide (a.to<b.frm))) (by kernel_rfl) (@cast ((.bool (decide (a.to<b.frm)):Value)=.bool (isBefore a b)) _ (by kernel_rfl) (congrArg Value.bool (by first | rfl | simp_all)))
theorem ent86 : Entr prog 86 := ⟨_,func86,rfl,by decide⟩
end Go.Proofs.Tryz

set_option linter.unusedSimpArgs false
set_option linter.unusedVariables false
namespace Go.Proofs.Tryz
open Go.Ab Go.RowKit
def fs75 : FnS := fnS [.o,.o] [.call,.call] (fun _ (a,b,_)=>(.b (doOverlap a b),[],Y))
abbrev T75 : Tab := lk [(86,fs86)]
theorem tab75 : TabOK prog T75 := (TabOK.cons ok86 ent86 TabOK.nil)
theorem ok75 : FnOK prog 75 fs75 := by
 refine FnOK.mk cok func75 rfl rfl rfl ?_
 rintro fl ⟨(a:CallD),(b:CallD),_⟩ hpre F hnt0 _
 have hnt : F.nt=15 := hnt0.trans ntmps75
 clear hpre
 refine W.to (⟨[(0,.agg [.i a.proc,.i a.obj,.i a.kind,.i a.arg,.i a.ret,.i a.frm,.i a.to]),(1,.agg [.i b.proc,.i b.obj,.i b.kind,.i b.arg,.i b.ret,.i b.frm,.i b.to])],[],[999]⟩) rfl ?_
 refine Kk cok tab75 hnt [] [2,3] (⟨[(2,.ptr 2 0),(3,.ptr 3 0)],[(2,⟨59,.fix [.i a.proc,.i a.obj,.i a.kind,.i a.arg,.i a.ret,.i a.frm,.i a.to]⟩),(3,⟨59,.fix [.i b.proc,.i b.obj,.i b.kind,.i b.arg,.i b.ret,.i b.frm,.i b.to]⟩)],[3,2,999]⟩)
  (Y∧Y∧Y∧Y)
  ⟨tt,tt,tt,tt⟩ ?_
 refine Kk cok tab75 hnt [] [4] (⟨[(4,.b ((!(isBefore a b)) && (!(isBefore b a))))],[(2,⟨59,.fix [.i a.proc,.i a.obj,.i a.kind,.i a.arg,.i a.ret,.i a.frm,.i a.to]⟩),(3,⟨59,.fix [.i b.proc,.i b.obj,.i b.kind,.i b.arg,.i b.ret,.i b.frm,.i b.to]⟩)],[3,2,999]⟩)
  ((fun (Z1:Bool)=>(Y∧(Y∧((Y∧((Y∧(Y∧Y))∧Y))∧(Y∧(Y∧((Z1=true→Y)∧((Z1=true→Y)∧((Z1=true→(Y∧((((Z1=true)∧Y)∧(((Z1=true)∧Y)∧Y))∧Y)))∧((Z1=true→((Z1=true)∧Y))∧((Y∧((Z1=true→(Z1=true)∧Y)∧(Z1=false→Y)))∧(Y∧Y)))))))))))) (!(isBefore a b)))
  ⟨tt,tt,⟨tt,⟨tt,tt,tt⟩,tt⟩,tt,tt,(fun _=>trivial),(fun _=>trivial),(fun hG=>⟨tt,⟨⟨hG,tt⟩,⟨hG,tt⟩,tt⟩,tt⟩),(fun hG=>⟨hG,tt⟩),⟨tt,(fun hp=>⟨hp,tt⟩),(fun _=>trivial)⟩,tt,tt⟩ ?_
 refine W.ret ?_
 exact endQ_ret (.b ((!(isBefore a b)) && (!(isBefore b a)))) (by kernel_rfl) (@cast ((.bool ((!(isBefore a b)) && (!(isBefore b a))):Value)=.bool (doOverlap a b)) _ (by kernel_rfl) (congrArg Value.bool (by first | rfl | simp_all)))
theorem ent75 : Entr prog 75 := ⟨_,func75,rfl,by decide⟩
end Go.Proofs.Tryz

set_option linter.unusedSimpArgs false
set_option linter.unusedVariables false
namespace Go.Proofs.Tryz
open Go.Ab Go.RowKit
def fs52 : FnS := fnS [.s .calls] [.calls] (fun _ (h,_)=>(.b (validHistory h),[],Y))
abbrev T52 : Tab := lk [(74,fs74),(75,fs75)]
theorem tab52 : TabOK prog T52 := (TabOK.cons ok74 ent74 (TabOK.cons ok75 ent75 TabOK.nil))
theorem ok52 : FnOK prog 52 fs52 := by
 refine FnOK.mk cok func52 rfl rfl rfl ?_
 rintro fl ⟨(h : List CallD),_⟩ hpre F hnt0 _
 have hnt : F.nt=68 := hnt0.trans ntmps52
 clear hpre
 refine W.to (⟨[(0,.sl (.calls h))],[],[999]⟩) rfl ?_
 refine W.lenOf 0 (.calls h) (by kernel_rfl) ?_
 intro hl_h; replace hl_h : List.length h≤9223372036854775807 := hl_h
 refine Kk cok tab52 hnt [] [0] (⟨[(0,.sl (.calls h))],[],[999]⟩)
  (Y∧Y)
  ⟨tt,tt⟩ ?_
 refine W.seq ?_
 refine Kk cok tab52 hnt [] [0,9] (⟨[(0,.sl (.calls h)),(9,.b (decide ((6:Int)<(h.length:Int))))],[],[999]⟩)
  (Y∧Y∧(Y∧Y∧Y)∧Y)
  ⟨tt,tt,⟨tt,tt,tt⟩,tt⟩ ?_
 refine W.ifP ((6:Int)<(h.length:Int)) (.b (decide ((6:Int)<(h.length:Int)))) (by kernel_rfl) rfl trivial ?_ ?_
 ·intro h9
  refine Kk cok tab52 hnt [] [2] (⟨[(2,.b false)],[],[999]⟩)
   (Y∧Y)
   ⟨tt,tt⟩ ?_
  refine W.ret (thenQ_ret ?_)
  exact endQ_ret (.b false) (by kernel_rfl) (@cast ((.bool false:Value)=.bool (validHistory h)) _ (by kernel_rfl) (congrArg Value.bool (by unfold validHistory; symm; exact and_fl (decide_eq_false (by omega)))))
 ·intro n9
  refine W.skip (thenQ_normal ?_)
  refine W.seq ?_
  refine Kk cok tab52 hnt [] [0,10,11,12] (⟨[(0,.sl (.calls h)),(10,.sl (.calls h)),(11,.i (h.length:Int)),(12,.i (0:Int))],[],[999]⟩)
   (Y∧Y∧Y∧Y)
   ⟨tt,tt,tt,tt⟩ ?_
  refine W.block ?_
  refine W.loop (ι := Nat) (fun (i:Nat)=>(⟨[(0,.sl (.calls h)),(10,.sl (.calls h)),(11,.i (h.length:Int)),(12,.i ((i:Nat):Int))],[],[999]⟩:St))
   (fun (i:Nat)=>(i≤h.length)∧(∀ j,j<i→(isCall (callAt h j) && allN j (fun k => !clash (callAt h j) (callAt h k)))=true))
   (fun (i:Nat)=>(h.length - i:Nat)) (0) ?_ ?_ ?_
  ·exact (show (0≤h.length)∧(∀ j,j<0→(isCall (callAt h j) && allN j (fun k => !clash (callAt h j) (callAt h k)))=true) from ⟨(by first | assumption | omega | rfl | (intro _ hjj; omega) | (simp; done) | (simp; omega)),(by exact upto_zero)⟩)
  ·exact Sub.of [] (@cast (((Sd (.calls h))∧(Sd (.calls h))∧(Si (h.length:Int))∧((.int .i64 (0:Int):Value)=.int .i64 ((0:Nat):Int))∧Y)∧Y∧(true=true)∧(true=true)) _ (by kernel_rfl) ⟨⟨rfl,rfl,rfl,(congrArg (Value.int .i64) (by first | rfl | omega | assumption | simp | simp_all)),tt⟩,tt,rfl,rfl⟩)
  ·rintro i hC0
   have hC : (i≤h.length)∧(∀ j,j<i→(isCall (callAt h j) && allN j (fun k => !clash (callAt h j) (callAt h k)))=true) := hC0
   clear hC0
   obtain ⟨hi,hA⟩ := hC
   refine W.to (⟨[(0,.sl (.calls h)),(10,.sl (.calls h)),(11,.i (h.length:Int)),(12,.i ((i:Nat):Int))],[],[999]⟩) rfl ?_
   refine Kk cok tab52 hnt [] [0,10,11,12,13] (⟨[(0,.sl (.calls h)),(10,.sl (.calls h)),(11,.i (h.length:Int)),(12,.i ((i:Nat):Int)),(13,.b (decide (((i:Nat):Int)<(h.length:Int))))],[],[999]⟩)
    ((Y∧Y∧Y)∧Y)
    ⟨⟨tt,tt,tt⟩,tt⟩ ?_
   refine W.seq ?_
   refine W.ifP (((i:Nat):Int)<(h.length:Int)) (.b (decide (((i:Nat):Int)<(h.length:Int)))) (by kernel_rfl) rfl trivial ?_ ?_
   ·intro h13
    refine W.skip (thenQ_normal ?_)
    refine W.seq ?_
    refine W.block ?_
    refine Kk cok tab52 hnt [] [0,3,4,10,11,12] (⟨[(0,.sl (.calls h)),(3,.i ((i:Nat):Int)),(4,.ptr 4 0),(10,.sl (.calls h)),(11,.i (h.length:Int)),(12,.i ((i:Nat):Int))],[(4,⟨59,.fix [.i ((h.getD i default).proc),.i ((h.getD i default).obj),.i ((h.getD i default).kind),.i ((h.getD i default).arg),.i ((h.getD i default).ret),.i ((h.getD i default).frm),.i ((h.getD i default).to)]⟩)],[4,999]⟩)
     (Y∧(Y∧Y∧(0≤((i:Nat):Int))∧(((i:Nat):Int)<(h.length:Int)))∧Y∧Y∧Y∧(Y∧Y)∧Y)
     ⟨tt,⟨tt,tt,(by omega),(by omega)⟩,tt,tt,tt,⟨tt,tt⟩,tt⟩ ?_
    refine W.seq ?_
    refine Kk cok tab52 hnt [] [0,3,4,10,11,12,19] (⟨[(0,.sl (.calls h)),(3,.i ((i:Nat):Int)),(4,.ptr 4 0),(10,.sl (.calls h)),(11,.i (h.length:Int)),(12,.i ((i:Nat):Int)),(19,.b (!(isCall (h.getD i default))))],[(4,⟨59,.fix [.i ((h.getD i default).proc),.i ((h.getD i default).obj),.i ((h.getD i default).kind),.i ((h.getD i default).arg),.i ((h.getD i default).ret),.i ((h.getD i default).frm),.i ((h.getD i default).to)]⟩)],[4,999]⟩)
     (Y∧(Y∧(Y∧Y)∧Y)∧Y∧Y)
     ⟨tt,⟨tt,⟨tt,tt⟩,tt⟩,tt,tt⟩ ?_
    refine W.if' (!(isCall (h.getD i default))) (.b (!(isCall (h.getD i default)))) (by kernel_rfl) rfl trivial ?_ ?_
    ·intro h19
     refine Kk cok tab52 hnt [] [2] (⟨[(2,.b false)],[(4,⟨59,.fix [.i ((h.getD i default).proc),.i ((h.getD i default).obj),.i ((h.getD i default).kind),.i ((h.getD i default).arg),.i ((h.getD i default).ret),.i ((h.getD i default).frm),.i ((h.getD i default).to)]⟩)],[4,999]⟩)
      (Y∧Y)
      ⟨tt,tt⟩ ?_
     refine W.ret (thenQ_ret (blockQ_ret (thenQ_ret (thenQ_ret (blockQ_ret (thenQ_ret ?_))))))
     exact endQ_ret (.b false) (by kernel_rfl) (@cast ((.bool false:Value)=.bool (validHistory h)) _ (by kernel_rfl) (congrArg Value.bool (by unfold validHistory; symm; exact and_fr (allN_false (i := i) (by omega) (and_fl (not_f h19))))))
    ·intro n19
     refine W.skip (thenQ_normal ?_)
     refine Kk cok tab52 hnt [] [0,4,10,11,12,22,23,24] (⟨[(0,.sl (.calls h)),(4,.ptr 4 0),(10,.sl (.calls h)),(11,.i (h.length:Int)),(12,.i ((i:Nat):Int)),(22,.sl (.calls (List.take i h))),(23,.i (((List.length (List.take i h)):Nat):Int)),(24,.i (0:Int))],[(4,⟨59,.fix [.i ((h.getD i default).proc),.i ((h.getD i default).obj),.i ((h.getD i default).kind),.i ((h.getD i default).arg),.i ((h.getD i default).ret),.i ((h.getD i default).frm),.i ((h.getD i default).to)]⟩)],[4,999]⟩)
      (Y∧Y∧(Y∧Y∧Y∧(0≤(0:Int))∧((0:Int)≤((i:Nat):Int))∧(((i:Nat):Int)≤(h.length:Int)))∧Y∧Y∧Y)
      ⟨tt,tt,⟨tt,tt,tt,(by omega),(by omega),(by omega)⟩,tt,tt,tt⟩ ?_
     refine W.block ?_
     refine W.loop (ι := Nat) (fun (k:Nat)=>(⟨[(0,.sl (.calls h)),(4,.ptr 4 0),(10,.sl (.calls h)),(11,.i (h.length:Int)),(12,.i ((i:Nat):Int)),(22,.sl (.calls (List.take i h))),(23,.i (((List.length (List.take i h)):Nat):Int)),(24,.i ((k:Nat):Int))],[(4,⟨59,.fix [.i ((h.getD i default).proc),.i ((h.getD i default).obj),.i ((h.getD i default).kind),.i ((h.getD i default).arg),.i ((h.getD i default).ret),.i ((h.getD i default).frm),.i ((h.getD i default).to)]⟩)],[4,999]⟩:St))
      (fun (k:Nat)=>(k≤i)∧(∀ j,j<k→(!clash (callAt h i) (callAt h j))=true))
      (fun (k:Nat)=>(i - k:Nat)) (0) ?_ ?_ ?_
     ·exact (show (0≤i)∧(∀ j,j<0→(!clash (callAt h i) (callAt h j))=true) from ⟨(by first | assumption | omega | rfl | (intro _ hjj; omega) | (simp; done) | (simp; omega)),(by exact upto_zero)⟩)
     ·exact Sub.of [] (@cast (((Sd (.calls h))∧(((4:Nat)=4)∧((0:Nat)=0)∧((4:Nat) ∈ ([4,999] : List Nat)))∧(Sd (.calls h))∧(Si (h.length:Int))∧(Si ((i:Nat):Int))∧(Sd (.calls (List.take i h)))∧(Si (((List.length (List.take i h)):Nat):Int))∧((.int .i64 (0:Int):Value)=.int .i64 ((0:Nat):Int))∧Y)∧((((59:Nat)=59)∧((Si ((h.getD i default).proc))∧(Si ((h.getD i default).obj))∧(Si ((h.getD i default).kind))∧(Si ((h.getD i default).arg))∧(Si ((h.getD i default).ret))∧(Si ((h.getD i default).frm))∧(Si ((h.getD i default).to))∧Y)∧((4:Nat) ∈ ([4,999] : List Nat)))∧Y)∧(true=true)∧(true=true)) _ (by kernel_rfl) ⟨⟨rfl,⟨rfl,rfl,(by decide)⟩,rfl,rfl,rfl,rfl,rfl,(congrArg (Value.int .i64) (by first | rfl | omega | assumption | simp | simp_all)),tt⟩,⟨⟨rfl,⟨rfl,rfl,rfl,rfl,rfl,rfl,rfl,tt⟩,(by decide)⟩,tt⟩,rfl,rfl⟩)
     ·rintro k hC0
      have hC : (k≤i)∧(∀ j,j<k→(!clash (callAt h i) (callAt h j))=true) := hC0
      clear hC0
      obtain ⟨hk,hB⟩ := hC
      refine W.to (⟨[(0,.sl (.calls h)),(4,.ptr 4 0),(10,.sl (.calls h)),(11,.i (h.length:Int)),(12,.i ((i:Nat):Int)),(22,.sl (.calls (List.take i h))),(23,.i (((List.length (List.take i h)):Nat):Int)),(24,.i ((k:Nat):Int))],[(4,⟨59,.fix [.i ((h.getD i default).proc),.i ((h.getD i default).obj),.i ((h.getD i default).kind),.i ((h.getD i default).arg),.i ((h.getD i default).ret),.i ((h.getD i default).frm),.i ((h.getD i default).to)]⟩)],[4,999]⟩) rfl ?_
      refine Kk cok tab52 hnt [] [0,4,10,11,12,22,23,24,25] (⟨[(0,.sl (.calls h)),(4,.ptr 4 0),(10,.sl (.calls h)),(11,.i (h.length:Int)),(12,.i ((i:Nat):Int)),(22,.sl (.calls (List.take i h))),(23,.i (((List.length (List.take i h)):Nat):Int)),(24,.i ((k:Nat):Int)),(25,.b (decide (((k:Nat):Int)<(((List.length (List.take i h)):Nat):Int))))],[(4,⟨59,.fix [.i ((h.getD i default).proc),.i ((h.getD i default).obj),.i ((h.getD i default).kind),.i ((h.getD i default).arg),.i ((h.getD i default).ret),.i ((h.getD i default).frm),.i ((h.getD i default).to)]⟩)],[4,999]⟩)
       ((Y∧Y∧Y)∧Y)
       ⟨⟨tt,tt,tt⟩,tt⟩ ?_
      refine W.seq ?_
      refine W.ifP (((k:Nat):Int)<(((List.length (List.take i h)):Nat):Int)) (.b (decide (((k:Nat):Int)<(((List.length (List.take i h)):Nat):Int)))) (by kernel_rfl) rfl trivial ?_ ?_
      ·intro h25
       have h25' := h25
       simp only [ln] at h25'
       refine W.skip (thenQ_normal ?_)
       refine W.seq ?_
       refine W.block ?_
       refine Kk cok tab52 hnt [] [0,4,6,10,11,12,22,23,24] (⟨[(0,.sl (.calls h)),(4,.ptr 4 0),(6,.ptr 6 0),(10,.sl (.calls h)),(11,.i (h.length:Int)),(12,.i ((i:Nat):Int)),(22,.sl (.calls (List.take i h))),(23,.i (((List.length (List.take i h)):Nat):Int)),(24,.i ((k:Nat):Int))],[(4,⟨59,.fix [.i ((h.getD i default).proc),.i ((h.getD i default).obj),.i ((h.getD i default).kind),.i ((h.getD i default).arg),.i ((h.getD i default).ret),.i ((h.getD i default).frm),.i ((h.getD i default).to)]⟩),(6,⟨59,.fix [.i ((List.getD (List.take i h) k default).proc),.i ((List.getD (List.take i h) k default).obj),.i ((List.getD (List.take i h) k default).kind),.i ((List.getD (List.take i h) k default).arg),.i ((List.getD (List.take i h) k default).ret),.i ((List.getD (List.take i h) k default).frm),.i ((List.getD (List.take i h) k default).to)]⟩)],[6,4,999]⟩)
        ((Y∧Y∧(0≤((k:Nat):Int))∧(((k:Nat):Int)<(((List.length (List.take i h)):Nat):Int)))∧Y∧Y∧(Y∧Y)∧Y)
        ⟨⟨tt,tt,(by omega),(by (first | omega | (simp only [List.length_set]; done) | (simp only [ln] at *; omega) | assumption))⟩,tt,tt,⟨tt,tt⟩,tt⟩ ?_
       refine Kk cok tab52 hnt [] [0,4,10,11,12,22,23,24,65] (⟨[(0,.sl (.calls h)),(4,.ptr 4 0),(10,.sl (.calls h)),(11,.i (h.length:Int)),(12,.i ((i:Nat):Int)),(22,.sl (.calls (List.take i h))),(23,.i (((List.length (List.take i h)):Nat):Int)),(24,.i ((k:Nat):Int)),(65,.b (((((decide (((h.getD i default).frm)=((List.getD (List.take i h) k default).frm))) || (decide (((h.getD i default).frm)=((List.getD (List.take i h) k default).to)))) || (decide (((h.getD i default).to)=((List.getD (List.take i h) k default).frm)))) || (decide (((h.getD i default).to)=((List.getD (List.take i h) k default).to)))) || ((decide (((h.getD i default).proc)=((List.getD (List.take i h) k default).proc))) && (doOverlap (h.getD i default) (List.getD (List.take i h) k default)))))],[(4,⟨59,.fix [.i ((h.getD i default).proc),.i ((h.getD i default).obj),.i ((h.getD i default).kind),.i ((h.getD i default).arg),.i ((h.getD i default).ret),.i ((h.getD i default).frm),.i ((h.getD i default).to)]⟩),(6,⟨59,.fix [.i ((List.getD (List.take i h) k default).proc),.i ((List.getD (List.take i h) k default).obj),.i ((List.getD (List.take i h) k default).kind),.i ((List.getD (List.take i h) k default).arg),.i ((List.getD (List.take i h) k default).ret),.i ((List.getD (List.take i h) k default).frm),.i ((List.getD (List.take i h) k default).to)]⟩)],[6,4,999]⟩)
        ((fun (Z1:Bool)=>((fun (Z2:Bool)=>((fun (Z3:Bool)=>((fun (Z4:Bool)=>((fun (Z5:Bool)=>((fun (Z6:Bool)=>(Y∧(Y∧(Y∧(Y∧((Y∧(Y∧Y))∧(Y∧(((!Z1)=true→Y)∧(((!Z1)=true→(((!Z1)=true)∧Y))∧(((!Z1)=true→Y)∧(((!Z1)=true→(((!Z1)=true)∧Y))∧(((!Z1)=true→((((!Z1)=true)∧Y)∧((((!Z1)=true)∧Y)∧Y)))∧((Y∧((Z1=true→Y)∧(Z1=false→((!Z1)=true)∧Y)))∧(Y∧(((!Z3)=true→Y)∧(((!Z3)=true→(((!Z3)=true)∧Y))∧(((!Z3)=true→Y)∧(((!Z3)=true→(((!Z3)=true)∧Y))∧(((!Z3)=true→((((!Z3)=true)∧Y)∧((((!Z3)=true)∧Y)∧Y)))∧((Y∧((Z3=true→Y)∧(Z3=false→((!Z3)=true)∧Y)))∧(Y∧(((!Z4)=true→Y)∧(((!Z4)=true→(((!Z4)=true)∧Y))∧(((!Z4)=true→Y)∧(((!Z4)=true→(((!Z4)=true)∧Y))∧(((!Z4)=true→((((!Z4)=true)∧Y)∧((((!Z4)=true)∧Y)∧Y)))∧((Y∧((Z4=true→Y)∧(Z4=false→((!Z4)=true)∧Y)))∧(Y∧(((!Z5)=true→Y)∧(((!Z5)=true→(((!Z5)=true)∧Y))∧(((!Z5)=true→Y)∧(((!Z5)=true→(((!Z5)=true)∧Y))∧(((!Z5)=true→((((!Z5)=true)∧Y)∧((((!Z5)=true)∧Y)∧Y)))∧(((!Z5)=true→Y)∧((Z6=true→Y)∧((Z6=true→Y)∧((Z6=true→(Y∧((((Z6=true)∧Y)∧(((Z6=true)∧Y)∧Y))∧Y)))∧(((!Z5)=true→((((!Z5)=true)∧(((!Z5)=true)∧Y))∧((Z2=true→(Z6=true)∧Y)∧(Z2=false→Y))))∧((Y∧((Z5=true→Y)∧(Z5=false→((!Z5)=true)∧Y)))∧Y))))))))))))))))))))))))))))))))))))))) ((!Z5) && ((!Z5) && Z2)))) (Z4 || (decide (((h.getD i default).to)=((List.getD (List.take i h) k default).to)))))) (Z3 || (decide (((h.getD i default).to)=((List.getD (List.take i h) k default).frm)))))) (Z1 || (decide (((h.getD i default).frm)=((List.getD (List.take i h) k default).to)))))) (decide (((h.getD i default).proc)=((List.getD (List.take i h) k default).proc))))) (decide (((h.getD i default).frm)=((List.getD (List.take i h) k default).frm))))
        ⟨tt,tt,tt,tt,⟨tt,tt,tt⟩,tt,(fun _=>trivial),(fun hG=>⟨hG,tt⟩),(fun _=>trivial),(fun hG=>⟨hG,tt⟩),(fun hG=>⟨⟨hG,tt⟩,⟨hG,tt⟩,tt⟩),⟨tt,(fun _=>trivial),(fun hp=>⟨(not_t hp),tt⟩)⟩,tt,(fun _=>trivial),(fun hG=>⟨hG,tt⟩),(fun _=>trivial),(fun hG=>⟨hG,tt⟩),(fun hG=>⟨⟨hG,tt⟩,⟨hG,tt⟩,tt⟩),⟨tt,(fun _=>trivial),(fun hp=>⟨(not_t hp),tt⟩)⟩,tt,(fun _=>trivial),(fun hG=>⟨hG,tt⟩),(fun _=>trivial),(fun hG=>⟨hG,tt⟩),(fun hG=>⟨⟨hG,tt⟩,⟨hG,tt⟩,tt⟩),⟨tt,(fun _=>trivial),(fun hp=>⟨(not_t hp),tt⟩)⟩,tt,(fun _=>trivial),(fun hG=>⟨hG,tt⟩),(fun _=>trivial),(fun hG=>⟨hG,tt⟩),(fun hG=>⟨⟨hG,tt⟩,⟨hG,tt⟩,tt⟩),(fun _=>trivial),(fun _=>trivial),(fun _=>trivial),(fun hG=>⟨tt,⟨⟨hG,tt⟩,⟨hG,tt⟩,tt⟩,tt⟩),(fun hG=>⟨⟨hG,hG,tt⟩,(fun hp=>⟨(and_t hG (and_t hG hp)),tt⟩),(fun _=>trivial)⟩),⟨tt,(fun _=>trivial),(fun hp=>⟨(not_t hp),tt⟩)⟩,tt⟩ ?_
       refine W.if' (((((decide (((h.getD i default).frm)=((List.getD (List.take i h) k default).frm))) || (decide (((h.getD i default).frm)=((List.getD (List.take i h) k default).to)))) || (decide (((h.getD i default).to)=((List.getD (List.take i h) k default).frm)))) || (decide (((h.getD i default).to)=((List.getD (List.take i h) k default).to)))) || ((decide (((h.getD i default).proc)=((List.getD (List.take i h) k default).proc))) && (doOverlap (h.getD i default) (List.getD (List.take i h) k default)))) (.b (((((decide (((h.getD i default).frm)=((List.getD (List.take i h) k default).frm))) || (decide (((h.getD i default).frm)=((List.getD (List.take i h) k default).to)))) || (decide (((h.getD i default).to)=((List.getD (List.take i h) k default).frm)))) || (decide (((h.getD i default).to)=((List.getD (List.take i h) k default).to)))) || ((decide (((h.getD i default).proc)=((List.getD (List.take i h) k default).proc))) && (doOverlap (h.getD i default) (List.getD (List.take i h) k default))))) (by kernel_rfl) rfl trivial ?_ ?_
       ·intro h65
        refine Kk cok tab52 hnt [] [2] (⟨[(2,.b false)],[(4,⟨59,.fix [.i ((h.getD i default).proc),.i ((h.getD i default).obj),.i ((h.getD i default).kind),.i ((h.getD i default).arg),.i ((h.getD i default).ret),.i ((h.getD i default).frm),.i ((h.getD i default).to)]⟩),(6,⟨59,.fix [.i ((List.getD (List.take i h) k default).proc),.i ((List.getD (List.take i h) k default).obj),.i ((List.getD (List.take i h) k default).kind),.i ((List.getD (List.take i h) k default).arg),.i ((List.getD (List.take i h) k default).ret),.i ((List.getD (List.take i h) k default).frm),.i ((List.getD (List.take i h) k default).to)]⟩)],[6,4,999]⟩)
         (Y∧Y)
         ⟨tt,tt⟩ ?_
        refine W.ret (blockQ_ret (thenQ_ret (thenQ_ret (blockQ_ret (blockQ_ret (thenQ_ret (thenQ_ret (blockQ_ret (thenQ_ret ?_)))))))))
        exact endQ_ret (.b false) (by kernel_rfl) (@cast ((.bool false:Value)=.bool (validHistory h)) _ (by kernel_rfl) (congrArg Value.bool (by unfold validHistory; symm; exact and_fr (allN_false (i := i) (by omega) (and_fr (allN_false (i := k) (by omega) (not_h (by rw [← h65,getD_take h (default:CallD) (show k<i by omega)]; rfl))))))))
       ·intro n65
        have n65_0 : ¬ (((h.getD i default).frm)=((List.getD (List.take i h) k default).frm)) := of_decide_eq_false (or_l (or_l (or_l (or_l n65))))
        have n65_1 : ¬ (((h.getD i default).frm)=((List.getD (List.take i h) k default).to)) := of_decide_eq_false (or_r (or_l (or_l (or_l n65))))
        have n65_2 : ¬ (((h.getD i default).to)=((List.getD (List.take i h) k default).frm)) := of_decide_eq_false (or_r (or_l (or_l n65)))
        have n65_3 : ¬ (((h.getD i default).to)=((List.getD (List.take i h) k default).to)) := of_decide_eq_false (or_r (or_l n65))
        refine W.skip (blockQ_normal (thenQ_normal ?_))
        refine Lk cok tab52 hnt [] (⟨[(0,.sl (.calls h)),(4,.ptr 4 0),(10,.sl (.calls h)),(11,.i (h.length:Int)),(12,.i ((i:Nat):Int)),(22,.sl (.calls (List.take i h))),(23,.i (((List.length (List.take i h)):Nat):Int)),(24,.i (((k+1):Nat):Int)),(65,.b (((((decide (((h.getD i default).frm)=((List.getD (List.take i h) k default).frm))) || (decide (((h.getD i default).frm)=((List.getD (List.take i h) k default).to)))) || (decide (((h.getD i default).to)=((List.getD (List.take i h) k default).frm)))) || (decide (((h.getD i default).to)=((List.getD (List.take i h) k default).to)))) || ((decide (((h.getD i default).proc)=((List.getD (List.take i h) k default).proc))) && (doOverlap (h.getD i default) (List.getD (List.take i h) k default))))),(66,.i (((k+1):Nat):Int))],[(4,⟨59,.fix [.i ((h.getD i default).proc),.i ((h.getD i default).obj),.i ((h.getD i default).kind),.i ((h.getD i default).arg),.i ((h.getD i default).ret),.i ((h.getD i default).frm),.i ((h.getD i default).to)]⟩),(6,⟨59,.fix [.i ((List.getD (List.take i h) k default).proc),.i ((List.getD (List.take i h) k default).obj),.i ((List.getD (List.take i h) k default).kind),.i ((List.getD (List.take i h) k default).arg),.i ((List.getD (List.take i h) k default).ret),.i ((List.getD (List.take i h) k default).frm),.i ((List.getD (List.take i h) k default).to)]⟩)],[6,4,999]⟩)
         ((Y∧Y∧(Fits .i64 (((k+1):Nat):Int)))∧Y∧Y)
         ⟨⟨tt,tt,(by exact fits_i64 (by omega) (by omega))⟩,tt,tt⟩ ?_
        refine thenQ_normal ?_
        refine ⟨((k+1)),(show ((k+1)≤i)∧(∀ j,j<(k+1)→(!clash (callAt h i) (callAt h j))=true) from ⟨(by first | assumption | omega | rfl | (intro _ hjj; omega) | (simp; done) | (simp; omega)),(by exact upto_succ hB (not_t (by rw [← n65,getD_take h (default:CallD) (show k<i by omega)]; rfl)))⟩),(show i - (k+1)<i - k from (by first | omega | (simp_all; omega))),?_⟩
        exact Sub.of [] (@cast (((Sd (.calls h))∧(((4:Nat)=4)∧((0:Nat)=0)∧((4:Nat) ∈ ([4,999] : List Nat)))∧(Sd (.calls h))∧(Si (h.length:Int))∧(Si ((i:Nat):Int))∧(Sd (.calls (List.take i h)))∧(Si (((List.length (List.take i h)):Nat):Int))∧(Si (((k+1):Nat):Int))∧Y)∧((((59:Nat)=59)∧((Si ((h.getD i default).proc))∧(Si ((h.getD i default).obj))∧(Si ((h.getD i default).kind))∧(Si ((h.getD i default).arg))∧(Si ((h.getD i default).ret))∧(Si ((h.getD i default).frm))∧(Si ((h.getD i default).to))∧Y)∧((4:Nat) ∈ ([4,999] : List Nat)))∧Y)∧(true=true)∧(true=true)) _ (by kernel_rfl) ⟨⟨rfl,⟨rfl,rfl,(by decide)⟩,rfl,rfl,rfl,rfl,rfl,rfl,tt⟩,⟨⟨rfl,⟨rfl,rfl,rfl,rfl,rfl,rfl,rfl,tt⟩,(by decide)⟩,tt⟩,rfl,rfl⟩)
      ·intro n25
       have n25' := n25
       simp only [ln] at n25'
       refine W.exit (thenQ_exit (thenQ_exit (blockQ_hit ?_)))
       refine blockQ_normal (thenQ_normal ?_)
       refine Lk cok tab52 hnt [] (⟨[(0,.sl (.calls h)),(4,.ptr 4 0),(10,.sl (.calls h)),(11,.i (h.length:Int)),(12,.i (((i+1):Nat):Int)),(22,.sl (.calls (List.take i h))),(23,.i (((List.length (List.take i h)):Nat):Int)),(24,.i ((k:Nat):Int)),(25,.b (decide (((k:Nat):Int)<(((List.length (List.take i h)):Nat):Int)))),(67,.i (((i+1):Nat):Int))],[(4,⟨59,.fix [.i ((h.getD i default).proc),.i ((h.getD i default).obj),.i ((h.getD i default).kind),.i ((h.getD i default).arg),.i ((h.getD i default).ret),.i ((h.getD i default).frm),.i ((h.getD i default).to)]⟩)],[4,999]⟩)
        ((Y∧Y∧(Fits .i64 (((i+1):Nat):Int)))∧Y∧Y)
        ⟨⟨tt,tt,(by exact fits_i64 (by omega) (by omega))⟩,tt,tt⟩ ?_
       refine thenQ_normal ?_
       refine ⟨((i+1)),(show ((i+1)≤h.length)∧(∀ j,j<(i+1)→(isCall (callAt h j) && allN j (fun k => !clash (callAt h j) (callAt h k)))=true) from ⟨(by first | assumption | omega | rfl | (intro _ hjj; omega) | (simp; done) | (simp; omega)),(by exact upto_succ hA (and_t (not_g n19) (allN_true (fun j hj=>hB j (by omega)))))⟩),(show h.length - (i+1)<h.length - i from (by first | omega | (simp_all; omega))),?_⟩
       exact Sub.of [] (@cast (((Sd (.calls h))∧(Sd (.calls h))∧(Si (h.length:Int))∧(Si (((i+1):Nat):Int))∧Y)∧Y∧(true=true)∧(true=true)) _ (by kernel_rfl) ⟨⟨rfl,rfl,rfl,rfl,tt⟩,tt,rfl,rfl⟩)
   ·intro n13
    refine W.exit (thenQ_exit (thenQ_exit (blockQ_hit ?_)))
    refine thenQ_normal ?_
    refine Kk cok tab52 hnt [] [2] (⟨[(2,.b true)],[],[999]⟩)
     (Y∧Y)
     ⟨tt,tt⟩ ?_
    refine W.ret ?_
    exact endQ_ret (.b true) (by kernel_rfl) (@cast ((.bool true:Value)=.bool (validHistory h)) _ (by kernel_rfl) (congrArg Value.bool (by unfold validHistory; symm; exact and_t (decide_eq_true (by omega)) (allN_true (fun j hj=>hA j (by omega))))))
theorem ent52 : Entr prog 52 := ⟨_,func52,rfl,by decide⟩
end Go.Proofs.Tryz

set_option linter.unusedSimpArgs false
set_option linter.unusedVariables false
namespace Go.Proofs.Tryz
open Go.Ab Go.RowKit Go.Shelf Go.Proofs Go.Lib
def fs36 : FnS := fnS [.o] [.int] (fun _ (n,_)=>(.v (.string (numB n)),[],(-9223372036854775808≤n)∧(n≤9223372036854775807)))
def renI : Go.Shelf.Ren := ⟨fun k=>bif Nat.beq k 129 then 123 else bif Nat.beq k 171 then 36 else bif Nat.beq k 243 then 58 else bif Nat.beq k 246 then 84 else bif Nat.beq k 283 then 103 else bif Nat.beq k 284 then 104 else bif Nat.beq k 285 then 105 else bif Nat.beq k 286 then 106 else bif Nat.beq k 317 then 122 else bif Nat.beq k 318 then 124 else bif Nat.beq k 319 then 125 else bif Nat.beq k 320 then 126 else bif Nat.beq k 337 then 135 else bif Nat.beq k 338 then 136 else k,fun k=>bif Nat.beq k 0 then 0 else bif Nat.beq k 2 then 2 else bif Nat.beq k 3 then 3 else bif Nat.beq k 4 then 4 else bif Nat.beq k 5 then 5 else bif Nat.beq k 9 then 9 else bif Nat.beq k 20 then 20 else bif Nat.beq k 37 then 28 else bif Nat.beq k 46 then 89 else bif Nat.beq k 51 then 121 else bif Nat.beq k 53 then 106 else bif Nat.beq k 171 then 105 else bif Nat.beq k 173 then 109 else bif Nat.beq k 212 then 120 else bif Nat.beq k 213 then 122 else bif Nat.beq k 232 then 146 else bif Nat.beq k 233 then 147 else k,fun k=>bif Nat.beq k 17 then 1 else bif Nat.beq k 18 then 6 else bif Nat.beq k 19 then 7 else k⟩
set_option maxRecDepth 100000 in
theorem laysI : Go.Proofs.LaysM.n171 prog renI where
 mixed := by kernel_rfl
 f129 := by kernel_rfl
 f171 := by kernel_rfl
 f243 := by kernel_rfl
 f246 := by kernel_rfl
 f283 := by kernel_rfl
 f284 := by kernel_rfl
 f285 := by kernel_rfl
 f286 := by kernel_rfl
 f317 := by kernel_rfl
 f318 := by kernel_rfl
 f319 := by kernel_rfl
 f320 := by kernel_rfl
 f337 := by kernel_rfl
 f338 := by kernel_rfl
 t0 := underlying0
 a0 := isAgg0
 z0 := sizeOf0
 v0 := zeroValue0
 t2 := underlying2
 a2 := isAgg2
 z2 := sizeOf2
 v2 := zeroValue2
 t3 := underlying3
 a3 := isAgg3
 z3 := sizeOf3
 v3 := zeroValue3
 t4 := underlying4
 a4 := isAgg4
 z4 := sizeOf4
 v4 := zeroValue4
 t5 := underlying5
 a5 := isAgg5
 z5 := sizeOf5
 v5 := zeroValue5
 t9 := underlying9
 a9 := isAgg9
 z9 := sizeOf9
 v9 := zeroValue9
 t20 := underlying20
 a20 := isAgg20
 z20 := sizeOf20
 v20 := zeroValue20
 t37 := underlying28
 a37 := isAgg28
 z37 := sizeOf28
 v37 := zeroValue28
 t46 := underlying89
 a46 := isAgg89
 z46 := sizeOf89
 v46 := zeroValue89
 t51 := underlying121
 a51 := isAgg121
 z51 := sizeOf121
 v51 := zeroValue121
 t53 := underlying106
 a53 := isAgg106
 z53 := sizeOf106
 v53 := zeroValue106
 t171 := underlying105
 a171 := isAgg105
 z171 := sizeOf105
 v171 := zeroValue105
 t173 := underlying109
 a173 := isAgg109
 z173 := sizeOf109
 v173 := zeroValue109
 t212 := underlying120
 a212 := isAgg120
 z212 := sizeOf120
 v212 := zeroValue120
 t213 := underlying122
 a213 := isAgg122
 z213 := sizeOf122
 t232 := underlying146
 a232 := isAgg146
 z232 := sizeOf146
 v232 := zeroValue146
 t233 := underlying147
 a233 := isAgg147
 z233 := sizeOf147
 v233 := zeroValue147
 g17 := by kernel_rfl
 g18 := by kernel_rfl
 g19 := by kernel_rfl
 i0 := by kernel_rfl
 i2 := by kernel_rfl
 i3 := by kernel_rfl
 i4 := by kernel_rfl
 i5 := by kernel_rfl
 i9 := by kernel_rfl
 i20 := by kernel_rfl
 i37 := by kernel_rfl
 i46 := by kernel_rfl
 i51 := by kernel_rfl
 i53 := by kernel_rfl
 i171 := by kernel_rfl
 i173 := by kernel_rfl
 i212 := by kernel_rfl
 i232 := by kernel_rfl
 i233 := by kernel_rfl
 m17 := by kernel_rfl
 m18 := by kernel_rfl
 m19 := by kernel_rfl
theorem ok36 : FnOK prog 36 fs36 := itoa_ok laysI (by kernel_rfl)
theorem ent36 : Entr prog 36 := ⟨_,func36,rfl,by decide⟩
end Go.Proofs.Tryz
