import Derived.Test.YtjcapebfkgoicaaDoorTF3S0
import Derived.Test.YtjcapebfkgoicaaDoorTF3S1
set_option linter.unusedSimpArgs false
set_option linter.unusedVariables false
namespace Go.Proofs.Tryd
open Go.Ab Go.RowKit Go.Shelf Go.Proofs Go.Lib
def fs39 : FnS := fnS [.o] [.int] (fun _ (n,_) => (.v (.string (numB n)),[],(-9223372036854775808 ≤ n) ∧ (n ≤ 9223372036854775807)))
def renI : Go.Shelf.Ren := ⟨fun k => bif Nat.beq k 129 then 96 else bif Nat.beq k 171 then 39 else bif Nat.beq k 243 then 56 else bif Nat.beq k 246 then 70 else bif Nat.beq k 283 then 84 else bif Nat.beq k 284 then 85 else bif Nat.beq k 285 then 86 else bif Nat.beq k 286 then 87 else bif Nat.beq k 317 then 95 else bif Nat.beq k 318 then 97 else bif Nat.beq k 319 then 98 else bif Nat.beq k 320 then 99 else bif Nat.beq k 337 then 103 else bif Nat.beq k 338 then 104 else k,fun k => bif Nat.beq k 0 then 0 else bif Nat.beq k 2 then 2 else bif Nat.beq k 3 then 3 else bif Nat.beq k 4 then 4 else bif Nat.beq k 5 then 5 else bif Nat.beq k 9 then 9 else bif Nat.beq k 20 then 20 else bif Nat.beq k 37 then 29 else bif Nat.beq k 46 then 106 else bif Nat.beq k 51 then 115 else bif Nat.beq k 53 then 101 else bif Nat.beq k 171 then 100 else bif Nat.beq k 173 then 104 else bif Nat.beq k 212 then 114 else bif Nat.beq k 213 then 116 else bif Nat.beq k 232 then 130 else bif Nat.beq k 233 then 131 else k,fun k => bif Nat.beq k 17 then 3 else bif Nat.beq k 18 then 6 else bif Nat.beq k 19 then 7 else k⟩
set_option maxRecDepth 100000 in
theorem laysI : Go.Proofs.LaysM.n171 prog renI where
 mixed := by kernel_rfl
 f129 := by kernel_rfl
 f171 := by kernel_rfl
 f243 := by kernel_rfl
 f246 := by kernel_rfl
 f283 := by kernel_rfl
 f284 := by kernel_rfl
 f285 := by kernel_rfl
 f286 := by kernel_rfl
 f317 := by kernel_rfl
 f318 := by kernel_rfl
 f319 := by kernel_rfl
 f320 := by kernel_rfl
 f337 := by kernel_rfl
 f338 := by kernel_rfl
 t0 := underlying0
 a0 := isAgg0
 z0 := sizeOf0
 v0 := zeroValue0
 t2 := underlying2
 a2 := isAgg2
 z2 := sizeOf2
 v2 := zeroValue2
 t3 := underlying3
 a3 := isAgg3
 z3 := sizeOf3
 v3 := zeroValue3
 t4 := underlying4
 a4 := isAgg4
 z4 := sizeOf4
 v4 := zeroValue4
 t5 := underlying5
 a5 := isAgg5
 z5 := sizeOf5
 v5 := zeroValue5
 t9 := underlying9
 a9 := isAgg9
 z9 := sizeOf9
 v9 := zeroValue9
 t20 := underlying20
 a20 := isAgg20
 z20 := sizeOf20
 v20 := zeroValue20
 t37 := underlying29
 a37 := isAgg29
 z37 := sizeOf29
 v37 := zeroValue29
 t46 := underlying106
 a46 := isAgg106
 z46 := sizeOf106
 v46 := zeroValue106
 t51 := underlying115
 a51 := isAgg115
 z51 := sizeOf115
 v51 := zeroValue115
 t53 := underlying101
 a53 := isAgg101
 z53 := sizeOf101
 v53 := zeroValue101
 t171 := underlying100
 a171 := isAgg100
 z171 := sizeOf100
 v171 := zeroValue100
 t173 := underlying104
 a173 := isAgg104
 z173 := sizeOf104
 v173 := zeroValue104
 t212 := underlying114
 a212 := isAgg114
 z212 := sizeOf114
 v212 := zeroValue114
 t213 := underlying116
 a213 := isAgg116
 z213 := sizeOf116
 t232 := underlying130
 a232 := isAgg130
 z232 := sizeOf130
 v232 := zeroValue130
 t233 := underlying131
 a233 := isAgg131
 z233 := sizeOf131
 v233 := zeroValue131
 g17 := by kernel_rfl
 g18 := by kernel_rfl
 g19 := by kernel_rfl
 i0 := by kernel_rfl
 i2 := by kernel_rfl
 i3 := by kernel_rfl
 i4 := by kernel_rfl
 i5 := by kernel_rfl
 i9 := by kernel_rfl
 i20 := by kernel_rfl
 i37 := by kernel_rfl
 i46 := by kernel_rfl
 i51 := by kernel_rfl
 i53 := by kernel_rfl
 i171 := by kernel_rfl
 i173 := by kernel_rfl
 i212 := by kernel_rfl
 i232 := by kernel_rfl
 i233 := by kernel_rfl
 m17 := by kernel_rfl
 m18 := by kernel_rfl
 m19 := by kernel_rfl
theorem ok39 : FnOK prog 39 fs39 := itoa_ok laysI (by kernel_rfl)
theorem ent39 : Entr prog 39 := ⟨_,func39,rfl,by decide⟩
end Go.Proofs.Tryd

set_option linter.unusedSimpArgs false
set_option linter.unusedVariables false
namespace Go.Proofs.Tryd
open Go.Ab Go.RowKit
def fs23 : FnS := fnS [.o] [.call] (fun _ (c,_) => (.v (.string (callTextB c)),[],(isCall c = true)))
abbrev T23 : Tab := lk [(39,fs39)]
theorem tab23 : TabOK prog T23 := (TabOK.cons ok39 ent39 TabOK.nil)
set_option maxRecDepth 100000 in
set_option maxHeartbeats 1000000 in
theorem ok23 : FnOK prog 23 fs23 := by
 refine FnOK.mk cok func23 rfl rfl rfl ?_
 rintro fl ⟨(c : CallD),_⟩ hpre F hnt0 _
 have hnt : F.nt = 39 := hnt0.trans ntmps23
 replace hpre : (isCall c = true) := hpre
 have hc := hpre
 refine W.to (⟨[(0,.agg [.i c.proc,.i c.obj,.i c.kind,.i c.arg,.i c.ret,.i c.frm,.i c.to])],[],[999]⟩) rfl ?_
 have hf := call_facts hc
 have s0 := numB_size c.proc
 have s1 := numB_size c.arg
 have s2 := numB_size c.ret
 have s3 := numB_size c.frm
 have s4 := numB_size c.to
 refine Kk cok tab23 hnt [] [1] (⟨[(1,.ptr 1 0)],[(1,⟨40,.fix [.i c.proc,.i c.obj,.i c.kind,.i c.arg,.i c.ret,.i c.frm,.i c.to]⟩)],[1,999]⟩)
  (True ∧ True ∧ True)
  ⟨tt,tt,tt⟩ ?_
 refine W.KA cok tab23 hnt [] [2] (⟨[(2,.v (.string ((((((((((numB c.proc) ++ ((⟨#[120,121]⟩ : ByteArray).extract (Int.toNat c.obj) (Int.toNat (c.obj + (1 : Int))))) ++ ((⟨#[112,116,108]⟩ : ByteArray).extract (Int.toNat c.kind) (Int.toNat (c.kind + (1 : Int))))) ++ (numB c.arg)) ++ (⟨#[61]⟩ : ByteArray)) ++ (numB c.ret)) ++ (⟨#[64]⟩ : ByteArray)) ++ (numB c.frm)) ++ (⟨#[45]⟩ : ByteArray)) ++ (numB c.to))))],[(1,⟨40,.fix [.i c.proc,.i c.obj,.i c.kind,.i c.arg,.i c.ret,.i c.frm,.i c.to]⟩)],[1,999]⟩)
  (True ∧ True ∧ (True ∧ (True ∧ True) ∧ (-9223372036854775808 ≤ c.proc) ∧ (c.proc ≤ 9223372036854775807)) ∧ True ∧ True ∧ True ∧ True ∧ (True ∧ True ∧ (Fits .i64 (c.obj + (1 : Int)))) ∧ (True ∧ True ∧ True ∧ (0 ≤ c.obj) ∧ (c.obj ≤ (c.obj + (1 : Int))) ∧ ((c.obj + (1 : Int)) ≤ ((((⟨#[120,121]⟩ : ByteArray).size) : Nat) : Int))) ∧ (True ∧ True ∧ ((numB c.proc).size + ((⟨#[120,121]⟩ : ByteArray).extract (Int.toNat c.obj) (Int.toNat (c.obj + (1 : Int)))).size ≤ 9223372036854775807)) ∧ True ∧ True ∧ True ∧ True ∧ (True ∧ True ∧ (Fits .i64 (c.kind + (1 : Int)))) ∧ (True ∧ True ∧ True ∧ (0 ≤ c.kind) ∧ (c.kind ≤ (c.kind + (1 : Int))) ∧ ((c.kind + (1 : Int)) ≤ ((((⟨#[112,116,108]⟩ : ByteArray).size) : Nat) : Int))) ∧ (True ∧ True ∧ (((numB c.proc) ++ ((⟨#[120,121]⟩ : ByteArray).extract (Int.toNat c.obj) (Int.toNat (c.obj + (1 : Int))))).size + ((⟨#[112,116,108]⟩ : ByteArray).extract (Int.toNat c.kind) (Int.toNat (c.kind + (1 : Int)))).size ≤ 9223372036854775807)) ∧ True ∧ True ∧ (True ∧ (True ∧ True) ∧ (-9223372036854775808 ≤ c.arg) ∧ (c.arg ≤ 9223372036854775807)) ∧ (True ∧ True ∧ ((((numB c.proc) ++ ((⟨#[120,121]⟩ : ByteArray).extract (Int.toNat c.obj) (Int.toNat (c.obj + (1 : Int))))) ++ ((⟨#[112,116,108]⟩ : ByteArray).extract (Int.toNat c.kind) (Int.toNat (c.kind + (1 : Int))))).size + (numB c.arg).size ≤ 9223372036854775807)) ∧ (True ∧ True ∧ (((((numB c.proc) ++ ((⟨#[120,121]⟩ : ByteArray).extract (Int.toNat c.obj) (Int.toNat (c.obj + (1 : Int))))) ++ ((⟨#[112,116,108]⟩ : ByteArray).extract (Int.toNat c.kind) (Int.toNat (c.kind + (1 : Int))))) ++ (numB c.arg)).size + (⟨#[61]⟩ : ByteArray).size ≤ 9223372036854775807)) ∧ True ∧ True ∧ (True ∧ (True ∧ True) ∧ (-9223372036854775808 ≤ c.ret) ∧ (c.ret ≤ 9223372036854775807)) ∧ (True ∧ True ∧ ((((((numB c.proc) ++ ((⟨#[120,121]⟩ : ByteArray).extract (Int.toNat c.obj) (Int.toNat (c.obj + (1 : Int))))) ++ ((⟨#[112,116,108]⟩ : ByteArray).extract (Int.toNat c.kind) (Int.toNat (c.kind + (1 : Int))))) ++ (numB c.arg)) ++ (⟨#[61]⟩ : ByteArray)).size + (numB c.ret).size ≤ 9223372036854775807)) ∧ (True ∧ True ∧ (((((((numB c.proc) ++ ((⟨#[120,121]⟩ : ByteArray).extract (Int.toNat c.obj) (Int.toNat (c.obj + (1 : Int))))) ++ ((⟨#[112,116,108]⟩ : ByteArray).extract (Int.toNat c.kind) (Int.toNat (c.kind + (1 : Int))))) ++ (numB c.arg)) ++ (⟨#[61]⟩ : ByteArray)) ++ (numB c.ret)).size + (⟨#[64]⟩ : ByteArray).size ≤ 9223372036854775807)) ∧ True ∧ True ∧ (True ∧ (True ∧ True) ∧ (-9223372036854775808 ≤ c.frm) ∧ (c.frm ≤ 9223372036854775807)) ∧ (True ∧ True ∧ ((((((((numB c.proc) ++ ((⟨#[120,121]⟩ : ByteArray).extract (Int.toNat c.obj) (Int.toNat (c.obj + (1 : Int))))) ++ ((⟨#[112,116,108]⟩ : ByteArray).extract (Int.toNat c.kind) (Int.toNat (c.kind + (1 : Int))))) ++ (numB c.arg)) ++ (⟨#[61]⟩ : ByteArray)) ++ (numB c.ret)) ++ (⟨#[64]⟩ : ByteArray)).size + (numB c.frm).size ≤ 9223372036854775807)) ∧ (True ∧ True ∧ (((((((((numB c.proc) ++ ((⟨#[120,121]⟩ : ByteArray).extract (Int.toNat c.obj) (Int.toNat (c.obj + (1 : Int))))) ++ ((⟨#[112,116,108]⟩ : ByteArray).extract (Int.toNat c.kind) (Int.toNat (c.kind + (1 : Int))))) ++ (numB c.arg)) ++ (⟨#[61]⟩ : ByteArray)) ++ (numB c.ret)) ++ (⟨#[64]⟩ : ByteArray)) ++ (numB c.frm)).size + (⟨#[45]⟩ : ByteArray).size ≤ 9223372036854775807)) ∧ True ∧ True ∧ (True ∧ (True ∧ True) ∧ (-9223372036854775808 ≤ c.to) ∧ (c.to ≤ 9223372036854775807)) ∧ (True ∧ True ∧ ((((((((((numB c.proc) ++ ((⟨#[120,121]⟩ : ByteArray).extract (Int.toNat c.obj) (Int.toNat (c.obj + (1 : Int))))) ++ ((⟨#[112,116,108]⟩ : ByteArray).extract (Int.toNat c.kind) (Int.toNat (c.kind + (1 : Int))))) ++ (numB c.arg)) ++ (⟨#[61]⟩ : ByteArray)) ++ (numB c.ret)) ++ (⟨#[64]⟩ : ByteArray)) ++ (numB c.frm)) ++ (⟨#[45]⟩ : ByteArray)).size + (numB c.to).size ≤ 9223372036854775807)) ∧ True ∧ True) (by kernel_rfl) (by kernel_rfl)
  ⟨tt,tt,⟨tt,⟨tt,tt⟩,(by omega),(by omega)⟩,tt,tt,tt,tt,⟨tt,tt,(by exact fits_i64 (by omega) (by omega))⟩,⟨tt,tt,tt,(by omega),(by omega),(by (try simp only [ByteArray.size_append,ByteArray.size_extract,sz1,sz2,sz3,sz10]); omega)⟩,⟨tt,tt,(by (try simp only [ByteArray.size_append,ByteArray.size_extract,sz1,sz2,sz3,sz10]); omega)⟩,tt,tt,tt,tt,⟨tt,tt,(by exact fits_i64 (by omega) (by omega))⟩,⟨tt,tt,tt,(by omega),(by omega),(by (try simp only [ByteArray.size_append,ByteArray.size_extract,sz1,sz2,sz3,sz10]); omega)⟩,⟨tt,tt,(by (try simp only [ByteArray.size_append,ByteArray.size_extract,sz1,sz2,sz3,sz10]); omega)⟩,tt,tt,⟨tt,⟨tt,tt⟩,(by omega),(by omega)⟩,⟨tt,tt,(by (try simp only [ByteArray.size_append,ByteArray.size_extract,sz1,sz2,sz3,sz10]); omega)⟩,⟨tt,tt,(by (try simp only [ByteArray.size_append,ByteArray.size_extract,sz1,sz2,sz3,sz10]); omega)⟩,tt,tt,⟨tt,⟨tt,tt⟩,(by omega),(by omega)⟩,⟨tt,tt,(by (try simp only [ByteArray.size_append,ByteArray.size_extract,sz1,sz2,sz3,sz10]); omega)⟩,⟨tt,tt,(by (try simp only [ByteArray.size_append,ByteArray.size_extract,sz1,sz2,sz3,sz10]); omega)⟩,tt,tt,⟨tt,⟨tt,tt⟩,(by omega),(by omega)⟩,⟨tt,tt,(by (try simp only [ByteArray.size_append,ByteArray.size_extract,sz1,sz2,sz3,sz10]); omega)⟩,⟨tt,tt,(by (try simp only [ByteArray.size_append,ByteArray.size_extract,sz1,sz2,sz3,sz10]); omega)⟩,tt,tt,⟨tt,⟨tt,tt⟩,(by omega),(by omega)⟩,⟨tt,tt,(by (try simp only [ByteArray.size_append,ByteArray.size_extract,sz1,sz2,sz3,sz10]); omega)⟩,tt,tt⟩ ?_
 refine W.ret ?_
 exact endQ_ret (.v (.string ((((((((((numB c.proc) ++ ((⟨#[120,121]⟩ : ByteArray).extract (Int.toNat c.obj) (Int.toNat (c.obj + (1 : Int))))) ++ ((⟨#[112,116,108]⟩ : ByteArray).extract (Int.toNat c.kind) (Int.toNat (c.kind + (1 : Int))))) ++ (numB c.arg)) ++ (⟨#[61]⟩ : ByteArray)) ++ (numB c.ret)) ++ (⟨#[64]⟩ : ByteArray)) ++ (numB c.frm)) ++ (⟨#[45]⟩ : ByteArray)) ++ (numB c.to)))) (by kernel_rfl) (@cast (((.string ((((((((((numB c.proc) ++ ((⟨#[120,121]⟩ : ByteArray).extract (Int.toNat c.obj) (Int.toNat (c.obj + (1 : Int))))) ++ ((⟨#[112,116,108]⟩ : ByteArray).extract (Int.toNat c.kind) (Int.toNat (c.kind + (1 : Int))))) ++ (numB c.arg)) ++ (⟨#[61]⟩ : ByteArray)) ++ (numB c.ret)) ++ (⟨#[64]⟩ : ByteArray)) ++ (numB c.frm)) ++ (⟨#[45]⟩ : ByteArray)) ++ (numB c.to))) : Value) = (.string (callTextB c))) _ (by kernel_rfl) (congrArg Value.string (by exact text_val hc)))
theorem ent23 : Entr prog 23 := ⟨_,func23,rfl,by decide⟩
end Go.Proofs.Tryd

set_option linter.unusedSimpArgs false
set_option linter.unusedVariables false
namespace Go.Proofs.Tryd
open Go.Ab Go.RowKit Go.Shelf Go.Proofs Go.Lib
def fs24 : FnS := fnS [.s .strs,.o] [.strs,.str] (fun _ (xs,sep,_) => (.v (.string (joinB xs sep)),[],(List.length xs ≤ 1000) ∧ ((joinB xs sep).size ≤ 1000000)))
def renJ : Go.Shelf.Ren := ⟨fun k => bif Nat.beq k 156 then 24 else bif Nat.beq k 165 then 40 else bif Nat.beq k 166 then 41 else bif Nat.beq k 169 then 42 else bif Nat.beq k 240 then 57 else bif Nat.beq k 241 then 58 else bif Nat.beq k 276 then 71 else bif Nat.beq k 277 then 72 else k,fun k => bif Nat.beq k 0 then 0 else bif Nat.beq k 3 then 3 else bif Nat.beq k 4 then 4 else bif Nat.beq k 5 then 5 else bif Nat.beq k 9 then 9 else bif Nat.beq k 20 then 20 else bif Nat.beq k 31 then 43 else bif Nat.beq k 37 then 29 else bif Nat.beq k 70 then 57 else bif Nat.beq k 72 then 59 else bif Nat.beq k 75 then 62 else bif Nat.beq k 76 then 63 else bif Nat.beq k 80 then 65 else bif Nat.beq k 127 then 77 else bif Nat.beq k 164 then 88 else k,fun k => k⟩
set_option maxRecDepth 100000 in
theorem laysJ : Go.Proofs.Lays.n156 prog renJ where
 mixed := by kernel_rfl
 f156 := by kernel_rfl
 f165 := by kernel_rfl
 f166 := by kernel_rfl
 f169 := by kernel_rfl
 f240 := by kernel_rfl
 f241 := by kernel_rfl
 f276 := by kernel_rfl
 f277 := by kernel_rfl
 t0 := underlying0
 a0 := isAgg0
 z0 := sizeOf0
 v0 := zeroValue0
 t3 := underlying3
 a3 := isAgg3
 z3 := sizeOf3
 v3 := zeroValue3
 t4 := underlying4
 a4 := isAgg4
 z4 := sizeOf4
 v4 := zeroValue4
 t9 := underlying9
 a9 := isAgg9
 z9 := sizeOf9
 v9 := zeroValue9
 t20 := underlying20
 a20 := isAgg20
 z20 := sizeOf20
 v20 := zeroValue20
 t31 := underlying43
 a31 := isAgg43
 z31 := sizeOf43
 v31 := zeroValue43
 t37 := underlying29
 a37 := isAgg29
 z37 := sizeOf29
 v37 := zeroValue29
 t70 := underlying57
 a70 := isAgg57
 z70 := sizeOf57
 v70 := zeroValue57
 t72 := underlying59
 a72 := isAgg59
 z72 := sizeOf59
 v72 := zeroValue59
 t75 := underlying62
 a75 := isAgg62
 z75 := sizeOf62
 v75 := zeroValue62
 t76 := underlying63
 a76 := isAgg63
 z76 := sizeOf63
 v76 := zeroValue63
 t127 := underlying77
 a127 := isAgg77
 z127 := sizeOf77
 v127 := zeroValue77
 t164 := underlying88
 a164 := isAgg88
 z164 := sizeOf88
 v164 := zeroValue88
set_option maxRecDepth 100000 in
theorem extraJ : Go.Proofs.Builder.Extra prog renJ where
 sizeBuilder := by kernel_rfl
 liesBuilder := by kernel_rfl
 t5 := underlying5
 a5 := isAgg5
 z5 := sizeOf5
 v5 := zeroValue5
 infoByte := by kernel_rfl
 cellsByte := by kernel_rfl
 sizeByte := by kernel_rfl
 neB5 := by decide
theorem ok24 : FnOK prog 24 fs24 := join_ok laysJ extraJ
theorem ent24 : Entr prog 24 := ⟨_,func24,rfl,by decide⟩
end Go.Proofs.Tryd

set_option linter.unusedSimpArgs false
set_option linter.unusedVariables false
namespace Go.Proofs.Tryd
open Go.Ab Go.RowKit
def fs10 : FnS := fnS [.s .calls] [.calls] (fun _ (h,_) => (.v (.string (histB h)),[],True))
abbrev T10 : Tab := lk [(13,fs13),(23,fs23),(24,fs24)]
theorem tab10 : TabOK prog T10 := (TabOK.cons ok13 ent13 (TabOK.cons ok23 ent23 (TabOK.cons ok24 ent24 TabOK.nil)))
set_option maxRecDepth 100000 in
set_option maxHeartbeats 1000000 in
theorem ok10 : FnOK prog 10 fs10 := by
 refine FnOK.mk cok func10 rfl rfl rfl ?_
 rintro fl ⟨(h : List CallD),_⟩ hpre F hnt0 _
 have hnt : F.nt = 24 := hnt0.trans ntmps10
 clear hpre
 refine W.to (⟨[(0,.sl (.calls h))],[],[999]⟩) rfl ?_
 refine W.lenOf 0 (.calls h) (by kernel_rfl) ?_
 intro hl_h; replace hl_h : List.length h ≤ 9223372036854775807 := hl_h
 refine Kk cok tab10 hnt [] [0] (⟨[(0,.sl (.calls h))],[],[999]⟩)
  (True ∧ True)
  ⟨tt,tt⟩ ?_
 refine W.seq ?_
 refine Kk cok tab10 hnt [] [0,8] (⟨[(0,.sl (.calls h)),(8,.b (!(validHistory h)))],[],[999]⟩)
  (True ∧ (True ∧ (True ∧ True) ∧ True) ∧ True ∧ True)
  ⟨tt,⟨tt,⟨tt,tt⟩,tt⟩,tt,tt⟩ ?_
 refine W.if' (!(validHistory h)) (.b (!(validHistory h))) (by kernel_rfl) rfl trivial ?_ ?_
 ·intro h8
  refine Kk cok tab10 hnt [] [2] (⟨[(2,.v (.string nEmpty))],[],[999]⟩)
   (True ∧ True)
   ⟨tt,tt⟩ ?_
  refine W.ret (thenQ_ret ?_)
  exact endQ_ret (.v (.string nEmpty)) (by kernel_rfl) (@cast (((.string nEmpty) : Value) = (.string (histB h))) _ (by kernel_rfl) (congrArg Value.string (by exact histB_no (not_f h8))))
 ·intro n8
  have hv : validHistory h = true := not_g n8
  have h6 := valid_len hv
  refine W.skip (thenQ_normal ?_)
  refine Kk cok tab10 hnt [9] [0,3] (⟨[(0,.sl (.calls h)),(3,.own 9 (List.length ([] : List ByteArray)))],[(9,⟨9,.row (.strs ([] : List ByteArray))⟩)],[9,999]⟩)
   (True ∧ True ∧ True)
   ⟨tt,tt,tt⟩ ?_
  refine W.seq ?_
  refine Kk cok tab10 hnt [] [3,10,11,12] (⟨[(3,.own 9 (List.length ([] : List ByteArray))),(10,.sl (.calls h)),(11,.i (h.length : Int)),(12,.i (0 : Int))],[(9,⟨9,.row (.strs ([] : List ByteArray))⟩)],[9,999]⟩)
   (True ∧ True ∧ True ∧ True)
   ⟨tt,tt,tt,tt⟩ ?_
  refine W.block ?_
  refine W.loop (ι := Nat × (List ByteArray)) (fun (x : Nat × (List ByteArray)) => match x with | (i,o) => (⟨[(3,.own 9 o.length),(10,.sl (.calls h)),(11,.i (h.length : Int)),(12,.i ((i : Nat) : Int))],[(9,⟨9,.row (.strs o)⟩)],[9,999]⟩ : St))
   (fun (x : Nat × (List ByteArray)) => match x with | (i,o) => (i ≤ h.length) ∧ (o = textUp h i))
   (fun (x : Nat × (List ByteArray)) => match x with | (i,o) => (h.length - i : Nat)) (0,([] : List ByteArray)) ?_ ?_ ?_
  ·exact (show (0 ≤ h.length) ∧ (([] : List ByteArray) = textUp h 0) from ⟨(by first | assumption | omega | rfl | (intro _ hjj; omega) | (simp; done) | (simp; omega)),(by rfl)⟩)
  ·exact Sub.of [] (@cast (((((9 : Nat) = 9) ∧ ((List.length ([] : List ByteArray)) = (List.length ([] : List ByteArray))) ∧ ((9 : Nat) ∈ ([9,999] : List Nat))) ∧ (Sd (.calls h)) ∧ (Si (h.length : Int)) ∧ ((.int .i64 (0 : Int) : Value) = .int .i64 ((0 : Nat) : Int)) ∧ True) ∧ ((((9 : Nat) = 9) ∧ (Sd (.strs ([] : List ByteArray))) ∧ ((9 : Nat) ∈ ([9,999] : List Nat))) ∧ True) ∧ (true = true) ∧ (true = true)) _ (by kernel_rfl) ⟨⟨⟨rfl,rfl,(by decide)⟩,rfl,rfl,(congrArg (Value.int .i64) (by first | rfl | omega | assumption | simp | simp_all)),tt⟩,⟨⟨rfl,rfl,(by decide)⟩,tt⟩,rfl,rfl⟩)
  ·rintro ⟨i,o⟩ hC0
   have hC : (i ≤ h.length) ∧ (o = textUp h i) := hC0
   clear hC0
   obtain ⟨hi,ho⟩ := hC
   refine W.to (⟨[(3,.own 9 o.length),(10,.sl (.calls h)),(11,.i (h.length : Int)),(12,.i ((i : Nat) : Int))],[(9,⟨9,.row (.strs o)⟩)],[9,999]⟩) rfl ?_
   have hol : o.length = i := by rw [ho]; exact textUp_len hi
   have hjs := join_size ho
   refine Kk cok tab10 hnt [] [3,10,11,12,13] (⟨[(3,.own 9 o.length),(10,.sl (.calls h)),(11,.i (h.length : Int)),(12,.i ((i : Nat) : Int)),(13,.b (decide (((i : Nat) : Int) < (h.length : Int))))],[(9,⟨9,.row (.strs o)⟩)],[9,999]⟩)
    ((True ∧ True ∧ True) ∧ True)
    ⟨⟨tt,tt,tt⟩,tt⟩ ?_
   refine W.seq ?_
   refine W.ifP (((i : Nat) : Int) < (h.length : Int)) (.b (decide (((i : Nat) : Int) < (h.length : Int)))) (by kernel_rfl) rfl trivial ?_ ?_
   ·intro h13
    refine W.skip (thenQ_normal ?_)
    refine W.seq ?_
    refine W.block ?_
    refine Kk cok tab10 hnt [] [3,5,10,11,12] (⟨[(3,.own 9 o.length),(5,.ptr 5 0),(10,.sl (.calls h)),(11,.i (h.length : Int)),(12,.i ((i : Nat) : Int))],[(5,⟨40,.fix [.i ((h.getD i default).proc),.i ((h.getD i default).obj),.i ((h.getD i default).kind),.i ((h.getD i default).arg),.i ((h.getD i default).ret),.i ((h.getD i default).frm),.i ((h.getD i default).to)]⟩),(9,⟨9,.row (.strs o)⟩)],[5,9,999]⟩)
     ((True ∧ True ∧ (0 ≤ ((i : Nat) : Int)) ∧ (((i : Nat) : Int) < (h.length : Int))) ∧ True ∧ True ∧ (True ∧ True) ∧ True)
     ⟨⟨tt,tt,(by omega),(by omega)⟩,tt,tt,⟨tt,tt⟩,tt⟩ ?_
    refine Lk cok tab10 hnt [20] (⟨[(3,.own 20 (List.length (o ++ ([callTextB (h.getD i default)])))),(5,.ptr 5 0),(10,.sl (.calls h)),(11,.i (h.length : Int)),(12,.i ((i : Nat) : Int)),(16,.own 9 o.length),(17,.agg [.i ((h.getD i default).proc),.i ((h.getD i default).obj),.i ((h.getD i default).kind),.i ((h.getD i default).arg),.i ((h.getD i default).ret),.i ((h.getD i default).frm),.i ((h.getD i default).to)]),(18,.v (.string (callTextB (h.getD i default)))),(19,.sl (.strs ([callTextB (h.getD i default)]))),(20,.own 20 (List.length (o ++ ([callTextB (h.getD i default)]))))],[(5,⟨40,.fix [.i ((h.getD i default).proc),.i ((h.getD i default).obj),.i ((h.getD i default).kind),.i ((h.getD i default).arg),.i ((h.getD i default).ret),.i ((h.getD i default).frm),.i ((h.getD i default).to)]⟩),(20,⟨9,.row (.strs (o ++ ([callTextB (h.getD i default)])))⟩)],[20,19,5,9,999]⟩)
     (True ∧ True ∧ (True ∧ (True ∧ True) ∧ (isCall (h.getD i default) = true)) ∧ (True ∧ True) ∧ ((True ∧ (o.length = o.length)) ∧ True ∧ ((o.length + (List.length ([callTextB (h.getD i default)]))) * 16 ≤ 140737488355328)) ∧ True ∧ True)
     ⟨tt,tt,⟨tt,⟨tt,tt⟩,(by have h9 := valid_call hv _ (getD_mem h default (show i < h.length by omega)); exact h9)⟩,⟨tt,tt⟩,⟨⟨tt,rfl⟩,tt,(by (try simp only [List.length_append,List.length_cons,List.length_nil]); omega)⟩,tt,tt⟩ ?_
    refine blockQ_normal (thenQ_normal ?_)
    refine Lk cok tab10 hnt [] (⟨[(3,.own 20 (List.length (o ++ ([callTextB (h.getD i default)])))),(5,.ptr 5 0),(10,.sl (.calls h)),(11,.i (h.length : Int)),(12,.i (((i + 1) : Nat) : Int)),(16,.own 9 o.length),(17,.agg [.i ((h.getD i default).proc),.i ((h.getD i default).obj),.i ((h.getD i default).kind),.i ((h.getD i default).arg),.i ((h.getD i default).ret),.i ((h.getD i default).frm),.i ((h.getD i default).to)]),(18,.v (.string (callTextB (h.getD i default)))),(19,.sl (.strs ([callTextB (h.getD i default)]))),(20,.own 20 (List.length (o ++ ([callTextB (h.getD i default)])))),(21,.i (((i + 1) : Nat) : Int))],[(5,⟨40,.fix [.i ((h.getD i default).proc),.i ((h.getD i default).obj),.i ((h.getD i default).kind),.i ((h.getD i default).arg),.i ((h.getD i default).ret),.i ((h.getD i default).frm),.i ((h.getD i default).to)]⟩),(20,⟨9,.row (.strs (o ++ ([callTextB (h.getD i default)])))⟩)],[20,19,5,9,999]⟩)
     ((True ∧ True ∧ (Fits .i64 (((i + 1) : Nat) : Int))) ∧ True ∧ True)
     ⟨⟨tt,tt,(by exact fits_i64 (by omega) (by omega))⟩,tt,tt⟩ ?_
    refine thenQ_normal ?_
    refine ⟨((i + 1),(o ++ ([callTextB (h.getD i default)]))),(show ((i + 1) ≤ h.length) ∧ ((o ++ ([callTextB (h.getD i default)])) = textUp h (i + 1)) from ⟨(by first | assumption | omega | rfl | (intro _ hjj; omega) | (simp; done) | (simp; omega)),(by exact textUp_next ho (by omega))⟩),(show h.length - (i + 1) < h.length - i from (by first | omega | (simp_all; omega))),?_⟩
    exact Sub.of [(9,20)] (@cast (((((20 : Nat) = 20) ∧ ((List.length (o ++ ([callTextB (h.getD i default)]))) = (List.length (o ++ ([callTextB (h.getD i default)])))) ∧ ((9 : Nat) ∈ ([9,999] : List Nat))) ∧ (Sd (.calls h)) ∧ (Si (h.length : Int)) ∧ (Si (((i + 1) : Nat) : Int)) ∧ True) ∧ ((((9 : Nat) = 9) ∧ (Sd (.strs (o ++ ([callTextB (h.getD i default)])))) ∧ ((9 : Nat) ∈ ([9,999] : List Nat))) ∧ True) ∧ (true = true) ∧ (true = true)) _ (by kernel_rfl) ⟨⟨⟨rfl,rfl,(by decide)⟩,rfl,rfl,rfl,tt⟩,⟨⟨rfl,rfl,(by decide)⟩,tt⟩,rfl,rfl⟩)
   ·intro n13
    refine W.exit (thenQ_exit (thenQ_exit (blockQ_hit ?_)))
    refine thenQ_normal ?_
    refine Kk cok tab10 hnt [] [2] (⟨[(2,.v (.string (joinB o (⟨#[32]⟩ : ByteArray))))],[(9,⟨9,.row (.strs o)⟩)],[9,999]⟩)
     (True ∧ (True ∧ ((True ∧ (o.length = o.length)) ∧ True ∧ True) ∧ (List.length o ≤ 1000) ∧ ((joinB o (⟨#[32]⟩ : ByteArray)).size ≤ 1000000)) ∧ True ∧ True)
     ⟨tt,⟨tt,⟨⟨tt,rfl⟩,tt,tt⟩,(by omega),(by omega)⟩,tt,tt⟩ ?_
    refine W.ret ?_
    exact endQ_ret (.v (.string (joinB o (⟨#[32]⟩ : ByteArray)))) (by kernel_rfl) (@cast (((.string (joinB o (⟨#[32]⟩ : ByteArray))) : Value) = (.string (histB h))) _ (by kernel_rfl) (congrArg Value.string (by exact join_all hv ho (by omega))))
theorem ent10 : Entr prog 10 := ⟨_,func10,rfl,by decide⟩
end Go.Proofs.Tryd

set_option linter.unusedSimpArgs false
set_option linter.unusedVariables false
namespace Go.Proofs.Tryd
open Go.Ab Go.RowKit
def fs25 : FnS := fnS [.o,.o] [.call,.call] (fun _ (a,b,_) => (.b (decide (a = b)),[],True))
abbrev T25 : Tab := lk []
theorem tab25 : TabOK prog T25 := TabOK.nil
set_option maxRecDepth 100000 in
set_option maxHeartbeats 1000000 in
theorem ok25 : FnOK prog 25 fs25 := by
 refine FnOK.mk cok func25 rfl rfl rfl ?_
 rintro fl ⟨(a : CallD),(b : CallD),_⟩ hpre F hnt0 _
 have hnt : F.nt = 40 := hnt0.trans ntmps25
 clear hpre
 refine W.to (⟨[(0,.agg [.i a.proc,.i a.obj,.i a.kind,.i a.arg,.i a.ret,.i a.frm,.i a.to]),(1,.agg [.i b.proc,.i b.obj,.i b.kind,.i b.arg,.i b.ret,.i b.frm,.i b.to])],[],[999]⟩) rfl ?_
 refine Kk cok tab25 hnt [] [2,3] (⟨[(2,.ptr 2 0),(3,.ptr 3 0)],[(2,⟨40,.fix [.i a.proc,.i a.obj,.i a.kind,.i a.arg,.i a.ret,.i a.frm,.i a.to]⟩),(3,⟨40,.fix [.i b.proc,.i b.obj,.i b.kind,.i b.arg,.i b.ret,.i b.frm,.i b.to]⟩)],[3,2,999]⟩)
  (True ∧ True ∧ True ∧ True)
  ⟨tt,tt,tt,tt⟩ ?_
 refine W.seq ?_
 refine Kk cok tab25 hnt [] [2,3,9] (⟨[(2,.ptr 2 0),(3,.ptr 3 0),(9,.b (decide (a.proc ≠ b.proc)))],[(2,⟨40,.fix [.i a.proc,.i a.obj,.i a.kind,.i a.arg,.i a.ret,.i a.frm,.i a.to]⟩),(3,⟨40,.fix [.i b.proc,.i b.obj,.i b.kind,.i b.arg,.i b.ret,.i b.frm,.i b.to]⟩)],[3,2,999]⟩)
  (True ∧ True ∧ True ∧ True ∧ (True ∧ True ∧ True) ∧ True)
  ⟨tt,tt,tt,tt,⟨tt,tt,tt⟩,tt⟩ ?_
 refine W.ifP (a.proc ≠ b.proc) (.b (decide (a.proc ≠ b.proc))) (by kernel_rfl) rfl trivial ?_ ?_
 ·intro h9
  refine Kk cok tab25 hnt [] [4] (⟨[(4,.b false)],[(2,⟨40,.fix [.i a.proc,.i a.obj,.i a.kind,.i a.arg,.i a.ret,.i a.frm,.i a.to]⟩),(3,⟨40,.fix [.i b.proc,.i b.obj,.i b.kind,.i b.arg,.i b.ret,.i b.frm,.i b.to]⟩)],[3,2,999]⟩)
   (True ∧ True)
   ⟨tt,tt⟩ ?_
  refine W.ret (thenQ_ret ?_)
  exact endQ_ret (.b false) (by kernel_rfl) (@cast ((.bool false : Value) = .bool (decide (a = b))) _ (by kernel_rfl) (congrArg Value.bool (by first | (symm; exact decide_eq_true (call_ext (by omega) (by omega) (by omega) (by omega) (by omega) (by omega) (by omega))) | (symm; exact decide_eq_false (fun e => by subst e; simp_all)))))
 ·intro n9
  refine W.skip (thenQ_normal ?_)
  refine W.seq ?_
  refine Kk cok tab25 hnt [] [2,3,14] (⟨[(2,.ptr 2 0),(3,.ptr 3 0),(14,.b (decide (a.obj ≠ b.obj)))],[(2,⟨40,.fix [.i a.proc,.i a.obj,.i a.kind,.i a.arg,.i a.ret,.i a.frm,.i a.to]⟩),(3,⟨40,.fix [.i b.proc,.i b.obj,.i b.kind,.i b.arg,.i b.ret,.i b.frm,.i b.to]⟩)],[3,2,999]⟩)
   (True ∧ True ∧ True ∧ True ∧ (True ∧ True ∧ True) ∧ True)
   ⟨tt,tt,tt,tt,⟨tt,tt,tt⟩,tt⟩ ?_
  refine W.ifP (a.obj ≠ b.obj) (.b (decide (a.obj ≠ b.obj))) (by kernel_rfl) rfl trivial ?_ ?_
  ·intro h14
   refine Kk cok tab25 hnt [] [4] (⟨[(4,.b false)],[(2,⟨40,.fix [.i a.proc,.i a.obj,.i a.kind,.i a.arg,.i a.ret,.i a.frm,.i a.to]⟩),(3,⟨40,.fix [.i b.proc,.i b.obj,.i b.kind,.i b.arg,.i b.ret,.i b.frm,.i b.to]⟩)],[3,2,999]⟩)
    (True ∧ True)
    ⟨tt,tt⟩ ?_
   refine W.ret (thenQ_ret ?_)
   exact endQ_ret (.b false) (by kernel_rfl) (@cast ((.bool false : Value) = .bool (decide (a = b))) _ (by kernel_rfl) (congrArg Value.bool (by first | (symm; exact decide_eq_true (call_ext (by omega) (by omega) (by omega) (by omega) (by omega) (by omega) (by omega))) | (symm; exact decide_eq_false (fun e => by subst e; simp_all)))))
  ·intro n14
   refine W.skip (thenQ_normal ?_)
   refine W.seq ?_
   refine Kk cok tab25 hnt [] [2,3,19] (⟨[(2,.ptr 2 0),(3,.ptr 3 0),(19,.b (decide (a.kind ≠ b.kind)))],[(2,⟨40,.fix [.i a.proc,.i a.obj,.i a.kind,.i a.arg,.i a.ret,.i a.frm,.i a.to]⟩),(3,⟨40,.fix [.i b.proc,.i b.obj,.i b.kind,.i b.arg,.i b.ret,.i b.frm,.i b.to]⟩)],[3,2,999]⟩)
    (True ∧ True ∧ True ∧ True ∧ (True ∧ True ∧ True) ∧ True)
    ⟨tt,tt,tt,tt,⟨tt,tt,tt⟩,tt⟩ ?_
   refine W.ifP (a.kind ≠ b.kind) (.b (decide (a.kind ≠ b.kind))) (by kernel_rfl) rfl trivial ?_ ?_
   ·intro h19
    refine Kk cok tab25 hnt [] [4] (⟨[(4,.b false)],[(2,⟨40,.fix [.i a.proc,.i a.obj,.i a.kind,.i a.arg,.i a.ret,.i a.frm,.i a.to]⟩),(3,⟨40,.fix [.i b.proc,.i b.obj,.i b.kind,.i b.arg,.i b.ret,.i b.frm,.i b.to]⟩)],[3,2,999]⟩)
     (True ∧ True)
     ⟨tt,tt⟩ ?_
    refine W.ret (thenQ_ret ?_)
    exact endQ_ret (.b false) (by kernel_rfl) (@cast ((.bool false : Value) = .bool (decide (a = b))) _ (by kernel_rfl) (congrArg Value.bool (by first | (symm; exact decide_eq_true (call_ext (by omega) (by omega) (by omega) (by omega) (by omega) (by omega) (by omega))) | (symm; exact decide_eq_false (fun e => by subst e; simp_all)))))
   ·intro n19
    refine W.skip (thenQ_normal ?_)
    refine W.seq ?_
    refine Kk cok tab25 hnt [] [2,3,24] (⟨[(2,.ptr 2 0),(3,.ptr 3 0),(24,.b (decide (a.arg ≠ b.arg)))],[(2,⟨40,.fix [.i a.proc,.i a.obj,.i a.kind,.i a.arg,.i a.ret,.i a.frm,.i a.to]⟩),(3,⟨40,.fix [.i b.proc,.i b.obj,.i b.kind,.i b.arg,.i b.ret,.i b.frm,.i b.to]⟩)],[3,2,999]⟩)
     (True ∧ True ∧ True ∧ True ∧ (True ∧ True ∧ True) ∧ True)
     ⟨tt,tt,tt,tt,⟨tt,tt,tt⟩,tt⟩ ?_
    refine W.ifP (a.arg ≠ b.arg) (.b (decide (a.arg ≠ b.arg))) (by kernel_rfl) rfl trivial ?_ ?_
    ·intro h24
     refine Kk cok tab25 hnt [] [4] (⟨[(4,.b false)],[(2,⟨40,.fix [.i a.proc,.i a.obj,.i a.kind,.i a.arg,.i a.ret,.i a.frm,.i a.to]⟩),(3,⟨40,.fix [.i b.proc,.i b.obj,.i b.kind,.i b.arg,.i b.ret,.i b.frm,.i b.to]⟩)],[3,2,999]⟩)
      (True ∧ True)
      ⟨tt,tt⟩ ?_
     refine W.ret (thenQ_ret ?_)
     exact endQ_ret (.b false) (by kernel_rfl) (@cast ((.bool false : Value) = .bool (decide (a = b))) _ (by kernel_rfl) (congrArg Value.bool (by first | (symm; exact decide_eq_true (call_ext (by omega) (by omega) (by omega) (by omega) (by omega) (by omega) (by omega))) | (symm; exact decide_eq_false (fun e => by subst e; simp_all)))))
    ·intro n24
     refine W.skip (thenQ_normal ?_)
     refine W.seq ?_
     refine Kk cok tab25 hnt [] [2,3,29] (⟨[(2,.ptr 2 0),(3,.ptr 3 0),(29,.b (decide (a.ret ≠ b.ret)))],[(2,⟨40,.fix [.i a.proc,.i a.obj,.i a.kind,.i a.arg,.i a.ret,.i a.frm,.i a.to]⟩),(3,⟨40,.fix [.i b.proc,.i b.obj,.i b.kind,.i b.arg,.i b.ret,.i b.frm,.i b.to]⟩)],[3,2,999]⟩)
      (True ∧ True ∧ True ∧ True ∧ (True ∧ True ∧ True) ∧ True)
      ⟨tt,tt,tt,tt,⟨tt,tt,tt⟩,tt⟩ ?_
     refine W.ifP (a.ret ≠ b.ret) (.b (decide (a.ret ≠ b.ret))) (by kernel_rfl) rfl trivial ?_ ?_
     ·intro h29
      refine Kk cok tab25 hnt [] [4] (⟨[(4,.b false)],[(2,⟨40,.fix [.i a.proc,.i a.obj,.i a.kind,.i a.arg,.i a.ret,.i a.frm,.i a.to]⟩),(3,⟨40,.fix [.i b.proc,.i b.obj,.i b.kind,.i b.arg,.i b.ret,.i b.frm,.i b.to]⟩)],[3,2,999]⟩)
       (True ∧ True)
       ⟨tt,tt⟩ ?_
      refine W.ret (thenQ_ret ?_)
      exact endQ_ret (.b false) (by kernel_rfl) (@cast ((.bool false : Value) = .bool (decide (a = b))) _ (by kernel_rfl) (congrArg Value.bool (by first | (symm; exact decide_eq_true (call_ext (by omega) (by omega) (by omega) (by omega) (by omega) (by omega) (by omega))) | (symm; exact decide_eq_false (fun e => by subst e; simp_all)))))
     ·intro n29
      refine W.skip (thenQ_normal ?_)
      refine W.seq ?_
      refine Kk cok tab25 hnt [] [2,3,34] (⟨[(2,.ptr 2 0),(3,.ptr 3 0),(34,.b (decide (a.frm ≠ b.frm)))],[(2,⟨40,.fix [.i a.proc,.i a.obj,.i a.kind,.i a.arg,.i a.ret,.i a.frm,.i a.to]⟩),(3,⟨40,.fix [.i b.proc,.i b.obj,.i b.kind,.i b.arg,.i b.ret,.i b.frm,.i b.to]⟩)],[3,2,999]⟩)
       (True ∧ True ∧ True ∧ True ∧ (True ∧ True ∧ True) ∧ True)
       ⟨tt,tt,tt,tt,⟨tt,tt,tt⟩,tt⟩ ?_
      refine W.ifP (a.frm ≠ b.frm) (.b (decide (a.frm ≠ b.frm))) (by kernel_rfl) rfl trivial ?_ ?_
      ·intro h34
       refine Kk cok tab25 hnt [] [4] (⟨[(4,.b false)],[(2,⟨40,.fix [.i a.proc,.i a.obj,.i a.kind,.i a.arg,.i a.ret,.i a.frm,.i a.to]⟩),(3,⟨40,.fix [.i b.proc,.i b.obj,.i b.kind,.i b.arg,.i b.ret,.i b.frm,.i b.to]⟩)],[3,2,999]⟩)
        (True ∧ True)
        ⟨tt,tt⟩ ?_
       refine W.ret (thenQ_ret ?_)
       exact endQ_ret (.b false) (by kernel_rfl) (@cast ((.bool false : Value) = .bool (decide (a = b))) _ (by kernel_rfl) (congrArg Value.bool (by first | (symm; exact decide_eq_true (call_ext (by omega) (by omega) (by omega) (by omega) (by omega) (by omega) (by omega))) | (symm; exact decide_eq_false (fun e => by subst e; simp_all)))))
      ·intro n34
       refine W.skip (thenQ_normal ?_)
       refine W.seq ?_
       refine Kk cok tab25 hnt [] [39] (⟨[(39,.b (decide (a.to ≠ b.to)))],[(2,⟨40,.fix [.i a.proc,.i a.obj,.i a.kind,.i a.arg,.i a.ret,.i a.frm,.i a.to]⟩),(3,⟨40,.fix [.i b.proc,.i b.obj,.i b.kind,.i b.arg,.i b.ret,.i b.frm,.i b.to]⟩)],[3,2,999]⟩)
        (True ∧ True ∧ True ∧ True ∧ (True ∧ True ∧ True) ∧ True)
        ⟨tt,tt,tt,tt,⟨tt,tt,tt⟩,tt⟩ ?_
       refine W.ifP (a.to ≠ b.to) (.b (decide (a.to ≠ b.to))) (by kernel_rfl) rfl trivial ?_ ?_
       ·intro h39
        refine Kk cok tab25 hnt [] [4] (⟨[(4,.b false)],[(2,⟨40,.fix [.i a.proc,.i a.obj,.i a.kind,.i a.arg,.i a.ret,.i a.frm,.i a.to]⟩),(3,⟨40,.fix [.i b.proc,.i b.obj,.i b.kind,.i b.arg,.i b.ret,.i b.frm,.i b.to]⟩)],[3,2,999]⟩)
         (True ∧ True)
         ⟨tt,tt⟩ ?_
        refine W.ret (thenQ_ret ?_)
        exact endQ_ret (.b false) (by kernel_rfl) (@cast ((.bool false : Value) = .bool (decide (a = b))) _ (by kernel_rfl) (congrArg Value.bool (by first | (symm; exact decide_eq_true (call_ext (by omega) (by omega) (by omega) (by omega) (by omega) (by omega) (by omega))) | (symm; exact decide_eq_false (fun e => by subst e; simp_all)))))
       ·intro n39
        refine W.skip (thenQ_normal ?_)
        refine Kk cok tab25 hnt [] [4] (⟨[(4,.b true)],[(2,⟨40,.fix [.i a.proc,.i a.obj,.i a.kind,.i a.arg,.i a.ret,.i a.frm,.i a.to]⟩),(3,⟨40,.fix [.i b.proc,.i b.obj,.i b.kind,.i b.arg,.i b.ret,.i b.frm,.i b.to]⟩)],[3,2,999]⟩)
         (True ∧ True)
         ⟨tt,tt⟩ ?_
        refine W.ret ?_
        exact endQ_ret (.b true) (by kernel_rfl) (@cast ((.bool true : Value) = .bool (decide (a = b))) _ (by kernel_rfl) (congrArg Value.bool (by first | (symm; exact decide_eq_true (call_ext (by omega) (by omega) (by omega) (by omega) (by omega) (by omega) (by omega))) | (symm; exact decide_eq_false (fun e => by subst e; simp_all)))))
theorem ent25 : Entr prog 25 := ⟨_,func25,rfl,by decide⟩
end Go.Proofs.Tryd

set_option linter.unusedSimpArgs false
set_option linter.unusedVariables false
namespace Go.Proofs.Tryd
open Go.Ab Go.RowKit
def fs11 : FnS := fnS [.s .calls,.s .calls] [.calls,.calls] (fun _ (a,b,_) => (.b (decide (a = b)),[],True))
abbrev T11 : Tab := lk [(25,fs25)]
theorem tab11 : TabOK prog T11 := (TabOK.cons ok25 ent25 TabOK.nil)
set_option maxRecDepth 100000 in
set_option maxHeartbeats 1000000 in
theorem ok11 : FnOK prog 11 fs11 := by
 refine FnOK.mk cok func11 rfl rfl rfl ?_
 rintro fl ⟨(a : List CallD),(b : List CallD),_⟩ hpre F hnt0 _
 have hnt : F.nt = 27 := hnt0.trans ntmps11
 clear hpre
 refine W.to (⟨[(0,.sl (.calls a)),(1,.sl (.calls b))],[],[999]⟩) rfl ?_
 refine W.lenOf 0 (.calls a) (by kernel_rfl) ?_
 intro hl_a; replace hl_a : List.length a ≤ 9223372036854775807 := hl_a
 refine W.lenOf 1 (.calls b) (by kernel_rfl) ?_
 intro hl_b; replace hl_b : List.length b ≤ 9223372036854775807 := hl_b
 refine Kk cok tab11 hnt [] [0,1] (⟨[(0,.sl (.calls a)),(1,.sl (.calls b))],[],[999]⟩)
  (True ∧ True)
  ⟨tt,tt⟩ ?_
 refine W.seq ?_
 refine Kk cok tab11 hnt [] [0,1,10] (⟨[(0,.sl (.calls a)),(1,.sl (.calls b)),(10,.b (decide ((a.length : Int) ≠ (b.length : Int))))],[],[999]⟩)
  (True ∧ True ∧ True ∧ True ∧ (True ∧ True ∧ True) ∧ True)
  ⟨tt,tt,tt,tt,⟨tt,tt,tt⟩,tt⟩ ?_
 refine W.ifP ((a.length : Int) ≠ (b.length : Int)) (.b (decide ((a.length : Int) ≠ (b.length : Int)))) (by kernel_rfl) rfl trivial ?_ ?_
 ·intro h10
  refine Kk cok tab11 hnt [] [4] (⟨[(4,.b false)],[],[999]⟩)
   (True ∧ True)
   ⟨tt,tt⟩ ?_
  refine W.ret (thenQ_ret ?_)
  exact endQ_ret (.b false) (by kernel_rfl) (@cast ((.bool false : Value) = .bool (decide (a = b))) _ (by kernel_rfl) (congrArg Value.bool (by symm; exact decide_eq_false (fun e => h10 (by rw [e])))))
 ·intro n10
  refine W.skip (thenQ_normal ?_)
  refine W.seq ?_
  refine Kk cok tab11 hnt [] [0,1,5] (⟨[(0,.sl (.calls a)),(1,.sl (.calls b)),(5,.i (0 : Int))],[],[999]⟩)
   (True ∧ True)
   ⟨tt,tt⟩ ?_
  refine W.block ?_
  refine W.loop (ι := Nat) (fun (i : Nat) => (⟨[(0,.sl (.calls a)),(1,.sl (.calls b)),(5,.i ((i : Nat) : Int))],[],[999]⟩ : St))
   (fun (i : Nat) => (i ≤ a.length) ∧ (∀ j,j < i → a.getD j default = b.getD j default))
   (fun (i : Nat) => (a.length - i : Nat)) (0) ?_ ?_ ?_
  ·exact (show (0 ≤ a.length) ∧ (∀ j,j < 0 → a.getD j default = b.getD j default) from ⟨(by first | assumption | omega | rfl | (intro _ hjj; omega) | (simp; done) | (simp; omega)),(by exact upto_zero)⟩)
  ·exact Sub.of [] (@cast (((Sd (.calls a)) ∧ (Sd (.calls b)) ∧ ((.int .i64 (0 : Int) : Value) = .int .i64 ((0 : Nat) : Int)) ∧ True) ∧ True ∧ (true = true) ∧ (true = true)) _ (by kernel_rfl) ⟨⟨rfl,rfl,(congrArg (Value.int .i64) (by first | rfl | omega | assumption | simp | simp_all)),tt⟩,tt,rfl,rfl⟩)
  ·rintro i hC0
   have hC : (i ≤ a.length) ∧ (∀ j,j < i → a.getD j default = b.getD j default) := hC0
   clear hC0
   obtain ⟨hi,hA⟩ := hC
   refine W.to (⟨[(0,.sl (.calls a)),(1,.sl (.calls b)),(5,.i ((i : Nat) : Int))],[],[999]⟩) rfl ?_
   refine W.seq ?_
   refine Kk cok tab11 hnt [] [0,1,5,14] (⟨[(0,.sl (.calls a)),(1,.sl (.calls b)),(5,.i ((i : Nat) : Int)),(14,.b (decide (((i : Nat) : Int) < (a.length : Int))))],[],[999]⟩)
    (True ∧ True ∧ True ∧ (True ∧ True ∧ True) ∧ True)
    ⟨tt,tt,tt,⟨tt,tt,tt⟩,tt⟩ ?_
   refine W.ifP (((i : Nat) : Int) < (a.length : Int)) (.b (decide (((i : Nat) : Int) < (a.length : Int)))) (by kernel_rfl) rfl trivial ?_ ?_
   ·intro h14
    refine W.skip (thenQ_normal ?_)
    refine W.seq ?_
    refine W.block ?_
    refine W.KA cok tab11 hnt [] [0,1,5,26] (⟨[(0,.sl (.calls a)),(1,.sl (.calls b)),(5,.i ((i : Nat) : Int)),(26,.b (!(decide ((a.getD i default) = (b.getD i default)))))],[],[999]⟩)
     (True ∧ True ∧ (True ∧ True ∧ (0 ≤ ((i : Nat) : Int)) ∧ (((i : Nat) : Int) < (a.length : Int))) ∧ True ∧ True ∧ True ∧ (True ∧ True ∧ (0 ≤ ((i : Nat) : Int)) ∧ (((i : Nat) : Int) < (b.length : Int))) ∧ True ∧ (True ∧ (True ∧ True ∧ True) ∧ True) ∧ True ∧ True) (by kernel_rfl) (by kernel_rfl)
     ⟨tt,tt,⟨tt,tt,(by omega),(by omega)⟩,tt,tt,tt,⟨tt,tt,(by omega),(by omega)⟩,tt,⟨tt,⟨tt,tt,tt⟩,tt⟩,tt,tt⟩ ?_
    refine W.if' (!(decide ((a.getD i default) = (b.getD i default)))) (.b (!(decide ((a.getD i default) = (b.getD i default))))) (by kernel_rfl) rfl trivial ?_ ?_
    ·intro h26
     refine Kk cok tab11 hnt [] [4] (⟨[(4,.b false)],[],[999]⟩)
      (True ∧ True)
      ⟨tt,tt⟩ ?_
     refine W.ret (blockQ_ret (thenQ_ret (thenQ_ret (blockQ_ret (thenQ_ret ?_)))))
     exact endQ_ret (.b false) (by kernel_rfl) (@cast ((.bool false : Value) = .bool (decide (a = b))) _ (by kernel_rfl) (congrArg Value.bool (by symm; exact decide_eq_false (fun e => by rw [e] at h26; simp at h26))))
    ·intro n26
     refine W.skip (blockQ_normal (thenQ_normal ?_))
     refine Lk cok tab11 hnt [] (⟨[(0,.sl (.calls a)),(1,.sl (.calls b)),(5,.i (((i + 1) : Nat) : Int)),(15,.i ((i : Nat) : Int)),(16,.i (((i + 1) : Nat) : Int)),(26,.b (!(decide ((a.getD i default) = (b.getD i default)))))],[],[999]⟩)
      (True ∧ (True ∧ True ∧ (Fits .i64 (((i + 1) : Nat) : Int))) ∧ True ∧ True)
      ⟨tt,⟨tt,tt,(by exact fits_i64 (by omega) (by omega))⟩,tt,tt⟩ ?_
     refine thenQ_normal ?_
     refine ⟨((i + 1)),(show ((i + 1) ≤ a.length) ∧ (∀ j,j < (i + 1) → a.getD j default = b.getD j default) from ⟨(by first | assumption | omega | rfl | (intro _ hjj; omega) | (simp; done) | (simp; omega)),(by exact upto_succ hA (by simpa using n26))⟩),(show a.length - (i + 1) < a.length - i from (by first | omega | (simp_all; omega))),?_⟩
     exact Sub.of [] (@cast (((Sd (.calls a)) ∧ (Sd (.calls b)) ∧ (Si (((i + 1) : Nat) : Int)) ∧ True) ∧ True ∧ (true = true) ∧ (true = true)) _ (by kernel_rfl) ⟨⟨rfl,rfl,rfl,tt⟩,tt,rfl,rfl⟩)
   ·intro n14
    refine W.exit (thenQ_exit (thenQ_exit (blockQ_hit ?_)))
    refine thenQ_normal ?_
    refine Kk cok tab11 hnt [] [4] (⟨[(4,.b true)],[],[999]⟩)
     (True ∧ True)
     ⟨tt,tt⟩ ?_
    refine W.ret ?_
    exact endQ_ret (.b true) (by kernel_rfl) (@cast ((.bool true : Value) = .bool (decide (a = b))) _ (by kernel_rfl) (congrArg Value.bool (by symm; exact decide_eq_true (calls_ext (by omega) (fun j hj => hA j (by omega))))))
theorem ent11 : Entr prog 11 := ⟨_,func11,rfl,by decide⟩
end Go.Proofs.Tryd

set_option linter.unusedSimpArgs false
set_option linter.unusedVariables false
namespace Go.Proofs.Tryd
open Go.Ab Go.RowKit
def fs3 : FnS := fnS [.s .calls] [.calls] (fun _ (h,_) => (.b true,[],True))
abbrev T3 : Tab := lk [(7,fs7),(8,fs8),(9,fs9),(10,fs10),(11,fs11)]
theorem tab3 : TabOK prog T3 := (TabOK.cons ok7 ent7 (TabOK.cons ok8 ent8 (TabOK.cons ok9 ent9 (TabOK.cons ok10 ent10 (TabOK.cons ok11 ent11 TabOK.nil)))))
set_option maxRecDepth 100000 in
set_option maxHeartbeats 1000000 in
theorem ok3 : FnOK prog 3 fs3 := by
 refine FnOK.mk cok func3 rfl rfl rfl ?_
 rintro fl ⟨(h : List CallD),_⟩ hpre F hnt0 _
 have hnt : F.nt = 27 := hnt0.trans ntmps3
 clear hpre
 refine W.to (⟨[(0,.sl (.calls h))],[],[999]⟩) rfl ?_
 refine W.lenOf 0 (.calls h) (by kernel_rfl) ?_
 intro hl_h; replace hl_h : List.length h ≤ 9223372036854775807 := hl_h
 refine Kk cok tab3 hnt [] [0] (⟨[(0,.sl (.calls h))],[],[999]⟩)
  (True ∧ True)
  ⟨tt,tt⟩ ?_
 refine Kk cok tab3 hnt [] [0,3] (⟨[(0,.sl (.calls h)),(3,.i (1048576 : Int))],[],[999]⟩)
  (True ∧ True)
  ⟨tt,tt⟩ ?_
 refine Kk cok tab3 hnt [] [0,3] (⟨[(0,.sl (.calls h)),(3,.i (szC h (1048576 : Int)))],[],[999]⟩)
  (True ∧ True ∧ (True ∧ (True ∧ True ∧ True) ∧ ((1048576 : Int) = 1048576)) ∧ True ∧ True)
  ⟨tt,tt,⟨tt,⟨tt,tt,tt⟩,(by omega)⟩,tt,tt⟩ ?_
 refine W.seq ?_
 refine Kk cok tab3 hnt [] [0,11] (⟨[(0,.sl (.calls h)),(11,.b (decide ((szC h (1048576 : Int)) < (0 : Int))))],[],[999]⟩)
  (True ∧ (True ∧ True ∧ True) ∧ True)
  ⟨tt,⟨tt,tt,tt⟩,tt⟩ ?_
 refine W.ifP ((szC h (1048576 : Int)) < (0 : Int)) (.b (decide ((szC h (1048576 : Int)) < (0 : Int)))) (by kernel_rfl) rfl trivial ?_ ?_
 ·intro h11
  refine Kk cok tab3 hnt [] [2] (⟨[(2,.b true)],[],[999]⟩)
   (True ∧ True)
   ⟨tt,tt⟩ ?_
  refine W.ret (thenQ_ret ?_)
  exact endQ_ret (.b true) (by kernel_rfl) (@cast (Sv (.bool true)) _ (by kernel_rfl) rfl)
 ·intro n11
  have hn := sz_ok n11
  refine W.skip (thenQ_normal ?_)
  refine Kk cok tab3 hnt [] [0,4] (⟨[(0,.sl (.calls h)),(4,.v (.string (histB h)))],[],[13,999]⟩)
   (True ∧ ((True ∧ (True ∧ True) ∧ (h.length ≤ 1048576)) ∧ (h.length = h.length)) ∧ (True ∧ (True ∧ True) ∧ True) ∧ True ∧ True)
   ⟨tt,⟨⟨tt,⟨tt,tt⟩,(by omega)⟩,rfl⟩,⟨tt,⟨tt,tt⟩,tt⟩,tt,tt⟩ ?_
  refine Kk cok tab3 hnt [] [0,4,5] (⟨[(0,.sl (.calls h)),(4,.v (.string (histB h))),(5,.sl (.calls h))],[],[16,13,999]⟩)
   (True ∧ ((True ∧ (True ∧ True) ∧ (h.length ≤ 1048576)) ∧ (h.length = h.length)) ∧ True ∧ True)
   ⟨tt,⟨⟨tt,⟨tt,tt⟩,(by omega)⟩,rfl⟩,tt,tt⟩ ?_
  refine Kk cok tab3 hnt [] [0,4,5,6] (⟨[(0,.sl (.calls h)),(4,.v (.string (histB h))),(5,.sl (.calls h)),(6,.v (.string (histB h)))],[],[16,13,999]⟩)
   (True ∧ (True ∧ (True ∧ True) ∧ True) ∧ True ∧ True)
   ⟨tt,⟨tt,⟨tt,tt⟩,tt⟩,tt,tt⟩ ?_
  refine W.seq ?_
  refine Kk cok tab3 hnt [] [0,5,21] (⟨[(0,.sl (.calls h)),(5,.sl (.calls h)),(21,.b (!(eqS (histB h) (histB h))))],[],[16,13,999]⟩)
   (True ∧ True ∧ (True ∧ True ∧ True) ∧ True)
   ⟨tt,tt,⟨tt,tt,tt⟩,tt⟩ ?_
  refine W.if' (!(eqS (histB h) (histB h))) (.b (!(eqS (histB h) (histB h)))) (by kernel_rfl) rfl trivial ?_ ?_
  ·intro h21
   refine Kk cok tab3 hnt [] [2] (⟨[(2,.b false)],[],[16,13,999]⟩)
    (True ∧ True)
    ⟨tt,tt⟩ ?_
   refine W.ret (thenQ_ret ?_)
   exact endQ_ret (.b false) (by kernel_rfl) (@cast ((.bool false : Value) = .bool true) _ (by kernel_rfl) (congrArg Value.bool (by exfalso; rw [eqB_self] at h21; cases h21)))
  ·intro n21
   refine W.skip (thenQ_normal ?_)
   refine W.seq ?_
   refine Kk cok tab3 hnt [] [26] (⟨[(26,.b (!(decide (h = h))))],[],[24,16,13,999]⟩)
    (True ∧ True ∧ ((True ∧ (True ∧ True) ∧ (h.length ≤ 1048576)) ∧ (h.length = h.length)) ∧ (True ∧ (True ∧ True ∧ True) ∧ True) ∧ True ∧ True)
    ⟨tt,tt,⟨⟨tt,⟨tt,tt⟩,(by omega)⟩,rfl⟩,⟨tt,⟨tt,tt,tt⟩,tt⟩,tt,tt⟩ ?_
   refine W.if' (!(decide (h = h))) (.b (!(decide (h = h)))) (by kernel_rfl) rfl trivial ?_ ?_
   ·intro h26
    refine Kk cok tab3 hnt [] [2] (⟨[(2,.b false)],[],[24,16,13,999]⟩)
     (True ∧ True)
     ⟨tt,tt⟩ ?_
    refine W.ret (thenQ_ret ?_)
    exact endQ_ret (.b false) (by kernel_rfl) (@cast ((.bool false : Value) = .bool true) _ (by kernel_rfl) (congrArg Value.bool (by exfalso; simp at h26)))
   ·intro n26
    refine W.skip (thenQ_normal ?_)
    refine Kk cok tab3 hnt [] [2] (⟨[(2,.b true)],[],[24,16,13,999]⟩)
     (True ∧ True)
     ⟨tt,tt⟩ ?_
    refine W.ret ?_
    exact endQ_ret (.b true) (by kernel_rfl) (@cast (Sv (.bool true)) _ (by kernel_rfl) rfl)
end Go.Proofs.Tryd
