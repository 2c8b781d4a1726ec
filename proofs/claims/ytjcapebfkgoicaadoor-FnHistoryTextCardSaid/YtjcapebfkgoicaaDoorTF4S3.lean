import Derived.Test.YtjcapebfkgoicaaDoorTF4S0
import Derived.Test.YtjcapebfkgoicaaDoorTF4S1
import Derived.Test.YtjcapebfkgoicaaDoorTF4S2
set_option linter.unusedSimpArgs false
set_option linter.unusedVariables false
namespace Go.Proofs.Tryd
open Go.Ab Go.RowKit Go.Shelf Go.Proofs Go.Lib
def fs49 : FnS := fnS [.o] [.str] (fun _ (s,_) => (.tup [.i (atoiV s.data.toList),.any],[],(s.size ≤ 2000000)))
def renA : Go.Shelf.Ren := ⟨fun k => bif Nat.beq k 129 then 96 else bif Nat.beq k 171 then 39 else bif Nat.beq k 172 then 49 else bif Nat.beq k 205 then 94 else bif Nat.beq k 243 then 56 else bif Nat.beq k 244 then 65 else bif Nat.beq k 245 then 66 else bif Nat.beq k 246 then 70 else bif Nat.beq k 247 then 78 else bif Nat.beq k 279 then 79 else bif Nat.beq k 280 then 80 else bif Nat.beq k 281 then 81 else bif Nat.beq k 282 then 82 else bif Nat.beq k 283 then 84 else bif Nat.beq k 284 then 85 else bif Nat.beq k 285 then 86 else bif Nat.beq k 286 then 87 else bif Nat.beq k 287 then 92 else bif Nat.beq k 316 then 93 else bif Nat.beq k 317 then 95 else bif Nat.beq k 318 then 97 else bif Nat.beq k 319 then 98 else bif Nat.beq k 320 then 99 else bif Nat.beq k 321 then 101 else bif Nat.beq k 322 then 102 else bif Nat.beq k 337 then 103 else bif Nat.beq k 338 then 104 else k,fun k => bif Nat.beq k 0 then 0 else bif Nat.beq k 2 then 2 else bif Nat.beq k 3 then 3 else bif Nat.beq k 4 then 4 else bif Nat.beq k 5 then 5 else bif Nat.beq k 9 then 9 else bif Nat.beq k 20 then 20 else bif Nat.beq k 21 then 21 else bif Nat.beq k 37 then 29 else bif Nat.beq k 46 then 106 else bif Nat.beq k 51 then 115 else bif Nat.beq k 53 then 101 else bif Nat.beq k 75 then 62 else bif Nat.beq k 76 then 63 else bif Nat.beq k 80 then 65 else bif Nat.beq k 85 then 94 else bif Nat.beq k 127 then 77 else bif Nat.beq k 143 then 126 else bif Nat.beq k 145 then 128 else bif Nat.beq k 167 then 93 else bif Nat.beq k 168 then 96 else bif Nat.beq k 171 then 100 else bif Nat.beq k 173 then 104 else bif Nat.beq k 175 then 107 else bif Nat.beq k 210 then 111 else bif Nat.beq k 212 then 114 else bif Nat.beq k 213 then 116 else bif Nat.beq k 232 then 130 else bif Nat.beq k 233 then 131 else k,fun k => bif Nat.beq k 15 then 1 else bif Nat.beq k 16 then 2 else bif Nat.beq k 17 then 3 else bif Nat.beq k 18 then 6 else bif Nat.beq k 19 then 7 else k⟩
set_option maxRecDepth 100000 in
theorem laysA : Go.Proofs.LaysC.n172 prog renA where
 mixed := by kernel_rfl
 f129 := by kernel_rfl
 f171 := by kernel_rfl
 f172 := by kernel_rfl
 f205 := by kernel_rfl
 f243 := by kernel_rfl
 f244 := by kernel_rfl
 f245 := by kernel_rfl
 f246 := by kernel_rfl
 f247 := by kernel_rfl
 f279 := by kernel_rfl
 f280 := by kernel_rfl
 f281 := by kernel_rfl
 f282 := by kernel_rfl
 f283 := by kernel_rfl
 f284 := by kernel_rfl
 f285 := by kernel_rfl
 f286 := by kernel_rfl
 f287 := by kernel_rfl
 f316 := by kernel_rfl
 f317 := by kernel_rfl
 f318 := by kernel_rfl
 f319 := by kernel_rfl
 f320 := by kernel_rfl
 f321 := by kernel_rfl
 f322 := by kernel_rfl
 f337 := by kernel_rfl
 f338 := by kernel_rfl
 t0 := underlying0
 a0 := isAgg0
 z0 := sizeOf0
 v0 := zeroValue0
 t2 := underlying2
 a2 := isAgg2
 z2 := sizeOf2
 v2 := zeroValue2
 t3 := underlying3
 a3 := isAgg3
 z3 := sizeOf3
 v3 := zeroValue3
 t4 := underlying4
 a4 := isAgg4
 z4 := sizeOf4
 v4 := zeroValue4
 t5 := underlying5
 a5 := isAgg5
 z5 := sizeOf5
 v5 := zeroValue5
 t9 := underlying9
 a9 := isAgg9
 z9 := sizeOf9
 v9 := zeroValue9
 t20 := underlying20
 a20 := isAgg20
 z20 := sizeOf20
 v20 := zeroValue20
 t21 := underlying21
 a21 := isAgg21
 z21 := sizeOf21
 v21 := zeroValue21
 t37 := underlying29
 a37 := isAgg29
 z37 := sizeOf29
 v37 := zeroValue29
 t46 := underlying106
 a46 := isAgg106
 z46 := sizeOf106
 v46 := zeroValue106
 t51 := underlying115
 a51 := isAgg115
 z51 := sizeOf115
 v51 := zeroValue115
 t53 := underlying101
 a53 := isAgg101
 z53 := sizeOf101
 v53 := zeroValue101
 t75 := underlying62
 a75 := isAgg62
 z75 := sizeOf62
 v75 := zeroValue62
 t76 := underlying63
 a76 := isAgg63
 z76 := sizeOf63
 v76 := zeroValue63
 t85 := underlying94
 a85 := isAgg94
 z85 := sizeOf94
 v85 := zeroValue94
 t127 := underlying77
 a127 := isAgg77
 z127 := sizeOf77
 v127 := zeroValue77
 t143 := underlying126
 a143 := isAgg126
 z143 := sizeOf126
 v143 := zeroValue126
 t145 := underlying128
 a145 := isAgg128
 z145 := sizeOf128
 v145 := zeroValue128
 t167 := underlying93
 a167 := isAgg93
 z167 := sizeOf93
 v167 := zeroValue93
 t168 := underlying96
 a168 := isAgg96
 z168 := sizeOf96
 v168 := zeroValue96
 t171 := underlying100
 a171 := isAgg100
 z171 := sizeOf100
 v171 := zeroValue100
 t173 := underlying104
 a173 := isAgg104
 z173 := sizeOf104
 v173 := zeroValue104
 t175 := underlying107
 a175 := isAgg107
 z175 := sizeOf107
 v175 := zeroValue107
 t210 := underlying111
 a210 := isAgg111
 z210 := sizeOf111
 v210 := zeroValue111
 t212 := underlying114
 a212 := isAgg114
 z212 := sizeOf114
 v212 := zeroValue114
 t213 := underlying116
 a213 := isAgg116
 z213 := sizeOf116
 t232 := underlying130
 a232 := isAgg130
 z232 := sizeOf130
 v232 := zeroValue130
 t233 := underlying131
 a233 := isAgg131
 z233 := sizeOf131
 v233 := zeroValue131
 g15 := by kernel_rfl
 g16 := by kernel_rfl
 g17 := by kernel_rfl
 g18 := by kernel_rfl
 g19 := by kernel_rfl
 t80 := underlying65
 a80 := isAgg65
 z80 := sizeOf65
 v80 := zeroValue65
 i0 := by kernel_rfl
 i2 := by kernel_rfl
 i3 := by kernel_rfl
 i4 := by kernel_rfl
 i5 := by kernel_rfl
 i9 := by kernel_rfl
 i20 := by kernel_rfl
 i21 := by kernel_rfl
 i37 := by kernel_rfl
 i46 := by kernel_rfl
 i51 := by kernel_rfl
 i53 := by kernel_rfl
 i75 := by kernel_rfl
 i76 := by kernel_rfl
 i80 := by kernel_rfl
 i85 := by kernel_rfl
 i127 := by kernel_rfl
 i143 := by kernel_rfl
 i145 := by kernel_rfl
 i167 := by kernel_rfl
 i168 := by kernel_rfl
 i171 := by kernel_rfl
 i173 := by kernel_rfl
 i175 := by kernel_rfl
 i210 := by kernel_rfl
 i212 := by kernel_rfl
 i232 := by kernel_rfl
 i233 := by kernel_rfl
 m15 := by kernel_rfl
 m16 := by kernel_rfl
 m17 := by kernel_rfl
 m18 := by kernel_rfl
 m19 := by kernel_rfl
 c0 := by kernel_rfl
 c2 := by kernel_rfl
 c3 := by kernel_rfl
 c4 := by kernel_rfl
 c5 := by kernel_rfl
 c9 := by kernel_rfl
 c20 := by kernel_rfl
 c21 := by kernel_rfl
 c37 := by kernel_rfl
 c46 := by kernel_rfl
 c51 := by kernel_rfl
 c53 := by kernel_rfl
 c75 := by kernel_rfl
 c76 := by kernel_rfl
 c80 := by kernel_rfl
 c85 := by kernel_rfl
 c127 := by kernel_rfl
 c143 := by kernel_rfl
 c145 := by kernel_rfl
 c167 := by kernel_rfl
 c168 := by kernel_rfl
 c171 := by kernel_rfl
 c173 := by kernel_rfl
 c175 := by kernel_rfl
 c210 := by kernel_rfl
 c212 := by kernel_rfl
 c213 := by kernel_rfl
 c232 := by kernel_rfl
 c233 := by kernel_rfl
theorem ok49 : FnOK prog 49 fs49 := atoi_ok laysA (by decide) (by decide)
theorem ent49 : Entr prog 49 := ⟨_,func49,rfl,by decide⟩
end Go.Proofs.Tryd

set_option linter.unusedSimpArgs false
set_option linter.unusedVariables false
namespace Go.Proofs.Tryd
open Go.Ab Go.RowKit
def fs31 : FnS := fnS [.o] [.str] (fun _ (w,_) => (.agg [.i ((readI w.data.toList).proc),.i ((readI w.data.toList).obj),.i ((readI w.data.toList).kind),.i ((readI w.data.toList).arg),.i ((readI w.data.toList).ret),.i ((readI w.data.toList).frm),.i ((readI w.data.toList).to)],[],(w.size ≤ 2000000)))
abbrev T31 : Tab := lk [(47,fs47),(48,fs48),(49,fs49)]
theorem tab31 : TabOK prog T31 := (TabOK.cons ok47 ent47 (TabOK.cons ok48 ent48 (TabOK.cons ok49 ent49 TabOK.nil)))
set_option maxRecDepth 100000 in
set_option maxHeartbeats 1000000 in
theorem ok31 : FnOK prog 31 fs31 := by
 refine FnOK.mk cok func31 rfl rfl rfl ?_
 rintro fl ⟨(w : ByteArray),_⟩ hpre F hnt0 _
 have hnt : F.nt = 70 := hnt0.trans ntmps31
 replace hpre : (w.size ≤ 2000000) := hpre
 have hz := hpre
 refine W.to (⟨[(0,.v (.string w))],[],[999]⟩) rfl ?_
 have c1 := cut_size w (⟨#[61]⟩ : ByteArray)
 have c2 := cut_size (cutB2 w (⟨#[61]⟩ : ByteArray)) (⟨#[64]⟩ : ByteArray)
 have c3 := cut_size (cutB2 (cutB2 w (⟨#[61]⟩ : ByteArray)) (⟨#[64]⟩ : ByteArray)) (⟨#[45]⟩ : ByteArray)
 have hu : ∀ (s : ByteArray) (i : Nat),((UInt8.toNat (List.getD s.data.toList i 0) : Nat) : Int) ≤ 255 := fun s i => by have := (List.getD s.data.toList i 0).toNat_lt; omega
 refine Kk cok tab31 hnt [] [0,2] (⟨[(0,.v (.string w)),(2,.ptr 2 0)],[(2,⟨40,.fix [.i (0 : Int),.i (0 : Int),.i (0 : Int),.i (0 : Int),.i (0 : Int),.i (0 : Int),.i (0 : Int)]⟩)],[2,999]⟩)
  (True ∧ True)
  ⟨tt,tt⟩ ?_
 refine Kk cok tab31 hnt [] [2,3,4] (⟨[(2,.ptr 2 0),(3,.v (.string (cutB1 w (⟨#[61]⟩ : ByteArray)))),(4,.v (.string (cutB2 w (⟨#[61]⟩ : ByteArray))))],[(2,⟨40,.fix [.i (0 : Int),.i (0 : Int),.i (0 : Int),.i (0 : Int),.i (0 : Int),.i (0 : Int),.i (0 : Int)]⟩)],[2,999]⟩)
  (True ∧ (True ∧ (True ∧ True ∧ True) ∧ ((⟨#[61]⟩ : ByteArray).size = 1) ∧ (w.size ≤ 2000000)) ∧ True ∧ True ∧ True ∧ True ∧ True ∧ True ∧ True ∧ True)
  ⟨tt,⟨tt,⟨tt,tt,tt⟩,(by rfl),(by omega)⟩,tt,tt,tt,tt,tt,tt,tt,tt⟩ ?_
 refine Kk cok tab31 hnt [] [2,3,6,7] (⟨[(2,.ptr 2 0),(3,.v (.string (cutB1 w (⟨#[61]⟩ : ByteArray)))),(6,.v (.string (cutB1 (cutB2 w (⟨#[61]⟩ : ByteArray)) (⟨#[64]⟩ : ByteArray)))),(7,.v (.string (cutB2 (cutB2 w (⟨#[61]⟩ : ByteArray)) (⟨#[64]⟩ : ByteArray))))],[(2,⟨40,.fix [.i (0 : Int),.i (0 : Int),.i (0 : Int),.i (0 : Int),.i (0 : Int),.i (0 : Int),.i (0 : Int)]⟩)],[2,999]⟩)
  (True ∧ (True ∧ (True ∧ True ∧ True) ∧ ((⟨#[64]⟩ : ByteArray).size = 1) ∧ ((cutB2 w (⟨#[61]⟩ : ByteArray)).size ≤ 2000000)) ∧ True ∧ True ∧ True ∧ True ∧ True ∧ True ∧ True ∧ True)
  ⟨tt,⟨tt,⟨tt,tt,tt⟩,(by rfl),(by omega)⟩,tt,tt,tt,tt,tt,tt,tt,tt⟩ ?_
 refine Kk cok tab31 hnt [] [2,3,6,9,10] (⟨[(2,.ptr 2 0),(3,.v (.string (cutB1 w (⟨#[61]⟩ : ByteArray)))),(6,.v (.string (cutB1 (cutB2 w (⟨#[61]⟩ : ByteArray)) (⟨#[64]⟩ : ByteArray)))),(9,.v (.string (cutB1 (cutB2 (cutB2 w (⟨#[61]⟩ : ByteArray)) (⟨#[64]⟩ : ByteArray)) (⟨#[45]⟩ : ByteArray)))),(10,.v (.string (cutB2 (cutB2 (cutB2 w (⟨#[61]⟩ : ByteArray)) (⟨#[64]⟩ : ByteArray)) (⟨#[45]⟩ : ByteArray))))],[(2,⟨40,.fix [.i (0 : Int),.i (0 : Int),.i (0 : Int),.i (0 : Int),.i (0 : Int),.i (0 : Int),.i (0 : Int)]⟩)],[2,999]⟩)
  (True ∧ (True ∧ (True ∧ True ∧ True) ∧ ((⟨#[45]⟩ : ByteArray).size = 1) ∧ ((cutB2 (cutB2 w (⟨#[61]⟩ : ByteArray)) (⟨#[64]⟩ : ByteArray)).size ≤ 2000000)) ∧ True ∧ True ∧ True ∧ True ∧ True ∧ True ∧ True ∧ True)
  ⟨tt,⟨tt,⟨tt,tt,tt⟩,(by rfl),(by omega)⟩,tt,tt,tt,tt,tt,tt,tt,tt⟩ ?_
 refine Kk cok tab31 hnt [] [2,3,6,9,10,12] (⟨[(2,.ptr 2 0),(3,.v (.string (cutB1 w (⟨#[61]⟩ : ByteArray)))),(6,.v (.string (cutB1 (cutB2 w (⟨#[61]⟩ : ByteArray)) (⟨#[64]⟩ : ByteArray)))),(9,.v (.string (cutB1 (cutB2 (cutB2 w (⟨#[61]⟩ : ByteArray)) (⟨#[64]⟩ : ByteArray)) (⟨#[45]⟩ : ByteArray)))),(10,.v (.string (cutB2 (cutB2 (cutB2 w (⟨#[61]⟩ : ByteArray)) (⟨#[64]⟩ : ByteArray)) (⟨#[45]⟩ : ByteArray)))),(12,.ptr 12 0)],[(2,⟨40,.fix [.i (0 : Int),.i (0 : Int),.i (0 : Int),.i (0 : Int),.i (0 : Int),.i (0 : Int),.i (0 : Int)]⟩),(12,⟨40,.fix [.i (0 : Int),.i (0 : Int),.i (0 : Int),.i (0 : Int),.i (0 : Int),.i (0 : Int),.i (0 : Int)]⟩)],[12,2,999]⟩)
  (True ∧ True ∧ (True ∧ True) ∧ True)
  ⟨tt,tt,⟨tt,tt⟩,tt⟩ ?_
 refine W.seq ?_
 refine Kk cok tab31 hnt [] [2,3,6,9,10,12,34] (⟨[(2,.ptr 2 0),(3,.v (.string (cutB1 w (⟨#[61]⟩ : ByteArray)))),(6,.v (.string (cutB1 (cutB2 w (⟨#[61]⟩ : ByteArray)) (⟨#[64]⟩ : ByteArray)))),(9,.v (.string (cutB1 (cutB2 (cutB2 w (⟨#[61]⟩ : ByteArray)) (⟨#[64]⟩ : ByteArray)) (⟨#[45]⟩ : ByteArray)))),(10,.v (.string (cutB2 (cutB2 (cutB2 w (⟨#[61]⟩ : ByteArray)) (⟨#[64]⟩ : ByteArray)) (⟨#[45]⟩ : ByteArray)))),(12,.ptr 12 0),(34,.b (decide (((((cutB1 w (⟨#[61]⟩ : ByteArray)).size) : Nat) : Int) = (4 : Int))))],[(2,⟨40,.fix [.i (0 : Int),.i (0 : Int),.i (0 : Int),.i (0 : Int),.i (0 : Int),.i (0 : Int),.i (0 : Int)]⟩),(12,⟨40,.fix [.i (0 : Int),.i (0 : Int),.i (0 : Int),.i (0 : Int),.i (0 : Int),.i (0 : Int),.i (0 : Int)]⟩)],[12,2,999]⟩)
  (True ∧ True ∧ (True ∧ True ∧ True) ∧ True)
  ⟨tt,tt,⟨tt,tt,tt⟩,tt⟩ ?_
 refine W.ifP (((((cutB1 w (⟨#[61]⟩ : ByteArray)).size) : Nat) : Int) = (4 : Int)) (.b (decide (((((cutB1 w (⟨#[61]⟩ : ByteArray)).size) : Nat) : Int) = (4 : Int)))) (by kernel_rfl) rfl trivial ?_ ?_
 ·intro h34
  have hu0 := hu (cutB1 w (⟨#[61]⟩ : ByteArray)) 0
  have hu1 := hu (cutB1 w (⟨#[61]⟩ : ByteArray)) 1
  have hu3 := hu (cutB1 w (⟨#[61]⟩ : ByteArray)) 3
  have hE := cd_eta _ _ _ _ _ _ _ _ (ri_four (w := w) (sep1 := (⟨#[61]⟩ : ByteArray)) (sep2 := (⟨#[64]⟩ : ByteArray)) (sep3 := (⟨#[45]⟩ : ByteArray)) rfl rfl rfl h34)
  refine W.LA cok tab31 hnt [] (⟨[(2,.ptr 2 0),(3,.v (.string (cutB1 w (⟨#[61]⟩ : ByteArray)))),(6,.v (.string (cutB1 (cutB2 w (⟨#[61]⟩ : ByteArray)) (⟨#[64]⟩ : ByteArray)))),(9,.v (.string (cutB1 (cutB2 (cutB2 w (⟨#[61]⟩ : ByteArray)) (⟨#[64]⟩ : ByteArray)) (⟨#[45]⟩ : ByteArray)))),(10,.v (.string (cutB2 (cutB2 (cutB2 w (⟨#[61]⟩ : ByteArray)) (⟨#[64]⟩ : ByteArray)) (⟨#[45]⟩ : ByteArray)))),(12,.ptr 12 0),(34,.b (decide (((((cutB1 w (⟨#[61]⟩ : ByteArray)).size) : Nat) : Int) = (4 : Int)))),(35,.v (.string (cutB1 w (⟨#[61]⟩ : ByteArray)))),(36,.v (.int .u8 (((UInt8.toNat (List.getD (cutB1 w (⟨#[61]⟩ : ByteArray)).data.toList 0 0)) : Nat) : Int))),(37,.i (((UInt8.toNat (List.getD (cutB1 w (⟨#[61]⟩ : ByteArray)).data.toList 0 0)) : Nat) : Int)),(38,.i ((((UInt8.toNat (List.getD (cutB1 w (⟨#[61]⟩ : ByteArray)).data.toList 0 0)) : Nat) : Int) - (48 : Int))),(39,.v (.string (cutB1 w (⟨#[61]⟩ : ByteArray)))),(40,.v (.int .u8 (((UInt8.toNat (List.getD (cutB1 w (⟨#[61]⟩ : ByteArray)).data.toList 1 0)) : Nat) : Int))),(41,.i (((UInt8.toNat (List.getD (cutB1 w (⟨#[61]⟩ : ByteArray)).data.toList 1 0)) : Nat) : Int)),(42,.i ((((UInt8.toNat (List.getD (cutB1 w (⟨#[61]⟩ : ByteArray)).data.toList 1 0)) : Nat) : Int) - (120 : Int))),(43,.v (.string (cutB1 w (⟨#[61]⟩ : ByteArray)))),(44,.v (.int .u8 (((UInt8.toNat (List.getD (cutB1 w (⟨#[61]⟩ : ByteArray)).data.toList 2 0)) : Nat) : Int))),(45,.i (Lib.indexByte (⟨#[112,116,108]⟩ : ByteArray).data.toList (Int.toNat (((UInt8.toNat (List.getD (cutB1 w (⟨#[61]⟩ : ByteArray)).data.toList 2 0)) : Nat) : Int)).toUInt8)),(46,.v (.string (cutB1 w (⟨#[61]⟩ : ByteArray)))),(47,.v (.int .u8 (((UInt8.toNat (List.getD (cutB1 w (⟨#[61]⟩ : ByteArray)).data.toList 3 0)) : Nat) : Int))),(48,.i (((UInt8.toNat (List.getD (cutB1 w (⟨#[61]⟩ : ByteArray)).data.toList 3 0)) : Nat) : Int)),(49,.i ((((UInt8.toNat (List.getD (cutB1 w (⟨#[61]⟩ : ByteArray)).data.toList 3 0)) : Nat) : Int) - (48 : Int))),(50,.agg [.i ((((UInt8.toNat (List.getD (cutB1 w (⟨#[61]⟩ : ByteArray)).data.toList 0 0)) : Nat) : Int) - (48 : Int)),.i ((((UInt8.toNat (List.getD (cutB1 w (⟨#[61]⟩ : ByteArray)).data.toList 1 0)) : Nat) : Int) - (120 : Int)),.i (Lib.indexByte (⟨#[112,116,108]⟩ : ByteArray).data.toList (Int.toNat (((UInt8.toNat (List.getD (cutB1 w (⟨#[61]⟩ : ByteArray)).data.toList 2 0)) : Nat) : Int)).toUInt8),.i ((((UInt8.toNat (List.getD (cutB1 w (⟨#[61]⟩ : ByteArray)).data.toList 3 0)) : Nat) : Int) - (48 : Int)),.i (0 : Int),.i (0 : Int),.i (0 : Int)])],[(2,⟨40,.fix [.i (0 : Int),.i (0 : Int),.i (0 : Int),.i (0 : Int),.i (0 : Int),.i (0 : Int),.i (0 : Int)]⟩),(12,⟨40,.fix [.i ((((UInt8.toNat (List.getD (cutB1 w (⟨#[61]⟩ : ByteArray)).data.toList 0 0)) : Nat) : Int) - (48 : Int)),.i ((((UInt8.toNat (List.getD (cutB1 w (⟨#[61]⟩ : ByteArray)).data.toList 1 0)) : Nat) : Int) - (120 : Int)),.i (Lib.indexByte (⟨#[112,116,108]⟩ : ByteArray).data.toList (Int.toNat (((UInt8.toNat (List.getD (cutB1 w (⟨#[61]⟩ : ByteArray)).data.toList 2 0)) : Nat) : Int)).toUInt8),.i ((((UInt8.toNat (List.getD (cutB1 w (⟨#[61]⟩ : ByteArray)).data.toList 3 0)) : Nat) : Int) - (48 : Int)),.i (0 : Int),.i (0 : Int),.i (0 : Int)]⟩)],[12,2,999]⟩)
   (True ∧ (True ∧ True ∧ (0 ≤ (0 : Int)) ∧ ((0 : Int) < (((cutB1 w (⟨#[61]⟩ : ByteArray)).size : Nat) : Int))) ∧ (True ∧ (Fits .i64 (((UInt8.toNat (List.getD (cutB1 w (⟨#[61]⟩ : ByteArray)).data.toList 0 0)) : Nat) : Int))) ∧ (True ∧ True ∧ (Fits .i64 ((((UInt8.toNat (List.getD (cutB1 w (⟨#[61]⟩ : ByteArray)).data.toList 0 0)) : Nat) : Int) - (48 : Int)))) ∧ True ∧ (True ∧ True ∧ (0 ≤ (1 : Int)) ∧ ((1 : Int) < (((cutB1 w (⟨#[61]⟩ : ByteArray)).size : Nat) : Int))) ∧ (True ∧ (Fits .i64 (((UInt8.toNat (List.getD (cutB1 w (⟨#[61]⟩ : ByteArray)).data.toList 1 0)) : Nat) : Int))) ∧ (True ∧ True ∧ (Fits .i64 ((((UInt8.toNat (List.getD (cutB1 w (⟨#[61]⟩ : ByteArray)).data.toList 1 0)) : Nat) : Int) - (120 : Int)))) ∧ True ∧ (True ∧ True ∧ (0 ≤ (2 : Int)) ∧ ((2 : Int) < (((cutB1 w (⟨#[61]⟩ : ByteArray)).size : Nat) : Int))) ∧ (True ∧ (True ∧ True ∧ True) ∧ True) ∧ True ∧ (True ∧ True ∧ (0 ≤ (3 : Int)) ∧ ((3 : Int) < (((cutB1 w (⟨#[61]⟩ : ByteArray)).size : Nat) : Int))) ∧ (True ∧ (Fits .i64 (((UInt8.toNat (List.getD (cutB1 w (⟨#[61]⟩ : ByteArray)).data.toList 3 0)) : Nat) : Int))) ∧ (True ∧ True ∧ (Fits .i64 ((((UInt8.toNat (List.getD (cutB1 w (⟨#[61]⟩ : ByteArray)).data.toList 3 0)) : Nat) : Int) - (48 : Int)))) ∧ (True ∧ True ∧ True ∧ True ∧ True) ∧ (True ∧ True) ∧ True) (by kernel_rfl) (by kernel_rfl)
   ⟨tt,⟨tt,tt,(by omega),(by omega)⟩,⟨tt,(by exact fits_i64 (by omega) (by omega))⟩,⟨tt,tt,(by exact fits_i64 (by omega) (by omega))⟩,tt,⟨tt,tt,(by omega),(by omega)⟩,⟨tt,(by exact fits_i64 (by omega) (by omega))⟩,⟨tt,tt,(by exact fits_i64 (by omega) (by omega))⟩,tt,⟨tt,tt,(by omega),(by omega)⟩,⟨tt,⟨tt,tt,tt⟩,tt⟩,tt,⟨tt,tt,(by omega),(by omega)⟩,⟨tt,(by exact fits_i64 (by omega) (by omega))⟩,⟨tt,tt,(by exact fits_i64 (by omega) (by omega))⟩,⟨tt,tt,tt,tt,tt⟩,⟨tt,tt⟩,tt⟩ ?_
  refine thenQ_normal ?_
  refine Kk cok tab31 hnt [] [2,9,10,12] (⟨[(2,.ptr 2 0),(9,.v (.string (cutB1 (cutB2 (cutB2 w (⟨#[61]⟩ : ByteArray)) (⟨#[64]⟩ : ByteArray)) (⟨#[45]⟩ : ByteArray)))),(10,.v (.string (cutB2 (cutB2 (cutB2 w (⟨#[61]⟩ : ByteArray)) (⟨#[64]⟩ : ByteArray)) (⟨#[45]⟩ : ByteArray)))),(12,.ptr 12 0)],[(2,⟨40,.fix [.i (0 : Int),.i (0 : Int),.i (0 : Int),.i (0 : Int),.i (0 : Int),.i (0 : Int),.i (0 : Int)]⟩),(12,⟨40,.fix [.i ((((UInt8.toNat (List.getD (cutB1 w (⟨#[61]⟩ : ByteArray)).data.toList 0 0)) : Nat) : Int) - (48 : Int)),.i ((((UInt8.toNat (List.getD (cutB1 w (⟨#[61]⟩ : ByteArray)).data.toList 1 0)) : Nat) : Int) - (120 : Int)),.i (Lib.indexByte (⟨#[112,116,108]⟩ : ByteArray).data.toList (Int.toNat (((UInt8.toNat (List.getD (cutB1 w (⟨#[61]⟩ : ByteArray)).data.toList 2 0)) : Nat) : Int)).toUInt8),.i ((((UInt8.toNat (List.getD (cutB1 w (⟨#[61]⟩ : ByteArray)).data.toList 3 0)) : Nat) : Int) - (48 : Int)),.i (atoiV (cutB1 (cutB2 w (⟨#[61]⟩ : ByteArray)) (⟨#[64]⟩ : ByteArray)).data.toList),.i (0 : Int),.i (0 : Int)]⟩)],[12,2,999]⟩)
   (True ∧ (True ∧ (True ∧ True) ∧ ((cutB1 (cutB2 w (⟨#[61]⟩ : ByteArray)) (⟨#[64]⟩ : ByteArray)).size ≤ 2000000)) ∧ True ∧ True ∧ True ∧ True ∧ (True ∧ True) ∧ True)
   ⟨tt,⟨tt,⟨tt,tt⟩,(by omega)⟩,tt,tt,tt,tt,⟨tt,tt⟩,tt⟩ ?_
  refine Kk cok tab31 hnt [] [2,10,12] (⟨[(2,.ptr 2 0),(10,.v (.string (cutB2 (cutB2 (cutB2 w (⟨#[61]⟩ : ByteArray)) (⟨#[64]⟩ : ByteArray)) (⟨#[45]⟩ : ByteArray)))),(12,.ptr 12 0)],[(2,⟨40,.fix [.i (0 : Int),.i (0 : Int),.i (0 : Int),.i (0 : Int),.i (0 : Int),.i (0 : Int),.i (0 : Int)]⟩),(12,⟨40,.fix [.i ((((UInt8.toNat (List.getD (cutB1 w (⟨#[61]⟩ : ByteArray)).data.toList 0 0)) : Nat) : Int) - (48 : Int)),.i ((((UInt8.toNat (List.getD (cutB1 w (⟨#[61]⟩ : ByteArray)).data.toList 1 0)) : Nat) : Int) - (120 : Int)),.i (Lib.indexByte (⟨#[112,116,108]⟩ : ByteArray).data.toList (Int.toNat (((UInt8.toNat (List.getD (cutB1 w (⟨#[61]⟩ : ByteArray)).data.toList 2 0)) : Nat) : Int)).toUInt8),.i ((((UInt8.toNat (List.getD (cutB1 w (⟨#[61]⟩ : ByteArray)).data.toList 3 0)) : Nat) : Int) - (48 : Int)),.i (atoiV (cutB1 (cutB2 w (⟨#[61]⟩ : ByteArray)) (⟨#[64]⟩ : ByteArray)).data.toList),.i (atoiV (cutB1 (cutB2 (cutB2 w (⟨#[61]⟩ : ByteArray)) (⟨#[64]⟩ : ByteArray)) (⟨#[45]⟩ : ByteArray)).data.toList),.i (0 : Int)]⟩)],[12,2,999]⟩)
   (True ∧ (True ∧ (True ∧ True) ∧ ((cutB1 (cutB2 (cutB2 w (⟨#[61]⟩ : ByteArray)) (⟨#[64]⟩ : ByteArray)) (⟨#[45]⟩ : ByteArray)).size ≤ 2000000)) ∧ True ∧ True ∧ True ∧ True ∧ (True ∧ True) ∧ True)
   ⟨tt,⟨tt,⟨tt,tt⟩,(by omega)⟩,tt,tt,tt,tt,⟨tt,tt⟩,tt⟩ ?_
  refine Kk cok tab31 hnt [] [2,12] (⟨[(2,.ptr 2 0),(12,.ptr 12 0)],[(2,⟨40,.fix [.i (0 : Int),.i (0 : Int),.i (0 : Int),.i (0 : Int),.i (0 : Int),.i (0 : Int),.i (0 : Int)]⟩),(12,⟨40,.fix [.i ((((UInt8.toNat (List.getD (cutB1 w (⟨#[61]⟩ : ByteArray)).data.toList 0 0)) : Nat) : Int) - (48 : Int)),.i ((((UInt8.toNat (List.getD (cutB1 w (⟨#[61]⟩ : ByteArray)).data.toList 1 0)) : Nat) : Int) - (120 : Int)),.i (Lib.indexByte (⟨#[112,116,108]⟩ : ByteArray).data.toList (Int.toNat (((UInt8.toNat (List.getD (cutB1 w (⟨#[61]⟩ : ByteArray)).data.toList 2 0)) : Nat) : Int)).toUInt8),.i ((((UInt8.toNat (List.getD (cutB1 w (⟨#[61]⟩ : ByteArray)).data.toList 3 0)) : Nat) : Int) - (48 : Int)),.i (atoiV (cutB1 (cutB2 w (⟨#[61]⟩ : ByteArray)) (⟨#[64]⟩ : ByteArray)).data.toList),.i (atoiV (cutB1 (cutB2 (cutB2 w (⟨#[61]⟩ : ByteArray)) (⟨#[64]⟩ : ByteArray)) (⟨#[45]⟩ : ByteArray)).data.toList),.i (atoiV (cutB2 (cutB2 (cutB2 w (⟨#[61]⟩ : ByteArray)) (⟨#[64]⟩ : ByteArray)) (⟨#[45]⟩ : ByteArray)).data.toList)]⟩)],[12,2,999]⟩)
   (True ∧ (True ∧ (True ∧ True) ∧ ((cutB2 (cutB2 (cutB2 w (⟨#[61]⟩ : ByteArray)) (⟨#[64]⟩ : ByteArray)) (⟨#[45]⟩ : ByteArray)).size ≤ 2000000)) ∧ True ∧ True ∧ True ∧ True ∧ (True ∧ True) ∧ True)
   ⟨tt,⟨tt,⟨tt,tt⟩,(by omega)⟩,tt,tt,tt,tt,⟨tt,tt⟩,tt⟩ ?_
  refine Kk cok tab31 hnt [] [2] (⟨[(2,.ptr 2 0)],[(2,⟨40,.fix [.i ((((UInt8.toNat (List.getD (cutB1 w (⟨#[61]⟩ : ByteArray)).data.toList 0 0)) : Nat) : Int) - (48 : Int)),.i ((((UInt8.toNat (List.getD (cutB1 w (⟨#[61]⟩ : ByteArray)).data.toList 1 0)) : Nat) : Int) - (120 : Int)),.i (Lib.indexByte (⟨#[112,116,108]⟩ : ByteArray).data.toList (Int.toNat (((UInt8.toNat (List.getD (cutB1 w (⟨#[61]⟩ : ByteArray)).data.toList 2 0)) : Nat) : Int)).toUInt8),.i ((((UInt8.toNat (List.getD (cutB1 w (⟨#[61]⟩ : ByteArray)).data.toList 3 0)) : Nat) : Int) - (48 : Int)),.i (atoiV (cutB1 (cutB2 w (⟨#[61]⟩ : ByteArray)) (⟨#[64]⟩ : ByteArray)).data.toList),.i (atoiV (cutB1 (cutB2 (cutB2 w (⟨#[61]⟩ : ByteArray)) (⟨#[64]⟩ : ByteArray)) (⟨#[45]⟩ : ByteArray)).data.toList),.i (atoiV (cutB2 (cutB2 (cutB2 w (⟨#[61]⟩ : ByteArray)) (⟨#[64]⟩ : ByteArray)) (⟨#[45]⟩ : ByteArray)).data.toList)]⟩),(12,⟨40,.fix [.i ((((UInt8.toNat (List.getD (cutB1 w (⟨#[61]⟩ : ByteArray)).data.toList 0 0)) : Nat) : Int) - (48 : Int)),.i ((((UInt8.toNat (List.getD (cutB1 w (⟨#[61]⟩ : ByteArray)).data.toList 1 0)) : Nat) : Int) - (120 : Int)),.i (Lib.indexByte (⟨#[112,116,108]⟩ : ByteArray).data.toList (Int.toNat (((UInt8.toNat (List.getD (cutB1 w (⟨#[61]⟩ : ByteArray)).data.toList 2 0)) : Nat) : Int)).toUInt8),.i ((((UInt8.toNat (List.getD (cutB1 w (⟨#[61]⟩ : ByteArray)).data.toList 3 0)) : Nat) : Int) - (48 : Int)),.i (atoiV (cutB1 (cutB2 w (⟨#[61]⟩ : ByteArray)) (⟨#[64]⟩ : ByteArray)).data.toList),.i (atoiV (cutB1 (cutB2 (cutB2 w (⟨#[61]⟩ : ByteArray)) (⟨#[64]⟩ : ByteArray)) (⟨#[45]⟩ : ByteArray)).data.toList),.i (atoiV (cutB2 (cutB2 (cutB2 w (⟨#[61]⟩ : ByteArray)) (⟨#[64]⟩ : ByteArray)) (⟨#[45]⟩ : ByteArray)).data.toList)]⟩)],[12,2,999]⟩)
   (True ∧ (True ∧ True) ∧ True)
   ⟨tt,⟨tt,tt⟩,tt⟩ ?_
  refine W.ret ?_
  exact endQ_ret (.agg [.i ((((UInt8.toNat (List.getD (cutB1 w (⟨#[61]⟩ : ByteArray)).data.toList 0 0)) : Nat) : Int) - (48 : Int)),.i ((((UInt8.toNat (List.getD (cutB1 w (⟨#[61]⟩ : ByteArray)).data.toList 1 0)) : Nat) : Int) - (120 : Int)),.i (Lib.indexByte (⟨#[112,116,108]⟩ : ByteArray).data.toList (Int.toNat (((UInt8.toNat (List.getD (cutB1 w (⟨#[61]⟩ : ByteArray)).data.toList 2 0)) : Nat) : Int)).toUInt8),.i ((((UInt8.toNat (List.getD (cutB1 w (⟨#[61]⟩ : ByteArray)).data.toList 3 0)) : Nat) : Int) - (48 : Int)),.i (atoiV (cutB1 (cutB2 w (⟨#[61]⟩ : ByteArray)) (⟨#[64]⟩ : ByteArray)).data.toList),.i (atoiV (cutB1 (cutB2 (cutB2 w (⟨#[61]⟩ : ByteArray)) (⟨#[64]⟩ : ByteArray)) (⟨#[45]⟩ : ByteArray)).data.toList),.i (atoiV (cutB2 (cutB2 (cutB2 w (⟨#[61]⟩ : ByteArray)) (⟨#[64]⟩ : ByteArray)) (⟨#[45]⟩ : ByteArray)).data.toList)]) (by kernel_rfl) (@cast (((.int .i64 ((((UInt8.toNat (List.getD (cutB1 w (⟨#[61]⟩ : ByteArray)).data.toList 0 0)) : Nat) : Int) - (48 : Int)) : Value) = .int .i64 ((readI w.data.toList).proc)) ∧ ((.int .i64 ((((UInt8.toNat (List.getD (cutB1 w (⟨#[61]⟩ : ByteArray)).data.toList 1 0)) : Nat) : Int) - (120 : Int)) : Value) = .int .i64 ((readI w.data.toList).obj)) ∧ ((.int .i64 (Lib.indexByte (⟨#[112,116,108]⟩ : ByteArray).data.toList (Int.toNat (((UInt8.toNat (List.getD (cutB1 w (⟨#[61]⟩ : ByteArray)).data.toList 2 0)) : Nat) : Int)).toUInt8) : Value) = .int .i64 ((readI w.data.toList).kind)) ∧ ((.int .i64 ((((UInt8.toNat (List.getD (cutB1 w (⟨#[61]⟩ : ByteArray)).data.toList 3 0)) : Nat) : Int) - (48 : Int)) : Value) = .int .i64 ((readI w.data.toList).arg)) ∧ ((.int .i64 (atoiV (cutB1 (cutB2 w (⟨#[61]⟩ : ByteArray)) (⟨#[64]⟩ : ByteArray)).data.toList) : Value) = .int .i64 ((readI w.data.toList).ret)) ∧ ((.int .i64 (atoiV (cutB1 (cutB2 (cutB2 w (⟨#[61]⟩ : ByteArray)) (⟨#[64]⟩ : ByteArray)) (⟨#[45]⟩ : ByteArray)).data.toList) : Value) = .int .i64 ((readI w.data.toList).frm)) ∧ ((.int .i64 (atoiV (cutB2 (cutB2 (cutB2 w (⟨#[61]⟩ : ByteArray)) (⟨#[64]⟩ : ByteArray)) (⟨#[45]⟩ : ByteArray)).data.toList) : Value) = .int .i64 ((readI w.data.toList).to)) ∧ True) _ (by kernel_rfl) ⟨(congrArg (Value.int .i64) (by (try rw [u8_back]); first | with_reducible exact hE.1 | with_reducible exact hE.2.1 | with_reducible exact hE.2.2.1 | with_reducible exact hE.2.2.2.1 | with_reducible exact hE.2.2.2.2.1 | with_reducible exact hE.2.2.2.2.2.1 | with_reducible exact hE.2.2.2.2.2.2)),(congrArg (Value.int .i64) (by (try rw [u8_back]); first | with_reducible exact hE.1 | with_reducible exact hE.2.1 | with_reducible exact hE.2.2.1 | with_reducible exact hE.2.2.2.1 | with_reducible exact hE.2.2.2.2.1 | with_reducible exact hE.2.2.2.2.2.1 | with_reducible exact hE.2.2.2.2.2.2)),(congrArg (Value.int .i64) (by (try rw [u8_back]); first | with_reducible exact hE.1 | with_reducible exact hE.2.1 | with_reducible exact hE.2.2.1 | with_reducible exact hE.2.2.2.1 | with_reducible exact hE.2.2.2.2.1 | with_reducible exact hE.2.2.2.2.2.1 | with_reducible exact hE.2.2.2.2.2.2)),(congrArg (Value.int .i64) (by (try rw [u8_back]); first | with_reducible exact hE.1 | with_reducible exact hE.2.1 | with_reducible exact hE.2.2.1 | with_reducible exact hE.2.2.2.1 | with_reducible exact hE.2.2.2.2.1 | with_reducible exact hE.2.2.2.2.2.1 | with_reducible exact hE.2.2.2.2.2.2)),(congrArg (Value.int .i64) (by (try rw [u8_back]); first | with_reducible exact hE.1 | with_reducible exact hE.2.1 | with_reducible exact hE.2.2.1 | with_reducible exact hE.2.2.2.1 | with_reducible exact hE.2.2.2.2.1 | with_reducible exact hE.2.2.2.2.2.1 | with_reducible exact hE.2.2.2.2.2.2)),(congrArg (Value.int .i64) (by (try rw [u8_back]); first | with_reducible exact hE.1 | with_reducible exact hE.2.1 | with_reducible exact hE.2.2.1 | with_reducible exact hE.2.2.2.1 | with_reducible exact hE.2.2.2.2.1 | with_reducible exact hE.2.2.2.2.2.1 | with_reducible exact hE.2.2.2.2.2.2)),(congrArg (Value.int .i64) (by (try rw [u8_back]); first | with_reducible exact hE.1 | with_reducible exact hE.2.1 | with_reducible exact hE.2.2.1 | with_reducible exact hE.2.2.2.1 | with_reducible exact hE.2.2.2.2.1 | with_reducible exact hE.2.2.2.2.2.1 | with_reducible exact hE.2.2.2.2.2.2)),tt⟩)
 ·intro n34
  have hE := cd_eta _ _ _ _ _ _ _ _ (ri_not (w := w) (sep1 := (⟨#[61]⟩ : ByteArray)) (sep2 := (⟨#[64]⟩ : ByteArray)) (sep3 := (⟨#[45]⟩ : ByteArray)) rfl rfl rfl n34)
  refine W.skip (thenQ_normal ?_)
  refine Kk cok tab31 hnt [] [2,9,10,12] (⟨[(2,.ptr 2 0),(9,.v (.string (cutB1 (cutB2 (cutB2 w (⟨#[61]⟩ : ByteArray)) (⟨#[64]⟩ : ByteArray)) (⟨#[45]⟩ : ByteArray)))),(10,.v (.string (cutB2 (cutB2 (cutB2 w (⟨#[61]⟩ : ByteArray)) (⟨#[64]⟩ : ByteArray)) (⟨#[45]⟩ : ByteArray)))),(12,.ptr 12 0)],[(2,⟨40,.fix [.i (0 : Int),.i (0 : Int),.i (0 : Int),.i (0 : Int),.i (0 : Int),.i (0 : Int),.i (0 : Int)]⟩),(12,⟨40,.fix [.i (0 : Int),.i (0 : Int),.i (0 : Int),.i (0 : Int),.i (atoiV (cutB1 (cutB2 w (⟨#[61]⟩ : ByteArray)) (⟨#[64]⟩ : ByteArray)).data.toList),.i (0 : Int),.i (0 : Int)]⟩)],[12,2,999]⟩)
   (True ∧ (True ∧ (True ∧ True) ∧ ((cutB1 (cutB2 w (⟨#[61]⟩ : ByteArray)) (⟨#[64]⟩ : ByteArray)).size ≤ 2000000)) ∧ True ∧ True ∧ True ∧ True ∧ (True ∧ True) ∧ True)
   ⟨tt,⟨tt,⟨tt,tt⟩,(by omega)⟩,tt,tt,tt,tt,⟨tt,tt⟩,tt⟩ ?_
  refine Kk cok tab31 hnt [] [2,10,12] (⟨[(2,.ptr 2 0),(10,.v (.string (cutB2 (cutB2 (cutB2 w (⟨#[61]⟩ : ByteArray)) (⟨#[64]⟩ : ByteArray)) (⟨#[45]⟩ : ByteArray)))),(12,.ptr 12 0)],[(2,⟨40,.fix [.i (0 : Int),.i (0 : Int),.i (0 : Int),.i (0 : Int),.i (0 : Int),.i (0 : Int),.i (0 : Int)]⟩),(12,⟨40,.fix [.i (0 : Int),.i (0 : Int),.i (0 : Int),.i (0 : Int),.i (atoiV (cutB1 (cutB2 w (⟨#[61]⟩ : ByteArray)) (⟨#[64]⟩ : ByteArray)).data.toList),.i (atoiV (cutB1 (cutB2 (cutB2 w (⟨#[61]⟩ : ByteArray)) (⟨#[64]⟩ : ByteArray)) (⟨#[45]⟩ : ByteArray)).data.toList),.i (0 : Int)]⟩)],[12,2,999]⟩)
   (True ∧ (True ∧ (True ∧ True) ∧ ((cutB1 (cutB2 (cutB2 w (⟨#[61]⟩ : ByteArray)) (⟨#[64]⟩ : ByteArray)) (⟨#[45]⟩ : ByteArray)).size ≤ 2000000)) ∧ True ∧ True ∧ True ∧ True ∧ (True ∧ True) ∧ True)
   ⟨tt,⟨tt,⟨tt,tt⟩,(by omega)⟩,tt,tt,tt,tt,⟨tt,tt⟩,tt⟩ ?_
  refine Kk cok tab31 hnt [] [2,12] (⟨[(2,.ptr 2 0),(12,.ptr 12 0)],[(2,⟨40,.fix [.i (0 : Int),.i (0 : Int),.i (0 : Int),.i (0 : Int),.i (0 : Int),.i (0 : Int),.i (0 : Int)]⟩),(12,⟨40,.fix [.i (0 : Int),.i (0 : Int),.i (0 : Int),.i (0 : Int),.i (atoiV (cutB1 (cutB2 w (⟨#[61]⟩ : ByteArray)) (⟨#[64]⟩ : ByteArray)).data.toList),.i (atoiV (cutB1 (cutB2 (cutB2 w (⟨#[61]⟩ : ByteArray)) (⟨#[64]⟩ : ByteArray)) (⟨#[45]⟩ : ByteArray)).data.toList),.i (atoiV (cutB2 (cutB2 (cutB2 w (⟨#[61]⟩ : ByteArray)) (⟨#[64]⟩ : ByteArray)) (⟨#[45]⟩ : ByteArray)).data.toList)]⟩)],[12,2,999]⟩)
   (True ∧ (True ∧ (True ∧ True) ∧ ((cutB2 (cutB2 (cutB2 w (⟨#[61]⟩ : ByteArray)) (⟨#[64]⟩ : ByteArray)) (⟨#[45]⟩ : ByteArray)).size ≤ 2000000)) ∧ True ∧ True ∧ True ∧ True ∧ (True ∧ True) ∧ True)
   ⟨tt,⟨tt,⟨tt,tt⟩,(by omega)⟩,tt,tt,tt,tt,⟨tt,tt⟩,tt⟩ ?_
  refine Kk cok tab31 hnt [] [2] (⟨[(2,.ptr 2 0)],[(2,⟨40,.fix [.i (0 : Int),.i (0 : Int),.i (0 : Int),.i (0 : Int),.i (atoiV (cutB1 (cutB2 w (⟨#[61]⟩ : ByteArray)) (⟨#[64]⟩ : ByteArray)).data.toList),.i (atoiV (cutB1 (cutB2 (cutB2 w (⟨#[61]⟩ : ByteArray)) (⟨#[64]⟩ : ByteArray)) (⟨#[45]⟩ : ByteArray)).data.toList),.i (atoiV (cutB2 (cutB2 (cutB2 w (⟨#[61]⟩ : ByteArray)) (⟨#[64]⟩ : ByteArray)) (⟨#[45]⟩ : ByteArray)).data.toList)]⟩),(12,⟨40,.fix [.i (0 : Int),.i (0 : Int),.i (0 : Int),.i (0 : Int),.i (atoiV (cutB1 (cutB2 w (⟨#[61]⟩ : ByteArray)) (⟨#[64]⟩ : ByteArray)).data.toList),.i (atoiV (cutB1 (cutB2 (cutB2 w (⟨#[61]⟩ : ByteArray)) (⟨#[64]⟩ : ByteArray)) (⟨#[45]⟩ : ByteArray)).data.toList),.i (atoiV (cutB2 (cutB2 (cutB2 w (⟨#[61]⟩ : ByteArray)) (⟨#[64]⟩ : ByteArray)) (⟨#[45]⟩ : ByteArray)).data.toList)]⟩)],[12,2,999]⟩)
   (True ∧ (True ∧ True) ∧ True)
   ⟨tt,⟨tt,tt⟩,tt⟩ ?_
  refine W.ret ?_
  exact endQ_ret (.agg [.i (0 : Int),.i (0 : Int),.i (0 : Int),.i (0 : Int),.i (atoiV (cutB1 (cutB2 w (⟨#[61]⟩ : ByteArray)) (⟨#[64]⟩ : ByteArray)).data.toList),.i (atoiV (cutB1 (cutB2 (cutB2 w (⟨#[61]⟩ : ByteArray)) (⟨#[64]⟩ : ByteArray)) (⟨#[45]⟩ : ByteArray)).data.toList),.i (atoiV (cutB2 (cutB2 (cutB2 w (⟨#[61]⟩ : ByteArray)) (⟨#[64]⟩ : ByteArray)) (⟨#[45]⟩ : ByteArray)).data.toList)]) (by kernel_rfl) (@cast (((.int .i64 (0 : Int) : Value) = .int .i64 ((readI w.data.toList).proc)) ∧ ((.int .i64 (0 : Int) : Value) = .int .i64 ((readI w.data.toList).obj)) ∧ ((.int .i64 (0 : Int) : Value) = .int .i64 ((readI w.data.toList).kind)) ∧ ((.int .i64 (0 : Int) : Value) = .int .i64 ((readI w.data.toList).arg)) ∧ ((.int .i64 (atoiV (cutB1 (cutB2 w (⟨#[61]⟩ : ByteArray)) (⟨#[64]⟩ : ByteArray)).data.toList) : Value) = .int .i64 ((readI w.data.toList).ret)) ∧ ((.int .i64 (atoiV (cutB1 (cutB2 (cutB2 w (⟨#[61]⟩ : ByteArray)) (⟨#[64]⟩ : ByteArray)) (⟨#[45]⟩ : ByteArray)).data.toList) : Value) = .int .i64 ((readI w.data.toList).frm)) ∧ ((.int .i64 (atoiV (cutB2 (cutB2 (cutB2 w (⟨#[61]⟩ : ByteArray)) (⟨#[64]⟩ : ByteArray)) (⟨#[45]⟩ : ByteArray)).data.toList) : Value) = .int .i64 ((readI w.data.toList).to)) ∧ True) _ (by kernel_rfl) ⟨(congrArg (Value.int .i64) (by (try rw [u8_back]); first | with_reducible exact hE.1 | with_reducible exact hE.2.1 | with_reducible exact hE.2.2.1 | with_reducible exact hE.2.2.2.1 | with_reducible exact hE.2.2.2.2.1 | with_reducible exact hE.2.2.2.2.2.1 | with_reducible exact hE.2.2.2.2.2.2)),(congrArg (Value.int .i64) (by (try rw [u8_back]); first | with_reducible exact hE.1 | with_reducible exact hE.2.1 | with_reducible exact hE.2.2.1 | with_reducible exact hE.2.2.2.1 | with_reducible exact hE.2.2.2.2.1 | with_reducible exact hE.2.2.2.2.2.1 | with_reducible exact hE.2.2.2.2.2.2)),(congrArg (Value.int .i64) (by (try rw [u8_back]); first | with_reducible exact hE.1 | with_reducible exact hE.2.1 | with_reducible exact hE.2.2.1 | with_reducible exact hE.2.2.2.1 | with_reducible exact hE.2.2.2.2.1 | with_reducible exact hE.2.2.2.2.2.1 | with_reducible exact hE.2.2.2.2.2.2)),(congrArg (Value.int .i64) (by (try rw [u8_back]); first | with_reducible exact hE.1 | with_reducible exact hE.2.1 | with_reducible exact hE.2.2.1 | with_reducible exact hE.2.2.2.1 | with_reducible exact hE.2.2.2.2.1 | with_reducible exact hE.2.2.2.2.2.1 | with_reducible exact hE.2.2.2.2.2.2)),(congrArg (Value.int .i64) (by (try rw [u8_back]); first | with_reducible exact hE.1 | with_reducible exact hE.2.1 | with_reducible exact hE.2.2.1 | with_reducible exact hE.2.2.2.1 | with_reducible exact hE.2.2.2.2.1 | with_reducible exact hE.2.2.2.2.2.1 | with_reducible exact hE.2.2.2.2.2.2)),(congrArg (Value.int .i64) (by (try rw [u8_back]); first | with_reducible exact hE.1 | with_reducible exact hE.2.1 | with_reducible exact hE.2.2.1 | with_reducible exact hE.2.2.2.1 | with_reducible exact hE.2.2.2.2.1 | with_reducible exact hE.2.2.2.2.2.1 | with_reducible exact hE.2.2.2.2.2.2)),(congrArg (Value.int .i64) (by (try rw [u8_back]); first | with_reducible exact hE.1 | with_reducible exact hE.2.1 | with_reducible exact hE.2.2.1 | with_reducible exact hE.2.2.2.1 | with_reducible exact hE.2.2.2.2.1 | with_reducible exact hE.2.2.2.2.2.1 | with_reducible exact hE.2.2.2.2.2.2)),tt⟩)
theorem ent31 : Entr prog 31 := ⟨_,func31,rfl,by decide⟩
end Go.Proofs.Tryd

set_option linter.unusedSimpArgs false
set_option linter.unusedVariables false
namespace Go.Proofs.Tryd
open Go.Ab Go.RowKit
def fs14 : FnS := fnS [.o] [.str] (fun _ (s,_) => (.tup [.own 0 (List.length ((parseI s.data.toList).1)),.b ((parseI s.data.toList).2)],[(40,.calls ((parseI s.data.toList).1))],(s.size ≤ 1999999)))
abbrev T14 : Tab := lk [(10,fs10),(13,fs13),(30,fs30),(31,fs31)]
theorem tab14 : TabOK prog T14 := (TabOK.cons ok10 ent10 (TabOK.cons ok13 ent13 (TabOK.cons ok30 ent30 (TabOK.cons ok31 ent31 TabOK.nil))))
set_option maxRecDepth 100000 in
set_option maxHeartbeats 1000000 in
theorem ok14 : FnOK prog 14 fs14 := by
 refine FnOK.mk cok func14 rfl rfl rfl ?_
 rintro fl ⟨(s : ByteArray),_⟩ hpre F hnt0 _
 have hnt : F.nt = 34 := hnt0.trans ntmps14
 replace hpre : (s.size ≤ 1999999) := hpre
 have hz := hpre
 refine W.to (⟨[(0,.v (.string s))],[],[999]⟩) rfl ?_
 have hp : ∀ i,(List.getD (splitNB (⟨#[32]⟩ : ByteArray) 7 s) i default).size ≤ s.size := splitN_psz (⟨#[32]⟩ : ByteArray) s 7
 have hsl : (((splitNB (⟨#[32]⟩ : ByteArray) 7 s).length : Nat) : Int) ≤ 7 := splitN_size (by decide)
 refine Kk cok tab14 hnt [] [0] (⟨[(0,.v (.string s))],[],[999]⟩)
  (True ∧ True ∧ True)
  ⟨tt,tt,tt⟩ ?_
 refine Kk cok tab14 hnt [7] [0,4] (⟨[(0,.v (.string s)),(4,.own 7 (List.length ([] : List CallD)))],[(7,⟨40,.row (.calls ([] : List CallD))⟩)],[7,999]⟩)
  (True ∧ True ∧ True)
  ⟨tt,tt,tt⟩ ?_
 refine W.seq ?_
 refine Kk cok tab14 hnt [] [0,4,9] (⟨[(0,.v (.string s)),(4,.own 7 (List.length ([] : List CallD))),(9,.b (eqS s nEmpty))],[(7,⟨40,.row (.calls ([] : List CallD))⟩)],[7,999]⟩)
  (True ∧ (True ∧ True ∧ True) ∧ True)
  ⟨tt,⟨tt,tt,tt⟩,tt⟩ ?_
 refine W.if' (eqS s nEmpty) (.b (eqS s nEmpty)) (by kernel_rfl) rfl trivial ?_ ?_
 ·intro h9
  have hE := pi_empty (s := s) h9
  refine Kk cok tab14 hnt [] [2,3] (⟨[(2,.own 7 (List.length ([] : List CallD))),(3,.b true)],[(7,⟨40,.row (.calls ([] : List CallD))⟩)],[7,999]⟩)
   (True ∧ True ∧ True ∧ True)
   ⟨tt,tt,tt,tt⟩ ?_
  refine W.ret (thenQ_ret ?_)
  exact endQ_rows [(0,7)] (.tup [.own 7 (List.length ([] : List CallD)),.b true]) (by kernel_rfl) (@cast ((((7 : Nat) = 7) ∧ ((List.length ([] : List CallD)) = (List.length ((parseI s.data.toList).1))) ∧ ((0 : Nat) ∈ ([0] : List Nat))) ∧ ((.bool true : Value) = .bool ((parseI s.data.toList).2)) ∧ True) _ (by kernel_rfl) ⟨⟨rfl,(by first | rfl | omega | assumption | (symm; assumption) | (exact congrArg List.length (by first | (rw [hE]; done) | (rw [hE]; rfl) | (rw [hE]; exact hol) | rfl)) | (first | (rw [hE]; done) | (rw [hE]; rfl) | (rw [hE]; exact hol) | rfl; done) | simp | simp_all),(by decide)⟩,(congrArg Value.bool (by first | rfl | omega | assumption | (first | (rw [hE]; done) | (rw [hE]; rfl) | (rw [hE]; exact hol) | rfl; done) | simp | simp_all)),tt⟩) (@cast ((((40 : Nat) = 40) ∧ ((.calls ([] : List CallD) : Dat) = .calls ((parseI s.data.toList).1)) ∧ ((0 : Nat) ∈ ([0] : List Nat))) ∧ True) _ (by kernel_rfl) ⟨⟨rfl,(congrArg Dat.calls (by first | (rw [hE]; done) | (rw [hE]; rfl) | (rw [hE]; exact hol) | rfl)),(by decide)⟩,tt⟩) (by kernel_rfl)
 ·intro n9
  refine W.skip (thenQ_normal ?_)
  refine W.seq ?_
  refine Kk cok tab14 hnt [] [0,4,12,13,14] (⟨[(0,.v (.string s)),(4,.own 7 (List.length ([] : List CallD))),(12,.sl (.strs (splitNB (⟨#[32]⟩ : ByteArray) (7 : Int) s))),(13,.i (((List.length (splitNB (⟨#[32]⟩ : ByteArray) (7 : Int) s)) : Nat) : Int)),(14,.i (0 : Int))],[(7,⟨40,.row (.calls ([] : List CallD))⟩)],[12,7,999]⟩)
   (True ∧ ((True ∧ (True ∧ True ∧ True ∧ True) ∧ ((⟨#[32]⟩ : ByteArray).size = 1) ∧ (1 ≤ (7 : Int) ∧ (7 : Int) ≤ 1000) ∧ (s.size ≤ 2000000)) ∧ ((List.length (splitNB (⟨#[32]⟩ : ByteArray) (7 : Int) s)) = (List.length (splitNB (⟨#[32]⟩ : ByteArray) (7 : Int) s)))) ∧ True ∧ True ∧ True)
   ⟨tt,⟨⟨tt,⟨tt,tt,tt,tt⟩,(by rfl),(by omega),(by omega)⟩,rfl⟩,tt,tt,tt⟩ ?_
  refine W.block ?_
  refine W.loop (ι := Nat × (List CallD)) (fun (x : Nat × (List CallD)) => match x with | (i,o) => (⟨[(0,.v (.string s)),(4,.own 7 o.length),(12,.sl (.strs (splitNB (⟨#[32]⟩ : ByteArray) (7 : Int) s))),(13,.i (((List.length (splitNB (⟨#[32]⟩ : ByteArray) (7 : Int) s)) : Nat) : Int)),(14,.i ((i : Nat) : Int))],[(7,⟨40,.row (.calls o)⟩)],[7,999]⟩ : St))
   (fun (x : Nat × (List CallD)) => match x with | (i,o) => (i ≤ (splitNB (⟨#[32]⟩ : ByteArray) 7 s).length) ∧ (o = readUpI (splitNB (⟨#[32]⟩ : ByteArray) 7 s) i))
   (fun (x : Nat × (List CallD)) => match x with | (i,o) => ((splitNB (⟨#[32]⟩ : ByteArray) 7 s).length - i : Nat)) (0,([] : List CallD)) ?_ ?_ ?_
  ·exact (show (0 ≤ (splitNB (⟨#[32]⟩ : ByteArray) 7 s).length) ∧ (([] : List CallD) = readUpI (splitNB (⟨#[32]⟩ : ByteArray) 7 s) 0) from ⟨(by first | assumption | omega | rfl | (intro _ hjj; omega) | (simp; done) | (simp; omega)),(by rfl)⟩)
  ·exact Sub.of [] (@cast (((((.string s) : Value) = (.string s)) ∧ (((7 : Nat) = 7) ∧ ((List.length ([] : List CallD)) = (List.length ([] : List CallD))) ∧ ((7 : Nat) ∈ ([7,999] : List Nat))) ∧ (Sd (.strs (splitNB (⟨#[32]⟩ : ByteArray) (7 : Int) s))) ∧ (Si (((List.length (splitNB (⟨#[32]⟩ : ByteArray) (7 : Int) s)) : Nat) : Int)) ∧ ((.int .i64 (0 : Int) : Value) = .int .i64 ((0 : Nat) : Int)) ∧ True) ∧ ((((40 : Nat) = 40) ∧ (Sd (.calls ([] : List CallD))) ∧ ((7 : Nat) ∈ ([7,999] : List Nat))) ∧ True) ∧ (true = true) ∧ (true = true)) _ (by kernel_rfl) ⟨⟨rfl,⟨rfl,rfl,(by decide)⟩,rfl,rfl,(congrArg (Value.int .i64) (by first | rfl | omega | assumption | simp | simp_all)),tt⟩,⟨⟨rfl,rfl,(by decide)⟩,tt⟩,rfl,rfl⟩)
  ·rintro ⟨i,o⟩ hC0
   have hC : (i ≤ (splitNB (⟨#[32]⟩ : ByteArray) 7 s).length) ∧ (o = readUpI (splitNB (⟨#[32]⟩ : ByteArray) 7 s) i) := hC0
   clear hC0
   obtain ⟨hi,ho⟩ := hC
   refine W.to (⟨[(0,.v (.string s)),(4,.own 7 o.length),(12,.sl (.strs (splitNB (⟨#[32]⟩ : ByteArray) (7 : Int) s))),(13,.i (((List.length (splitNB (⟨#[32]⟩ : ByteArray) (7 : Int) s)) : Nat) : Int)),(14,.i ((i : Nat) : Int))],[(7,⟨40,.row (.calls o)⟩)],[7,999]⟩) rfl ?_
   have hol : o.length = i := by rw [ho]; exact readUp_lenI hi
   have hpi := hp i
   refine Kk cok tab14 hnt [] [0,4,12,13,14,15] (⟨[(0,.v (.string s)),(4,.own 7 o.length),(12,.sl (.strs (splitNB (⟨#[32]⟩ : ByteArray) (7 : Int) s))),(13,.i (((List.length (splitNB (⟨#[32]⟩ : ByteArray) (7 : Int) s)) : Nat) : Int)),(14,.i ((i : Nat) : Int)),(15,.b (decide (((i : Nat) : Int) < (((List.length (splitNB (⟨#[32]⟩ : ByteArray) (7 : Int) s)) : Nat) : Int))))],[(7,⟨40,.row (.calls o)⟩)],[7,999]⟩)
    ((True ∧ True ∧ True) ∧ True)
    ⟨⟨tt,tt,tt⟩,tt⟩ ?_
   refine W.seq ?_
   refine W.ifP (((i : Nat) : Int) < (((List.length (splitNB (⟨#[32]⟩ : ByteArray) (7 : Int) s)) : Nat) : Int)) (.b (decide (((i : Nat) : Int) < (((List.length (splitNB (⟨#[32]⟩ : ByteArray) (7 : Int) s)) : Nat) : Int)))) (by kernel_rfl) rfl trivial ?_ ?_
   ·intro h15
    refine W.skip (thenQ_normal ?_)
    refine W.seq ?_
    refine W.block ?_
    refine Kk cok tab14 hnt [] [0,4,6,12,13,14] (⟨[(0,.v (.string s)),(4,.own 7 o.length),(6,.v (.string (List.getD (splitNB (⟨#[32]⟩ : ByteArray) (7 : Int) s) i default))),(12,.sl (.strs (splitNB (⟨#[32]⟩ : ByteArray) (7 : Int) s))),(13,.i (((List.length (splitNB (⟨#[32]⟩ : ByteArray) (7 : Int) s)) : Nat) : Int)),(14,.i ((i : Nat) : Int))],[(7,⟨40,.row (.calls o)⟩)],[7,999]⟩)
     ((True ∧ True ∧ (0 ≤ ((i : Nat) : Int)) ∧ (((i : Nat) : Int) < (((List.length (splitNB (⟨#[32]⟩ : ByteArray) (7 : Int) s)) : Nat) : Int))) ∧ True ∧ True ∧ True)
     ⟨⟨tt,tt,(by omega),(by (first | omega | (simp only [List.length_set]; done) | (simp only [List.length_append,List.length_cons,List.length_nil,List.length_take,List.length_drop,List.length_set,List.length_replicate,List.length_map] at *; omega) | assumption))⟩,tt,tt,tt⟩ ?_
    refine Lk cok tab14 hnt [22] (⟨[(0,.v (.string s)),(4,.own 22 (List.length (o ++ ([(readI (List.getD (splitNB (⟨#[32]⟩ : ByteArray) (7 : Int) s) i default).data.toList)])))),(6,.v (.string (List.getD (splitNB (⟨#[32]⟩ : ByteArray) (7 : Int) s) i default))),(12,.sl (.strs (splitNB (⟨#[32]⟩ : ByteArray) (7 : Int) s))),(13,.i (((List.length (splitNB (⟨#[32]⟩ : ByteArray) (7 : Int) s)) : Nat) : Int)),(14,.i ((i : Nat) : Int)),(18,.own 7 o.length),(19,.v (.string (List.getD (splitNB (⟨#[32]⟩ : ByteArray) (7 : Int) s) i default))),(20,.agg [.i ((readI (List.getD (splitNB (⟨#[32]⟩ : ByteArray) (7 : Int) s) i default).data.toList).proc),.i ((readI (List.getD (splitNB (⟨#[32]⟩ : ByteArray) (7 : Int) s) i default).data.toList).obj),.i ((readI (List.getD (splitNB (⟨#[32]⟩ : ByteArray) (7 : Int) s) i default).data.toList).kind),.i ((readI (List.getD (splitNB (⟨#[32]⟩ : ByteArray) (7 : Int) s) i default).data.toList).arg),.i ((readI (List.getD (splitNB (⟨#[32]⟩ : ByteArray) (7 : Int) s) i default).data.toList).ret),.i ((readI (List.getD (splitNB (⟨#[32]⟩ : ByteArray) (7 : Int) s) i default).data.toList).frm),.i ((readI (List.getD (splitNB (⟨#[32]⟩ : ByteArray) (7 : Int) s) i default).data.toList).to)]),(21,.sl (.calls ([(readI (List.getD (splitNB (⟨#[32]⟩ : ByteArray) (7 : Int) s) i default).data.toList)]))),(22,.own 22 (List.length (o ++ ([(readI (List.getD (splitNB (⟨#[32]⟩ : ByteArray) (7 : Int) s) i default).data.toList)]))))],[(22,⟨40,.row (.calls (o ++ ([(readI (List.getD (splitNB (⟨#[32]⟩ : ByteArray) (7 : Int) s) i default).data.toList)])))⟩)],[22,21,7,999]⟩)
     (True ∧ True ∧ (True ∧ (True ∧ True) ∧ ((List.getD (splitNB (⟨#[32]⟩ : ByteArray) (7 : Int) s) i default).size ≤ 2000000)) ∧ (True ∧ True) ∧ ((True ∧ (o.length = o.length)) ∧ True ∧ ((o.length + (List.length ([(readI (List.getD (splitNB (⟨#[32]⟩ : ByteArray) (7 : Int) s) i default).data.toList)]))) * 56 ≤ 140737488355328)) ∧ True ∧ True)
     ⟨tt,tt,⟨tt,⟨tt,tt⟩,(by omega)⟩,⟨tt,tt⟩,⟨⟨tt,rfl⟩,tt,(by (try simp only [List.length_append,List.length_cons,List.length_nil,List.length_set]); omega)⟩,tt,tt⟩ ?_
    refine blockQ_normal (thenQ_normal ?_)
    refine Lk cok tab14 hnt [] (⟨[(0,.v (.string s)),(4,.own 22 (List.length (o ++ ([(readI (List.getD (splitNB (⟨#[32]⟩ : ByteArray) (7 : Int) s) i default).data.toList)])))),(6,.v (.string (List.getD (splitNB (⟨#[32]⟩ : ByteArray) (7 : Int) s) i default))),(12,.sl (.strs (splitNB (⟨#[32]⟩ : ByteArray) (7 : Int) s))),(13,.i (((List.length (splitNB (⟨#[32]⟩ : ByteArray) (7 : Int) s)) : Nat) : Int)),(14,.i (((i + 1) : Nat) : Int)),(18,.own 7 o.length),(19,.v (.string (List.getD (splitNB (⟨#[32]⟩ : ByteArray) (7 : Int) s) i default))),(20,.agg [.i ((readI (List.getD (splitNB (⟨#[32]⟩ : ByteArray) (7 : Int) s) i default).data.toList).proc),.i ((readI (List.getD (splitNB (⟨#[32]⟩ : ByteArray) (7 : Int) s) i default).data.toList).obj),.i ((readI (List.getD (splitNB (⟨#[32]⟩ : ByteArray) (7 : Int) s) i default).data.toList).kind),.i ((readI (List.getD (splitNB (⟨#[32]⟩ : ByteArray) (7 : Int) s) i default).data.toList).arg),.i ((readI (List.getD (splitNB (⟨#[32]⟩ : ByteArray) (7 : Int) s) i default).data.toList).ret),.i ((readI (List.getD (splitNB (⟨#[32]⟩ : ByteArray) (7 : Int) s) i default).data.toList).frm),.i ((readI (List.getD (splitNB (⟨#[32]⟩ : ByteArray) (7 : Int) s) i default).data.toList).to)]),(21,.sl (.calls ([(readI (List.getD (splitNB (⟨#[32]⟩ : ByteArray) (7 : Int) s) i default).data.toList)]))),(22,.own 22 (List.length (o ++ ([(readI (List.getD (splitNB (⟨#[32]⟩ : ByteArray) (7 : Int) s) i default).data.toList)])))),(23,.i (((i + 1) : Nat) : Int))],[(22,⟨40,.row (.calls (o ++ ([(readI (List.getD (splitNB (⟨#[32]⟩ : ByteArray) (7 : Int) s) i default).data.toList)])))⟩)],[22,21,7,999]⟩)
     ((True ∧ True ∧ (Fits .i64 (((i + 1) : Nat) : Int))) ∧ True ∧ True)
     ⟨⟨tt,tt,(by exact fits_i64 (by omega) (by omega))⟩,tt,tt⟩ ?_
    refine thenQ_normal ?_
    refine ⟨((i + 1),(o ++ ([(readI (List.getD (splitNB (⟨#[32]⟩ : ByteArray) (7 : Int) s) i default).data.toList)]))),(show ((i + 1) ≤ (splitNB (⟨#[32]⟩ : ByteArray) 7 s).length) ∧ ((o ++ ([(readI (List.getD (splitNB (⟨#[32]⟩ : ByteArray) (7 : Int) s) i default).data.toList)])) = readUpI (splitNB (⟨#[32]⟩ : ByteArray) 7 s) (i + 1)) from ⟨(by first | assumption | omega | rfl | (intro _ hjj; omega) | (simp; done) | (simp; omega)),(by exact readUpI_next ho (by omega))⟩),(show (splitNB (⟨#[32]⟩ : ByteArray) 7 s).length - (i + 1) < (splitNB (⟨#[32]⟩ : ByteArray) 7 s).length - i from (by first | omega | (simp_all; omega))),?_⟩
    exact Sub.of [(7,22)] (@cast (((((.string s) : Value) = (.string s)) ∧ (((22 : Nat) = 22) ∧ ((List.length (o ++ ([(readI (List.getD (splitNB (⟨#[32]⟩ : ByteArray) (7 : Int) s) i default).data.toList)]))) = (List.length (o ++ ([(readI (List.getD (splitNB (⟨#[32]⟩ : ByteArray) (7 : Int) s) i default).data.toList)])))) ∧ ((7 : Nat) ∈ ([7,999] : List Nat))) ∧ (Sd (.strs (splitNB (⟨#[32]⟩ : ByteArray) (7 : Int) s))) ∧ (Si (((List.length (splitNB (⟨#[32]⟩ : ByteArray) (7 : Int) s)) : Nat) : Int)) ∧ (Si (((i + 1) : Nat) : Int)) ∧ True) ∧ ((((40 : Nat) = 40) ∧ (Sd (.calls (o ++ ([(readI (List.getD (splitNB (⟨#[32]⟩ : ByteArray) (7 : Int) s) i default).data.toList)])))) ∧ ((7 : Nat) ∈ ([7,999] : List Nat))) ∧ True) ∧ (true = true) ∧ (true = true)) _ (by kernel_rfl) ⟨⟨rfl,⟨rfl,rfl,(by decide)⟩,rfl,rfl,rfl,tt⟩,⟨⟨rfl,rfl,(by decide)⟩,tt⟩,rfl,rfl⟩)
   ·intro n15
    have hO := readUpI_all (s := s) (sep := (⟨#[32]⟩ : ByteArray)) rfl ho (by omega)
    refine W.exit (thenQ_exit (thenQ_exit (blockQ_hit ?_)))
    refine thenQ_normal ?_
    refine W.seq ?_
    refine Kk cok tab14 hnt [] [4,32] (⟨[(4,.own 7 o.length),(32,.b ((!(validHistory o)) || (!(eqS (histB o) s))))],[(7,⟨40,.row (.calls o)⟩)],[7,999]⟩)
     ((fun (Z1:Bool)=>(True ∧ ((True ∧ (((True ∧ (o.length = o.length)) ∧ True) ∧ True)) ∧ (True ∧ (True ∧ (((!Z1) = true → True) ∧ (((!Z1) = true → (True ∧ ((((((!Z1) = true) ∧ True) ∧ (o.length = o.length)) ∧ True) ∧ True))) ∧ (((!Z1) = true → True) ∧ (((!Z1) = true → ((((!Z1) = true) ∧ True) ∧ ((((!Z1) = true) ∧ True) ∧ True))) ∧ ((True ∧ ((Z1 = true → True) ∧ (Z1 = false → ((!Z1) = true) ∧ True))) ∧ True)))))))))) (!(validHistory o)))
     ⟨tt,⟨tt,⟨⟨tt,rfl⟩,tt⟩,tt⟩,tt,tt,(fun _ => trivial),(fun hG => ⟨tt,⟨⟨⟨hG,tt⟩,rfl⟩,tt⟩,tt⟩),(fun _ => trivial),(fun hG => ⟨⟨hG,tt⟩,⟨hG,tt⟩,tt⟩),⟨tt,(fun _ => trivial),(fun hp => ⟨(not_t hp),tt⟩)⟩,tt⟩ ?_
    refine W.if' ((!(validHistory o)) || (!(eqS (histB o) s))) (.b ((!(validHistory o)) || (!(eqS (histB o) s)))) (by kernel_rfl) rfl trivial ?_ ?_
    ·intro h32
     have hE := pi_rest (s := s) (fun e => Bool.false_ne_true (n9.symm.trans e)) hO h32
     rw [cond_true] at hE
     refine Kk cok tab14 hnt [] [2,3] (⟨[(2,.v (.slice none 0 0)),(3,.b false)],[(7,⟨40,.row (.calls o)⟩)],[7,999]⟩)
      (True ∧ True ∧ True)
      ⟨tt,tt,tt⟩ ?_
     refine W.nilOwn 2 813 none 40 (.calls ([] : List CallD)) (.v (.slice none 0 0)) (.own 813 0) (⟨[(2,.own 813 0),(3,.b false)],[(7,⟨40,.row (.calls o)⟩),(813,⟨40,.row (.calls ([] : List CallD))⟩)],[813,7,999]⟩) (by kernel_rfl) (by kernel_rfl) (by kernel_rfl) (by kernel_rfl) (by kernel_rfl) ?_
     refine W.ret (thenQ_ret ?_)
     exact endQ_rows [(0,813)] (.tup [.own 813 0,.b false]) (by kernel_rfl) (@cast ((((813 : Nat) = 813) ∧ (0 = (List.length ((parseI s.data.toList).1))) ∧ ((0 : Nat) ∈ ([0] : List Nat))) ∧ ((.bool false : Value) = .bool ((parseI s.data.toList).2)) ∧ True) _ (by kernel_rfl) ⟨⟨rfl,(by first | rfl | omega | assumption | (symm; assumption) | (exact congrArg List.length (by first | (rw [hE]; done) | (rw [hE]; rfl) | (rw [hE]; exact hol) | rfl)) | (first | (rw [hE]; done) | (rw [hE]; rfl) | (rw [hE]; exact hol) | rfl; done) | simp | simp_all),(by decide)⟩,(congrArg Value.bool (by first | rfl | omega | assumption | (first | (rw [hE]; done) | (rw [hE]; rfl) | (rw [hE]; exact hol) | rfl; done) | simp | simp_all)),tt⟩) (@cast ((((40 : Nat) = 40) ∧ ((.calls ([] : List CallD) : Dat) = .calls ((parseI s.data.toList).1)) ∧ ((0 : Nat) ∈ ([0] : List Nat))) ∧ True) _ (by kernel_rfl) ⟨⟨rfl,(congrArg Dat.calls (by first | (rw [hE]; done) | (rw [hE]; rfl) | (rw [hE]; exact hol) | rfl)),(by decide)⟩,tt⟩) (by kernel_rfl)
    ·intro n32
     have hE := pi_rest (s := s) (fun e => Bool.false_ne_true (n9.symm.trans e)) hO n32
     rw [cond_false] at hE
     refine W.skip (thenQ_normal ?_)
     refine Kk cok tab14 hnt [] [2,3] (⟨[(2,.own 7 o.length),(3,.b true)],[(7,⟨40,.row (.calls o)⟩)],[7,999]⟩)
      (True ∧ True ∧ True ∧ True)
      ⟨tt,tt,tt,tt⟩ ?_
     refine W.ret ?_
     exact endQ_rows [(0,7)] (.tup [.own 7 o.length,.b true]) (by kernel_rfl) (@cast ((((7 : Nat) = 7) ∧ (o.length = (List.length ((parseI s.data.toList).1))) ∧ ((0 : Nat) ∈ ([0] : List Nat))) ∧ ((.bool true : Value) = .bool ((parseI s.data.toList).2)) ∧ True) _ (by kernel_rfl) ⟨⟨rfl,(by first | rfl | omega | assumption | (symm; assumption) | (exact congrArg List.length (by first | (rw [hE]; done) | (rw [hE]; rfl) | (rw [hE]; exact hol) | rfl)) | (first | (rw [hE]; done) | (rw [hE]; rfl) | (rw [hE]; exact hol) | rfl; done) | simp | simp_all),(by decide)⟩,(congrArg Value.bool (by first | rfl | omega | assumption | (first | (rw [hE]; done) | (rw [hE]; rfl) | (rw [hE]; exact hol) | rfl; done) | simp | simp_all)),tt⟩) (@cast ((((40 : Nat) = 40) ∧ ((.calls o : Dat) = .calls ((parseI s.data.toList).1)) ∧ ((0 : Nat) ∈ ([0] : List Nat))) ∧ True) _ (by kernel_rfl) ⟨⟨rfl,(congrArg Dat.calls (by first | (rw [hE]; done) | (rw [hE]; rfl) | (rw [hE]; exact hol) | rfl)),(by decide)⟩,tt⟩) (by kernel_rfl)
theorem ent14 : Entr prog 14 := ⟨_,func14,rfl,by decide⟩
end Go.Proofs.Tryd

set_option linter.unusedSimpArgs false
set_option linter.unusedVariables false
namespace Go.Proofs.Tryd
open Go.Ab Go.RowKit
def fs15 : FnS := fnS [.s .calls,.s .calls] [.calls,.calls] (fun _ (a,b,_) => (.b (decide (a = b)),[],True))
abbrev T15 : Tab := lk []
theorem tab15 : TabOK prog T15 := TabOK.nil
set_option maxRecDepth 100000 in
set_option maxHeartbeats 1000000 in
theorem ok15 : FnOK prog 15 fs15 := by
 refine FnOK.mk cok func15 rfl rfl rfl ?_
 rintro fl ⟨(a : List CallD),(b : List CallD),_⟩ hpre F hnt0 _
 have hnt : F.nt = 26 := hnt0.trans ntmps15
 clear hpre
 refine W.to (⟨[(0,.sl (.calls a)),(1,.sl (.calls b))],[],[999]⟩) rfl ?_
 refine W.lenOf 0 (.calls a) (by kernel_rfl) ?_
 intro hl_a; replace hl_a : List.length a ≤ 9223372036854775807 := hl_a
 refine W.lenOf 1 (.calls b) (by kernel_rfl) ?_
 intro hl_b; replace hl_b : List.length b ≤ 9223372036854775807 := hl_b
 refine Kk cok tab15 hnt [] [0,1] (⟨[(0,.sl (.calls a)),(1,.sl (.calls b))],[],[999]⟩)
  (True ∧ True)
  ⟨tt,tt⟩ ?_
 refine W.seq ?_
 refine Kk cok tab15 hnt [] [0,1,10] (⟨[(0,.sl (.calls a)),(1,.sl (.calls b)),(10,.b (decide ((a.length : Int) ≠ (b.length : Int))))],[],[999]⟩)
  (True ∧ True ∧ True ∧ True ∧ (True ∧ True ∧ True) ∧ True)
  ⟨tt,tt,tt,tt,⟨tt,tt,tt⟩,tt⟩ ?_
 refine W.ifP ((a.length : Int) ≠ (b.length : Int)) (.b (decide ((a.length : Int) ≠ (b.length : Int)))) (by kernel_rfl) rfl trivial ?_ ?_
 ·intro h10
  refine Kk cok tab15 hnt [] [4] (⟨[(4,.b false)],[],[999]⟩)
   (True ∧ True)
   ⟨tt,tt⟩ ?_
  refine W.ret (thenQ_ret ?_)
  exact endQ_ret (.b false) (by kernel_rfl) (@cast ((.bool false : Value) = .bool (decide (a = b))) _ (by kernel_rfl) (congrArg Value.bool (by symm; exact decide_eq_false (fun e => h10 (by rw [e])))))
 ·intro n10
  refine W.skip (thenQ_normal ?_)
  refine W.seq ?_
  refine Kk cok tab15 hnt [] [0,1,5] (⟨[(0,.sl (.calls a)),(1,.sl (.calls b)),(5,.i (0 : Int))],[],[999]⟩)
   (True ∧ True)
   ⟨tt,tt⟩ ?_
  refine W.block ?_
  refine W.loop (ι := Nat) (fun (i : Nat) => (⟨[(0,.sl (.calls a)),(1,.sl (.calls b)),(5,.i ((i : Nat) : Int))],[],[999]⟩ : St))
   (fun (i : Nat) => (i ≤ a.length) ∧ (∀ j,j < i → a.getD j default = b.getD j default))
   (fun (i : Nat) => (a.length - i : Nat)) (0) ?_ ?_ ?_
  ·exact (show (0 ≤ a.length) ∧ (∀ j,j < 0 → a.getD j default = b.getD j default) from ⟨(by first | assumption | omega | rfl | (intro _ hjj; omega) | (simp; done) | (simp; omega)),(by exact upto_zero)⟩)
  ·exact Sub.of [] (@cast (((Sd (.calls a)) ∧ (Sd (.calls b)) ∧ ((.int .i64 (0 : Int) : Value) = .int .i64 ((0 : Nat) : Int)) ∧ True) ∧ True ∧ (true = true) ∧ (true = true)) _ (by kernel_rfl) ⟨⟨rfl,rfl,(congrArg (Value.int .i64) (by first | rfl | omega | assumption | simp | simp_all)),tt⟩,tt,rfl,rfl⟩)
  ·rintro i hC0
   have hC : (i ≤ a.length) ∧ (∀ j,j < i → a.getD j default = b.getD j default) := hC0
   clear hC0
   obtain ⟨hi,hA⟩ := hC
   refine W.to (⟨[(0,.sl (.calls a)),(1,.sl (.calls b)),(5,.i ((i : Nat) : Int))],[],[999]⟩) rfl ?_
   refine W.seq ?_
   refine Kk cok tab15 hnt [] [0,1,5,14] (⟨[(0,.sl (.calls a)),(1,.sl (.calls b)),(5,.i ((i : Nat) : Int)),(14,.b (decide (((i : Nat) : Int) < (a.length : Int))))],[],[999]⟩)
    (True ∧ True ∧ True ∧ (True ∧ True ∧ True) ∧ True)
    ⟨tt,tt,tt,⟨tt,tt,tt⟩,tt⟩ ?_
   refine W.ifP (((i : Nat) : Int) < (a.length : Int)) (.b (decide (((i : Nat) : Int) < (a.length : Int)))) (by kernel_rfl) rfl trivial ?_ ?_
   ·intro h14
    refine W.skip (thenQ_normal ?_)
    refine W.seq ?_
    refine W.block ?_
    refine W.KA cok tab15 hnt [] [0,1,5,25] (⟨[(0,.sl (.calls a)),(1,.sl (.calls b)),(5,.i ((i : Nat) : Int)),(25,.b (!((decide (((a.getD i default).proc) = ((b.getD i default).proc))) && ((decide (((a.getD i default).obj) = ((b.getD i default).obj))) && ((decide (((a.getD i default).kind) = ((b.getD i default).kind))) && ((decide (((a.getD i default).arg) = ((b.getD i default).arg))) && ((decide (((a.getD i default).ret) = ((b.getD i default).ret))) && ((decide (((a.getD i default).frm) = ((b.getD i default).frm))) && ((decide (((a.getD i default).to) = ((b.getD i default).to))) && true)))))))))],[],[999]⟩)
     (True ∧ True ∧ (True ∧ True ∧ (0 ≤ ((i : Nat) : Int)) ∧ (((i : Nat) : Int) < (a.length : Int))) ∧ True ∧ True ∧ True ∧ (True ∧ True ∧ (0 ≤ ((i : Nat) : Int)) ∧ (((i : Nat) : Int) < (b.length : Int))) ∧ True ∧ (True ∧ True) ∧ True) (by kernel_rfl) (by kernel_rfl)
     ⟨tt,tt,⟨tt,tt,(by omega),(by omega)⟩,tt,tt,tt,⟨tt,tt,(by omega),(by omega)⟩,tt,⟨tt,tt⟩,tt⟩ ?_
    refine W.if' (!((decide (((a.getD i default).proc) = ((b.getD i default).proc))) && ((decide (((a.getD i default).obj) = ((b.getD i default).obj))) && ((decide (((a.getD i default).kind) = ((b.getD i default).kind))) && ((decide (((a.getD i default).arg) = ((b.getD i default).arg))) && ((decide (((a.getD i default).ret) = ((b.getD i default).ret))) && ((decide (((a.getD i default).frm) = ((b.getD i default).frm))) && ((decide (((a.getD i default).to) = ((b.getD i default).to))) && true)))))))) (.b (!((decide (((a.getD i default).proc) = ((b.getD i default).proc))) && ((decide (((a.getD i default).obj) = ((b.getD i default).obj))) && ((decide (((a.getD i default).kind) = ((b.getD i default).kind))) && ((decide (((a.getD i default).arg) = ((b.getD i default).arg))) && ((decide (((a.getD i default).ret) = ((b.getD i default).ret))) && ((decide (((a.getD i default).frm) = ((b.getD i default).frm))) && ((decide (((a.getD i default).to) = ((b.getD i default).to))) && true))))))))) (by kernel_rfl) rfl trivial ?_ ?_
    ·intro h25
     refine Kk cok tab15 hnt [] [4] (⟨[(4,.b false)],[],[999]⟩)
      (True ∧ True)
      ⟨tt,tt⟩ ?_
     refine W.ret (blockQ_ret (thenQ_ret (thenQ_ret (blockQ_ret (thenQ_ret ?_)))))
     exact endQ_ret (.b false) (by kernel_rfl) (@cast ((.bool false : Value) = .bool (decide (a = b))) _ (by kernel_rfl) (congrArg Value.bool (by symm; exact decide_eq_false (fun e => by rw [e] at h25; simp at h25))))
    ·intro n25
     have n25_0 : ((a.getD i default).proc) = ((b.getD i default).proc) := of_decide_eq_true (and_l (not_g n25))
     have n25_1 : ((a.getD i default).obj) = ((b.getD i default).obj) := of_decide_eq_true (and_l (and_r (not_g n25)))
     have n25_2 : ((a.getD i default).kind) = ((b.getD i default).kind) := of_decide_eq_true (and_l (and_r (and_r (not_g n25))))
     have n25_3 : ((a.getD i default).arg) = ((b.getD i default).arg) := of_decide_eq_true (and_l (and_r (and_r (and_r (not_g n25)))))
     have n25_4 : ((a.getD i default).ret) = ((b.getD i default).ret) := of_decide_eq_true (and_l (and_r (and_r (and_r (and_r (not_g n25))))))
     have n25_5 : ((a.getD i default).frm) = ((b.getD i default).frm) := of_decide_eq_true (and_l (and_r (and_r (and_r (and_r (and_r (not_g n25)))))))
     have n25_6 : ((a.getD i default).to) = ((b.getD i default).to) := of_decide_eq_true (and_l (and_r (and_r (and_r (and_r (and_r (and_r (not_g n25))))))))
     refine W.skip (blockQ_normal (thenQ_normal ?_))
     refine Lk cok tab15 hnt [] (⟨[(0,.sl (.calls a)),(1,.sl (.calls b)),(5,.i (((i + 1) : Nat) : Int)),(15,.i ((i : Nat) : Int)),(16,.i (((i + 1) : Nat) : Int)),(25,.b (!((decide (((a.getD i default).proc) = ((b.getD i default).proc))) && ((decide (((a.getD i default).obj) = ((b.getD i default).obj))) && ((decide (((a.getD i default).kind) = ((b.getD i default).kind))) && ((decide (((a.getD i default).arg) = ((b.getD i default).arg))) && ((decide (((a.getD i default).ret) = ((b.getD i default).ret))) && ((decide (((a.getD i default).frm) = ((b.getD i default).frm))) && ((decide (((a.getD i default).to) = ((b.getD i default).to))) && true)))))))))],[],[999]⟩)
      (True ∧ (True ∧ True ∧ (Fits .i64 (((i + 1) : Nat) : Int))) ∧ True ∧ True)
      ⟨tt,⟨tt,tt,(by exact fits_i64 (by omega) (by omega))⟩,tt,tt⟩ ?_
     refine thenQ_normal ?_
     refine ⟨((i + 1)),(show ((i + 1) ≤ a.length) ∧ (∀ j,j < (i + 1) → a.getD j default = b.getD j default) from ⟨(by first | assumption | omega | rfl | (intro _ hjj; omega) | (simp; done) | (simp; omega)),(by exact upto_succ hA (call_ext (by simp_all) (by simp_all) (by simp_all) (by simp_all) (by simp_all) (by simp_all) (by simp_all)))⟩),(show a.length - (i + 1) < a.length - i from (by first | omega | (simp_all; omega))),?_⟩
     exact Sub.of [] (@cast (((Sd (.calls a)) ∧ (Sd (.calls b)) ∧ (Si (((i + 1) : Nat) : Int)) ∧ True) ∧ True ∧ (true = true) ∧ (true = true)) _ (by kernel_rfl) ⟨⟨rfl,rfl,rfl,tt⟩,tt,rfl,rfl⟩)
   ·intro n14
    refine W.exit (thenQ_exit (thenQ_exit (blockQ_hit ?_)))
    refine thenQ_normal ?_
    refine Kk cok tab15 hnt [] [4] (⟨[(4,.b true)],[],[999]⟩)
     (True ∧ True)
     ⟨tt,tt⟩ ?_
    refine W.ret ?_
    exact endQ_ret (.b true) (by kernel_rfl) (@cast ((.bool true : Value) = .bool (decide (a = b))) _ (by kernel_rfl) (congrArg Value.bool (by symm; exact decide_eq_true (calls_ext (by omega) (fun j hj => hA j (by omega))))))
theorem ent15 : Entr prog 15 := ⟨_,func15,rfl,by decide⟩
end Go.Proofs.Tryd

set_option linter.unusedSimpArgs false
set_option linter.unusedVariables false
namespace Go.Proofs.Tryd
open Go.Ab Go.RowKit
def pre27 : List AV → List AV → Prop := preP [.bytes] [] (fun (code,_) _ => True)
def rel27 : RelS := relP [.bytes] [] (ι := (List UInt8)) (fun (code,_) _ l => True) (fun (code,_) _ l => (.ptr 0 0,[⟨68,.fix [.sl (.bytes l),.i (0 : Int)]⟩],[]))
abbrev T27 : Tab := lk []
theorem tab27 : TabOK prog T27 := TabOK.nil
set_option maxRecDepth 100000 in
set_option maxHeartbeats 1000000 in
theorem rok27 : RelOK prog 27 none [.s .bytes] pre27 rel27 := by
 refine RelOK.mk cok func27 rfl rfl rfl ?_
 rintro ⟨(code : List UInt8),_⟩ _ hpre F hnt0
 have hnt : F.nt = 11 := hnt0.trans ntmps27
 clear hpre
 refine W.to (⟨[(0,.sl (.bytes code))],[],[998,999]⟩) rfl ?_
 refine Kk cok tab27 hnt [] [0] (⟨[(0,.sl (.bytes code))],[],[998,999]⟩)
  (True ∧ True)
  ⟨tt,tt⟩ ?_
 refine W.seq ?_
 refine Kk cok tab27 hnt [] [0,5] (⟨[(0,.sl (.bytes code)),(5,.b (decide ((2000 : Int) < (code.length : Int))))],[],[998,999]⟩)
  (True ∧ True ∧ (True ∧ True ∧ True) ∧ True)
  ⟨tt,tt,⟨tt,tt,tt⟩,tt⟩ ?_
 refine W.ifP ((2000 : Int) < (code.length : Int)) (.b (decide ((2000 : Int) < (code.length : Int)))) (by kernel_rfl) rfl trivial ?_ ?_
 ·intro h5
  refine Lk cok tab27 hnt [] (⟨[(0,.sl (.bytes (List.take 2000 code))),(5,.b (decide ((2000 : Int) < (code.length : Int)))),(6,.sl (.bytes code)),(7,.sl (.bytes (List.take 2000 code)))],[],[998,999]⟩)
   (True ∧ (True ∧ True ∧ True ∧ (0 ≤ (0 : Int)) ∧ ((0 : Int) ≤ (2000 : Int)) ∧ ((2000 : Int) ≤ (code.length : Int))) ∧ True ∧ True)
   ⟨tt,⟨tt,tt,tt,(by omega),(by omega),(by omega)⟩,tt,tt⟩ ?_
  refine thenQ_normal ?_
  refine Kk cok tab27 hnt [] [2] (⟨[(2,.ptr 10 0)],[(10,⟨68,.fix [.sl (.bytes (List.take 2000 code)),.i (0 : Int)]⟩)],[10,998,999]⟩)
   (True ∧ (True ∧ True) ∧ True ∧ True ∧ True)
   ⟨tt,⟨tt,tt⟩,tt,tt,tt⟩ ?_
  refine W.ret ?_
  exact endP_ret ((List.take 2000 code)) (show True from trivial) [(0,10)] (.ptr 10 0) (by kernel_rfl) (@cast ((((10 : Nat) = 10) ∧ ((0 : Nat) = 0) ∧ ((0 : Nat) ∈ ([0] : List Nat))) ∧ ((((68 : Nat) = 68) ∧ ((Sd (.bytes (List.take 2000 code))) ∧ (Si (0 : Int)) ∧ True) ∧ ((0 : Nat) ∈ ([0] : List Nat))) ∧ True) ∧ (true = true) ∧ ((([] : List Nat) = []) ∧ True) ∧ (false = true → (10 : Nat) = 998)) _ (by kernel_rfl) ⟨⟨rfl,rfl,(by decide)⟩,⟨⟨rfl,⟨rfl,rfl,tt⟩,(by decide)⟩,tt⟩,rfl,⟨rfl,tt⟩,(fun h => by cases h)⟩)
 ·intro n5
  refine W.skip (thenQ_normal ?_)
  refine Kk cok tab27 hnt [] [2] (⟨[(2,.ptr 10 0)],[(10,⟨68,.fix [.sl (.bytes code),.i (0 : Int)]⟩)],[10,998,999]⟩)
   (True ∧ (True ∧ True) ∧ True ∧ True ∧ True)
   ⟨tt,⟨tt,tt⟩,tt,tt,tt⟩ ?_
  refine W.ret ?_
  exact endP_ret (code) (show True from trivial) [(0,10)] (.ptr 10 0) (by kernel_rfl) (@cast ((((10 : Nat) = 10) ∧ ((0 : Nat) = 0) ∧ ((0 : Nat) ∈ ([0] : List Nat))) ∧ ((((68 : Nat) = 68) ∧ ((Sd (.bytes code)) ∧ (Si (0 : Int)) ∧ True) ∧ ((0 : Nat) ∈ ([0] : List Nat))) ∧ True) ∧ (true = true) ∧ ((([] : List Nat) = []) ∧ True) ∧ (false = true → (10 : Nat) = 998)) _ (by kernel_rfl) ⟨⟨rfl,rfl,(by decide)⟩,⟨⟨rfl,⟨rfl,rfl,tt⟩,(by decide)⟩,tt⟩,rfl,⟨rfl,tt⟩,(fun h => by cases h)⟩)
theorem ent27 : Entr prog 27 := ⟨_,func27,rfl,by decide⟩
end Go.Proofs.Tryd
