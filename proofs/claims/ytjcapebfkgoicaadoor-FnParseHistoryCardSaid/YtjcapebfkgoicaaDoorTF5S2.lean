import Derived.Test.YtjcapebfkgoicaaDoorTF5S0
import Derived.Test.YtjcapebfkgoicaaDoorTF5S1
set_option linter.unusedSimpArgs false
set_option linter.unusedVariables false
namespace Go.Proofs.Tryd
open Go.Ab Go.RowKit
def fs31 : FnS := fnS [.o] [.str] (fun _ (w,_) => (.agg [.i ((readI w.data.toList).proc),.i ((readI w.data.toList).obj),.i ((readI w.data.toList).kind),.i ((readI w.data.toList).arg),.i ((readI w.data.toList).ret),.i ((readI w.data.toList).frm),.i ((readI w.data.toList).to)],[],(w.size ≤ 2000000)))
abbrev T31 : Tab := lk [(47,fs47),(48,fs48),(49,fs49)]
theorem tab31 : TabOK prog T31 := (TabOK.cons ok47 ent47 (TabOK.cons ok48 ent48 (TabOK.cons ok49 ent49 TabOK.nil)))
set_option maxRecDepth 100000 in
set_option maxHeartbeats 1000000 in
theorem ok31 : FnOK prog 31 fs31 := by
 refine FnOK.mk cok func31 rfl rfl rfl ?_
 rintro fl ⟨(w : ByteArray),_⟩ hpre F hnt0 _
 have hnt : F.nt = 70 := hnt0.trans ntmps31
 replace hpre : (w.size ≤ 2000000) := hpre
 have hz := hpre
 refine W.to (⟨[(0,.v (.string w))],[],[999]⟩) rfl ?_
 have c1 := cut_size w (⟨#[61]⟩ : ByteArray)
 have c2 := cut_size (cutB2 w (⟨#[61]⟩ : ByteArray)) (⟨#[64]⟩ : ByteArray)
 have c3 := cut_size (cutB2 (cutB2 w (⟨#[61]⟩ : ByteArray)) (⟨#[64]⟩ : ByteArray)) (⟨#[45]⟩ : ByteArray)
 have hu : ∀ (s : ByteArray) (i : Nat),((UInt8.toNat (List.getD s.data.toList i 0) : Nat) : Int) ≤ 255 := fun s i => by have := (List.getD s.data.toList i 0).toNat_lt; omega
 refine Kk cok tab31 hnt [] [0,2] (⟨[(0,.v (.string w)),(2,.ptr 2 0)],[(2,⟨40,.fix [.i (0 : Int),.i (0 : Int),.i (0 : Int),.i (0 : Int),.i (0 : Int),.i (0 : Int),.i (0 : Int)]⟩)],[2,999]⟩)
  (True ∧ True)
  ⟨tt,tt⟩ ?_
 refine Kk cok tab31 hnt [] [2,3,4] (⟨[(2,.ptr 2 0),(3,.v (.string (cutB1 w (⟨#[61]⟩ : ByteArray)))),(4,.v (.string (cutB2 w (⟨#[61]⟩ : ByteArray))))],[(2,⟨40,.fix [.i (0 : Int),.i (0 : Int),.i (0 : Int),.i (0 : Int),.i (0 : Int),.i (0 : Int),.i (0 : Int)]⟩)],[2,999]⟩)
  (True ∧ (True ∧ (True ∧ True ∧ True) ∧ ((⟨#[61]⟩ : ByteArray).size = 1) ∧ (w.size ≤ 2000000)) ∧ True ∧ True ∧ True ∧ True ∧ True ∧ True ∧ True ∧ True)
  ⟨tt,⟨tt,⟨tt,tt,tt⟩,(by rfl),(by omega)⟩,tt,tt,tt,tt,tt,tt,tt,tt⟩ ?_
 refine Kk cok tab31 hnt [] [2,3,6,7] (⟨[(2,.ptr 2 0),(3,.v (.string (cutB1 w (⟨#[61]⟩ : ByteArray)))),(6,.v (.string (cutB1 (cutB2 w (⟨#[61]⟩ : ByteArray)) (⟨#[64]⟩ : ByteArray)))),(7,.v (.string (cutB2 (cutB2 w (⟨#[61]⟩ : ByteArray)) (⟨#[64]⟩ : ByteArray))))],[(2,⟨40,.fix [.i (0 : Int),.i (0 : Int),.i (0 : Int),.i (0 : Int),.i (0 : Int),.i (0 : Int),.i (0 : Int)]⟩)],[2,999]⟩)
  (True ∧ (True ∧ (True ∧ True ∧ True) ∧ ((⟨#[64]⟩ : ByteArray).size = 1) ∧ ((cutB2 w (⟨#[61]⟩ : ByteArray)).size ≤ 2000000)) ∧ True ∧ True ∧ True ∧ True ∧ True ∧ True ∧ True ∧ True)
  ⟨tt,⟨tt,⟨tt,tt,tt⟩,(by rfl),(by omega)⟩,tt,tt,tt,tt,tt,tt,tt,tt⟩ ?_
 refine Kk cok tab31 hnt [] [2,3,6,9,10] (⟨[(2,.ptr 2 0),(3,.v (.string (cutB1 w (⟨#[61]⟩ : ByteArray)))),(6,.v (.string (cutB1 (cutB2 w (⟨#[61]⟩ : ByteArray)) (⟨#[64]⟩ : ByteArray)))),(9,.v (.string (cutB1 (cutB2 (cutB2 w (⟨#[61]⟩ : ByteArray)) (⟨#[64]⟩ : ByteArray)) (⟨#[45]⟩ : ByteArray)))),(10,.v (.string (cutB2 (cutB2 (cutB2 w (⟨#[61]⟩ : ByteArray)) (⟨#[64]⟩ : ByteArray)) (⟨#[45]⟩ : ByteArray))))],[(2,⟨40,.fix [.i (0 : Int),.i (0 : Int),.i (0 : Int),.i (0 : Int),.i (0 : Int),.i (0 : Int),.i (0 : Int)]⟩)],[2,999]⟩)
  (True ∧ (True ∧ (True ∧ True ∧ True) ∧ ((⟨#[45]⟩ : ByteArray).size = 1) ∧ ((cutB2 (cutB2 w (⟨#[61]⟩ : ByteArray)) (⟨#[64]⟩ : ByteArray)).size ≤ 2000000)) ∧ True ∧ True ∧ True ∧ True ∧ True ∧ True ∧ True ∧ True)
  ⟨tt,⟨tt,⟨tt,tt,tt⟩,(by rfl),(by omega)⟩,tt,tt,tt,tt,tt,tt,tt,tt⟩ ?_
 refine Kk cok tab31 hnt [] [2,3,6,9,10,12] (⟨[(2,.ptr 2 0),(3,.v (.string (cutB1 w (⟨#[61]⟩ : ByteArray)))),(6,.v (.string (cutB1 (cutB2 w (⟨#[61]⟩ : ByteArray)) (⟨#[64]⟩ : ByteArray)))),(9,.v (.string (cutB1 (cutB2 (cutB2 w (⟨#[61]⟩ : ByteArray)) (⟨#[64]⟩ : ByteArray)) (⟨#[45]⟩ : ByteArray)))),(10,.v (.string (cutB2 (cutB2 (cutB2 w (⟨#[61]⟩ : ByteArray)) (⟨#[64]⟩ : ByteArray)) (⟨#[45]⟩ : ByteArray)))),(12,.ptr 12 0)],[(2,⟨40,.fix [.i (0 : Int),.i (0 : Int),.i (0 : Int),.i (0 : Int),.i (0 : Int),.i (0 : Int),.i (0 : Int)]⟩),(12,⟨40,.fix [.i (0 : Int),.i (0 : Int),.i (0 : Int),.i (0 : Int),.i (0 : Int),.i (0 : Int),.i (0 : Int)]⟩)],[12,2,999]⟩)
  (True ∧ True ∧ (True ∧ True) ∧ True)
  ⟨tt,tt,⟨tt,tt⟩,tt⟩ ?_
 refine W.seq ?_
 refine Kk cok tab31 hnt [] [2,3,6,9,10,12,34] (⟨[(2,.ptr 2 0),(3,.v (.string (cutB1 w (⟨#[61]⟩ : ByteArray)))),(6,.v (.string (cutB1 (cutB2 w (⟨#[61]⟩ : ByteArray)) (⟨#[64]⟩ : ByteArray)))),(9,.v (.string (cutB1 (cutB2 (cutB2 w (⟨#[61]⟩ : ByteArray)) (⟨#[64]⟩ : ByteArray)) (⟨#[45]⟩ : ByteArray)))),(10,.v (.string (cutB2 (cutB2 (cutB2 w (⟨#[61]⟩ : ByteArray)) (⟨#[64]⟩ : ByteArray)) (⟨#[45]⟩ : ByteArray)))),(12,.ptr 12 0),(34,.b (decide (((((cutB1 w (⟨#[61]⟩ : ByteArray)).size) : Nat) : Int) = (4 : Int))))],[(2,⟨40,.fix [.i (0 : Int),.i (0 : Int),.i (0 : Int),.i (0 : Int),.i (0 : Int),.i (0 : Int),.i (0 : Int)]⟩),(12,⟨40,.fix [.i (0 : Int),.i (0 : Int),.i (0 : Int),.i (0 : Int),.i (0 : Int),.i (0 : Int),.i (0 : Int)]⟩)],[12,2,999]⟩)
  (True ∧ True ∧ (True ∧ True ∧ True) ∧ True)
  ⟨tt,tt,⟨tt,tt,tt⟩,tt⟩ ?_
 refine W.ifP (((((cutB1 w (⟨#[61]⟩ : ByteArray)).size) : Nat) : Int) = (4 : Int)) (.b (decide (((((cutB1 w (⟨#[61]⟩ : ByteArray)).size) : Nat) : Int) = (4 : Int)))) (by kernel_rfl) rfl trivial ?_ ?_
 ·intro h34
  have hu0 := hu (cutB1 w (⟨#[61]⟩ : ByteArray)) 0
  have hu1 := hu (cutB1 w (⟨#[61]⟩ : ByteArray)) 1
  have hu3 := hu (cutB1 w (⟨#[61]⟩ : ByteArray)) 3
  have hE := cd_eta _ _ _ _ _ _ _ _ (ri_four (w := w) (sep1 := (⟨#[61]⟩ : ByteArray)) (sep2 := (⟨#[64]⟩ : ByteArray)) (sep3 := (⟨#[45]⟩ : ByteArray)) rfl rfl rfl h34)
  refine W.LA cok tab31 hnt [] (⟨[(2,.ptr 2 0),(3,.v (.string (cutB1 w (⟨#[61]⟩ : ByteArray)))),(6,.v (.string (cutB1 (cutB2 w (⟨#[61]⟩ : ByteArray)) (⟨#[64]⟩ : ByteArray)))),(9,.v (.string (cutB1 (cutB2 (cutB2 w (⟨#[61]⟩ : ByteArray)) (⟨#[64]⟩ : ByteArray)) (⟨#[45]⟩ : ByteArray)))),(10,.v (.string (cutB2 (cutB2 (cutB2 w (⟨#[61]⟩ : ByteArray)) (⟨#[64]⟩ : ByteArray)) (⟨#[45]⟩ : ByteArray)))),(12,.ptr 12 0),(34,.b (decide (((((cutB1 w (⟨#[61]⟩ : ByteArray)).size) : Nat) : Int) = (4 : Int)))),(35,.v (.string (cutB1 w (⟨#[61]⟩ : ByteArray)))),(36,.v (.int .u8 (((UInt8.toNat (List.getD (cutB1 w (⟨#[61]⟩ : ByteArray)).data.toList 0 0)) : Nat) : Int))),(37,.i (((UInt8.toNat (List.getD (cutB1 w (⟨#[61]⟩ : ByteArray)).data.toList 0 0)) : Nat) : Int)),(38,.i ((((UInt8.toNat (List.getD (cutB1 w (⟨#[61]⟩ : ByteArray)).data.toList 0 0)) : Nat) : Int) - (48 : Int))),(39,.v (.string (cutB1 w (⟨#[61]⟩ : ByteArray)))),(40,.v (.int .u8 (((UInt8.toNat (List.getD (cutB1 w (⟨#[61]⟩ : ByteArray)).data.toList 1 0)) : Nat) : Int))),(41,.i (((UInt8.toNat (List.getD (cutB1 w (⟨#[61]⟩ : ByteArray)).data.toList 1 0)) : Nat) : Int)),(42,.i ((((UInt8.toNat (List.getD (cutB1 w (⟨#[61]⟩ : ByteArray)).data.toList 1 0)) : Nat) : Int) - (120 : Int))),(43,.v (.string (cutB1 w (⟨#[61]⟩ : ByteArray)))),(44,.v (.int .u8 (((UInt8.toNat (List.getD (cutB1 w (⟨#[61]⟩ : ByteArray)).data.toList 2 0)) : Nat) : Int))),(45,.i (Lib.indexByte (⟨#[112,116,108]⟩ : ByteArray).data.toList (Int.toNat (((UInt8.toNat (List.getD (cutB1 w (⟨#[61]⟩ : ByteArray)).data.toList 2 0)) : Nat) : Int)).toUInt8)),(46,.v (.string (cutB1 w (⟨#[61]⟩ : ByteArray)))),(47,.v (.int .u8 (((UInt8.toNat (List.getD (cutB1 w (⟨#[61]⟩ : ByteArray)).data.toList 3 0)) : Nat) : Int))),(48,.i (((UInt8.toNat (List.getD (cutB1 w (⟨#[61]⟩ : ByteArray)).data.toList 3 0)) : Nat) : Int)),(49,.i ((((UInt8.toNat (List.getD (cutB1 w (⟨#[61]⟩ : ByteArray)).data.toList 3 0)) : Nat) : Int) - (48 : Int))),(50,.agg [.i ((((UInt8.toNat (List.getD (cutB1 w (⟨#[61]⟩ : ByteArray)).data.toList 0 0)) : Nat) : Int) - (48 : Int)),.i ((((UInt8.toNat (List.getD (cutB1 w (⟨#[61]⟩ : ByteArray)).data.toList 1 0)) : Nat) : Int) - (120 : Int)),.i (Lib.indexByte (⟨#[112,116,108]⟩ : ByteArray).data.toList (Int.toNat (((UInt8.toNat (List.getD (cutB1 w (⟨#[61]⟩ : ByteArray)).data.toList 2 0)) : Nat) : Int)).toUInt8),.i ((((UInt8.toNat (List.getD (cutB1 w (⟨#[61]⟩ : ByteArray)).data.toList 3 0)) : Nat) : Int) - (48 : Int)),.i (0 : Int),.i (0 : Int),.i (0 : Int)])],[(2,⟨40,.fix [.i (0 : Int),.i (0 : Int),.i (0 : Int),.i (0 : Int),.i (0 : Int),.i (0 : Int),.i (0 : Int)]⟩),(12,⟨40,.fix [.i ((((UInt8.toNat (List.getD (cutB1 w (⟨#[61]⟩ : ByteArray)).data.toList 0 0)) : Nat) : Int) - (48 : Int)),.i ((((UInt8.toNat (List.getD (cutB1 w (⟨#[61]⟩ : ByteArray)).data.toList 1 0)) : Nat) : Int) - (120 : Int)),.i (Lib.indexByte (⟨#[112,116,108]⟩ : ByteArray).data.toList (Int.toNat (((UInt8.toNat (List.getD (cutB1 w (⟨#[61]⟩ : ByteArray)).data.toList 2 0)) : Nat) : Int)).toUInt8),.i ((((UInt8.toNat (List.getD (cutB1 w (⟨#[61]⟩ : ByteArray)).data.toList 3 0)) : Nat) : Int) - (48 : Int)),.i (0 : Int),.i (0 : Int),.i (0 : Int)]⟩)],[12,2,999]⟩)
   (True ∧ (True ∧ True ∧ (0 ≤ (0 : Int)) ∧ ((0 : Int) < (((cutB1 w (⟨#[61]⟩ : ByteArray)).size : Nat) : Int))) ∧ (True ∧ (Fits .i64 (((UInt8.toNat (List.getD (cutB1 w (⟨#[61]⟩ : ByteArray)).data.toList 0 0)) : Nat) : Int))) ∧ (True ∧ True ∧ (Fits .i64 ((((UInt8.toNat (List.getD (cutB1 w (⟨#[61]⟩ : ByteArray)).data.toList 0 0)) : Nat) : Int) - (48 : Int)))) ∧ True ∧ (True ∧ True ∧ (0 ≤ (1 : Int)) ∧ ((1 : Int) < (((cutB1 w (⟨#[61]⟩ : ByteArray)).size : Nat) : Int))) ∧ (True ∧ (Fits .i64 (((UInt8.toNat (List.getD (cutB1 w (⟨#[61]⟩ : ByteArray)).data.toList 1 0)) : Nat) : Int))) ∧ (True ∧ True ∧ (Fits .i64 ((((UInt8.toNat (List.getD (cutB1 w (⟨#[61]⟩ : ByteArray)).data.toList 1 0)) : Nat) : Int) - (120 : Int)))) ∧ True ∧ (True ∧ True ∧ (0 ≤ (2 : Int)) ∧ ((2 : Int) < (((cutB1 w (⟨#[61]⟩ : ByteArray)).size : Nat) : Int))) ∧ (True ∧ (True ∧ True ∧ True) ∧ True) ∧ True ∧ (True ∧ True ∧ (0 ≤ (3 : Int)) ∧ ((3 : Int) < (((cutB1 w (⟨#[61]⟩ : ByteArray)).size : Nat) : Int))) ∧ (True ∧ (Fits .i64 (((UInt8.toNat (List.getD (cutB1 w (⟨#[61]⟩ : ByteArray)).data.toList 3 0)) : Nat) : Int))) ∧ (True ∧ True ∧ (Fits .i64 ((((UInt8.toNat (List.getD (cutB1 w (⟨#[61]⟩ : ByteArray)).data.toList 3 0)) : Nat) : Int) - (48 : Int)))) ∧ (True ∧ True ∧ True ∧ True ∧ True) ∧ (True ∧ True) ∧ True) (by kernel_rfl) (by kernel_rfl)
   ⟨tt,⟨tt,tt,(by omega),(by omega)⟩,⟨tt,(by exact fits_i64 (by omega) (by omega))⟩,⟨tt,tt,(by exact fits_i64 (by omega) (by omega))⟩,tt,⟨tt,tt,(by omega),(by omega)⟩,⟨tt,(by exact fits_i64 (by omega) (by omega))⟩,⟨tt,tt,(by exact fits_i64 (by omega) (by omega))⟩,tt,⟨tt,tt,(by omega),(by omega)⟩,⟨tt,⟨tt,tt,tt⟩,tt⟩,tt,⟨tt,tt,(by omega),(by omega)⟩,⟨tt,(by exact fits_i64 (by omega) (by omega))⟩,⟨tt,tt,(by exact fits_i64 (by omega) (by omega))⟩,⟨tt,tt,tt,tt,tt⟩,⟨tt,tt⟩,tt⟩ ?_
  refine thenQ_normal ?_
  refine Kk cok tab31 hnt [] [2,9,10,12] (⟨[(2,.ptr 2 0),(9,.v (.string (cutB1 (cutB2 (cutB2 w (⟨#[61]⟩ : ByteArray)) (⟨#[64]⟩ : ByteArray)) (⟨#[45]⟩ : ByteArray)))),(10,.v (.string (cutB2 (cutB2 (cutB2 w (⟨#[61]⟩ : ByteArray)) (⟨#[64]⟩ : ByteArray)) (⟨#[45]⟩ : ByteArray)))),(12,.ptr 12 0)],[(2,⟨40,.fix [.i (0 : Int),.i (0 : Int),.i (0 : Int),.i (0 : Int),.i (0 : Int),.i (0 : Int),.i (0 : Int)]⟩),(12,⟨40,.fix [.i ((((UInt8.toNat (List.getD (cutB1 w (⟨#[61]⟩ : ByteArray)).data.toList 0 0)) : Nat) : Int) - (48 : Int)),.i ((((UInt8.toNat (List.getD (cutB1 w (⟨#[61]⟩ : ByteArray)).data.toList 1 0)) : Nat) : Int) - (120 : Int)),.i (Lib.indexByte (⟨#[112,116,108]⟩ : ByteArray).data.toList (Int.toNat (((UInt8.toNat (List.getD (cutB1 w (⟨#[61]⟩ : ByteArray)).data.toList 2 0)) : Nat) : Int)).toUInt8),.i ((((UInt8.toNat (List.getD (cutB1 w (⟨#[61]⟩ : ByteArray)).data.toList 3 0)) : Nat) : Int) - (48 : Int)),.i (atoiV (cutB1 (cutB2 w (⟨#[61]⟩ : ByteArray)) (⟨#[64]⟩ : ByteArray)).data.toList),.i (0 : Int),.i (0 : Int)]⟩)],[12,2,999]⟩)
   (True ∧ (True ∧ (True ∧ True) ∧ ((cutB1 (cutB2 w (⟨#[61]⟩ : ByteArray)) (⟨#[64]⟩ : ByteArray)).size ≤ 2000000)) ∧ True ∧ True ∧ True ∧ True ∧ (True ∧ True) ∧ True)
   ⟨tt,⟨tt,⟨tt,tt⟩,(by omega)⟩,tt,tt,tt,tt,⟨tt,tt⟩,tt⟩ ?_
  refine Kk cok tab31 hnt [] [2,10,12] (⟨[(2,.ptr 2 0),(10,.v (.string (cutB2 (cutB2 (cutB2 w (⟨#[61]⟩ : ByteArray)) (⟨#[64]⟩ : ByteArray)) (⟨#[45]⟩ : ByteArray)))),(12,.ptr 12 0)],[(2,⟨40,.fix [.i (0 : Int),.i (0 : Int),.i (0 : Int),.i (0 : Int),.i (0 : Int),.i (0 : Int),.i (0 : Int)]⟩),(12,⟨40,.fix [.i ((((UInt8.toNat (List.getD (cutB1 w (⟨#[61]⟩ : ByteArray)).data.toList 0 0)) : Nat) : Int) - (48 : Int)),.i ((((UInt8.toNat (List.getD (cutB1 w (⟨#[61]⟩ : ByteArray)).data.toList 1 0)) : Nat) : Int) - (120 : Int)),.i (Lib.indexByte (⟨#[112,116,108]⟩ : ByteArray).data.toList (Int.toNat (((UInt8.toNat (List.getD (cutB1 w (⟨#[61]⟩ : ByteArray)).data.toList 2 0)) : Nat) : Int)).toUInt8),.i ((((UInt8.toNat (List.getD (cutB1 w (⟨#[61]⟩ : ByteArray)).data.toList 3 0)) : Nat) : Int) - (48 : Int)),.i (atoiV (cutB1 (cutB2 w (⟨#[61]⟩ : ByteArray)) (⟨#[64]⟩ : ByteArray)).data.toList),.i (atoiV (cutB1 (cutB2 (cutB2 w (⟨#[61]⟩ : ByteArray)) (⟨#[64]⟩ : ByteArray)) (⟨#[45]⟩ : ByteArray)).data.toList),.i (0 : Int)]⟩)],[12,2,999]⟩)
   (True ∧ (True ∧ (True ∧ True) ∧ ((cutB1 (cutB2 (cutB2 w (⟨#[61]⟩ : ByteArray)) (⟨#[64]⟩ : ByteArray)) (⟨#[45]⟩ : ByteArray)).size ≤ 2000000)) ∧ True ∧ True ∧ True ∧ True ∧ (True ∧ True) ∧ True)
   ⟨tt,⟨tt,⟨tt,tt⟩,(by omega)⟩,tt,tt,tt,tt,⟨tt,tt⟩,tt⟩ ?_
  refine Kk cok tab31 hnt [] [2,12] (⟨[(2,.ptr 2 0),(12,.ptr 12 0)],[(2,⟨40,.fix [.i (0 : Int),.i (0 : Int),.i (0 : Int),.i (0 : Int),.i (0 : Int),.i (0 : Int),.i (0 : Int)]⟩),(12,⟨40,.fix [.i ((((UInt8.toNat (List.getD (cutB1 w (⟨#[61]⟩ : ByteArray)).data.toList 0 0)) : Nat) : Int) - (48 : Int)),.i ((((UInt8.toNat (List.getD (cutB1 w (⟨#[61]⟩ : ByteArray)).data.toList 1 0)) : Nat) : Int) - (120 : Int)),.i (Lib.indexByte (⟨#[112,116,108]⟩ : ByteArray).data.toList (Int.toNat (((UInt8.toNat (List.getD (cutB1 w (⟨#[61]⟩ : ByteArray)).data.toList 2 0)) : Nat) : Int)).toUInt8),.i ((((UInt8.toNat (List.getD (cutB1 w (⟨#[61]⟩ : ByteArray)).data.toList 3 0)) : Nat) : Int) - (48 : Int)),.i (atoiV (cutB1 (cutB2 w (⟨#[61]⟩ : ByteArray)) (⟨#[64]⟩ : ByteArray)).data.toList),.i (atoiV (cutB1 (cutB2 (cutB2 w (⟨#[61]⟩ : ByteArray)) (⟨#[64]⟩ : ByteArray)) (⟨#[45]⟩ : ByteArray)).data.toList),.i (atoiV (cutB2 (cutB2 (cutB2 w (⟨#[61]⟩ : ByteArray)) (⟨#[64]⟩ : ByteArray)) (⟨#[45]⟩ : ByteArray)).data.toList)]⟩)],[12,2,999]⟩)
   (True ∧ (True ∧ (True ∧ True) ∧ ((cutB2 (cutB2 (cutB2 w (⟨#[61]⟩ : ByteArray)) (⟨#[64]⟩ : ByteArray)) (⟨#[45]⟩ : ByteArray)).size ≤ 2000000)) ∧ True ∧ True ∧ True ∧ True ∧ (True ∧ True) ∧ True)
   ⟨tt,⟨tt,⟨tt,tt⟩,(by omega)⟩,tt,tt,tt,tt,⟨tt,tt⟩,tt⟩ ?_
  refine Kk cok tab31 hnt [] [2] (⟨[(2,.ptr 2 0)],[(2,⟨40,.fix [.i ((((UInt8.toNat (List.getD (cutB1 w (⟨#[61]⟩ : ByteArray)).data.toList 0 0)) : Nat) : Int) - (48 : Int)),.i ((((UInt8.toNat (List.getD (cutB1 w (⟨#[61]⟩ : ByteArray)).data.toList 1 0)) : Nat) : Int) - (120 : Int)),.i (Lib.indexByte (⟨#[112,116,108]⟩ : ByteArray).data.toList (Int.toNat (((UInt8.toNat (List.getD (cutB1 w (⟨#[61]⟩ : ByteArray)).data.toList 2 0)) : Nat) : Int)).toUInt8),.i ((((UInt8.toNat (List.getD (cutB1 w (⟨#[61]⟩ : ByteArray)).data.toList 3 0)) : Nat) : Int) - (48 : Int)),.i (atoiV (cutB1 (cutB2 w (⟨#[61]⟩ : ByteArray)) (⟨#[64]⟩ : ByteArray)).data.toList),.i (atoiV (cutB1 (cutB2 (cutB2 w (⟨#[61]⟩ : ByteArray)) (⟨#[64]⟩ : ByteArray)) (⟨#[45]⟩ : ByteArray)).data.toList),.i (atoiV (cutB2 (cutB2 (cutB2 w (⟨#[61]⟩ : ByteArray)) (⟨#[64]⟩ : ByteArray)) (⟨#[45]⟩ : ByteArray)).data.toList)]⟩),(12,⟨40,.fix [.i ((((UInt8.toNat (List.getD (cutB1 w (⟨#[61]⟩ : ByteArray)).data.toList 0 0)) : Nat) : Int) - (48 : Int)),.i ((((UInt8.toNat (List.getD (cutB1 w (⟨#[61]⟩ : ByteArray)).data.toList 1 0)) : Nat) : Int) - (120 : Int)),.i (Lib.indexByte (⟨#[112,116,108]⟩ : ByteArray).data.toList (Int.toNat (((UInt8.toNat (List.getD (cutB1 w (⟨#[61]⟩ : ByteArray)).data.toList 2 0)) : Nat) : Int)).toUInt8),.i ((((UInt8.toNat (List.getD (cutB1 w (⟨#[61]⟩ : ByteArray)).data.toList 3 0)) : Nat) : Int) - (48 : Int)),.i (atoiV (cutB1 (cutB2 w (⟨#[61]⟩ : ByteArray)) (⟨#[64]⟩ : ByteArray)).data.toList),.i (atoiV (cutB1 (cutB2 (cutB2 w (⟨#[61]⟩ : ByteArray)) (⟨#[64]⟩ : ByteArray)) (⟨#[45]⟩ : ByteArray)).data.toList),.i (atoiV (cutB2 (cutB2 (cutB2 w (⟨#[61]⟩ : ByteArray)) (⟨#[64]⟩ : ByteArray)) (⟨#[45]⟩ : ByteArray)).data.toList)]⟩)],[12,2,999]⟩)
   (True ∧ (True ∧ True) ∧ True)
   ⟨tt,⟨tt,tt⟩,tt⟩ ?_
  refine W.ret ?_
  exact endQ_ret (.agg [.i ((((UInt8.toNat (List.getD (cutB1 w (⟨#[61]⟩ : ByteArray)).data.toList 0 0)) : Nat) : Int) - (48 : Int)),.i ((((UInt8.toNat (List.getD (cutB1 w (⟨#[61]⟩ : ByteArray)).data.toList 1 0)) : Nat) : Int) - (120 : Int)),.i (Lib.indexByte (⟨#[112,116,108]⟩ : ByteArray).data.toList (Int.toNat (((UInt8.toNat (List.getD (cutB1 w (⟨#[61]⟩ : ByteArray)).data.toList 2 0)) : Nat) : Int)).toUInt8),.i ((((UInt8.toNat (List.getD (cutB1 w (⟨#[61]⟩ : ByteArray)).data.toList 3 0)) : Nat) : Int) - (48 : Int)),.i (atoiV (cutB1 (cutB2 w (⟨#[61]⟩ : ByteArray)) (⟨#[64]⟩ : ByteArray)).data.toList),.i (atoiV (cutB1 (cutB2 (cutB2 w (⟨#[61]⟩ : ByteArray)) (⟨#[64]⟩ : ByteArray)) (⟨#[45]⟩ : ByteArray)).data.toList),.i (atoiV (cutB2 (cutB2 (cutB2 w (⟨#[61]⟩ : ByteArray)) (⟨#[64]⟩ : ByteArray)) (⟨#[45]⟩ : ByteArray)).data.toList)]) (by kernel_rfl) (@cast (((.int .i64 ((((UInt8.toNat (List.getD (cutB1 w (⟨#[61]⟩ : ByteArray)).data.toList 0 0)) : Nat) : Int) - (48 : Int)) : Value) = .int .i64 ((readI w.data.toList).proc)) ∧ ((.int .i64 ((((UInt8.toNat (List.getD (cutB1 w (⟨#[61]⟩ : ByteArray)).data.toList 1 0)) : Nat) : Int) - (120 : Int)) : Value) = .int .i64 ((readI w.data.toList).obj)) ∧ ((.int .i64 (Lib.indexByte (⟨#[112,116,108]⟩ : ByteArray).data.toList (Int.toNat (((UInt8.toNat (List.getD (cutB1 w (⟨#[61]⟩ : ByteArray)).data.toList 2 0)) : Nat) : Int)).toUInt8) : Value) = .int .i64 ((readI w.data.toList).kind)) ∧ ((.int .i64 ((((UInt8.toNat (List.getD (cutB1 w (⟨#[61]⟩ : ByteArray)).data.toList 3 0)) : Nat) : Int) - (48 : Int)) : Value) = .int .i64 ((readI w.data.toList).arg)) ∧ ((.int .i64 (atoiV (cutB1 (cutB2 w (⟨#[61]⟩ : ByteArray)) (⟨#[64]⟩ : ByteArray)).data.toList) : Value) = .int .i64 ((readI w.data.toList).ret)) ∧ ((.int .i64 (atoiV (cutB1 (cutB2 (cutB2 w (⟨#[61]⟩ : ByteArray)) (⟨#[64]⟩ : ByteArray)) (⟨#[45]⟩ : ByteArray)).data.toList) : Value) = .int .i64 ((readI w.data.toList).frm)) ∧ ((.int .i64 (atoiV (cutB2 (cutB2 (cutB2 w (⟨#[61]⟩ : ByteArray)) (⟨#[64]⟩ : ByteArray)) (⟨#[45]⟩ : ByteArray)).data.toList) : Value) = .int .i64 ((readI w.data.toList).to)) ∧ True) _ (by kernel_rfl) ⟨(congrArg (Value.int .i64) (by (try rw [u8_back]); first | with_reducible exact hE.1 | with_reducible exact hE.2.1 | with_reducible exact hE.2.2.1 | with_reducible exact hE.2.2.2.1 | with_reducible exact hE.2.2.2.2.1 | with_reducible exact hE.2.2.2.2.2.1 | with_reducible exact hE.2.2.2.2.2.2)),(congrArg (Value.int .i64) (by (try rw [u8_back]); first | with_reducible exact hE.1 | with_reducible exact hE.2.1 | with_reducible exact hE.2.2.1 | with_reducible exact hE.2.2.2.1 | with_reducible exact hE.2.2.2.2.1 | with_reducible exact hE.2.2.2.2.2.1 | with_reducible exact hE.2.2.2.2.2.2)),(congrArg (Value.int .i64) (by (try rw [u8_back]); first | with_reducible exact hE.1 | with_reducible exact hE.2.1 | with_reducible exact hE.2.2.1 | with_reducible exact hE.2.2.2.1 | with_reducible exact hE.2.2.2.2.1 | with_reducible exact hE.2.2.2.2.2.1 | with_reducible exact hE.2.2.2.2.2.2)),(congrArg (Value.int .i64) (by (try rw [u8_back]); first | with_reducible exact hE.1 | with_reducible exact hE.2.1 | with_reducible exact hE.2.2.1 | with_reducible exact hE.2.2.2.1 | with_reducible exact hE.2.2.2.2.1 | with_reducible exact hE.2.2.2.2.2.1 | with_reducible exact hE.2.2.2.2.2.2)),(congrArg (Value.int .i64) (by (try rw [u8_back]); first | with_reducible exact hE.1 | with_reducible exact hE.2.1 | with_reducible exact hE.2.2.1 | with_reducible exact hE.2.2.2.1 | with_reducible exact hE.2.2.2.2.1 | with_reducible exact hE.2.2.2.2.2.1 | with_reducible exact hE.2.2.2.2.2.2)),(congrArg (Value.int .i64) (by (try rw [u8_back]); first | with_reducible exact hE.1 | with_reducible exact hE.2.1 | with_reducible exact hE.2.2.1 | with_reducible exact hE.2.2.2.1 | with_reducible exact hE.2.2.2.2.1 | with_reducible exact hE.2.2.2.2.2.1 | with_reducible exact hE.2.2.2.2.2.2)),(congrArg (Value.int .i64) (by (try rw [u8_back]); first | with_reducible exact hE.1 | with_reducible exact hE.2.1 | with_reducible exact hE.2.2.1 | with_reducible exact hE.2.2.2.1 | with_reducible exact hE.2.2.2.2.1 | with_reducible exact hE.2.2.2.2.2.1 | with_reducible exact hE.2.2.2.2.2.2)),tt⟩)
 ·intro n34
  have hE := cd_eta _ _ _ _ _ _ _ _ (ri_not (w := w) (sep1 := (⟨#[61]⟩ : ByteArray)) (sep2 := (⟨#[64]⟩ : ByteArray)) (sep3 := (⟨#[45]⟩ : ByteArray)) rfl rfl rfl n34)
  refine W.skip (thenQ_normal ?_)
  refine Kk cok tab31 hnt [] [2,9,10,12] (⟨[(2,.ptr 2 0),(9,.v (.string (cutB1 (cutB2 (cutB2 w (⟨#[61]⟩ : ByteArray)) (⟨#[64]⟩ : ByteArray)) (⟨#[45]⟩ : ByteArray)))),(10,.v (.string (cutB2 (cutB2 (cutB2 w (⟨#[61]⟩ : ByteArray)) (⟨#[64]⟩ : ByteArray)) (⟨#[45]⟩ : ByteArray)))),(12,.ptr 12 0)],[(2,⟨40,.fix [.i (0 : Int),.i (0 : Int),.i (0 : Int),.i (0 : Int),.i (0 : Int),.i (0 : Int),.i (0 : Int)]⟩),(12,⟨40,.fix [.i (0 : Int),.i (0 : Int),.i (0 : Int),.i (0 : Int),.i (atoiV (cutB1 (cutB2 w (⟨#[61]⟩ : ByteArray)) (⟨#[64]⟩ : ByteArray)).data.toList),.i (0 : Int),.i (0 : Int)]⟩)],[12,2,999]⟩)
   (True ∧ (True ∧ (True ∧ True) ∧ ((cutB1 (cutB2 w (⟨#[61]⟩ : ByteArray)) (⟨#[64]⟩ : ByteArray)).size ≤ 2000000)) ∧ True ∧ True ∧ True ∧ True ∧ (True ∧ True) ∧ True)
   ⟨tt,⟨tt,⟨tt,tt⟩,(by omega)⟩,tt,tt,tt,tt,⟨tt,tt⟩,tt⟩ ?_
  refine Kk cok tab31 hnt [] [2,10,12] (⟨[(2,.ptr 2 0),(10,.v (.string (cutB2 (cutB2 (cutB2 w (⟨#[61]⟩ : ByteArray)) (⟨#[64]⟩ : ByteArray)) (⟨#[45]⟩ : ByteArray)))),(12,.ptr 12 0)],[(2,⟨40,.fix [.i (0 : Int),.i (0 : Int),.i (0 : Int),.i (0 : Int),.i (0 : Int),.i (0 : Int),.i (0 : Int)]⟩),(12,⟨40,.fix [.i (0 : Int),.i (0 : Int),.i (0 : Int),.i (0 : Int),.i (atoiV (cutB1 (cutB2 w (⟨#[61]⟩ : ByteArray)) (⟨#[64]⟩ : ByteArray)).data.toList),.i (atoiV (cutB1 (cutB2 (cutB2 w (⟨#[61]⟩ : ByteArray)) (⟨#[64]⟩ : ByteArray)) (⟨#[45]⟩ : ByteArray)).data.toList),.i (0 : Int)]⟩)],[12,2,999]⟩)
   (True ∧ (True ∧ (True ∧ True) ∧ ((cutB1 (cutB2 (cutB2 w (⟨#[61]⟩ : ByteArray)) (⟨#[64]⟩ : ByteArray)) (⟨#[45]⟩ : ByteArray)).size ≤ 2000000)) ∧ True ∧ True ∧ True ∧ True ∧ (True ∧ True) ∧ True)
   ⟨tt,⟨tt,⟨tt,tt⟩,(by omega)⟩,tt,tt,tt,tt,⟨tt,tt⟩,tt⟩ ?_
  refine Kk cok tab31 hnt [] [2,12] (⟨[(2,.ptr 2 0),(12,.ptr 12 0)],[(2,⟨40,.fix [.i (0 : Int),.i (0 : Int),.i (0 : Int),.i (0 : Int),.i (0 : Int),.i (0 : Int),.i (0 : Int)]⟩),(12,⟨40,.fix [.i (0 : Int),.i (0 : Int),.i (0 : Int),.i (0 : Int),.i (atoiV (cutB1 (cutB2 w (⟨#[61]⟩ : ByteArray)) (⟨#[64]⟩ : ByteArray)).data.toList),.i (atoiV (cutB1 (cutB2 (cutB2 w (⟨#[61]⟩ : ByteArray)) (⟨#[64]⟩ : ByteArray)) (⟨#[45]⟩ : ByteArray)).data.toList),.i (atoiV (cutB2 (cutB2 (cutB2 w (⟨#[61]⟩ : ByteArray)) (⟨#[64]⟩ : ByteArray)) (⟨#[45]⟩ : ByteArray)).data.toList)]⟩)],[12,2,999]⟩)
   (True ∧ (True ∧ (True ∧ True) ∧ ((cutB2 (cutB2 (cutB2 w (⟨#[61]⟩ : ByteArray)) (⟨#[64]⟩ : ByteArray)) (⟨#[45]⟩ : ByteArray)).size ≤ 2000000)) ∧ True ∧ True ∧ True ∧ True ∧ (True ∧ True) ∧ True)
   ⟨tt,⟨tt,⟨tt,tt⟩,(by omega)⟩,tt,tt,tt,tt,⟨tt,tt⟩,tt⟩ ?_
  refine Kk cok tab31 hnt [] [2] (⟨[(2,.ptr 2 0)],[(2,⟨40,.fix [.i (0 : Int),.i (0 : Int),.i (0 : Int),.i (0 : Int),.i (atoiV (cutB1 (cutB2 w (⟨#[61]⟩ : ByteArray)) (⟨#[64]⟩ : ByteArray)).data.toList),.i (atoiV (cutB1 (cutB2 (cutB2 w (⟨#[61]⟩ : ByteArray)) (⟨#[64]⟩ : ByteArray)) (⟨#[45]⟩ : ByteArray)).data.toList),.i (atoiV (cutB2 (cutB2 (cutB2 w (⟨#[61]⟩ : ByteArray)) (⟨#[64]⟩ : ByteArray)) (⟨#[45]⟩ : ByteArray)).data.toList)]⟩),(12,⟨40,.fix [.i (0 : Int),.i (0 : Int),.i (0 : Int),.i (0 : Int),.i (atoiV (cutB1 (cutB2 w (⟨#[61]⟩ : ByteArray)) (⟨#[64]⟩ : ByteArray)).data.toList),.i (atoiV (cutB1 (cutB2 (cutB2 w (⟨#[61]⟩ : ByteArray)) (⟨#[64]⟩ : ByteArray)) (⟨#[45]⟩ : ByteArray)).data.toList),.i (atoiV (cutB2 (cutB2 (cutB2 w (⟨#[61]⟩ : ByteArray)) (⟨#[64]⟩ : ByteArray)) (⟨#[45]⟩ : ByteArray)).data.toList)]⟩)],[12,2,999]⟩)
   (True ∧ (True ∧ True) ∧ True)
   ⟨tt,⟨tt,tt⟩,tt⟩ ?_
  refine W.ret ?_
  exact endQ_ret (.agg [.i (0 : Int),.i (0 : Int),.i (0 : Int),.i (0 : Int),.i (atoiV (cutB1 (cutB2 w (⟨#[61]⟩ : ByteArray)) (⟨#[64]⟩ : ByteArray)).data.toList),.i (atoiV (cutB1 (cutB2 (cutB2 w (⟨#[61]⟩ : ByteArray)) (⟨#[64]⟩ : ByteArray)) (⟨#[45]⟩ : ByteArray)).data.toList),.i (atoiV (cutB2 (cutB2 (cutB2 w (⟨#[61]⟩ : ByteArray)) (⟨#[64]⟩ : ByteArray)) (⟨#[45]⟩ : ByteArray)).data.toList)]) (by kernel_rfl) (@cast (((.int .i64 (0 : Int) : Value) = .int .i64 ((readI w.data.toList).proc)) ∧ ((.int .i64 (0 : Int) : Value) = .int .i64 ((readI w.data.toList).obj)) ∧ ((.int .i64 (0 : Int) : Value) = .int .i64 ((readI w.data.toList).kind)) ∧ ((.int .i64 (0 : Int) : Value) = .int .i64 ((readI w.data.toList).arg)) ∧ ((.int .i64 (atoiV (cutB1 (cutB2 w (⟨#[61]⟩ : ByteArray)) (⟨#[64]⟩ : ByteArray)).data.toList) : Value) = .int .i64 ((readI w.data.toList).ret)) ∧ ((.int .i64 (atoiV (cutB1 (cutB2 (cutB2 w (⟨#[61]⟩ : ByteArray)) (⟨#[64]⟩ : ByteArray)) (⟨#[45]⟩ : ByteArray)).data.toList) : Value) = .int .i64 ((readI w.data.toList).frm)) ∧ ((.int .i64 (atoiV (cutB2 (cutB2 (cutB2 w (⟨#[61]⟩ : ByteArray)) (⟨#[64]⟩ : ByteArray)) (⟨#[45]⟩ : ByteArray)).data.toList) : Value) = .int .i64 ((readI w.data.toList).to)) ∧ True) _ (by kernel_rfl) ⟨(congrArg (Value.int .i64) (by (try rw [u8_back]); first | with_reducible exact hE.1 | with_reducible exact hE.2.1 | with_reducible exact hE.2.2.1 | with_reducible exact hE.2.2.2.1 | with_reducible exact hE.2.2.2.2.1 | with_reducible exact hE.2.2.2.2.2.1 | with_reducible exact hE.2.2.2.2.2.2)),(congrArg (Value.int .i64) (by (try rw [u8_back]); first | with_reducible exact hE.1 | with_reducible exact hE.2.1 | with_reducible exact hE.2.2.1 | with_reducible exact hE.2.2.2.1 | with_reducible exact hE.2.2.2.2.1 | with_reducible exact hE.2.2.2.2.2.1 | with_reducible exact hE.2.2.2.2.2.2)),(congrArg (Value.int .i64) (by (try rw [u8_back]); first | with_reducible exact hE.1 | with_reducible exact hE.2.1 | with_reducible exact hE.2.2.1 | with_reducible exact hE.2.2.2.1 | with_reducible exact hE.2.2.2.2.1 | with_reducible exact hE.2.2.2.2.2.1 | with_reducible exact hE.2.2.2.2.2.2)),(congrArg (Value.int .i64) (by (try rw [u8_back]); first | with_reducible exact hE.1 | with_reducible exact hE.2.1 | with_reducible exact hE.2.2.1 | with_reducible exact hE.2.2.2.1 | with_reducible exact hE.2.2.2.2.1 | with_reducible exact hE.2.2.2.2.2.1 | with_reducible exact hE.2.2.2.2.2.2)),(congrArg (Value.int .i64) (by (try rw [u8_back]); first | with_reducible exact hE.1 | with_reducible exact hE.2.1 | with_reducible exact hE.2.2.1 | with_reducible exact hE.2.2.2.1 | with_reducible exact hE.2.2.2.2.1 | with_reducible exact hE.2.2.2.2.2.1 | with_reducible exact hE.2.2.2.2.2.2)),(congrArg (Value.int .i64) (by (try rw [u8_back]); first | with_reducible exact hE.1 | with_reducible exact hE.2.1 | with_reducible exact hE.2.2.1 | with_reducible exact hE.2.2.2.1 | with_reducible exact hE.2.2.2.2.1 | with_reducible exact hE.2.2.2.2.2.1 | with_reducible exact hE.2.2.2.2.2.2)),(congrArg (Value.int .i64) (by (try rw [u8_back]); first | with_reducible exact hE.1 | with_reducible exact hE.2.1 | with_reducible exact hE.2.2.1 | with_reducible exact hE.2.2.2.1 | with_reducible exact hE.2.2.2.2.1 | with_reducible exact hE.2.2.2.2.2.1 | with_reducible exact hE.2.2.2.2.2.2)),tt⟩)
theorem ent31 : Entr prog 31 := ⟨_,func31,rfl,by decide⟩
end Go.Proofs.Tryd

set_option linter.unusedSimpArgs false
set_option linter.unusedVariables false
namespace Go.Proofs.Tryd
open Go.Ab Go.RowKit
def fs44 : FnS := fnS [.o,.o,.o] [.int,.int,.int] (fun _ (n,low,high,_) => (.b (within n low high),[],True))
abbrev T44 : Tab := lk []
theorem tab44 : TabOK prog T44 := TabOK.nil
set_option maxRecDepth 100000 in
set_option maxHeartbeats 1000000 in
theorem ok44 : FnOK prog 44 fs44 := by
 refine FnOK.mk cok func44 rfl rfl rfl ?_
 rintro fl ⟨(n : Int),(low : Int),(high : Int),_⟩ hpre F hnt0 _
 have hnt : F.nt = 15 := hnt0.trans ntmps44
 clear hpre
 refine W.to (⟨[(0,.i n),(1,.i low),(2,.i high)],[],[999]⟩) rfl ?_
 refine Kk cok tab44 hnt [] [0,1,2] (⟨[(0,.i n),(1,.i low),(2,.i high)],[],[999]⟩)
  (True ∧ True)
  ⟨tt,tt⟩ ?_
 refine Kk cok tab44 hnt [] [6] (⟨[(6,.b ((decide (low ≤ n)) && (decide (n ≤ high))))],[],[999]⟩)
  ((fun (Z1:Bool)=>(True ∧ (True ∧ ((True ∧ (True ∧ True)) ∧ (True ∧ ((Z1 = true → True) ∧ ((Z1 = true → True) ∧ ((Z1 = true → (((Z1 = true) ∧ True) ∧ (((Z1 = true) ∧ True) ∧ True))) ∧ ((True ∧ ((Z1 = true → (Z1 = true) ∧ True) ∧ (Z1 = false → True))) ∧ (True ∧ True)))))))))) (decide (low ≤ n)))
  ⟨tt,tt,⟨tt,tt,tt⟩,tt,(fun _ => trivial),(fun _ => trivial),(fun hG => ⟨⟨hG,tt⟩,⟨hG,tt⟩,tt⟩),⟨tt,(fun hp => ⟨hp,tt⟩),(fun _ => trivial)⟩,tt,tt⟩ ?_
 refine W.ret ?_
 exact endQ_ret (.b ((decide (low ≤ n)) && (decide (n ≤ high)))) (by kernel_rfl) (@cast ((.bool ((decide (low ≤ n)) && (decide (n ≤ high))) : Value) = .bool (within n low high)) _ (by kernel_rfl) (congrArg Value.bool (by first | rfl | simp_all)))
theorem ent44 : Entr prog 44 := ⟨_,func44,rfl,by decide⟩
end Go.Proofs.Tryd

set_option linter.unusedSimpArgs false
set_option linter.unusedVariables false
namespace Go.Proofs.Tryd
open Go.Ab Go.RowKit
def fs28 : FnS := fnS [.o] [.call] (fun _ (c,_) => (.b (isCall c),[],True))
abbrev T28 : Tab := lk [(44,fs44)]
theorem tab28 : TabOK prog T28 := (TabOK.cons ok44 ent44 TabOK.nil)
set_option maxRecDepth 100000 in
set_option maxHeartbeats 1000000 in
theorem ok28 : FnOK prog 28 fs28 := by
 refine FnOK.mk cok func28 rfl rfl rfl ?_
 rintro fl ⟨(c : CallD),_⟩ hpre F hnt0 _
 have hnt : F.nt = 43 := hnt0.trans ntmps28
 clear hpre
 refine W.to (⟨[(0,.agg [.i c.proc,.i c.obj,.i c.kind,.i c.arg,.i c.ret,.i c.frm,.i c.to])],[],[999]⟩) rfl ?_
 refine Kk cok tab28 hnt [] [1] (⟨[(1,.ptr 1 0)],[(1,⟨40,.fix [.i c.proc,.i c.obj,.i c.kind,.i c.arg,.i c.ret,.i c.frm,.i c.to]⟩)],[1,999]⟩)
  (True ∧ True ∧ True)
  ⟨tt,tt,tt⟩ ?_
 refine Kk cok tab28 hnt [] [2] (⟨[(2,.b ((((((((within c.proc (0 : Int) (2 : Int)) && (within c.obj (0 : Int) (1 : Int))) && (within c.kind (0 : Int) (2 : Int))) && (within c.arg (0 : Int) (3 : Int))) && (within c.ret (-1 : Int) (20 : Int))) && (within c.frm (0 : Int) (30 : Int))) && (within c.to (0 : Int) (30 : Int))) && (decide (c.frm < c.to))))],[(1,⟨40,.fix [.i c.proc,.i c.obj,.i c.kind,.i c.arg,.i c.ret,.i c.frm,.i c.to]⟩)],[1,999]⟩)
  ((fun (Z1:Bool)=>((fun (Z2:Bool)=>((fun (Z3:Bool)=>((fun (Z4:Bool)=>((fun (Z5:Bool)=>((fun (Z6:Bool)=>((fun (Z7:Bool)=>(True ∧ (True ∧ ((True ∧ ((True ∧ (True ∧ (True ∧ True))) ∧ True)) ∧ (True ∧ ((Z1 = true → True) ∧ ((Z1 = true → ((Z1 = true) ∧ True)) ∧ ((Z1 = true → (True ∧ ((((Z1 = true) ∧ True) ∧ (True ∧ (True ∧ True))) ∧ True))) ∧ ((True ∧ ((Z1 = true → (Z1 = true) ∧ True) ∧ (Z1 = false → True))) ∧ (True ∧ ((Z2 = true → True) ∧ ((Z2 = true → ((Z2 = true) ∧ True)) ∧ ((Z2 = true → (True ∧ ((((Z2 = true) ∧ True) ∧ (True ∧ (True ∧ True))) ∧ True))) ∧ ((True ∧ ((Z2 = true → (Z2 = true) ∧ True) ∧ (Z2 = false → True))) ∧ (True ∧ ((Z3 = true → True) ∧ ((Z3 = true → ((Z3 = true) ∧ True)) ∧ ((Z3 = true → (True ∧ ((((Z3 = true) ∧ True) ∧ (True ∧ (True ∧ True))) ∧ True))) ∧ ((True ∧ ((Z3 = true → (Z3 = true) ∧ True) ∧ (Z3 = false → True))) ∧ (True ∧ ((Z4 = true → True) ∧ ((Z4 = true → ((Z4 = true) ∧ True)) ∧ ((Z4 = true → (True ∧ ((((Z4 = true) ∧ True) ∧ (True ∧ (True ∧ True))) ∧ True))) ∧ ((True ∧ ((Z4 = true → (Z4 = true) ∧ True) ∧ (Z4 = false → True))) ∧ (True ∧ ((Z5 = true → True) ∧ ((Z5 = true → ((Z5 = true) ∧ True)) ∧ ((Z5 = true → (True ∧ ((((Z5 = true) ∧ True) ∧ (True ∧ (True ∧ True))) ∧ True))) ∧ ((True ∧ ((Z5 = true → (Z5 = true) ∧ True) ∧ (Z5 = false → True))) ∧ (True ∧ ((Z6 = true → True) ∧ ((Z6 = true → ((Z6 = true) ∧ True)) ∧ ((Z6 = true → (True ∧ ((((Z6 = true) ∧ True) ∧ (True ∧ (True ∧ True))) ∧ True))) ∧ ((True ∧ ((Z6 = true → (Z6 = true) ∧ True) ∧ (Z6 = false → True))) ∧ (True ∧ ((Z7 = true → True) ∧ ((Z7 = true → ((Z7 = true) ∧ True)) ∧ ((Z7 = true → True) ∧ ((Z7 = true → ((Z7 = true) ∧ True)) ∧ ((Z7 = true → (((Z7 = true) ∧ True) ∧ (((Z7 = true) ∧ True) ∧ True))) ∧ ((True ∧ ((Z7 = true → (Z7 = true) ∧ True) ∧ (Z7 = false → True))) ∧ (True ∧ True)))))))))))))))))))))))))))))))))))))))))) (Z6 && (within c.to (0 : Int) (30 : Int))))) (Z5 && (within c.frm (0 : Int) (30 : Int))))) (Z4 && (within c.ret (-1 : Int) (20 : Int))))) (Z3 && (within c.arg (0 : Int) (3 : Int))))) (Z2 && (within c.kind (0 : Int) (2 : Int))))) (Z1 && (within c.obj (0 : Int) (1 : Int))))) (within c.proc (0 : Int) (2 : Int)))
  ⟨tt,tt,⟨tt,⟨tt,tt,tt,tt⟩,tt⟩,tt,(fun _ => trivial),(fun hG => ⟨hG,tt⟩),(fun hG => ⟨tt,⟨⟨hG,tt⟩,tt,tt,tt⟩,tt⟩),⟨tt,(fun hp => ⟨hp,tt⟩),(fun _ => trivial)⟩,tt,(fun _ => trivial),(fun hG => ⟨hG,tt⟩),(fun hG => ⟨tt,⟨⟨hG,tt⟩,tt,tt,tt⟩,tt⟩),⟨tt,(fun hp => ⟨hp,tt⟩),(fun _ => trivial)⟩,tt,(fun _ => trivial),(fun hG => ⟨hG,tt⟩),(fun hG => ⟨tt,⟨⟨hG,tt⟩,tt,tt,tt⟩,tt⟩),⟨tt,(fun hp => ⟨hp,tt⟩),(fun _ => trivial)⟩,tt,(fun _ => trivial),(fun hG => ⟨hG,tt⟩),(fun hG => ⟨tt,⟨⟨hG,tt⟩,tt,tt,tt⟩,tt⟩),⟨tt,(fun hp => ⟨hp,tt⟩),(fun _ => trivial)⟩,tt,(fun _ => trivial),(fun hG => ⟨hG,tt⟩),(fun hG => ⟨tt,⟨⟨hG,tt⟩,tt,tt,tt⟩,tt⟩),⟨tt,(fun hp => ⟨hp,tt⟩),(fun _ => trivial)⟩,tt,(fun _ => trivial),(fun hG => ⟨hG,tt⟩),(fun hG => ⟨tt,⟨⟨hG,tt⟩,tt,tt,tt⟩,tt⟩),⟨tt,(fun hp => ⟨hp,tt⟩),(fun _ => trivial)⟩,tt,(fun _ => trivial),(fun hG => ⟨hG,tt⟩),(fun _ => trivial),(fun hG => ⟨hG,tt⟩),(fun hG => ⟨⟨hG,tt⟩,⟨hG,tt⟩,tt⟩),⟨tt,(fun hp => ⟨hp,tt⟩),(fun _ => trivial)⟩,tt,tt⟩ ?_
 refine W.ret ?_
 exact endQ_ret (.b ((((((((within c.proc (0 : Int) (2 : Int)) && (within c.obj (0 : Int) (1 : Int))) && (within c.kind (0 : Int) (2 : Int))) && (within c.arg (0 : Int) (3 : Int))) && (within c.ret (-1 : Int) (20 : Int))) && (within c.frm (0 : Int) (30 : Int))) && (within c.to (0 : Int) (30 : Int))) && (decide (c.frm < c.to)))) (by kernel_rfl) (@cast ((.bool ((((((((within c.proc (0 : Int) (2 : Int)) && (within c.obj (0 : Int) (1 : Int))) && (within c.kind (0 : Int) (2 : Int))) && (within c.arg (0 : Int) (3 : Int))) && (within c.ret (-1 : Int) (20 : Int))) && (within c.frm (0 : Int) (30 : Int))) && (within c.to (0 : Int) (30 : Int))) && (decide (c.frm < c.to))) : Value) = .bool (isCall c)) _ (by kernel_rfl) (congrArg Value.bool (by first | rfl | simp_all)))
theorem ent28 : Entr prog 28 := ⟨_,func28,rfl,by decide⟩
end Go.Proofs.Tryd

set_option linter.unusedSimpArgs false
set_option linter.unusedVariables false
namespace Go.Proofs.Tryd
open Go.Ab Go.RowKit
def fs45 : FnS := fnS [.o,.o] [.call,.call] (fun _ (a,b,_) => (.b (isBefore a b),[],True))
abbrev T45 : Tab := lk []
theorem tab45 : TabOK prog T45 := TabOK.nil
set_option maxRecDepth 100000 in
set_option maxHeartbeats 1000000 in
theorem ok45 : FnOK prog 45 fs45 := by
 refine FnOK.mk cok func45 rfl rfl rfl ?_
 rintro fl ⟨(a : CallD),(b : CallD),_⟩ hpre F hnt0 _
 have hnt : F.nt = 10 := hnt0.trans ntmps45
 clear hpre
 refine W.to (⟨[(0,.agg [.i a.proc,.i a.obj,.i a.kind,.i a.arg,.i a.ret,.i a.frm,.i a.to]),(1,.agg [.i b.proc,.i b.obj,.i b.kind,.i b.arg,.i b.ret,.i b.frm,.i b.to])],[],[999]⟩) rfl ?_
 refine Kk cok tab45 hnt [] [2,3] (⟨[(2,.ptr 2 0),(3,.ptr 3 0)],[(2,⟨40,.fix [.i a.proc,.i a.obj,.i a.kind,.i a.arg,.i a.ret,.i a.frm,.i a.to]⟩),(3,⟨40,.fix [.i b.proc,.i b.obj,.i b.kind,.i b.arg,.i b.ret,.i b.frm,.i b.to]⟩)],[3,2,999]⟩)
  (True ∧ True ∧ True ∧ True)
  ⟨tt,tt,tt,tt⟩ ?_
 refine Kk cok tab45 hnt [] [4] (⟨[(4,.b (decide (a.to < b.frm)))],[(2,⟨40,.fix [.i a.proc,.i a.obj,.i a.kind,.i a.arg,.i a.ret,.i a.frm,.i a.to]⟩),(3,⟨40,.fix [.i b.proc,.i b.obj,.i b.kind,.i b.arg,.i b.ret,.i b.frm,.i b.to]⟩)],[3,2,999]⟩)
  (True ∧ True ∧ True ∧ True ∧ (True ∧ True ∧ True) ∧ True ∧ True)
  ⟨tt,tt,tt,tt,⟨tt,tt,tt⟩,tt,tt⟩ ?_
 refine W.ret ?_
 exact endQ_ret (.b (decide (a.to < b.frm))) (by kernel_rfl) (@cast ((.bool (decide (a.to < b.frm)) : Value) = .bool (isBefore a b)) _ (by kernel_rfl) (congrArg Value.bool (by first | rfl | simp_all)))
theorem ent45 : Entr prog 45 := ⟨_,func45,rfl,by decide⟩
end Go.Proofs.Tryd

set_option linter.unusedSimpArgs false
set_option linter.unusedVariables false
namespace Go.Proofs.Tryd
open Go.Ab Go.RowKit
def fs29 : FnS := fnS [.o,.o] [.call,.call] (fun _ (a,b,_) => (.b (doOverlap a b),[],True))
abbrev T29 : Tab := lk [(45,fs45)]
theorem tab29 : TabOK prog T29 := (TabOK.cons ok45 ent45 TabOK.nil)
set_option maxRecDepth 100000 in
set_option maxHeartbeats 1000000 in
theorem ok29 : FnOK prog 29 fs29 := by
 refine FnOK.mk cok func29 rfl rfl rfl ?_
 rintro fl ⟨(a : CallD),(b : CallD),_⟩ hpre F hnt0 _
 have hnt : F.nt = 15 := hnt0.trans ntmps29
 clear hpre
 refine W.to (⟨[(0,.agg [.i a.proc,.i a.obj,.i a.kind,.i a.arg,.i a.ret,.i a.frm,.i a.to]),(1,.agg [.i b.proc,.i b.obj,.i b.kind,.i b.arg,.i b.ret,.i b.frm,.i b.to])],[],[999]⟩) rfl ?_
 refine Kk cok tab29 hnt [] [2,3] (⟨[(2,.ptr 2 0),(3,.ptr 3 0)],[(2,⟨40,.fix [.i a.proc,.i a.obj,.i a.kind,.i a.arg,.i a.ret,.i a.frm,.i a.to]⟩),(3,⟨40,.fix [.i b.proc,.i b.obj,.i b.kind,.i b.arg,.i b.ret,.i b.frm,.i b.to]⟩)],[3,2,999]⟩)
  (True ∧ True ∧ True ∧ True)
  ⟨tt,tt,tt,tt⟩ ?_
 refine Kk cok tab29 hnt [] [4] (⟨[(4,.b ((!(isBefore a b)) && (!(isBefore b a))))],[(2,⟨40,.fix [.i a.proc,.i a.obj,.i a.kind,.i a.arg,.i a.ret,.i a.frm,.i a.to]⟩),(3,⟨40,.fix [.i b.proc,.i b.obj,.i b.kind,.i b.arg,.i b.ret,.i b.frm,.i b.to]⟩)],[3,2,999]⟩)
  ((fun (Z1:Bool)=>(True ∧ (True ∧ ((True ∧ ((True ∧ (True ∧ True)) ∧ True)) ∧ (True ∧ (True ∧ ((Z1 = true → True) ∧ ((Z1 = true → True) ∧ ((Z1 = true → (True ∧ ((((Z1 = true) ∧ True) ∧ (((Z1 = true) ∧ True) ∧ True)) ∧ True))) ∧ ((Z1 = true → ((Z1 = true) ∧ True)) ∧ ((True ∧ ((Z1 = true → (Z1 = true) ∧ True) ∧ (Z1 = false → True))) ∧ (True ∧ True)))))))))))) (!(isBefore a b)))
  ⟨tt,tt,⟨tt,⟨tt,tt,tt⟩,tt⟩,tt,tt,(fun _ => trivial),(fun _ => trivial),(fun hG => ⟨tt,⟨⟨hG,tt⟩,⟨hG,tt⟩,tt⟩,tt⟩),(fun hG => ⟨hG,tt⟩),⟨tt,(fun hp => ⟨hp,tt⟩),(fun _ => trivial)⟩,tt,tt⟩ ?_
 refine W.ret ?_
 exact endQ_ret (.b ((!(isBefore a b)) && (!(isBefore b a)))) (by kernel_rfl) (@cast ((.bool ((!(isBefore a b)) && (!(isBefore b a))) : Value) = .bool (doOverlap a b)) _ (by kernel_rfl) (congrArg Value.bool (by first | rfl | simp_all)))
theorem ent29 : Entr prog 29 := ⟨_,func29,rfl,by decide⟩
end Go.Proofs.Tryd

set_option linter.unusedSimpArgs false
set_option linter.unusedVariables false
namespace Go.Proofs.Tryd
open Go.Ab Go.RowKit
def fs13 : FnS := fnS [.s .calls] [.calls] (fun _ (h,_) => (.b (validHistory h),[],True))
abbrev T13 : Tab := lk [(28,fs28),(29,fs29)]
theorem tab13 : TabOK prog T13 := (TabOK.cons ok28 ent28 (TabOK.cons ok29 ent29 TabOK.nil))
set_option maxRecDepth 100000 in
set_option maxHeartbeats 1000000 in
theorem ok13 : FnOK prog 13 fs13 := by
 refine FnOK.mk cok func13 rfl rfl rfl ?_
 rintro fl ⟨(h : List CallD),_⟩ hpre F hnt0 _
 have hnt : F.nt = 68 := hnt0.trans ntmps13
 clear hpre
 refine W.to (⟨[(0,.sl (.calls h))],[],[999]⟩) rfl ?_
 refine W.lenOf 0 (.calls h) (by kernel_rfl) ?_
 intro hl_h; replace hl_h : List.length h ≤ 9223372036854775807 := hl_h
 refine Kk cok tab13 hnt [] [0] (⟨[(0,.sl (.calls h))],[],[999]⟩)
  (True ∧ True)
  ⟨tt,tt⟩ ?_
 refine W.seq ?_
 refine Kk cok tab13 hnt [] [0,9] (⟨[(0,.sl (.calls h)),(9,.b (decide ((6 : Int) < (h.length : Int))))],[],[999]⟩)
  (True ∧ True ∧ (True ∧ True ∧ True) ∧ True)
  ⟨tt,tt,⟨tt,tt,tt⟩,tt⟩ ?_
 refine W.ifP ((6 : Int) < (h.length : Int)) (.b (decide ((6 : Int) < (h.length : Int)))) (by kernel_rfl) rfl trivial ?_ ?_
 ·intro h9
  refine Kk cok tab13 hnt [] [2] (⟨[(2,.b false)],[],[999]⟩)
   (True ∧ True)
   ⟨tt,tt⟩ ?_
  refine W.ret (thenQ_ret ?_)
  exact endQ_ret (.b false) (by kernel_rfl) (@cast ((.bool false : Value) = .bool (validHistory h)) _ (by kernel_rfl) (congrArg Value.bool (by unfold validHistory; symm; exact and_fl (decide_eq_false (by omega)))))
 ·intro n9
  refine W.skip (thenQ_normal ?_)
  refine W.seq ?_
  refine Kk cok tab13 hnt [] [0,10,11,12] (⟨[(0,.sl (.calls h)),(10,.sl (.calls h)),(11,.i (h.length : Int)),(12,.i (0 : Int))],[],[999]⟩)
   (True ∧ True ∧ True ∧ True)
   ⟨tt,tt,tt,tt⟩ ?_
  refine W.block ?_
  refine W.loop (ι := Nat) (fun (i : Nat) => (⟨[(0,.sl (.calls h)),(10,.sl (.calls h)),(11,.i (h.length : Int)),(12,.i ((i : Nat) : Int))],[],[999]⟩ : St))
   (fun (i : Nat) => (i ≤ h.length) ∧ (∀ j,j < i → (isCall (callAt h j) && allN j (fun k => !clash (callAt h j) (callAt h k))) = true))
   (fun (i : Nat) => (h.length - i : Nat)) (0) ?_ ?_ ?_
  ·exact (show (0 ≤ h.length) ∧ (∀ j,j < 0 → (isCall (callAt h j) && allN j (fun k => !clash (callAt h j) (callAt h k))) = true) from ⟨(by first | assumption | omega | rfl | (intro _ hjj; omega) | (simp; done) | (simp; omega)),(by exact upto_zero)⟩)
  ·exact Sub.of [] (@cast (((Sd (.calls h)) ∧ (Sd (.calls h)) ∧ (Si (h.length : Int)) ∧ ((.int .i64 (0 : Int) : Value) = .int .i64 ((0 : Nat) : Int)) ∧ True) ∧ True ∧ (true = true) ∧ (true = true)) _ (by kernel_rfl) ⟨⟨rfl,rfl,rfl,(congrArg (Value.int .i64) (by first | rfl | omega | assumption | simp | simp_all)),tt⟩,tt,rfl,rfl⟩)
  ·rintro i hC0
   have hC : (i ≤ h.length) ∧ (∀ j,j < i → (isCall (callAt h j) && allN j (fun k => !clash (callAt h j) (callAt h k))) = true) := hC0
   clear hC0
   obtain ⟨hi,hA⟩ := hC
   refine W.to (⟨[(0,.sl (.calls h)),(10,.sl (.calls h)),(11,.i (h.length : Int)),(12,.i ((i : Nat) : Int))],[],[999]⟩) rfl ?_
   refine Kk cok tab13 hnt [] [0,10,11,12,13] (⟨[(0,.sl (.calls h)),(10,.sl (.calls h)),(11,.i (h.length : Int)),(12,.i ((i : Nat) : Int)),(13,.b (decide (((i : Nat) : Int) < (h.length : Int))))],[],[999]⟩)
    ((True ∧ True ∧ True) ∧ True)
    ⟨⟨tt,tt,tt⟩,tt⟩ ?_
   refine W.seq ?_
   refine W.ifP (((i : Nat) : Int) < (h.length : Int)) (.b (decide (((i : Nat) : Int) < (h.length : Int)))) (by kernel_rfl) rfl trivial ?_ ?_
   ·intro h13
    refine W.skip (thenQ_normal ?_)
    refine W.seq ?_
    refine W.block ?_
    refine Kk cok tab13 hnt [] [0,3,4,10,11,12] (⟨[(0,.sl (.calls h)),(3,.i ((i : Nat) : Int)),(4,.ptr 4 0),(10,.sl (.calls h)),(11,.i (h.length : Int)),(12,.i ((i : Nat) : Int))],[(4,⟨40,.fix [.i ((h.getD i default).proc),.i ((h.getD i default).obj),.i ((h.getD i default).kind),.i ((h.getD i default).arg),.i ((h.getD i default).ret),.i ((h.getD i default).frm),.i ((h.getD i default).to)]⟩)],[4,999]⟩)
     (True ∧ (True ∧ True ∧ (0 ≤ ((i : Nat) : Int)) ∧ (((i : Nat) : Int) < (h.length : Int))) ∧ True ∧ True ∧ True ∧ (True ∧ True) ∧ True)
     ⟨tt,⟨tt,tt,(by omega),(by omega)⟩,tt,tt,tt,⟨tt,tt⟩,tt⟩ ?_
    refine W.seq ?_
    refine Kk cok tab13 hnt [] [0,3,4,10,11,12,19] (⟨[(0,.sl (.calls h)),(3,.i ((i : Nat) : Int)),(4,.ptr 4 0),(10,.sl (.calls h)),(11,.i (h.length : Int)),(12,.i ((i : Nat) : Int)),(19,.b (!(isCall (h.getD i default))))],[(4,⟨40,.fix [.i ((h.getD i default).proc),.i ((h.getD i default).obj),.i ((h.getD i default).kind),.i ((h.getD i default).arg),.i ((h.getD i default).ret),.i ((h.getD i default).frm),.i ((h.getD i default).to)]⟩)],[4,999]⟩)
     (True ∧ (True ∧ (True ∧ True) ∧ True) ∧ True ∧ True)
     ⟨tt,⟨tt,⟨tt,tt⟩,tt⟩,tt,tt⟩ ?_
    refine W.if' (!(isCall (h.getD i default))) (.b (!(isCall (h.getD i default)))) (by kernel_rfl) rfl trivial ?_ ?_
    ·intro h19
     refine Kk cok tab13 hnt [] [2] (⟨[(2,.b false)],[(4,⟨40,.fix [.i ((h.getD i default).proc),.i ((h.getD i default).obj),.i ((h.getD i default).kind),.i ((h.getD i default).arg),.i ((h.getD i default).ret),.i ((h.getD i default).frm),.i ((h.getD i default).to)]⟩)],[4,999]⟩)
      (True ∧ True)
      ⟨tt,tt⟩ ?_
     refine W.ret (thenQ_ret (blockQ_ret (thenQ_ret (thenQ_ret (blockQ_ret (thenQ_ret ?_))))))
     exact endQ_ret (.b false) (by kernel_rfl) (@cast ((.bool false : Value) = .bool (validHistory h)) _ (by kernel_rfl) (congrArg Value.bool (by unfold validHistory; symm; exact and_fr (allN_false (i := i) (by omega) (and_fl (not_f h19))))))
    ·intro n19
     refine W.skip (thenQ_normal ?_)
     refine Kk cok tab13 hnt [] [0,4,10,11,12,22,23,24] (⟨[(0,.sl (.calls h)),(4,.ptr 4 0),(10,.sl (.calls h)),(11,.i (h.length : Int)),(12,.i ((i : Nat) : Int)),(22,.sl (.calls (List.take i h))),(23,.i (((List.length (List.take i h)) : Nat) : Int)),(24,.i (0 : Int))],[(4,⟨40,.fix [.i ((h.getD i default).proc),.i ((h.getD i default).obj),.i ((h.getD i default).kind),.i ((h.getD i default).arg),.i ((h.getD i default).ret),.i ((h.getD i default).frm),.i ((h.getD i default).to)]⟩)],[4,999]⟩)
      (True ∧ True ∧ (True ∧ True ∧ True ∧ (0 ≤ (0 : Int)) ∧ ((0 : Int) ≤ ((i : Nat) : Int)) ∧ (((i : Nat) : Int) ≤ (h.length : Int))) ∧ True ∧ True ∧ True)
      ⟨tt,tt,⟨tt,tt,tt,(by omega),(by omega),(by omega)⟩,tt,tt,tt⟩ ?_
     refine W.block ?_
     refine W.loop (ι := Nat) (fun (k : Nat) => (⟨[(0,.sl (.calls h)),(4,.ptr 4 0),(10,.sl (.calls h)),(11,.i (h.length : Int)),(12,.i ((i : Nat) : Int)),(22,.sl (.calls (List.take i h))),(23,.i (((List.length (List.take i h)) : Nat) : Int)),(24,.i ((k : Nat) : Int))],[(4,⟨40,.fix [.i ((h.getD i default).proc),.i ((h.getD i default).obj),.i ((h.getD i default).kind),.i ((h.getD i default).arg),.i ((h.getD i default).ret),.i ((h.getD i default).frm),.i ((h.getD i default).to)]⟩)],[4,999]⟩ : St))
      (fun (k : Nat) => (k ≤ i) ∧ (∀ j,j < k → (!clash (callAt h i) (callAt h j)) = true))
      (fun (k : Nat) => (i - k : Nat)) (0) ?_ ?_ ?_
     ·exact (show (0 ≤ i) ∧ (∀ j,j < 0 → (!clash (callAt h i) (callAt h j)) = true) from ⟨(by first | assumption | omega | rfl | (intro _ hjj; omega) | (simp; done) | (simp; omega)),(by exact upto_zero)⟩)
     ·exact Sub.of [] (@cast (((Sd (.calls h)) ∧ (((4 : Nat) = 4) ∧ ((0 : Nat) = 0) ∧ ((4 : Nat) ∈ ([4,999] : List Nat))) ∧ (Sd (.calls h)) ∧ (Si (h.length : Int)) ∧ (Si ((i : Nat) : Int)) ∧ (Sd (.calls (List.take i h))) ∧ (Si (((List.length (List.take i h)) : Nat) : Int)) ∧ ((.int .i64 (0 : Int) : Value) = .int .i64 ((0 : Nat) : Int)) ∧ True) ∧ ((((40 : Nat) = 40) ∧ ((Si ((h.getD i default).proc)) ∧ (Si ((h.getD i default).obj)) ∧ (Si ((h.getD i default).kind)) ∧ (Si ((h.getD i default).arg)) ∧ (Si ((h.getD i default).ret)) ∧ (Si ((h.getD i default).frm)) ∧ (Si ((h.getD i default).to)) ∧ True) ∧ ((4 : Nat) ∈ ([4,999] : List Nat))) ∧ True) ∧ (true = true) ∧ (true = true)) _ (by kernel_rfl) ⟨⟨rfl,⟨rfl,rfl,(by decide)⟩,rfl,rfl,rfl,rfl,rfl,(congrArg (Value.int .i64) (by first | rfl | omega | assumption | simp | simp_all)),tt⟩,⟨⟨rfl,⟨rfl,rfl,rfl,rfl,rfl,rfl,rfl,tt⟩,(by decide)⟩,tt⟩,rfl,rfl⟩)
     ·rintro k hC0
      have hC : (k ≤ i) ∧ (∀ j,j < k → (!clash (callAt h i) (callAt h j)) = true) := hC0
      clear hC0
      obtain ⟨hk,hB⟩ := hC
      refine W.to (⟨[(0,.sl (.calls h)),(4,.ptr 4 0),(10,.sl (.calls h)),(11,.i (h.length : Int)),(12,.i ((i : Nat) : Int)),(22,.sl (.calls (List.take i h))),(23,.i (((List.length (List.take i h)) : Nat) : Int)),(24,.i ((k : Nat) : Int))],[(4,⟨40,.fix [.i ((h.getD i default).proc),.i ((h.getD i default).obj),.i ((h.getD i default).kind),.i ((h.getD i default).arg),.i ((h.getD i default).ret),.i ((h.getD i default).frm),.i ((h.getD i default).to)]⟩)],[4,999]⟩) rfl ?_
      refine Kk cok tab13 hnt [] [0,4,10,11,12,22,23,24,25] (⟨[(0,.sl (.calls h)),(4,.ptr 4 0),(10,.sl (.calls h)),(11,.i (h.length : Int)),(12,.i ((i : Nat) : Int)),(22,.sl (.calls (List.take i h))),(23,.i (((List.length (List.take i h)) : Nat) : Int)),(24,.i ((k : Nat) : Int)),(25,.b (decide (((k : Nat) : Int) < (((List.length (List.take i h)) : Nat) : Int))))],[(4,⟨40,.fix [.i ((h.getD i default).proc),.i ((h.getD i default).obj),.i ((h.getD i default).kind),.i ((h.getD i default).arg),.i ((h.getD i default).ret),.i ((h.getD i default).frm),.i ((h.getD i default).to)]⟩)],[4,999]⟩)
       ((True ∧ True ∧ True) ∧ True)
       ⟨⟨tt,tt,tt⟩,tt⟩ ?_
      refine W.seq ?_
      refine W.ifP (((k : Nat) : Int) < (((List.length (List.take i h)) : Nat) : Int)) (.b (decide (((k : Nat) : Int) < (((List.length (List.take i h)) : Nat) : Int)))) (by kernel_rfl) rfl trivial ?_ ?_
      ·intro h25
       have h25' := h25
       simp only [List.length_append,List.length_cons,List.length_nil,List.length_take,List.length_drop,List.length_set,List.length_replicate,List.length_map] at h25'
       refine W.skip (thenQ_normal ?_)
       refine W.seq ?_
       refine W.block ?_
       refine Kk cok tab13 hnt [] [0,4,6,10,11,12,22,23,24] (⟨[(0,.sl (.calls h)),(4,.ptr 4 0),(6,.ptr 6 0),(10,.sl (.calls h)),(11,.i (h.length : Int)),(12,.i ((i : Nat) : Int)),(22,.sl (.calls (List.take i h))),(23,.i (((List.length (List.take i h)) : Nat) : Int)),(24,.i ((k : Nat) : Int))],[(4,⟨40,.fix [.i ((h.getD i default).proc),.i ((h.getD i default).obj),.i ((h.getD i default).kind),.i ((h.getD i default).arg),.i ((h.getD i default).ret),.i ((h.getD i default).frm),.i ((h.getD i default).to)]⟩),(6,⟨40,.fix [.i ((List.getD (List.take i h) k default).proc),.i ((List.getD (List.take i h) k default).obj),.i ((List.getD (List.take i h) k default).kind),.i ((List.getD (List.take i h) k default).arg),.i ((List.getD (List.take i h) k default).ret),.i ((List.getD (List.take i h) k default).frm),.i ((List.getD (List.take i h) k default).to)]⟩)],[6,4,999]⟩)
        ((True ∧ True ∧ (0 ≤ ((k : Nat) : Int)) ∧ (((k : Nat) : Int) < (((List.length (List.take i h)) : Nat) : Int))) ∧ True ∧ True ∧ (True ∧ True) ∧ True)
        ⟨⟨tt,tt,(by omega),(by (first | omega | (simp only [List.length_set]; done) | (simp only [List.length_append,List.length_cons,List.length_nil,List.length_take,List.length_drop,List.length_set,List.length_replicate,List.length_map] at *; omega) | assumption))⟩,tt,tt,⟨tt,tt⟩,tt⟩ ?_
       refine Kk cok tab13 hnt [] [0,4,10,11,12,22,23,24,65] (⟨[(0,.sl (.calls h)),(4,.ptr 4 0),(10,.sl (.calls h)),(11,.i (h.length : Int)),(12,.i ((i : Nat) : Int)),(22,.sl (.calls (List.take i h))),(23,.i (((List.length (List.take i h)) : Nat) : Int)),(24,.i ((k : Nat) : Int)),(65,.b (((((decide (((h.getD i default).frm) = ((List.getD (List.take i h) k default).frm))) || (decide (((h.getD i default).frm) = ((List.getD (List.take i h) k default).to)))) || (decide (((h.getD i default).to) = ((List.getD (List.take i h) k default).frm)))) || (decide (((h.getD i default).to) = ((List.getD (List.take i h) k default).to)))) || ((decide (((h.getD i default).proc) = ((List.getD (List.take i h) k default).proc))) && (doOverlap (h.getD i default) (List.getD (List.take i h) k default)))))],[(4,⟨40,.fix [.i ((h.getD i default).proc),.i ((h.getD i default).obj),.i ((h.getD i default).kind),.i ((h.getD i default).arg),.i ((h.getD i default).ret),.i ((h.getD i default).frm),.i ((h.getD i default).to)]⟩),(6,⟨40,.fix [.i ((List.getD (List.take i h) k default).proc),.i ((List.getD (List.take i h) k default).obj),.i ((List.getD (List.take i h) k default).kind),.i ((List.getD (List.take i h) k default).arg),.i ((List.getD (List.take i h) k default).ret),.i ((List.getD (List.take i h) k default).frm),.i ((List.getD (List.take i h) k default).to)]⟩)],[6,4,999]⟩)
        ((fun (Z1:Bool)=>((fun (Z2:Bool)=>((fun (Z3:Bool)=>((fun (Z4:Bool)=>((fun (Z5:Bool)=>((fun (Z6:Bool)=>(True ∧ (True ∧ (True ∧ (True ∧ ((True ∧ (True ∧ True)) ∧ (True ∧ (((!Z1) = true → True) ∧ (((!Z1) = true → (((!Z1) = true) ∧ True)) ∧ (((!Z1) = true → True) ∧ (((!Z1) = true → (((!Z1) = true) ∧ True)) ∧ (((!Z1) = true → ((((!Z1) = true) ∧ True) ∧ ((((!Z1) = true) ∧ True) ∧ True))) ∧ ((True ∧ ((Z1 = true → True) ∧ (Z1 = false → ((!Z1) = true) ∧ True))) ∧ (True ∧ (((!Z3) = true → True) ∧ (((!Z3) = true → (((!Z3) = true) ∧ True)) ∧ (((!Z3) = true → True) ∧ (((!Z3) = true → (((!Z3) = true) ∧ True)) ∧ (((!Z3) = true → ((((!Z3) = true) ∧ True) ∧ ((((!Z3) = true) ∧ True) ∧ True))) ∧ ((True ∧ ((Z3 = true → True) ∧ (Z3 = false → ((!Z3) = true) ∧ True))) ∧ (True ∧ (((!Z4) = true → True) ∧ (((!Z4) = true → (((!Z4) = true) ∧ True)) ∧ (((!Z4) = true → True) ∧ (((!Z4) = true → (((!Z4) = true) ∧ True)) ∧ (((!Z4) = true → ((((!Z4) = true) ∧ True) ∧ ((((!Z4) = true) ∧ True) ∧ True))) ∧ ((True ∧ ((Z4 = true → True) ∧ (Z4 = false → ((!Z4) = true) ∧ True))) ∧ (True ∧ (((!Z5) = true → True) ∧ (((!Z5) = true → (((!Z5) = true) ∧ True)) ∧ (((!Z5) = true → True) ∧ (((!Z5) = true → (((!Z5) = true) ∧ True)) ∧ (((!Z5) = true → ((((!Z5) = true) ∧ True) ∧ ((((!Z5) = true) ∧ True) ∧ True))) ∧ (((!Z5) = true → True) ∧ ((Z6 = true → True) ∧ ((Z6 = true → True) ∧ ((Z6 = true → (True ∧ ((((Z6 = true) ∧ True) ∧ (((Z6 = true) ∧ True) ∧ True)) ∧ True))) ∧ (((!Z5) = true → ((((!Z5) = true) ∧ (((!Z5) = true) ∧ True)) ∧ ((Z2 = true → (Z6 = true) ∧ True) ∧ (Z2 = false → True)))) ∧ ((True ∧ ((Z5 = true → True) ∧ (Z5 = false → ((!Z5) = true) ∧ True))) ∧ True))))))))))))))))))))))))))))))))))))))) ((!Z5) && ((!Z5) && Z2)))) (Z4 || (decide (((h.getD i default).to) = ((List.getD (List.take i h) k default).to)))))) (Z3 || (decide (((h.getD i default).to) = ((List.getD (List.take i h) k default).frm)))))) (Z1 || (decide (((h.getD i default).frm) = ((List.getD (List.take i h) k default).to)))))) (decide (((h.getD i default).proc) = ((List.getD (List.take i h) k default).proc))))) (decide (((h.getD i default).frm) = ((List.getD (List.take i h) k default).frm))))
        ⟨tt,tt,tt,tt,⟨tt,tt,tt⟩,tt,(fun _ => trivial),(fun hG => ⟨hG,tt⟩),(fun _ => trivial),(fun hG => ⟨hG,tt⟩),(fun hG => ⟨⟨hG,tt⟩,⟨hG,tt⟩,tt⟩),⟨tt,(fun _ => trivial),(fun hp => ⟨(not_t hp),tt⟩)⟩,tt,(fun _ => trivial),(fun hG => ⟨hG,tt⟩),(fun _ => trivial),(fun hG => ⟨hG,tt⟩),(fun hG => ⟨⟨hG,tt⟩,⟨hG,tt⟩,tt⟩),⟨tt,(fun _ => trivial),(fun hp => ⟨(not_t hp),tt⟩)⟩,tt,(fun _ => trivial),(fun hG => ⟨hG,tt⟩),(fun _ => trivial),(fun hG => ⟨hG,tt⟩),(fun hG => ⟨⟨hG,tt⟩,⟨hG,tt⟩,tt⟩),⟨tt,(fun _ => trivial),(fun hp => ⟨(not_t hp),tt⟩)⟩,tt,(fun _ => trivial),(fun hG => ⟨hG,tt⟩),(fun _ => trivial),(fun hG => ⟨hG,tt⟩),(fun hG => ⟨⟨hG,tt⟩,⟨hG,tt⟩,tt⟩),(fun _ => trivial),(fun _ => trivial),(fun _ => trivial),(fun hG => ⟨tt,⟨⟨hG,tt⟩,⟨hG,tt⟩,tt⟩,tt⟩),(fun hG => ⟨⟨hG,hG,tt⟩,(fun hp => ⟨(and_t hG (and_t hG hp)),tt⟩),(fun _ => trivial)⟩),⟨tt,(fun _ => trivial),(fun hp => ⟨(not_t hp),tt⟩)⟩,tt⟩ ?_
       refine W.if' (((((decide (((h.getD i default).frm) = ((List.getD (List.take i h) k default).frm))) || (decide (((h.getD i default).frm) = ((List.getD (List.take i h) k default).to)))) || (decide (((h.getD i default).to) = ((List.getD (List.take i h) k default).frm)))) || (decide (((h.getD i default).to) = ((List.getD (List.take i h) k default).to)))) || ((decide (((h.getD i default).proc) = ((List.getD (List.take i h) k default).proc))) && (doOverlap (h.getD i default) (List.getD (List.take i h) k default)))) (.b (((((decide (((h.getD i default).frm) = ((List.getD (List.take i h) k default).frm))) || (decide (((h.getD i default).frm) = ((List.getD (List.take i h) k default).to)))) || (decide (((h.getD i default).to) = ((List.getD (List.take i h) k default).frm)))) || (decide (((h.getD i default).to) = ((List.getD (List.take i h) k default).to)))) || ((decide (((h.getD i default).proc) = ((List.getD (List.take i h) k default).proc))) && (doOverlap (h.getD i default) (List.getD (List.take i h) k default))))) (by kernel_rfl) rfl trivial ?_ ?_
       ·intro h65
        refine Kk cok tab13 hnt [] [2] (⟨[(2,.b false)],[(4,⟨40,.fix [.i ((h.getD i default).proc),.i ((h.getD i default).obj),.i ((h.getD i default).kind),.i ((h.getD i default).arg),.i ((h.getD i default).ret),.i ((h.getD i default).frm),.i ((h.getD i default).to)]⟩),(6,⟨40,.fix [.i ((List.getD (List.take i h) k default).proc),.i ((List.getD (List.take i h) k default).obj),.i ((List.getD (List.take i h) k default).kind),.i ((List.getD (List.take i h) k default).arg),.i ((List.getD (List.take i h) k default).ret),.i ((List.getD (List.take i h) k default).frm),.i ((List.getD (List.take i h) k default).to)]⟩)],[6,4,999]⟩)
         (True ∧ True)
         ⟨tt,tt⟩ ?_
        refine W.ret (blockQ_ret (thenQ_ret (thenQ_ret (blockQ_ret (blockQ_ret (thenQ_ret (thenQ_ret (blockQ_ret (thenQ_ret ?_)))))))))
        exact endQ_ret (.b false) (by kernel_rfl) (@cast ((.bool false : Value) = .bool (validHistory h)) _ (by kernel_rfl) (congrArg Value.bool (by unfold validHistory; symm; exact and_fr (allN_false (i := i) (by omega) (and_fr (allN_false (i := k) (by omega) (not_h (by rw [← h65,getD_take h (default : CallD) (show k < i by omega)]; rfl))))))))
       ·intro n65
        have n65_0 : ¬ (((h.getD i default).frm) = ((List.getD (List.take i h) k default).frm)) := of_decide_eq_false (or_l (or_l (or_l (or_l n65))))
        have n65_1 : ¬ (((h.getD i default).frm) = ((List.getD (List.take i h) k default).to)) := of_decide_eq_false (or_r (or_l (or_l (or_l n65))))
        have n65_2 : ¬ (((h.getD i default).to) = ((List.getD (List.take i h) k default).frm)) := of_decide_eq_false (or_r (or_l (or_l n65)))
        have n65_3 : ¬ (((h.getD i default).to) = ((List.getD (List.take i h) k default).to)) := of_decide_eq_false (or_r (or_l n65))
        refine W.skip (blockQ_normal (thenQ_normal ?_))
        refine Lk cok tab13 hnt [] (⟨[(0,.sl (.calls h)),(4,.ptr 4 0),(10,.sl (.calls h)),(11,.i (h.length : Int)),(12,.i ((i : Nat) : Int)),(22,.sl (.calls (List.take i h))),(23,.i (((List.length (List.take i h)) : Nat) : Int)),(24,.i (((k + 1) : Nat) : Int)),(65,.b (((((decide (((h.getD i default).frm) = ((List.getD (List.take i h) k default).frm))) || (decide (((h.getD i default).frm) = ((List.getD (List.take i h) k default).to)))) || (decide (((h.getD i default).to) = ((List.getD (List.take i h) k default).frm)))) || (decide (((h.getD i default).to) = ((List.getD (List.take i h) k default).to)))) || ((decide (((h.getD i default).proc) = ((List.getD (List.take i h) k default).proc))) && (doOverlap (h.getD i default) (List.getD (List.take i h) k default))))),(66,.i (((k + 1) : Nat) : Int))],[(4,⟨40,.fix [.i ((h.getD i default).proc),.i ((h.getD i default).obj),.i ((h.getD i default).kind),.i ((h.getD i default).arg),.i ((h.getD i default).ret),.i ((h.getD i default).frm),.i ((h.getD i default).to)]⟩),(6,⟨40,.fix [.i ((List.getD (List.take i h) k default).proc),.i ((List.getD (List.take i h) k default).obj),.i ((List.getD (List.take i h) k default).kind),.i ((List.getD (List.take i h) k default).arg),.i ((List.getD (List.take i h) k default).ret),.i ((List.getD (List.take i h) k default).frm),.i ((List.getD (List.take i h) k default).to)]⟩)],[6,4,999]⟩)
         ((True ∧ True ∧ (Fits .i64 (((k + 1) : Nat) : Int))) ∧ True ∧ True)
         ⟨⟨tt,tt,(by exact fits_i64 (by omega) (by omega))⟩,tt,tt⟩ ?_
        refine thenQ_normal ?_
        refine ⟨((k + 1)),(show ((k + 1) ≤ i) ∧ (∀ j,j < (k + 1) → (!clash (callAt h i) (callAt h j)) = true) from ⟨(by first | assumption | omega | rfl | (intro _ hjj; omega) | (simp; done) | (simp; omega)),(by exact upto_succ hB (not_t (by rw [← n65,getD_take h (default : CallD) (show k < i by omega)]; rfl)))⟩),(show i - (k + 1) < i - k from (by first | omega | (simp_all; omega))),?_⟩
        exact Sub.of [] (@cast (((Sd (.calls h)) ∧ (((4 : Nat) = 4) ∧ ((0 : Nat) = 0) ∧ ((4 : Nat) ∈ ([4,999] : List Nat))) ∧ (Sd (.calls h)) ∧ (Si (h.length : Int)) ∧ (Si ((i : Nat) : Int)) ∧ (Sd (.calls (List.take i h))) ∧ (Si (((List.length (List.take i h)) : Nat) : Int)) ∧ (Si (((k + 1) : Nat) : Int)) ∧ True) ∧ ((((40 : Nat) = 40) ∧ ((Si ((h.getD i default).proc)) ∧ (Si ((h.getD i default).obj)) ∧ (Si ((h.getD i default).kind)) ∧ (Si ((h.getD i default).arg)) ∧ (Si ((h.getD i default).ret)) ∧ (Si ((h.getD i default).frm)) ∧ (Si ((h.getD i default).to)) ∧ True) ∧ ((4 : Nat) ∈ ([4,999] : List Nat))) ∧ True) ∧ (true = true) ∧ (true = true)) _ (by kernel_rfl) ⟨⟨rfl,⟨rfl,rfl,(by decide)⟩,rfl,rfl,rfl,rfl,rfl,rfl,tt⟩,⟨⟨rfl,⟨rfl,rfl,rfl,rfl,rfl,rfl,rfl,tt⟩,(by decide)⟩,tt⟩,rfl,rfl⟩)
      ·intro n25
       have n25' := n25
       simp only [List.length_append,List.length_cons,List.length_nil,List.length_take,List.length_drop,List.length_set,List.length_replicate,List.length_map] at n25'
       refine W.exit (thenQ_exit (thenQ_exit (blockQ_hit ?_)))
       refine blockQ_normal (thenQ_normal ?_)
       refine Lk cok tab13 hnt [] (⟨[(0,.sl (.calls h)),(4,.ptr 4 0),(10,.sl (.calls h)),(11,.i (h.length : Int)),(12,.i (((i + 1) : Nat) : Int)),(22,.sl (.calls (List.take i h))),(23,.i (((List.length (List.take i h)) : Nat) : Int)),(24,.i ((k : Nat) : Int)),(25,.b (decide (((k : Nat) : Int) < (((List.length (List.take i h)) : Nat) : Int)))),(67,.i (((i + 1) : Nat) : Int))],[(4,⟨40,.fix [.i ((h.getD i default).proc),.i ((h.getD i default).obj),.i ((h.getD i default).kind),.i ((h.getD i default).arg),.i ((h.getD i default).ret),.i ((h.getD i default).frm),.i ((h.getD i default).to)]⟩)],[4,999]⟩)
        ((True ∧ True ∧ (Fits .i64 (((i + 1) : Nat) : Int))) ∧ True ∧ True)
        ⟨⟨tt,tt,(by exact fits_i64 (by omega) (by omega))⟩,tt,tt⟩ ?_
       refine thenQ_normal ?_
       refine ⟨((i + 1)),(show ((i + 1) ≤ h.length) ∧ (∀ j,j < (i + 1) → (isCall (callAt h j) && allN j (fun k => !clash (callAt h j) (callAt h k))) = true) from ⟨(by first | assumption | omega | rfl | (intro _ hjj; omega) | (simp; done) | (simp; omega)),(by exact upto_succ hA (and_t (not_g n19) (allN_true (fun j hj => hB j (by omega)))))⟩),(show h.length - (i + 1) < h.length - i from (by first | omega | (simp_all; omega))),?_⟩
       exact Sub.of [] (@cast (((Sd (.calls h)) ∧ (Sd (.calls h)) ∧ (Si (h.length : Int)) ∧ (Si (((i + 1) : Nat) : Int)) ∧ True) ∧ True ∧ (true = true) ∧ (true = true)) _ (by kernel_rfl) ⟨⟨rfl,rfl,rfl,rfl,tt⟩,tt,rfl,rfl⟩)
   ·intro n13
    refine W.exit (thenQ_exit (thenQ_exit (blockQ_hit ?_)))
    refine thenQ_normal ?_
    refine Kk cok tab13 hnt [] [2] (⟨[(2,.b true)],[],[999]⟩)
     (True ∧ True)
     ⟨tt,tt⟩ ?_
    refine W.ret ?_
    exact endQ_ret (.b true) (by kernel_rfl) (@cast ((.bool true : Value) = .bool (validHistory h)) _ (by kernel_rfl) (congrArg Value.bool (by unfold validHistory; symm; exact and_t (decide_eq_true (by omega)) (allN_true (fun j hj => hA j (by omega))))))
theorem ent13 : Entr prog 13 := ⟨_,func13,rfl,by decide⟩
end Go.Proofs.Tryd

set_option linter.unusedSimpArgs false
set_option linter.unusedVariables false
namespace Go.Proofs.Tryd
open Go.Ab Go.RowKit Go.Shelf Go.Proofs Go.Lib
def fs39 : FnS := fnS [.o] [.int] (fun _ (n,_) => (.v (.string (numB n)),[],(-9223372036854775808 ≤ n) ∧ (n ≤ 9223372036854775807)))
def renI : Go.Shelf.Ren := ⟨fun k => bif Nat.beq k 129 then 96 else bif Nat.beq k 171 then 39 else bif Nat.beq k 243 then 56 else bif Nat.beq k 246 then 70 else bif Nat.beq k 283 then 84 else bif Nat.beq k 284 then 85 else bif Nat.beq k 285 then 86 else bif Nat.beq k 286 then 87 else bif Nat.beq k 317 then 95 else bif Nat.beq k 318 then 97 else bif Nat.beq k 319 then 98 else bif Nat.beq k 320 then 99 else bif Nat.beq k 337 then 103 else bif Nat.beq k 338 then 104 else k,fun k => bif Nat.beq k 0 then 0 else bif Nat.beq k 2 then 2 else bif Nat.beq k 3 then 3 else bif Nat.beq k 4 then 4 else bif Nat.beq k 5 then 5 else bif Nat.beq k 9 then 9 else bif Nat.beq k 20 then 20 else bif Nat.beq k 37 then 29 else bif Nat.beq k 46 then 106 else bif Nat.beq k 51 then 115 else bif Nat.beq k 53 then 101 else bif Nat.beq k 171 then 100 else bif Nat.beq k 173 then 104 else bif Nat.beq k 212 then 114 else bif Nat.beq k 213 then 116 else bif Nat.beq k 232 then 130 else bif Nat.beq k 233 then 131 else k,fun k => bif Nat.beq k 17 then 3 else bif Nat.beq k 18 then 6 else bif Nat.beq k 19 then 7 else k⟩
set_option maxRecDepth 100000 in
theorem laysI : Go.Proofs.LaysM.n171 prog renI where
 mixed := by kernel_rfl
 f129 := by kernel_rfl
 f171 := by kernel_rfl
 f243 := by kernel_rfl
 f246 := by kernel_rfl
 f283 := by kernel_rfl
 f284 := by kernel_rfl
 f285 := by kernel_rfl
 f286 := by kernel_rfl
 f317 := by kernel_rfl
 f318 := by kernel_rfl
 f319 := by kernel_rfl
 f320 := by kernel_rfl
 f337 := by kernel_rfl
 f338 := by kernel_rfl
 t0 := underlying0
 a0 := isAgg0
 z0 := sizeOf0
 v0 := zeroValue0
 t2 := underlying2
 a2 := isAgg2
 z2 := sizeOf2
 v2 := zeroValue2
 t3 := underlying3
 a3 := isAgg3
 z3 := sizeOf3
 v3 := zeroValue3
 t4 := underlying4
 a4 := isAgg4
 z4 := sizeOf4
 v4 := zeroValue4
 t5 := underlying5
 a5 := isAgg5
 z5 := sizeOf5
 v5 := zeroValue5
 t9 := underlying9
 a9 := isAgg9
 z9 := sizeOf9
 v9 := zeroValue9
 t20 := underlying20
 a20 := isAgg20
 z20 := sizeOf20
 v20 := zeroValue20
 t37 := underlying29
 a37 := isAgg29
 z37 := sizeOf29
 v37 := zeroValue29
 t46 := underlying106
 a46 := isAgg106
 z46 := sizeOf106
 v46 := zeroValue106
 t51 := underlying115
 a51 := isAgg115
 z51 := sizeOf115
 v51 := zeroValue115
 t53 := underlying101
 a53 := isAgg101
 z53 := sizeOf101
 v53 := zeroValue101
 t171 := underlying100
 a171 := isAgg100
 z171 := sizeOf100
 v171 := zeroValue100
 t173 := underlying104
 a173 := isAgg104
 z173 := sizeOf104
 v173 := zeroValue104
 t212 := underlying114
 a212 := isAgg114
 z212 := sizeOf114
 v212 := zeroValue114
 t213 := underlying116
 a213 := isAgg116
 z213 := sizeOf116
 t232 := underlying130
 a232 := isAgg130
 z232 := sizeOf130
 v232 := zeroValue130
 t233 := underlying131
 a233 := isAgg131
 z233 := sizeOf131
 v233 := zeroValue131
 g17 := by kernel_rfl
 g18 := by kernel_rfl
 g19 := by kernel_rfl
 i0 := by kernel_rfl
 i2 := by kernel_rfl
 i3 := by kernel_rfl
 i4 := by kernel_rfl
 i5 := by kernel_rfl
 i9 := by kernel_rfl
 i20 := by kernel_rfl
 i37 := by kernel_rfl
 i46 := by kernel_rfl
 i51 := by kernel_rfl
 i53 := by kernel_rfl
 i171 := by kernel_rfl
 i173 := by kernel_rfl
 i212 := by kernel_rfl
 i232 := by kernel_rfl
 i233 := by kernel_rfl
 m17 := by kernel_rfl
 m18 := by kernel_rfl
 m19 := by kernel_rfl
theorem ok39 : FnOK prog 39 fs39 := itoa_ok laysI (by kernel_rfl)
theorem ent39 : Entr prog 39 := ⟨_,func39,rfl,by decide⟩
end Go.Proofs.Tryd

set_option linter.unusedSimpArgs false
set_option linter.unusedVariables false
namespace Go.Proofs.Tryd
open Go.Ab Go.RowKit
def fs23 : FnS := fnS [.o] [.call] (fun _ (c,_) => (.v (.string (callTextB c)),[],(isCall c = true)))
abbrev T23 : Tab := lk [(39,fs39)]
theorem tab23 : TabOK prog T23 := (TabOK.cons ok39 ent39 TabOK.nil)
set_option maxRecDepth 100000 in
set_option maxHeartbeats 1000000 in
theorem ok23 : FnOK prog 23 fs23 := by
 refine FnOK.mk cok func23 rfl rfl rfl ?_
 rintro fl ⟨(c : CallD),_⟩ hpre F hnt0 _
 have hnt : F.nt = 39 := hnt0.trans ntmps23
 replace hpre : (isCall c = true) := hpre
 have hc := hpre
 refine W.to (⟨[(0,.agg [.i c.proc,.i c.obj,.i c.kind,.i c.arg,.i c.ret,.i c.frm,.i c.to])],[],[999]⟩) rfl ?_
 have hf := call_facts hc
 have s0 := numB_size c.proc
 have s1 := numB_size c.arg
 have s2 := numB_size c.ret
 have s3 := numB_size c.frm
 have s4 := numB_size c.to
 refine Kk cok tab23 hnt [] [1] (⟨[(1,.ptr 1 0)],[(1,⟨40,.fix [.i c.proc,.i c.obj,.i c.kind,.i c.arg,.i c.ret,.i c.frm,.i c.to]⟩)],[1,999]⟩)
  (True ∧ True ∧ True)
  ⟨tt,tt,tt⟩ ?_
 refine W.KA cok tab23 hnt [] [2] (⟨[(2,.v (.string ((((((((((numB c.proc) ++ ((⟨#[120,121]⟩ : ByteArray).extract (Int.toNat c.obj) (Int.toNat (c.obj + (1 : Int))))) ++ ((⟨#[112,116,108]⟩ : ByteArray).extract (Int.toNat c.kind) (Int.toNat (c.kind + (1 : Int))))) ++ (numB c.arg)) ++ (⟨#[61]⟩ : ByteArray)) ++ (numB c.ret)) ++ (⟨#[64]⟩ : ByteArray)) ++ (numB c.frm)) ++ (⟨#[45]⟩ : ByteArray)) ++ (numB c.to))))],[(1,⟨40,.fix [.i c.proc,.i c.obj,.i c.kind,.i c.arg,.i c.ret,.i c.frm,.i c.to]⟩)],[1,999]⟩)
  (True ∧ True ∧ (True ∧ (True ∧ True) ∧ (-9223372036854775808 ≤ c.proc) ∧ (c.proc ≤ 9223372036854775807)) ∧ True ∧ True ∧ True ∧ True ∧ (True ∧ True ∧ (Fits .i64 (c.obj + (1 : Int)))) ∧ (True ∧ True ∧ True ∧ (0 ≤ c.obj) ∧ (c.obj ≤ (c.obj + (1 : Int))) ∧ ((c.obj + (1 : Int)) ≤ ((((⟨#[120,121]⟩ : ByteArray).size) : Nat) : Int))) ∧ (True ∧ True ∧ ((numB c.proc).size + ((⟨#[120,121]⟩ : ByteArray).extract (Int.toNat c.obj) (Int.toNat (c.obj + (1 : Int)))).size ≤ 9223372036854775807)) ∧ True ∧ True ∧ True ∧ True ∧ (True ∧ True ∧ (Fits .i64 (c.kind + (1 : Int)))) ∧ (True ∧ True ∧ True ∧ (0 ≤ c.kind) ∧ (c.kind ≤ (c.kind + (1 : Int))) ∧ ((c.kind + (1 : Int)) ≤ ((((⟨#[112,116,108]⟩ : ByteArray).size) : Nat) : Int))) ∧ (True ∧ True ∧ (((numB c.proc) ++ ((⟨#[120,121]⟩ : ByteArray).extract (Int.toNat c.obj) (Int.toNat (c.obj + (1 : Int))))).size + ((⟨#[112,116,108]⟩ : ByteArray).extract (Int.toNat c.kind) (Int.toNat (c.kind + (1 : Int)))).size ≤ 9223372036854775807)) ∧ True ∧ True ∧ (True ∧ (True ∧ True) ∧ (-9223372036854775808 ≤ c.arg) ∧ (c.arg ≤ 9223372036854775807)) ∧ (True ∧ True ∧ ((((numB c.proc) ++ ((⟨#[120,121]⟩ : ByteArray).extract (Int.toNat c.obj) (Int.toNat (c.obj + (1 : Int))))) ++ ((⟨#[112,116,108]⟩ : ByteArray).extract (Int.toNat c.kind) (Int.toNat (c.kind + (1 : Int))))).size + (numB c.arg).size ≤ 9223372036854775807)) ∧ (True ∧ True ∧ (((((numB c.proc) ++ ((⟨#[120,121]⟩ : ByteArray).extract (Int.toNat c.obj) (Int.toNat (c.obj + (1 : Int))))) ++ ((⟨#[112,116,108]⟩ : ByteArray).extract (Int.toNat c.kind) (Int.toNat (c.kind + (1 : Int))))) ++ (numB c.arg)).size + (⟨#[61]⟩ : ByteArray).size ≤ 9223372036854775807)) ∧ True ∧ True ∧ (True ∧ (True ∧ True) ∧ (-9223372036854775808 ≤ c.ret) ∧ (c.ret ≤ 9223372036854775807)) ∧ (True ∧ True ∧ ((((((numB c.proc) ++ ((⟨#[120,121]⟩ : ByteArray).extract (Int.toNat c.obj) (Int.toNat (c.obj + (1 : Int))))) ++ ((⟨#[112,116,108]⟩ : ByteArray).extract (Int.toNat c.kind) (Int.toNat (c.kind + (1 : Int))))) ++ (numB c.arg)) ++ (⟨#[61]⟩ : ByteArray)).size + (numB c.ret).size ≤ 9223372036854775807)) ∧ (True ∧ True ∧ (((((((numB c.proc) ++ ((⟨#[120,121]⟩ : ByteArray).extract (Int.toNat c.obj) (Int.toNat (c.obj + (1 : Int))))) ++ ((⟨#[112,116,108]⟩ : ByteArray).extract (Int.toNat c.kind) (Int.toNat (c.kind + (1 : Int))))) ++ (numB c.arg)) ++ (⟨#[61]⟩ : ByteArray)) ++ (numB c.ret)).size + (⟨#[64]⟩ : ByteArray).size ≤ 9223372036854775807)) ∧ True ∧ True ∧ (True ∧ (True ∧ True) ∧ (-9223372036854775808 ≤ c.frm) ∧ (c.frm ≤ 9223372036854775807)) ∧ (True ∧ True ∧ ((((((((numB c.proc) ++ ((⟨#[120,121]⟩ : ByteArray).extract (Int.toNat c.obj) (Int.toNat (c.obj + (1 : Int))))) ++ ((⟨#[112,116,108]⟩ : ByteArray).extract (Int.toNat c.kind) (Int.toNat (c.kind + (1 : Int))))) ++ (numB c.arg)) ++ (⟨#[61]⟩ : ByteArray)) ++ (numB c.ret)) ++ (⟨#[64]⟩ : ByteArray)).size + (numB c.frm).size ≤ 9223372036854775807)) ∧ (True ∧ True ∧ (((((((((numB c.proc) ++ ((⟨#[120,121]⟩ : ByteArray).extract (Int.toNat c.obj) (Int.toNat (c.obj + (1 : Int))))) ++ ((⟨#[112,116,108]⟩ : ByteArray).extract (Int.toNat c.kind) (Int.toNat (c.kind + (1 : Int))))) ++ (numB c.arg)) ++ (⟨#[61]⟩ : ByteArray)) ++ (numB c.ret)) ++ (⟨#[64]⟩ : ByteArray)) ++ (numB c.frm)).size + (⟨#[45]⟩ : ByteArray).size ≤ 9223372036854775807)) ∧ True ∧ True ∧ (True ∧ (True ∧ True) ∧ (-9223372036854775808 ≤ c.to) ∧ (c.to ≤ 9223372036854775807)) ∧ (True ∧ True ∧ ((((((((((numB c.proc) ++ ((⟨#[120,121]⟩ : ByteArray).extract (Int.toNat c.obj) (Int.toNat (c.obj + (1 : Int))))) ++ ((⟨#[112,116,108]⟩ : ByteArray).extract (Int.toNat c.kind) (Int.toNat (c.kind + (1 : Int))))) ++ (numB c.arg)) ++ (⟨#[61]⟩ : ByteArray)) ++ (numB c.ret)) ++ (⟨#[64]⟩ : ByteArray)) ++ (numB c.frm)) ++ (⟨#[45]⟩ : ByteArray)).size + (numB c.to).size ≤ 9223372036854775807)) ∧ True ∧ True) (by kernel_rfl) (by kernel_rfl)
  ⟨tt,tt,⟨tt,⟨tt,tt⟩,(by omega),(by omega)⟩,tt,tt,tt,tt,⟨tt,tt,(by exact fits_i64 (by omega) (by omega))⟩,⟨tt,tt,tt,(by omega),(by omega),(by (try simp only [ByteArray.size_append,ByteArray.size_extract,sz1,sz2,sz3,sz10]); omega)⟩,⟨tt,tt,(by (try simp only [ByteArray.size_append,ByteArray.size_extract,sz1,sz2,sz3,sz10]); omega)⟩,tt,tt,tt,tt,⟨tt,tt,(by exact fits_i64 (by omega) (by omega))⟩,⟨tt,tt,tt,(by omega),(by omega),(by (try simp only [ByteArray.size_append,ByteArray.size_extract,sz1,sz2,sz3,sz10]); omega)⟩,⟨tt,tt,(by (try simp only [ByteArray.size_append,ByteArray.size_extract,sz1,sz2,sz3,sz10]); omega)⟩,tt,tt,⟨tt,⟨tt,tt⟩,(by omega),(by omega)⟩,⟨tt,tt,(by (try simp only [ByteArray.size_append,ByteArray.size_extract,sz1,sz2,sz3,sz10]); omega)⟩,⟨tt,tt,(by (try simp only [ByteArray.size_append,ByteArray.size_extract,sz1,sz2,sz3,sz10]); omega)⟩,tt,tt,⟨tt,⟨tt,tt⟩,(by omega),(by omega)⟩,⟨tt,tt,(by (try simp only [ByteArray.size_append,ByteArray.size_extract,sz1,sz2,sz3,sz10]); omega)⟩,⟨tt,tt,(by (try simp only [ByteArray.size_append,ByteArray.size_extract,sz1,sz2,sz3,sz10]); omega)⟩,tt,tt,⟨tt,⟨tt,tt⟩,(by omega),(by omega)⟩,⟨tt,tt,(by (try simp only [ByteArray.size_append,ByteArray.size_extract,sz1,sz2,sz3,sz10]); omega)⟩,⟨tt,tt,(by (try simp only [ByteArray.size_append,ByteArray.size_extract,sz1,sz2,sz3,sz10]); omega)⟩,tt,tt,⟨tt,⟨tt,tt⟩,(by omega),(by omega)⟩,⟨tt,tt,(by (try simp only [ByteArray.size_append,ByteArray.size_extract,sz1,sz2,sz3,sz10]); omega)⟩,tt,tt⟩ ?_
 refine W.ret ?_
 exact endQ_ret (.v (.string ((((((((((numB c.proc) ++ ((⟨#[120,121]⟩ : ByteArray).extract (Int.toNat c.obj) (Int.toNat (c.obj + (1 : Int))))) ++ ((⟨#[112,116,108]⟩ : ByteArray).extract (Int.toNat c.kind) (Int.toNat (c.kind + (1 : Int))))) ++ (numB c.arg)) ++ (⟨#[61]⟩ : ByteArray)) ++ (numB c.ret)) ++ (⟨#[64]⟩ : ByteArray)) ++ (numB c.frm)) ++ (⟨#[45]⟩ : ByteArray)) ++ (numB c.to)))) (by kernel_rfl) (@cast (((.string ((((((((((numB c.proc) ++ ((⟨#[120,121]⟩ : ByteArray).extract (Int.toNat c.obj) (Int.toNat (c.obj + (1 : Int))))) ++ ((⟨#[112,116,108]⟩ : ByteArray).extract (Int.toNat c.kind) (Int.toNat (c.kind + (1 : Int))))) ++ (numB c.arg)) ++ (⟨#[61]⟩ : ByteArray)) ++ (numB c.ret)) ++ (⟨#[64]⟩ : ByteArray)) ++ (numB c.frm)) ++ (⟨#[45]⟩ : ByteArray)) ++ (numB c.to))) : Value) = (.string (callTextB c))) _ (by kernel_rfl) (congrArg Value.string (by exact text_val hc)))
theorem ent23 : Entr prog 23 := ⟨_,func23,rfl,by decide⟩
end Go.Proofs.Tryd

set_option linter.unusedSimpArgs false
set_option linter.unusedVariables false
namespace Go.Proofs.Tryd
open Go.Ab Go.RowKit Go.Shelf Go.Proofs Go.Lib
def fs24 : FnS := fnS [.s .strs,.o] [.strs,.str] (fun _ (xs,sep,_) => (.v (.string (joinB xs sep)),[],(List.length xs ≤ 1000) ∧ ((joinB xs sep).size ≤ 1000000)))
def renJ : Go.Shelf.Ren := ⟨fun k => bif Nat.beq k 156 then 24 else bif Nat.beq k 165 then 40 else bif Nat.beq k 166 then 41 else bif Nat.beq k 169 then 42 else bif Nat.beq k 240 then 57 else bif Nat.beq k 241 then 58 else bif Nat.beq k 276 then 71 else bif Nat.beq k 277 then 72 else k,fun k => bif Nat.beq k 0 then 0 else bif Nat.beq k 3 then 3 else bif Nat.beq k 4 then 4 else bif Nat.beq k 5 then 5 else bif Nat.beq k 9 then 9 else bif Nat.beq k 20 then 20 else bif Nat.beq k 31 then 43 else bif Nat.beq k 37 then 29 else bif Nat.beq k 70 then 57 else bif Nat.beq k 72 then 59 else bif Nat.beq k 75 then 62 else bif Nat.beq k 76 then 63 else bif Nat.beq k 80 then 65 else bif Nat.beq k 127 then 77 else bif Nat.beq k 164 then 88 else k,fun k => k⟩
set_option maxRecDepth 100000 in
theorem laysJ : Go.Proofs.Lays.n156 prog renJ where
 mixed := by kernel_rfl
 f156 := by kernel_rfl
 f165 := by kernel_rfl
 f166 := by kernel_rfl
 f169 := by kernel_rfl
 f240 := by kernel_rfl
 f241 := by kernel_rfl
 f276 := by kernel_rfl
 f277 := by kernel_rfl
 t0 := underlying0
 a0 := isAgg0
 z0 := sizeOf0
 v0 := zeroValue0
 t3 := underlying3
 a3 := isAgg3
 z3 := sizeOf3
 v3 := zeroValue3
 t4 := underlying4
 a4 := isAgg4
 z4 := sizeOf4
 v4 := zeroValue4
 t9 := underlying9
 a9 := isAgg9
 z9 := sizeOf9
 v9 := zeroValue9
 t20 := underlying20
 a20 := isAgg20
 z20 := sizeOf20
 v20 := zeroValue20
 t31 := underlying43
 a31 := isAgg43
 z31 := sizeOf43
 v31 := zeroValue43
 t37 := underlying29
 a37 := isAgg29
 z37 := sizeOf29
 v37 := zeroValue29
 t70 := underlying57
 a70 := isAgg57
 z70 := sizeOf57
 v70 := zeroValue57
 t72 := underlying59
 a72 := isAgg59
 z72 := sizeOf59
 v72 := zeroValue59
 t75 := underlying62
 a75 := isAgg62
 z75 := sizeOf62
 v75 := zeroValue62
 t76 := underlying63
 a76 := isAgg63
 z76 := sizeOf63
 v76 := zeroValue63
 t127 := underlying77
 a127 := isAgg77
 z127 := sizeOf77
 v127 := zeroValue77
 t164 := underlying88
 a164 := isAgg88
 z164 := sizeOf88
 v164 := zeroValue88
set_option maxRecDepth 100000 in
theorem extraJ : Go.Proofs.Builder.Extra prog renJ where
 sizeBuilder := by kernel_rfl
 liesBuilder := by kernel_rfl
 t5 := underlying5
 a5 := isAgg5
 z5 := sizeOf5
 v5 := zeroValue5
 infoByte := by kernel_rfl
 cellsByte := by kernel_rfl
 sizeByte := by kernel_rfl
 neB5 := by decide
theorem ok24 : FnOK prog 24 fs24 := join_ok laysJ extraJ
theorem ent24 : Entr prog 24 := ⟨_,func24,rfl,by decide⟩
end Go.Proofs.Tryd
