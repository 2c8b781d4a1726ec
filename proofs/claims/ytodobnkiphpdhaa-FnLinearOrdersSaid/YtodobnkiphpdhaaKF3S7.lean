import Derived.Test.YtodobnkiphpdhaaKF3S0
import Derived.Test.YtodobnkiphpdhaaKF3S1
import Derived.Test.YtodobnkiphpdhaaKF3S6
import Derived.Test.YtodobnkiphpdhaaKF3S5
import Derived.Test.YtodobnkiphpdhaaKF3S3
import Derived.Test.YtodobnkiphpdhaaKF3S2
set_option linter.unusedSimpArgs false
set_option linter.unusedVariables false
namespace Go.Proofs.Try
open Go.Ab Go.RowKit
def out27 : Bool → ATy [.str,.calls,.ints,.ints] → AV × List (TypeId × Dat) × Prop := fun _ (s,h,rows,o,_) => (.sl (.intss (ordersF s h (bitF rows) (h.length - o.length) o)),[],(isObject s = true) ∧ (validHistory h = true) ∧ (rows = rowsOf h.length (bitF rows)) ∧ (headO h o))
def mu27 : ATy [.str,.calls,.ints,.ints] → Nat := fun (s,h,rows,o,_) => h.length - o.length
def fs27 : FnS := fnS [.o,.s .calls,.s .ints,.s .ints] [.str,.calls,.ints,.ints] out27
abbrev fsN27 (n : Nat) : FnS := fnS [.o,.s .calls,.s .ints,.s .ints] [.str,.calls,.ints,.ints] (lim out27 mu27 n)
theorem ent27 : Entr prog 27 := ⟨_,func27,rfl,by decide⟩
abbrev T27 (nn : Nat) : Tab := lk [(27,fsN27 nn),(49,fs49),(50,fs50),(51,fs51)]
theorem tab27 {nn : Nat} (ih : FnOK prog 27 (fsN27 nn)) : TabOK prog (T27 nn) := (TabOK.cons ih ent27 (TabOK.cons ok49 ent49 (TabOK.cons ok50 ent50 (TabOK.cons ok51 ent51 TabOK.nil))))
set_option maxRecDepth 100000 in
set_option maxHeartbeats 1000000 in
theorem okS27 (nn : Nat) (ih : FnOK prog 27 (fsN27 nn)) : FnOK prog 27 (fsN27 (nn + 1)) := by
 refine FnOK.mk cok func27 rfl rfl rfl ?_
 rintro fl ⟨(s : ByteArray),(h : List CallD),(rows : List Int),(o : List Int),_⟩ hpre F hnt0 _
 have hnt : F.nt = 78 := hnt0.trans ntmps27
 obtain ⟨hpre,hmu⟩ := hpre
 replace hmu : h.length - o.length < nn + 1 := hmu
 replace hpre : (isObject s = true) ∧ (validHistory h = true) ∧ (rows = rowsOf h.length (bitF rows)) ∧ (headO h o) := hpre
 obtain ⟨hs,hv,hr,ho⟩ := hpre
 refine W.to (⟨[(0,.v (.string s)),(1,.sl (.calls h)),(2,.sl (.ints rows)),(3,.sl (.ints o))],[],[999]⟩) rfl ?_
 have hv6 := (valid_iff.1 hv).1
 have hol := ho.2.2
 have hrl : rows.length = h.length := by rw [hr,rowsOf_len]
 have hio := ho.1
 refine W.lenOf 1 (.calls h) (by kernel_rfl) ?_
 intro hl_h; replace hl_h : List.length h ≤ 9223372036854775807 := hl_h
 refine W.lenOf 2 (.ints rows) (by kernel_rfl) ?_
 intro hl_rows; replace hl_rows : List.length rows ≤ 9223372036854775807 := hl_rows
 refine W.lenOf 3 (.ints o) (by kernel_rfl) ?_
 intro hl_o; replace hl_o : List.length o ≤ 9223372036854775807 := hl_o
 refine W.K cok (tab27 ih) hnt [] [0,1,2,3] (⟨[(0,.v (.string s)),(1,.sl (.calls h)),(2,.sl (.ints rows)),(3,.sl (.ints o))],[],[999]⟩)
  (True ∧ True) (by kernel_rfl)
  ⟨tt,tt⟩ ?_
 refine W.seq ?_
 refine W.K cok (tab27 ih) hnt [] [0,1,2,3,17] (⟨[(0,.v (.string s)),(1,.sl (.calls h)),(2,.sl (.ints rows)),(3,.sl (.ints o)),(17,.b (!(runsB s h o)))],[],[999]⟩)
  (True ∧ True ∧ True ∧ (True ∧ (True ∧ True ∧ True ∧ True) ∧ (isObject s = true) ∧ (validHistory h = true) ∧ (inH h o) ∧ (o.length ≤ 6)) ∧ True ∧ True) (by kernel_rfl)
  ⟨tt,tt,tt,⟨tt,⟨tt,tt,tt,tt⟩,(by exact hs),(by exact hv),(by exact ho.1),(by omega)⟩,tt,tt⟩ ?_
 refine W.if' (!(runsB s h o)) (.b (!(runsB s h o))) (by kernel_rfl) rfl trivial ?_ ?_
 ·intro h17
  refine W.K cok (tab27 ih) hnt [] [8] (⟨[(8,.sl (.intss ([] : List (List Int))))],[],[18,999]⟩)
   (True ∧ True ∧ True) (by kernel_rfl)
   ⟨tt,tt,tt⟩ ?_
  refine W.ret (thenQ_ret ?_)
  exact endQ_ret (.sl (.intss ([] : List (List Int)))) (by kernel_rfl) (@cast ((.intss ([] : List (List Int)) : Dat) = .intss (ordersF s h (bitF rows) (h.length - o.length) o)) _ (by kernel_rfl) (congrArg Dat.intss (by exact (orders_none (by simpa using h17)).symm)))
 ·intro n17
  refine W.skip (thenQ_normal ?_)
  refine W.seq ?_
  refine W.K cok (tab27 ih) hnt [] [0,1,2,3,23] (⟨[(0,.v (.string s)),(1,.sl (.calls h)),(2,.sl (.ints rows)),(3,.sl (.ints o)),(23,.b (decide ((o.length : Int) = (h.length : Int))))],[],[999]⟩)
   (True ∧ True ∧ True ∧ True ∧ (True ∧ True ∧ True) ∧ True) (by kernel_rfl)
   ⟨tt,tt,tt,tt,⟨tt,tt,tt⟩,tt⟩ ?_
  refine W.ifP ((o.length : Int) = (h.length : Int)) (.b (decide ((o.length : Int) = (h.length : Int)))) (by kernel_rfl) rfl trivial ?_ ?_
  ·intro h23
   refine W.K cok (tab27 ih) hnt [24] [8] (⟨[(8,.sl (.intss ([o])))],[],[27,26,24,999]⟩)
    (True ∧ True ∧ ((True ∧ ((List.length ([] : List Int)) = (List.length ([] : List Int)))) ∧ True ∧ (((List.length ([] : List Int)) + o.length) * 8 ≤ 140737488355328)) ∧ (True ∧ True) ∧ True ∧ True) (by kernel_rfl)
    ⟨tt,tt,⟨⟨tt,rfl⟩,tt,(by first | omega | (simp; done) | (simp; omega) | (have h9 := upto_len6 (s := s) (f := bitF rows) (m := h.length - o.length - 1) (k := k) hv6 (by omega) (by omega) o; have h8 := rest_len (s := s) (f := bitF rows) (m := h.length - (o ++ [((k : Nat) : Int)]).length) hv6 (by omega) (o ++ [((k : Nat) : Int)]); (try rw [← hou] at h9); (try simp only [List.length_append,List.length_cons,List.length_nil] at *); omega))⟩,⟨tt,tt⟩,tt,tt⟩ ?_
   refine W.ret (thenQ_ret ?_)
   exact endQ_ret (.sl (.intss ([o]))) (by kernel_rfl) (@cast ((.intss ([o]) : Dat) = .intss (ordersF s h (bitF rows) (h.length - o.length) o)) _ (by kernel_rfl) (congrArg Dat.intss (by exact explain_one (by simpa using n17) h23)))
  ·intro n23
   refine W.skip (thenQ_normal ?_)
   refine W.K cok (tab27 ih) hnt [28] [0,1,2,3,9] (⟨[(0,.v (.string s)),(1,.sl (.calls h)),(2,.sl (.ints rows)),(3,.sl (.ints o)),(9,.own 28 (List.length ([] : List (List Int))))],[(28,⟨29,.row (.intss ([] : List (List Int)))⟩)],[28,999]⟩)
    (True ∧ True ∧ True) (by kernel_rfl)
    ⟨tt,tt,tt⟩ ?_
   refine W.K cok (tab27 ih) hnt [] [0,1,2,3,9,10] (⟨[(0,.v (.string s)),(1,.sl (.calls h)),(2,.sl (.ints rows)),(3,.sl (.ints o)),(9,.own 28 (List.length ([] : List (List Int)))),(10,.i (0 : Int))],[(28,⟨29,.row (.intss ([] : List (List Int)))⟩)],[28,999]⟩)
    (True ∧ True) (by kernel_rfl)
    ⟨tt,tt⟩ ?_
   refine W.seq ?_
   refine W.K cok (tab27 ih) hnt [] [0,1,2,3,9,10,11] (⟨[(0,.v (.string s)),(1,.sl (.calls h)),(2,.sl (.ints rows)),(3,.sl (.ints o)),(9,.own 28 (List.length ([] : List (List Int)))),(10,.i (0 : Int)),(11,.i (0 : Int))],[(28,⟨29,.row (.intss ([] : List (List Int)))⟩)],[28,999]⟩)
    (True ∧ True) (by kernel_rfl)
    ⟨tt,tt⟩ ?_
   refine W.block ?_
   refine W.loop (ι := Nat × Int) (fun (x : Nat × Int) => match x with | (j,d) => (⟨[(0,.v (.string s)),(1,.sl (.calls h)),(2,.sl (.ints rows)),(3,.sl (.ints o)),(9,.own 28 (List.length ([] : List (List Int)))),(10,.i d),(11,.i ((j : Nat) : Int))],[(28,⟨29,.row (.intss ([] : List (List Int)))⟩)],[28,999]⟩ : St))
    (fun (x : Nat × Int) => match x with | (j,d) => (j ≤ o.length) ∧ (d = mask h.length (doneF o j)))
    (fun (x : Nat × Int) => match x with | (j,d) => (o.length - j : Nat)) (0,(0 : Int)) ?_ ?_ ?_
   ·exact (show (0 ≤ o.length) ∧ ((0 : Int) = mask h.length (doneF o 0)) from ⟨(by first | assumption | omega | rfl | (intro _ hjj; omega) | (simp; done) | (simp; omega)),(by exact (done_zero o _).symm)⟩)
   ·exact Sub.of [] (@cast (((((.string s) : Value) = (.string s)) ∧ (((.calls h : Dat) = .calls h) ∧ (((.ints rows : Dat) = .ints rows) ∧ (((.ints o : Dat) = .ints o) ∧ ((((28 : Nat) = 28) ∧ (((List.length ([] : List (List Int))) = (List.length ([] : List (List Int)))) ∧ ((28 : Nat) ∈ ([28,999] : List Nat)))) ∧ (((.int .i64 (0 : Int) : Value) = .int .i64 (0 : Int)) ∧ (((.int .i64 (0 : Int) : Value) = .int .i64 ((0 : Nat) : Int)) ∧ True))))))) ∧ (((((29 : Nat) = 29) ∧ (((.intss ([] : List (List Int)) : Dat) = .intss ([] : List (List Int))) ∧ ((28 : Nat) ∈ ([28,999] : List Nat)))) ∧ True) ∧ ((true = true) ∧ (true = true)))) _ (by kernel_rfl) ⟨⟨rfl,rfl,rfl,rfl,⟨rfl,rfl,(by decide)⟩,rfl,(congrArg (Value.int .i64) (by first | rfl | omega | assumption | simp | simp_all)),tt⟩,⟨⟨rfl,rfl,(by decide)⟩,tt⟩,rfl,rfl⟩)
   ·rintro ⟨j,d⟩ hC0
    have hC : (j ≤ o.length) ∧ (d = mask h.length (doneF o j)) := hC0
    clear hC0
    obtain ⟨hj,hd⟩ := hC
    refine W.to (⟨[(0,.v (.string s)),(1,.sl (.calls h)),(2,.sl (.ints rows)),(3,.sl (.ints o)),(9,.own 28 (List.length ([] : List (List Int)))),(10,.i d),(11,.i ((j : Nat) : Int))],[(28,⟨29,.row (.intss ([] : List (List Int)))⟩)],[28,999]⟩) rfl ?_
    refine W.seq ?_
    refine W.K cok (tab27 ih) hnt [] [0,1,2,3,9,10,11,32] (⟨[(0,.v (.string s)),(1,.sl (.calls h)),(2,.sl (.ints rows)),(3,.sl (.ints o)),(9,.own 28 (List.length ([] : List (List Int)))),(10,.i d),(11,.i ((j : Nat) : Int)),(32,.b (decide (((j : Nat) : Int) < (o.length : Int))))],[(28,⟨29,.row (.intss ([] : List (List Int)))⟩)],[28,999]⟩)
     (True ∧ True ∧ True ∧ (True ∧ True ∧ True) ∧ True) (by kernel_rfl)
     ⟨tt,tt,tt,⟨tt,tt,tt⟩,tt⟩ ?_
    refine W.ifP (((j : Nat) : Int) < (o.length : Int)) (.b (decide (((j : Nat) : Int) < (o.length : Int)))) (by kernel_rfl) rfl trivial ?_ ?_
    ·intro h32
     refine W.skip (thenQ_normal ?_)
     refine W.seq ?_
     refine W.block ?_
     refine W.L cok (tab27 ih) hnt [] (⟨[(0,.v (.string s)),(1,.sl (.calls h)),(2,.sl (.ints rows)),(3,.sl (.ints o)),(9,.own 28 (List.length ([] : List (List Int)))),(10,.i (d + (power (o.getD j 0)))),(11,.i ((j : Nat) : Int)),(32,.b (decide (((j : Nat) : Int) < (o.length : Int)))),(35,.i d),(36,.sl (.ints o)),(37,.i ((j : Nat) : Int)),(38,.ep [.i (o.getD j 0)]),(39,.i (o.getD j 0)),(40,.i (power (o.getD j 0))),(41,.i (d + (power (o.getD j 0))))],[(28,⟨29,.row (.intss ([] : List (List Int)))⟩)],[28,999]⟩)
      (True ∧ True ∧ True ∧ (True ∧ True ∧ (0 ≤ ((j : Nat) : Int)) ∧ (((j : Nat) : Int) < (o.length : Int))) ∧ True ∧ (True ∧ (True ∧ True) ∧ ((o.getD j 0) ≤ 60)) ∧ (True ∧ True ∧ (Fits .i64 (d + (power (o.getD j 0))))) ∧ True ∧ True) (by kernel_rfl)
      ⟨tt,tt,tt,⟨tt,tt,(by omega),(by omega)⟩,tt,⟨tt,⟨tt,tt⟩,(by have := hio j (by omega); omega)⟩,⟨tt,tt,(by rw [hd,done_next ho.2.1 (by omega) (by have := hio j (by omega); omega) (by have := hio j (by omega); omega)]; have := mask_bnd h.length (doneF o (j + 1)) (by omega); exact fits_i64 (by omega) (by omega))⟩,tt,tt⟩ ?_
     refine blockQ_normal (thenQ_normal ?_)
     refine W.L cok (tab27 ih) hnt [] (⟨[(0,.v (.string s)),(1,.sl (.calls h)),(2,.sl (.ints rows)),(3,.sl (.ints o)),(9,.own 28 (List.length ([] : List (List Int)))),(10,.i (d + (power (o.getD j 0)))),(11,.i (((j + 1) : Nat) : Int)),(32,.b (decide (((j : Nat) : Int) < (o.length : Int)))),(33,.i ((j : Nat) : Int)),(34,.i (((j + 1) : Nat) : Int)),(35,.i d),(36,.sl (.ints o)),(37,.i ((j : Nat) : Int)),(38,.ep [.i (o.getD j 0)]),(39,.i (o.getD j 0)),(40,.i (power (o.getD j 0))),(41,.i (d + (power (o.getD j 0))))],[(28,⟨29,.row (.intss ([] : List (List Int)))⟩)],[28,999]⟩)
      (True ∧ (True ∧ True ∧ (Fits .i64 (((j + 1) : Nat) : Int))) ∧ True ∧ True) (by kernel_rfl)
      ⟨tt,⟨tt,tt,(by exact fits_i64 (by omega) (by omega))⟩,tt,tt⟩ ?_
     refine thenQ_normal ?_
     refine ⟨((j + 1),(d + (power (o.getD j 0)))),(show ((j + 1) ≤ o.length) ∧ ((d + (power (o.getD j 0))) = mask h.length (doneF o (j + 1))) from ⟨(by first | assumption | omega | rfl | (intro _ hjj; omega) | (simp; done) | (simp; omega)),(by rw [hd]; exact done_next ho.2.1 (by omega) (by have := hio j (by omega); omega) (by have := hio j (by omega); omega))⟩),(show o.length - (j + 1) < o.length - j from (by first | omega | (simp_all; omega))),?_⟩
     exact Sub.of [] (@cast (((((.string s) : Value) = (.string s)) ∧ (((.calls h : Dat) = .calls h) ∧ (((.ints rows : Dat) = .ints rows) ∧ (((.ints o : Dat) = .ints o) ∧ ((((28 : Nat) = 28) ∧ (((List.length ([] : List (List Int))) = (List.length ([] : List (List Int)))) ∧ ((28 : Nat) ∈ ([28,999] : List Nat)))) ∧ (((.int .i64 (d + (power (o.getD j 0))) : Value) = .int .i64 (d + (power (o.getD j 0)))) ∧ (((.int .i64 (((j + 1) : Nat) : Int) : Value) = .int .i64 (((j + 1) : Nat) : Int)) ∧ True))))))) ∧ (((((29 : Nat) = 29) ∧ (((.intss ([] : List (List Int)) : Dat) = .intss ([] : List (List Int))) ∧ ((28 : Nat) ∈ ([28,999] : List Nat)))) ∧ True) ∧ ((true = true) ∧ (true = true)))) _ (by kernel_rfl) ⟨⟨rfl,rfl,rfl,rfl,⟨rfl,rfl,(by decide)⟩,rfl,rfl,tt⟩,⟨⟨rfl,rfl,(by decide)⟩,tt⟩,rfl,rfl⟩)
    ·intro n32
     refine W.exit (thenQ_exit (thenQ_exit (blockQ_hit ?_)))
     refine thenQ_normal ?_
     refine W.seq ?_
     refine W.K cok (tab27 ih) hnt [] [0,1,2,3,9,10,12] (⟨[(0,.v (.string s)),(1,.sl (.calls h)),(2,.sl (.ints rows)),(3,.sl (.ints o)),(9,.own 28 (List.length ([] : List (List Int)))),(10,.i d),(12,.i (0 : Int))],[(28,⟨29,.row (.intss ([] : List (List Int)))⟩)],[28,999]⟩)
      (True ∧ True) (by kernel_rfl)
      ⟨tt,tt⟩ ?_
     refine W.block ?_
     refine W.loop (ι := Nat × (List (List Int))) (fun (x : Nat × (List (List Int))) => match x with | (k,ou) => (⟨[(0,.v (.string s)),(1,.sl (.calls h)),(2,.sl (.ints rows)),(3,.sl (.ints o)),(9,.own 28 ou.length),(10,.i d),(12,.i ((k : Nat) : Int))],[(28,⟨29,.row (.intss ou)⟩)],[28,999]⟩ : St))
      (fun (x : Nat × (List (List Int))) => match x with | (k,ou) => (k ≤ h.length) ∧ (ou = ordersUp s h (bitF rows) (h.length - o.length - 1) o k))
      (fun (x : Nat × (List (List Int))) => match x with | (k,ou) => (h.length - k : Nat)) (0,([] : List (List Int))) ?_ ?_ ?_
     ·exact (show (0 ≤ h.length) ∧ (([] : List (List Int)) = ordersUp s h (bitF rows) (h.length - o.length - 1) o 0) from ⟨(by first | assumption | omega | rfl | (intro _ hjj; omega) | (simp; done) | (simp; omega)),(by rfl)⟩)
     ·exact Sub.of [] (@cast (((((.string s) : Value) = (.string s)) ∧ (((.calls h : Dat) = .calls h) ∧ (((.ints rows : Dat) = .ints rows) ∧ (((.ints o : Dat) = .ints o) ∧ ((((28 : Nat) = 28) ∧ (((List.length ([] : List (List Int))) = (List.length ([] : List (List Int)))) ∧ ((28 : Nat) ∈ ([28,999] : List Nat)))) ∧ (((.int .i64 d : Value) = .int .i64 d) ∧ (((.int .i64 (0 : Int) : Value) = .int .i64 ((0 : Nat) : Int)) ∧ True))))))) ∧ (((((29 : Nat) = 29) ∧ (((.intss ([] : List (List Int)) : Dat) = .intss ([] : List (List Int))) ∧ ((28 : Nat) ∈ ([28,999] : List Nat)))) ∧ True) ∧ ((true = true) ∧ (true = true)))) _ (by kernel_rfl) ⟨⟨rfl,rfl,rfl,rfl,⟨rfl,rfl,(by decide)⟩,rfl,(congrArg (Value.int .i64) (by first | rfl | omega | assumption | simp | simp_all)),tt⟩,⟨⟨rfl,rfl,(by decide)⟩,tt⟩,rfl,rfl⟩)
     ·rintro ⟨k,ou⟩ hC0
      have hC : (k ≤ h.length) ∧ (ou = ordersUp s h (bitF rows) (h.length - o.length - 1) o k) := hC0
      clear hC0
      obtain ⟨hk,hou⟩ := hC
      refine W.to (⟨[(0,.v (.string s)),(1,.sl (.calls h)),(2,.sl (.ints rows)),(3,.sl (.ints o)),(9,.own 28 ou.length),(10,.i d),(12,.i ((k : Nat) : Int))],[(28,⟨29,.row (.intss ou)⟩)],[28,999]⟩) rfl ?_
      have hdd : d = mask h.length (hasN o) := by rw [hd]; exact done_all (by omega)
      refine W.seq ?_
      refine W.K cok (tab27 ih) hnt [] [0,1,2,3,9,10,12,45] (⟨[(0,.v (.string s)),(1,.sl (.calls h)),(2,.sl (.ints rows)),(3,.sl (.ints o)),(9,.own 28 ou.length),(10,.i d),(12,.i ((k : Nat) : Int)),(45,.b (decide (((k : Nat) : Int) < (h.length : Int))))],[(28,⟨29,.row (.intss ou)⟩)],[28,999]⟩)
       (True ∧ True ∧ True ∧ (True ∧ True ∧ True) ∧ True) (by kernel_rfl)
       ⟨tt,tt,tt,⟨tt,tt,tt⟩,tt⟩ ?_
      refine W.ifP (((k : Nat) : Int) < (h.length : Int)) (.b (decide (((k : Nat) : Int) < (h.length : Int)))) (by kernel_rfl) rfl trivial ?_ ?_
      ·intro h45
       refine W.skip (thenQ_normal ?_)
       refine W.seq ?_
       refine W.block ?_
       refine W.KA cok (tab27 ih) hnt [] [0,1,2,3,9,10,12,64] (⟨[(0,.v (.string s)),(1,.sl (.calls h)),(2,.sl (.ints rows)),(3,.sl (.ints o)),(9,.own 28 ou.length),(10,.i d),(12,.i ((k : Nat) : Int)),(64,.b ((decide ((bitOf d ((k : Nat) : Int)) = (0 : Int))) && (decide ((bitsI .and .i64 (rows.getD k 0) d) = (rows.getD k 0)))))],[(28,⟨29,.row (.intss ou)⟩)],[28,999]⟩)
        (True ∧ True ∧ (True ∧ (True ∧ True ∧ True) ∧ (((k : Nat) : Int) ≤ 60) ∧ 0 ≤ d ∧ d ≤ 4611686018427387904) ∧ (True ∧ True ∧ True) ∧ True ∧ ((decide ((bitOf d ((k : Nat) : Int)) = (0 : Int))) = true → True) ∧ ((decide ((bitOf d ((k : Nat) : Int)) = (0 : Int))) = true → True) ∧ ((decide ((bitOf d ((k : Nat) : Int)) = (0 : Int))) = true → ((((decide ((bitOf d ((k : Nat) : Int)) = (0 : Int))) = true) ∧ True) ∧ (((decide ((bitOf d ((k : Nat) : Int)) = (0 : Int))) = true) ∧ True) ∧ (0 ≤ ((k : Nat) : Int)) ∧ (((k : Nat) : Int) < (rows.length : Int)))) ∧ ((decide ((bitOf d ((k : Nat) : Int)) = (0 : Int))) = true → (((decide ((bitOf d ((k : Nat) : Int)) = (0 : Int))) = true) ∧ True)) ∧ ((decide ((bitOf d ((k : Nat) : Int)) = (0 : Int))) = true → True) ∧ ((decide ((bitOf d ((k : Nat) : Int)) = (0 : Int))) = true → ((((decide ((bitOf d ((k : Nat) : Int)) = (0 : Int))) = true) ∧ True) ∧ (((decide ((bitOf d ((k : Nat) : Int)) = (0 : Int))) = true) ∧ True) ∧ True)) ∧ ((decide ((bitOf d ((k : Nat) : Int)) = (0 : Int))) = true → True) ∧ ((decide ((bitOf d ((k : Nat) : Int)) = (0 : Int))) = true → True) ∧ ((decide ((bitOf d ((k : Nat) : Int)) = (0 : Int))) = true → ((((decide ((bitOf d ((k : Nat) : Int)) = (0 : Int))) = true) ∧ True) ∧ (((decide ((bitOf d ((k : Nat) : Int)) = (0 : Int))) = true) ∧ True) ∧ (0 ≤ ((k : Nat) : Int)) ∧ (((k : Nat) : Int) < (rows.length : Int)))) ∧ ((decide ((bitOf d ((k : Nat) : Int)) = (0 : Int))) = true → (((decide ((bitOf d ((k : Nat) : Int)) = (0 : Int))) = true) ∧ True)) ∧ ((decide ((bitOf d ((k : Nat) : Int)) = (0 : Int))) = true → ((((decide ((bitOf d ((k : Nat) : Int)) = (0 : Int))) = true) ∧ True) ∧ (((decide ((bitOf d ((k : Nat) : Int)) = (0 : Int))) = true) ∧ True) ∧ True)) ∧ (True ∧ ((decide ((bitOf d ((k : Nat) : Int)) = (0 : Int))) = true → ((decide ((bitOf d ((k : Nat) : Int)) = (0 : Int))) = true) ∧ True) ∧ ((decide ((bitOf d ((k : Nat) : Int)) = (0 : Int))) = false → True)) ∧ True) (by kernel_rfl) (by kernel_rfl)
        ⟨tt,tt,⟨tt,⟨tt,tt,tt⟩,(by omega),(by rw [hd]; have := mask_bnd h.length (doneF o j) (by omega); omega)⟩,⟨tt,tt,tt⟩,tt,(fun _ => trivial),(fun _ => trivial),(fun hG => ⟨⟨hG,tt⟩,⟨hG,tt⟩,(by have hg0 : (bitOf d ((k : Nat) : Int)) = (0 : Int) := of_decide_eq_true hG; omega),(by have hg0 : (bitOf d ((k : Nat) : Int)) = (0 : Int) := of_decide_eq_true hG; omega)⟩),(fun hG => ⟨hG,tt⟩),(fun _ => trivial),(fun hG => ⟨⟨hG,tt⟩,⟨hG,tt⟩,tt⟩),(fun _ => trivial),(fun _ => trivial),(fun hG => ⟨⟨hG,tt⟩,⟨hG,tt⟩,(by have hg0 : (bitOf d ((k : Nat) : Int)) = (0 : Int) := of_decide_eq_true hG; omega),(by have hg0 : (bitOf d ((k : Nat) : Int)) = (0 : Int) := of_decide_eq_true hG; omega)⟩),(fun hG => ⟨hG,tt⟩),(fun hG => ⟨⟨hG,tt⟩,⟨hG,tt⟩,tt⟩),⟨tt,(fun hp => ⟨hp,tt⟩),(fun _ => trivial)⟩,tt⟩ ?_
       refine W.if' ((decide ((bitOf d ((k : Nat) : Int)) = (0 : Int))) && (decide ((bitsI .and .i64 (rows.getD k 0) d) = (rows.getD k 0)))) (.b ((decide ((bitOf d ((k : Nat) : Int)) = (0 : Int))) && (decide ((bitsI .and .i64 (rows.getD k 0) d) = (rows.getD k 0))))) (by kernel_rfl) rfl trivial ?_ ?_
       ·intro h64
        have h64_0 : (bitOf d ((k : Nat) : Int)) = (0 : Int) := of_decide_eq_true (and_l h64)
        have h64_1 : (bitsI .and .i64 (rows.getD k 0) d) = (rows.getD k 0) := of_decide_eq_true (and_r h64)
        have hfk : freeB (bitF rows) h.length o k = true := free_spec (by omega) (by omega) (by rw [← hr,← hdd]; exact h64)
        refine W.L cok (tab27 ih) hnt [69,71,76] (⟨[(0,.v (.string s)),(1,.sl (.calls h)),(2,.sl (.ints rows)),(3,.sl (.ints o)),(9,.own 76 (List.length (ou ++ (ordersF s h (bitF rows) (h.length - (o ++ ([((k : Nat) : Int)])).length) (o ++ ([((k : Nat) : Int)])))))),(10,.i d),(12,.i ((k : Nat) : Int)),(64,.b ((decide ((bitOf d ((k : Nat) : Int)) = (0 : Int))) && (decide ((bitsI .and .i64 (rows.getD k 0) d) = (rows.getD k 0))))),(65,.own 28 ou.length),(66,.v (.string s)),(67,.sl (.calls h)),(68,.sl (.ints rows)),(69,.own 69 (List.length ([] : List Int))),(70,.sl (.ints o)),(71,.own 71 o.length),(72,.i ((k : Nat) : Int)),(73,.sl (.ints ([((k : Nat) : Int)]))),(74,.sl (.ints (o ++ ([((k : Nat) : Int)])))),(75,.sl (.intss (ordersF s h (bitF rows) (h.length - (o ++ ([((k : Nat) : Int)])).length) (o ++ ([((k : Nat) : Int)]))))),(76,.own 76 (List.length (ou ++ (ordersF s h (bitF rows) (h.length - (o ++ ([((k : Nat) : Int)])).length) (o ++ ([((k : Nat) : Int)]))))))],[(76,⟨29,.row (.intss (ou ++ (ordersF s h (bitF rows) (h.length - (o ++ ([((k : Nat) : Int)])).length) (o ++ ([((k : Nat) : Int)])))))⟩)],[76,74,73,71,69,28,999]⟩)
         (True ∧ True ∧ True ∧ True ∧ True ∧ True ∧ ((True ∧ ((List.length ([] : List Int)) = (List.length ([] : List Int)))) ∧ True ∧ (((List.length ([] : List Int)) + o.length) * 8 ≤ 140737488355328)) ∧ True ∧ (True ∧ True) ∧ ((True ∧ (o.length = o.length)) ∧ True ∧ ((o.length + (List.length ([((k : Nat) : Int)]))) * 8 ≤ 140737488355328)) ∧ (True ∧ (True ∧ True ∧ True ∧ True ∧ True) ∧ ((isObject s = true) ∧ (validHistory h = true) ∧ (rows = rowsOf h.length (bitF rows)) ∧ (headO h (o ++ ([((k : Nat) : Int)])))) ∧ (h.length - (o ++ ([((k : Nat) : Int)])).length < nn)) ∧ ((True ∧ (ou.length = ou.length)) ∧ True ∧ ((ou.length + (List.length (ordersF s h (bitF rows) (h.length - (o ++ ([((k : Nat) : Int)])).length) (o ++ ([((k : Nat) : Int)]))))) * 24 ≤ 140737488355328)) ∧ True ∧ True) (by kernel_rfl)
         ⟨tt,tt,tt,tt,tt,tt,⟨⟨tt,rfl⟩,tt,(by first | omega | (simp; done) | (simp; omega) | (have h9 := upto_len6 (s := s) (f := bitF rows) (m := h.length - o.length - 1) (k := k) hv6 (by omega) (by omega) o; have h8 := rest_len (s := s) (f := bitF rows) (m := h.length - (o ++ [((k : Nat) : Int)]).length) hv6 (by omega) (o ++ [((k : Nat) : Int)]); (try rw [← hou] at h9); (try simp only [List.length_append,List.length_cons,List.length_nil] at *); omega))⟩,tt,⟨tt,tt⟩,⟨⟨tt,rfl⟩,tt,(by first | omega | (simp; done) | (simp; omega) | (have h9 := upto_len6 (s := s) (f := bitF rows) (m := h.length - o.length - 1) (k := k) hv6 (by omega) (by omega) o; have h8 := rest_len (s := s) (f := bitF rows) (m := h.length - (o ++ [((k : Nat) : Int)]).length) hv6 (by omega) (o ++ [((k : Nat) : Int)]); (try rw [← hou] at h9); (try simp only [List.length_append,List.length_cons,List.length_nil] at *); omega))⟩,⟨tt,⟨tt,tt,tt,tt,tt⟩,⟨(by exact hs),(by exact hv),(by exact hr),(by exact headO_snoc ho (by omega) (free_has hfk) (by omega))⟩,(by (try simp only [List.length_append,List.length_cons,List.length_nil]); omega)⟩,⟨⟨tt,rfl⟩,tt,(by first | omega | (simp; done) | (simp; omega) | (have h9 := upto_len6 (s := s) (f := bitF rows) (m := h.length - o.length - 1) (k := k) hv6 (by omega) (by omega) o; have h8 := rest_len (s := s) (f := bitF rows) (m := h.length - (o ++ [((k : Nat) : Int)]).length) hv6 (by omega) (o ++ [((k : Nat) : Int)]); (try rw [← hou] at h9); (try simp only [List.length_append,List.length_cons,List.length_nil] at *); omega))⟩,tt,tt⟩ ?_
        refine blockQ_normal (thenQ_normal ?_)
        refine W.L cok (tab27 ih) hnt [] (⟨[(0,.v (.string s)),(1,.sl (.calls h)),(2,.sl (.ints rows)),(3,.sl (.ints o)),(9,.own 76 (List.length (ou ++ (ordersF s h (bitF rows) (h.length - (o ++ ([((k : Nat) : Int)])).length) (o ++ ([((k : Nat) : Int)])))))),(10,.i d),(12,.i (((k + 1) : Nat) : Int)),(46,.i ((k : Nat) : Int)),(47,.i (((k + 1) : Nat) : Int)),(64,.b ((decide ((bitOf d ((k : Nat) : Int)) = (0 : Int))) && (decide ((bitsI .and .i64 (rows.getD k 0) d) = (rows.getD k 0))))),(65,.own 28 ou.length),(66,.v (.string s)),(67,.sl (.calls h)),(68,.sl (.ints rows)),(69,.own 69 (List.length ([] : List Int))),(70,.sl (.ints o)),(71,.own 71 o.length),(72,.i ((k : Nat) : Int)),(73,.sl (.ints ([((k : Nat) : Int)]))),(74,.sl (.ints (o ++ ([((k : Nat) : Int)])))),(75,.sl (.intss (ordersF s h (bitF rows) (h.length - (o ++ ([((k : Nat) : Int)])).length) (o ++ ([((k : Nat) : Int)]))))),(76,.own 76 (List.length (ou ++ (ordersF s h (bitF rows) (h.length - (o ++ ([((k : Nat) : Int)])).length) (o ++ ([((k : Nat) : Int)]))))))],[(76,⟨29,.row (.intss (ou ++ (ordersF s h (bitF rows) (h.length - (o ++ ([((k : Nat) : Int)])).length) (o ++ ([((k : Nat) : Int)])))))⟩)],[76,74,73,71,69,28,999]⟩)
         (True ∧ (True ∧ True ∧ (Fits .i64 (((k + 1) : Nat) : Int))) ∧ True ∧ True) (by kernel_rfl)
         ⟨tt,⟨tt,tt,(by exact fits_i64 (by omega) (by omega))⟩,tt,tt⟩ ?_
        refine thenQ_normal ?_
        refine ⟨((k + 1),(ou ++ (ordersF s h (bitF rows) (h.length - (o ++ ([((k : Nat) : Int)])).length) (o ++ ([((k : Nat) : Int)]))))),(show ((k + 1) ≤ h.length) ∧ ((ou ++ (ordersF s h (bitF rows) (h.length - (o ++ ([((k : Nat) : Int)])).length) (o ++ ([((k : Nat) : Int)])))) = ordersUp s h (bitF rows) (h.length - o.length - 1) o (k + 1)) from ⟨(by first | assumption | omega | rfl | (intro _ hjj; omega) | (simp; done) | (simp; omega)),(by first | (exact explain_step hfk hou) | (rw [up_no hfk]; exact hou))⟩),(show h.length - (k + 1) < h.length - k from (by first | omega | (simp_all; omega))),?_⟩
        exact Sub.of [(28,76)] (@cast (((((.string s) : Value) = (.string s)) ∧ (((.calls h : Dat) = .calls h) ∧ (((.ints rows : Dat) = .ints rows) ∧ (((.ints o : Dat) = .ints o) ∧ ((((76 : Nat) = 76) ∧ (((List.length (ou ++ (ordersF s h (bitF rows) (h.length - (o ++ ([((k : Nat) : Int)])).length) (o ++ ([((k : Nat) : Int)]))))) = (List.length (ou ++ (ordersF s h (bitF rows) (h.length - (o ++ ([((k : Nat) : Int)])).length) (o ++ ([((k : Nat) : Int)])))))) ∧ ((28 : Nat) ∈ ([28,999] : List Nat)))) ∧ (((.int .i64 d : Value) = .int .i64 d) ∧ (((.int .i64 (((k + 1) : Nat) : Int) : Value) = .int .i64 (((k + 1) : Nat) : Int)) ∧ True))))))) ∧ (((((29 : Nat) = 29) ∧ (((.intss (ou ++ (ordersF s h (bitF rows) (h.length - (o ++ ([((k : Nat) : Int)])).length) (o ++ ([((k : Nat) : Int)])))) : Dat) = .intss (ou ++ (ordersF s h (bitF rows) (h.length - (o ++ ([((k : Nat) : Int)])).length) (o ++ ([((k : Nat) : Int)]))))) ∧ ((28 : Nat) ∈ ([28,999] : List Nat)))) ∧ True) ∧ ((true = true) ∧ (true = true)))) _ (by kernel_rfl) ⟨⟨rfl,rfl,rfl,rfl,⟨rfl,rfl,(by decide)⟩,rfl,rfl,tt⟩,⟨⟨rfl,rfl,(by decide)⟩,tt⟩,rfl,rfl⟩)
       ·intro n64
        have hfk : freeB (bitF rows) h.length o k = false := free_spec (by omega) (by omega) (by rw [← hr,← hdd]; exact n64)
        refine W.skip (blockQ_normal (thenQ_normal ?_))
        refine W.L cok (tab27 ih) hnt [] (⟨[(0,.v (.string s)),(1,.sl (.calls h)),(2,.sl (.ints rows)),(3,.sl (.ints o)),(9,.own 28 ou.length),(10,.i d),(12,.i (((k + 1) : Nat) : Int)),(46,.i ((k : Nat) : Int)),(47,.i (((k + 1) : Nat) : Int)),(64,.b ((decide ((bitOf d ((k : Nat) : Int)) = (0 : Int))) && (decide ((bitsI .and .i64 (rows.getD k 0) d) = (rows.getD k 0)))))],[(28,⟨29,.row (.intss ou)⟩)],[28,999]⟩)
         (True ∧ (True ∧ True ∧ (Fits .i64 (((k + 1) : Nat) : Int))) ∧ True ∧ True) (by kernel_rfl)
         ⟨tt,⟨tt,tt,(by exact fits_i64 (by omega) (by omega))⟩,tt,tt⟩ ?_
        refine thenQ_normal ?_
        refine ⟨((k + 1),ou),(show ((k + 1) ≤ h.length) ∧ (ou = ordersUp s h (bitF rows) (h.length - o.length - 1) o (k + 1)) from ⟨(by first | assumption | omega | rfl | (intro _ hjj; omega) | (simp; done) | (simp; omega)),(by first | (exact explain_step hfk hou) | (rw [up_no hfk]; exact hou))⟩),(show h.length - (k + 1) < h.length - k from (by first | omega | (simp_all; omega))),?_⟩
        exact Sub.of [] (@cast (((((.string s) : Value) = (.string s)) ∧ (((.calls h : Dat) = .calls h) ∧ (((.ints rows : Dat) = .ints rows) ∧ (((.ints o : Dat) = .ints o) ∧ ((((28 : Nat) = 28) ∧ ((ou.length = ou.length) ∧ ((28 : Nat) ∈ ([28,999] : List Nat)))) ∧ (((.int .i64 d : Value) = .int .i64 d) ∧ (((.int .i64 (((k + 1) : Nat) : Int) : Value) = .int .i64 (((k + 1) : Nat) : Int)) ∧ True))))))) ∧ (((((29 : Nat) = 29) ∧ (((.intss ou : Dat) = .intss ou) ∧ ((28 : Nat) ∈ ([28,999] : List Nat)))) ∧ True) ∧ ((true = true) ∧ (true = true)))) _ (by kernel_rfl) ⟨⟨rfl,rfl,rfl,rfl,⟨rfl,rfl,(by decide)⟩,rfl,rfl,tt⟩,⟨⟨rfl,rfl,(by decide)⟩,tt⟩,rfl,rfl⟩)
      ·intro n45
       refine W.exit (thenQ_exit (thenQ_exit (blockQ_hit ?_)))
       refine thenQ_normal ?_
       refine W.K cok (tab27 ih) hnt [] [8] (⟨[(8,.own 28 ou.length)],[(28,⟨29,.row (.intss ou)⟩)],[28,999]⟩)
        (True ∧ True ∧ True) (by kernel_rfl)
        ⟨tt,tt,tt⟩ ?_
       refine W.ret ?_
       exact endQ_ret (.own 28 ou.length) (by kernel_rfl) (@cast ((ou.length = ou.length) ∧ (((.intss ou : Dat) = .intss (ordersF s h (bitF rows) (h.length - o.length) o)) ∧ ((28 : Nat) ∉ ([] : List Nat)))) _ (by kernel_rfl) ⟨rfl,⟨(congrArg Dat.intss (by exact explain_end (by omega) (by omega) hou)),(by decide)⟩⟩)
theorem ok27 : FnOK prog 27 fs27 := FnOK.rec' okS27
end Go.Proofs.Try

set_option linter.unusedSimpArgs false
set_option linter.unusedVariables false
namespace Go.Proofs.Try
open Go.Ab Go.RowKit
def fs8 : FnS := fnS [.o,.s .calls] [.str,.calls] (fun _ (s,h,_) => (.sl (.intss (ordersBy s h (aheadF h))),[],True))
abbrev T8 : Tab := lk [(26,fs26),(27,fs27),(28,fs28)]
theorem tab8 : TabOK prog T8 := (TabOK.cons ok26 ent26 (TabOK.cons ok27 ent27 (TabOK.cons ok28 ent28 TabOK.nil)))
set_option maxRecDepth 100000 in
set_option maxHeartbeats 1000000 in
theorem ok8 : FnOK prog 8 fs8 := by
 refine FnOK.mk cok func8 rfl rfl rfl ?_
 rintro fl ⟨(s : ByteArray),(h : List CallD),_⟩ hpre F hnt0 _
 have hnt : F.nt = 15 := hnt0.trans ntmps8
 clear hpre
 refine W.to (⟨[(0,.v (.string s)),(1,.sl (.calls h))],[],[999]⟩) rfl ?_
 refine W.lenOf 1 (.calls h) (by kernel_rfl) ?_
 intro hl_h; replace hl_h : List.length h ≤ 9223372036854775807 := hl_h
 refine W.K cok tab8 hnt [] [0,1] (⟨[(0,.v (.string s)),(1,.sl (.calls h))],[],[999]⟩)
  (True ∧ True) (by kernel_rfl)
  ⟨tt,tt⟩ ?_
 refine W.seq ?_
 refine W.K cok tab8 hnt [] [0,1,8] (⟨[(0,.v (.string s)),(1,.sl (.calls h)),(8,.b (!(isObject s && validHistory h)))],[],[999]⟩)
  (True ∧ True ∧ (True ∧ (True ∧ True ∧ True) ∧ True) ∧ True ∧ True) (by kernel_rfl)
  ⟨tt,tt,⟨tt,⟨tt,tt,tt⟩,tt⟩,tt,tt⟩ ?_
 refine W.if' (!(isObject s && validHistory h)) (.b (!(isObject s && validHistory h))) (by kernel_rfl) rfl trivial ?_ ?_
 ·intro h8
  refine W.K cok tab8 hnt [] [4] (⟨[(4,.v (.slice none 0 0))],[],[999]⟩)
   (True ∧ True) (by kernel_rfl)
   ⟨tt,tt⟩ ?_
  refine W.ret (thenQ_ret ?_)
  exact endQ_ret (.v (.slice none 0 0)) (by kernel_rfl) (@cast (((Value.slice none 0 0 : Value) = .slice none 0 0) ∧ ((Dat.intss (ordersBy s h (aheadF h))).len = 0)) _ (by kernel_rfl) ⟨rfl,(by show List.length (ordersBy s h (aheadF h)) = 0; first | exact (by_no (not_f h8)).symm | (rw [by_no (not_f h8)]; rfl))⟩)
 ·intro n8
  refine W.skip (thenQ_normal ?_)
  refine W.K cok tab8 hnt [] [4] (⟨[(4,.sl (.intss (ordersF s h (bitF (rowsOf h.length (aheadF h))) (h.length - ([] : List Int).length) ([] : List Int))))],[],[13,999]⟩)
   (True ∧ True ∧ True ∧ (True ∧ (True ∧ True) ∧ (h.length ≤ 60)) ∧ True ∧ (True ∧ (True ∧ True ∧ True ∧ True ∧ True) ∧ (isObject s = true) ∧ (validHistory h = true) ∧ ((rowsOf h.length (aheadF h)) = rowsOf h.length (bitF (rowsOf h.length (aheadF h)))) ∧ (headO h ([] : List Int))) ∧ True ∧ True) (by kernel_rfl)
   ⟨tt,tt,tt,⟨tt,⟨tt,tt⟩,(by have h6 := (valid_iff.1 (and_r (not_g n8))).1; omega)⟩,tt,⟨tt,⟨tt,tt,tt,tt,tt⟩,(by exact and_l (not_g n8)),(by exact and_r (not_g n8)),(by exact rows_self),(by exact headO_nil h)⟩,tt,tt⟩ ?_
  refine W.ret ?_
  exact endQ_ret (.sl (.intss (ordersF s h (bitF (rowsOf h.length (aheadF h))) (h.length - ([] : List Int).length) ([] : List Int)))) (by kernel_rfl) (@cast ((.intss (ordersF s h (bitF (rowsOf h.length (aheadF h))) (h.length - ([] : List Int).length) ([] : List Int)) : Dat) = .intss (ordersBy s h (aheadF h))) _ (by kernel_rfl) (congrArg Dat.intss (by exact by_val (not_g n8) rfl)))
theorem ent8 : Entr prog 8 := ⟨_,func8,rfl,by decide⟩
end Go.Proofs.Try

set_option linter.unusedSimpArgs false
set_option linter.unusedVariables false
namespace Go.Proofs.Try
open Go.Ab Go.RowKit
def fs16 : FnS := fnS [.s .ints,.s .ints] [.ints,.ints] (fun _ (a,b,_) => (.b (decide (a = b)),[],True))
abbrev T16 : Tab := lk []
theorem tab16 : TabOK prog T16 := TabOK.nil
set_option maxRecDepth 100000 in
set_option maxHeartbeats 1000000 in
theorem ok16 : FnOK prog 16 fs16 := by
 refine FnOK.mk cok func16 rfl rfl rfl ?_
 rintro fl ⟨(a : List Int),(b : List Int),_⟩ hpre F hnt0 _
 have hnt : F.nt = 26 := hnt0.trans ntmps16
 clear hpre
 refine W.to (⟨[(0,.sl (.ints a)),(1,.sl (.ints b))],[],[999]⟩) rfl ?_
 refine W.lenOf 0 (.ints a) (by kernel_rfl) ?_
 intro hl_a; replace hl_a : List.length a ≤ 9223372036854775807 := hl_a
 refine W.lenOf 1 (.ints b) (by kernel_rfl) ?_
 intro hl_b; replace hl_b : List.length b ≤ 9223372036854775807 := hl_b
 refine W.K cok tab16 hnt [] [0,1] (⟨[(0,.sl (.ints a)),(1,.sl (.ints b))],[],[999]⟩)
  (True ∧ True) (by kernel_rfl)
  ⟨tt,tt⟩ ?_
 refine W.seq ?_
 refine W.K cok tab16 hnt [] [0,1,10] (⟨[(0,.sl (.ints a)),(1,.sl (.ints b)),(10,.b (decide ((a.length : Int) ≠ (b.length : Int))))],[],[999]⟩)
  (True ∧ True ∧ True ∧ True ∧ (True ∧ True ∧ True) ∧ True) (by kernel_rfl)
  ⟨tt,tt,tt,tt,⟨tt,tt,tt⟩,tt⟩ ?_
 refine W.ifP ((a.length : Int) ≠ (b.length : Int)) (.b (decide ((a.length : Int) ≠ (b.length : Int)))) (by kernel_rfl) rfl trivial ?_ ?_
 ·intro h10
  refine W.K cok tab16 hnt [] [4] (⟨[(4,.b false)],[],[999]⟩)
   (True ∧ True) (by kernel_rfl)
   ⟨tt,tt⟩ ?_
  refine W.ret (thenQ_ret ?_)
  exact endQ_ret (.b false) (by kernel_rfl) (@cast ((.bool false : Value) = .bool (decide (a = b))) _ (by kernel_rfl) (congrArg Value.bool (by symm; exact decide_eq_false (fun e => h10 (by rw [e])))))
 ·intro n10
  refine W.skip (thenQ_normal ?_)
  refine W.seq ?_
  refine W.K cok tab16 hnt [] [0,1,5] (⟨[(0,.sl (.ints a)),(1,.sl (.ints b)),(5,.i (0 : Int))],[],[999]⟩)
   (True ∧ True) (by kernel_rfl)
   ⟨tt,tt⟩ ?_
  refine W.block ?_
  refine W.loop (ι := Nat) (fun (i : Nat) => (⟨[(0,.sl (.ints a)),(1,.sl (.ints b)),(5,.i ((i : Nat) : Int))],[],[999]⟩ : St))
   (fun (i : Nat) => (i ≤ a.length) ∧ (∀ j,j < i → a.getD j 0 = b.getD j 0))
   (fun (i : Nat) => (a.length - i : Nat)) (0) ?_ ?_ ?_
  ·exact (show (0 ≤ a.length) ∧ (∀ j,j < 0 → a.getD j 0 = b.getD j 0) from ⟨(by first | assumption | omega | rfl | (intro _ hjj; omega) | (simp; done) | (simp; omega)),(by exact upto_zero)⟩)
  ·exact Sub.of [] (@cast ((((.ints a : Dat) = .ints a) ∧ (((.ints b : Dat) = .ints b) ∧ (((.int .i64 (0 : Int) : Value) = .int .i64 ((0 : Nat) : Int)) ∧ True))) ∧ (True ∧ ((true = true) ∧ (true = true)))) _ (by kernel_rfl) ⟨⟨rfl,rfl,(congrArg (Value.int .i64) (by first | rfl | omega | assumption | simp | simp_all)),tt⟩,tt,rfl,rfl⟩)
  ·rintro i hC0
   have hC : (i ≤ a.length) ∧ (∀ j,j < i → a.getD j 0 = b.getD j 0) := hC0
   clear hC0
   obtain ⟨hi,hA⟩ := hC
   refine W.to (⟨[(0,.sl (.ints a)),(1,.sl (.ints b)),(5,.i ((i : Nat) : Int))],[],[999]⟩) rfl ?_
   refine W.seq ?_
   refine W.K cok tab16 hnt [] [0,1,5,14] (⟨[(0,.sl (.ints a)),(1,.sl (.ints b)),(5,.i ((i : Nat) : Int)),(14,.b (decide (((i : Nat) : Int) < (a.length : Int))))],[],[999]⟩)
    (True ∧ True ∧ True ∧ (True ∧ True ∧ True) ∧ True) (by kernel_rfl)
    ⟨tt,tt,tt,⟨tt,tt,tt⟩,tt⟩ ?_
   refine W.ifP (((i : Nat) : Int) < (a.length : Int)) (.b (decide (((i : Nat) : Int) < (a.length : Int)))) (by kernel_rfl) rfl trivial ?_ ?_
   ·intro h14
    refine W.skip (thenQ_normal ?_)
    refine W.seq ?_
    refine W.block ?_
    refine W.KA cok tab16 hnt [] [0,1,5,25] (⟨[(0,.sl (.ints a)),(1,.sl (.ints b)),(5,.i ((i : Nat) : Int)),(25,.b (decide ((a.getD i 0) ≠ (b.getD i 0))))],[],[999]⟩)
     (True ∧ True ∧ (True ∧ True ∧ (0 ≤ ((i : Nat) : Int)) ∧ (((i : Nat) : Int) < (a.length : Int))) ∧ True ∧ True ∧ True ∧ (True ∧ True ∧ (0 ≤ ((i : Nat) : Int)) ∧ (((i : Nat) : Int) < (b.length : Int))) ∧ True ∧ (True ∧ True ∧ True) ∧ True) (by kernel_rfl) (by kernel_rfl)
     ⟨tt,tt,⟨tt,tt,(by omega),(by omega)⟩,tt,tt,tt,⟨tt,tt,(by omega),(by omega)⟩,tt,⟨tt,tt,tt⟩,tt⟩ ?_
    refine W.ifP ((a.getD i 0) ≠ (b.getD i 0)) (.b (decide ((a.getD i 0) ≠ (b.getD i 0)))) (by kernel_rfl) rfl trivial ?_ ?_
    ·intro h25
     refine W.K cok tab16 hnt [] [4] (⟨[(4,.b false)],[],[999]⟩)
      (True ∧ True) (by kernel_rfl)
      ⟨tt,tt⟩ ?_
     refine W.ret (blockQ_ret (thenQ_ret (thenQ_ret (blockQ_ret (thenQ_ret ?_)))))
     exact endQ_ret (.b false) (by kernel_rfl) (@cast ((.bool false : Value) = .bool (decide (a = b))) _ (by kernel_rfl) (congrArg Value.bool (by symm; exact decide_eq_false (fun e => h25 (by rw [e])))))
    ·intro n25
     refine W.skip (blockQ_normal (thenQ_normal ?_))
     refine W.L cok tab16 hnt [] (⟨[(0,.sl (.ints a)),(1,.sl (.ints b)),(5,.i (((i + 1) : Nat) : Int)),(15,.i ((i : Nat) : Int)),(16,.i (((i + 1) : Nat) : Int)),(25,.b (decide ((a.getD i 0) ≠ (b.getD i 0))))],[],[999]⟩)
      (True ∧ (True ∧ True ∧ (Fits .i64 (((i + 1) : Nat) : Int))) ∧ True ∧ True) (by kernel_rfl)
      ⟨tt,⟨tt,tt,(by exact fits_i64 (by omega) (by omega))⟩,tt,tt⟩ ?_
     refine thenQ_normal ?_
     refine ⟨((i + 1)),(show ((i + 1) ≤ a.length) ∧ (∀ j,j < (i + 1) → a.getD j 0 = b.getD j 0) from ⟨(by first | assumption | omega | rfl | (intro _ hjj; omega) | (simp; done) | (simp; omega)),(by exact upto_succ hA (Decidable.not_not.1 n25))⟩),(show a.length - (i + 1) < a.length - i from (by first | omega | (simp_all; omega))),?_⟩
     exact Sub.of [] (@cast ((((.ints a : Dat) = .ints a) ∧ (((.ints b : Dat) = .ints b) ∧ (((.int .i64 (((i + 1) : Nat) : Int) : Value) = .int .i64 (((i + 1) : Nat) : Int)) ∧ True))) ∧ (True ∧ ((true = true) ∧ (true = true)))) _ (by kernel_rfl) ⟨⟨rfl,rfl,rfl,tt⟩,tt,rfl,rfl⟩)
   ·intro n14
    refine W.exit (thenQ_exit (thenQ_exit (blockQ_hit ?_)))
    refine thenQ_normal ?_
    refine W.K cok tab16 hnt [] [4] (⟨[(4,.b true)],[],[999]⟩)
     (True ∧ True) (by kernel_rfl)
     ⟨tt,tt⟩ ?_
    refine W.ret ?_
    exact endQ_ret (.b true) (by kernel_rfl) (@cast ((.bool true : Value) = .bool (decide (a = b))) _ (by kernel_rfl) (congrArg Value.bool (by symm; exact decide_eq_true (ints_ext (by omega) (fun j hj => hA j (by omega))))))
theorem ent16 : Entr prog 16 := ⟨_,func16,rfl,by decide⟩
end Go.Proofs.Try

set_option linter.unusedSimpArgs false
set_option linter.unusedVariables false
namespace Go.Proofs.Try
open Go.Ab Go.RowKit
def fs7 : FnS := fnS [.s .intss,.s .intss] [.intss,.intss] (fun _ (a,b,_) => (.b (decide (a = b)),[],True))
abbrev T7 : Tab := lk [(16,fs16)]
theorem tab7 : TabOK prog T7 := (TabOK.cons ok16 ent16 TabOK.nil)
set_option maxRecDepth 100000 in
set_option maxHeartbeats 1000000 in
theorem ok7 : FnOK prog 7 fs7 := by
 refine FnOK.mk cok func7 rfl rfl rfl ?_
 rintro fl ⟨(a : List (List Int)),(b : List (List Int)),_⟩ hpre F hnt0 _
 have hnt : F.nt = 27 := hnt0.trans ntmps7
 clear hpre
 refine W.to (⟨[(0,.sl (.intss a)),(1,.sl (.intss b))],[],[999]⟩) rfl ?_
 refine W.lenOf 0 (.intss a) (by kernel_rfl) ?_
 intro hl_a; replace hl_a : List.length a ≤ 9223372036854775807 := hl_a
 refine W.lenOf 1 (.intss b) (by kernel_rfl) ?_
 intro hl_b; replace hl_b : List.length b ≤ 9223372036854775807 := hl_b
 refine W.K cok tab7 hnt [] [0,1] (⟨[(0,.sl (.intss a)),(1,.sl (.intss b))],[],[999]⟩)
  (True ∧ True) (by kernel_rfl)
  ⟨tt,tt⟩ ?_
 refine W.seq ?_
 refine W.K cok tab7 hnt [] [0,1,10] (⟨[(0,.sl (.intss a)),(1,.sl (.intss b)),(10,.b (decide ((a.length : Int) ≠ (b.length : Int))))],[],[999]⟩)
  (True ∧ True ∧ True ∧ True ∧ (True ∧ True ∧ True) ∧ True) (by kernel_rfl)
  ⟨tt,tt,tt,tt,⟨tt,tt,tt⟩,tt⟩ ?_
 refine W.ifP ((a.length : Int) ≠ (b.length : Int)) (.b (decide ((a.length : Int) ≠ (b.length : Int)))) (by kernel_rfl) rfl trivial ?_ ?_
 ·intro h10
  refine W.K cok tab7 hnt [] [4] (⟨[(4,.b false)],[],[999]⟩)
   (True ∧ True) (by kernel_rfl)
   ⟨tt,tt⟩ ?_
  refine W.ret (thenQ_ret ?_)
  exact endQ_ret (.b false) (by kernel_rfl) (@cast ((.bool false : Value) = .bool (decide (a = b))) _ (by kernel_rfl) (congrArg Value.bool (by symm; exact decide_eq_false (fun e => h10 (by rw [e])))))
 ·intro n10
  refine W.skip (thenQ_normal ?_)
  refine W.seq ?_
  refine W.K cok tab7 hnt [] [0,1,5] (⟨[(0,.sl (.intss a)),(1,.sl (.intss b)),(5,.i (0 : Int))],[],[999]⟩)
   (True ∧ True) (by kernel_rfl)
   ⟨tt,tt⟩ ?_
  refine W.block ?_
  refine W.loop (ι := Nat) (fun (i : Nat) => (⟨[(0,.sl (.intss a)),(1,.sl (.intss b)),(5,.i ((i : Nat) : Int))],[],[999]⟩ : St))
   (fun (i : Nat) => (i ≤ a.length) ∧ (∀ j,j < i → a.getD j [] = b.getD j []))
   (fun (i : Nat) => (a.length - i : Nat)) (0) ?_ ?_ ?_
  ·exact (show (0 ≤ a.length) ∧ (∀ j,j < 0 → a.getD j [] = b.getD j []) from ⟨(by first | assumption | omega | rfl | (intro _ hjj; omega) | (simp; done) | (simp; omega)),(by exact upto_zero)⟩)
  ·exact Sub.of [] (@cast ((((.intss a : Dat) = .intss a) ∧ (((.intss b : Dat) = .intss b) ∧ (((.int .i64 (0 : Int) : Value) = .int .i64 ((0 : Nat) : Int)) ∧ True))) ∧ (True ∧ ((true = true) ∧ (true = true)))) _ (by kernel_rfl) ⟨⟨rfl,rfl,(congrArg (Value.int .i64) (by first | rfl | omega | assumption | simp | simp_all)),tt⟩,tt,rfl,rfl⟩)
  ·rintro i hC0
   have hC : (i ≤ a.length) ∧ (∀ j,j < i → a.getD j [] = b.getD j []) := hC0
   clear hC0
   obtain ⟨hi,hA⟩ := hC
   refine W.to (⟨[(0,.sl (.intss a)),(1,.sl (.intss b)),(5,.i ((i : Nat) : Int))],[],[999]⟩) rfl ?_
   refine W.seq ?_
   refine W.K cok tab7 hnt [] [0,1,5,14] (⟨[(0,.sl (.intss a)),(1,.sl (.intss b)),(5,.i ((i : Nat) : Int)),(14,.b (decide (((i : Nat) : Int) < (a.length : Int))))],[],[999]⟩)
    (True ∧ True ∧ True ∧ (True ∧ True ∧ True) ∧ True) (by kernel_rfl)
    ⟨tt,tt,tt,⟨tt,tt,tt⟩,tt⟩ ?_
   refine W.ifP (((i : Nat) : Int) < (a.length : Int)) (.b (decide (((i : Nat) : Int) < (a.length : Int)))) (by kernel_rfl) rfl trivial ?_ ?_
   ·intro h14
    refine W.skip (thenQ_normal ?_)
    refine W.seq ?_
    refine W.block ?_
    refine W.KA cok tab7 hnt [] [0,1,5,26] (⟨[(0,.sl (.intss a)),(1,.sl (.intss b)),(5,.i ((i : Nat) : Int)),(26,.b (!(decide ((a.getD i []) = (b.getD i [])))))],[],[999]⟩)
     (True ∧ True ∧ (True ∧ True ∧ (0 ≤ ((i : Nat) : Int)) ∧ (((i : Nat) : Int) < (a.length : Int))) ∧ True ∧ True ∧ True ∧ (True ∧ True ∧ (0 ≤ ((i : Nat) : Int)) ∧ (((i : Nat) : Int) < (b.length : Int))) ∧ True ∧ (True ∧ (True ∧ True ∧ True) ∧ True) ∧ True ∧ True) (by kernel_rfl) (by kernel_rfl)
     ⟨tt,tt,⟨tt,tt,(by omega),(by omega)⟩,tt,tt,tt,⟨tt,tt,(by omega),(by omega)⟩,tt,⟨tt,⟨tt,tt,tt⟩,tt⟩,tt,tt⟩ ?_
    refine W.if' (!(decide ((a.getD i []) = (b.getD i [])))) (.b (!(decide ((a.getD i []) = (b.getD i []))))) (by kernel_rfl) rfl trivial ?_ ?_
    ·intro h26
     refine W.K cok tab7 hnt [] [4] (⟨[(4,.b false)],[],[999]⟩)
      (True ∧ True) (by kernel_rfl)
      ⟨tt,tt⟩ ?_
     refine W.ret (blockQ_ret (thenQ_ret (thenQ_ret (blockQ_ret (thenQ_ret ?_)))))
     exact endQ_ret (.b false) (by kernel_rfl) (@cast ((.bool false : Value) = .bool (decide (a = b))) _ (by kernel_rfl) (congrArg Value.bool (by symm; exact decide_eq_false (fun e => by rw [e] at h26; simp at h26))))
    ·intro n26
     refine W.skip (blockQ_normal (thenQ_normal ?_))
     refine W.L cok tab7 hnt [] (⟨[(0,.sl (.intss a)),(1,.sl (.intss b)),(5,.i (((i + 1) : Nat) : Int)),(15,.i ((i : Nat) : Int)),(16,.i (((i + 1) : Nat) : Int)),(26,.b (!(decide ((a.getD i []) = (b.getD i [])))))],[],[999]⟩)
      (True ∧ (True ∧ True ∧ (Fits .i64 (((i + 1) : Nat) : Int))) ∧ True ∧ True) (by kernel_rfl)
      ⟨tt,⟨tt,tt,(by exact fits_i64 (by omega) (by omega))⟩,tt,tt⟩ ?_
     refine thenQ_normal ?_
     refine ⟨((i + 1)),(show ((i + 1) ≤ a.length) ∧ (∀ j,j < (i + 1) → a.getD j [] = b.getD j []) from ⟨(by first | assumption | omega | rfl | (intro _ hjj; omega) | (simp; done) | (simp; omega)),(by exact upto_succ hA (by simpa using n26))⟩),(show a.length - (i + 1) < a.length - i from (by first | omega | (simp_all; omega))),?_⟩
     exact Sub.of [] (@cast ((((.intss a : Dat) = .intss a) ∧ (((.intss b : Dat) = .intss b) ∧ (((.int .i64 (((i + 1) : Nat) : Int) : Value) = .int .i64 (((i + 1) : Nat) : Int)) ∧ True))) ∧ (True ∧ ((true = true) ∧ (true = true)))) _ (by kernel_rfl) ⟨⟨rfl,rfl,rfl,tt⟩,tt,rfl,rfl⟩)
   ·intro n14
    refine W.exit (thenQ_exit (thenQ_exit (blockQ_hit ?_)))
    refine thenQ_normal ?_
    refine W.K cok tab7 hnt [] [4] (⟨[(4,.b true)],[],[999]⟩)
     (True ∧ True) (by kernel_rfl)
     ⟨tt,tt⟩ ?_
    refine W.ret ?_
    exact endQ_ret (.b true) (by kernel_rfl) (@cast ((.bool true : Value) = .bool (decide (a = b))) _ (by kernel_rfl) (congrArg Value.bool (by symm; exact decide_eq_true (lists_ext (by omega) (fun j hj => hA j (by omega))))))
theorem ent7 : Entr prog 7 := ⟨_,func7,rfl,by decide⟩
end Go.Proofs.Try

set_option linter.unusedSimpArgs false
set_option linter.unusedVariables false
namespace Go.Proofs.Try
open Go.Ab Go.RowKit
def fs54 : FnS := fnS [.s .ints,.o] [.ints,.int] (fun _ (l,x,_) => (.b (hasInt l x),[],True))
abbrev T54 : Tab := lk [(62,fs62)]
theorem tab54 : TabOK prog T54 := (TabOK.cons ok62 ent62 TabOK.nil)
set_option maxRecDepth 100000 in
set_option maxHeartbeats 1000000 in
theorem ok54 : FnOK prog 54 fs54 := by
 refine FnOK.mk cok func54 rfl rfl rfl ?_
 rintro fl ⟨(l : List Int),(x : Int),_⟩ hpre F hnt0 _
 have hnt : F.nt = 9 := hnt0.trans ntmps54
 clear hpre
 refine W.to (⟨[(0,.sl (.ints l)),(1,.i x)],[],[999]⟩) rfl ?_
 refine W.lenOf 0 (.ints l) (by kernel_rfl) ?_
 intro hl_l; replace hl_l : List.length l ≤ 9223372036854775807 := hl_l
 refine W.K cok tab54 hnt [] [0,1] (⟨[(0,.sl (.ints l)),(1,.i x)],[],[999]⟩)
  (True ∧ True) (by kernel_rfl)
  ⟨tt,tt⟩ ?_
 refine W.K cok tab54 hnt [] [4] (⟨[(4,.b (decide ((0 : Int) ≤ (findI l x))))],[],[999]⟩)
  (True ∧ True ∧ (True ∧ (True ∧ True ∧ True) ∧ True) ∧ (True ∧ True ∧ True) ∧ True ∧ True) (by kernel_rfl)
  ⟨tt,tt,⟨tt,⟨tt,tt,tt⟩,tt⟩,⟨tt,tt,tt⟩,tt,tt⟩ ?_
 refine W.ret ?_
 exact endQ_ret (.b (decide ((0 : Int) ≤ (findI l x)))) (by kernel_rfl) (@cast ((.bool (decide ((0 : Int) ≤ (findI l x))) : Value) = .bool (hasInt l x)) _ (by kernel_rfl) (congrArg Value.bool (by exact findI_has l x)))
theorem ent54 : Entr prog 54 := ⟨_,func54,rfl,by decide⟩
end Go.Proofs.Try

set_option linter.unusedSimpArgs false
set_option linter.unusedVariables false
namespace Go.Proofs.Try
open Go.Ab Go.RowKit
def fs29 : FnS := fnS [.s .ints,.o] [.ints,.int] (fun _ (l,n,_) => (.b (isOrd l n),[],(0 ≤ n ∧ n ≤ 9223372036854775807)))
abbrev T29 : Tab := lk [(53,fs53),(54,fs54)]
theorem tab29 : TabOK prog T29 := (TabOK.cons ok53 ent53 (TabOK.cons ok54 ent54 TabOK.nil))
set_option maxRecDepth 100000 in
set_option maxHeartbeats 1000000 in
theorem ok29 : FnOK prog 29 fs29 := by
 refine FnOK.mk cok func29 rfl rfl rfl ?_
 rintro fl ⟨(l : List Int),(n : Int),_⟩ hpre F hnt0 _
 have hnt : F.nt = 31 := hnt0.trans ntmps29
 replace hpre : (0 ≤ n ∧ n ≤ 9223372036854775807) := hpre
 have hn := hpre
 refine W.to (⟨[(0,.sl (.ints l)),(1,.i n)],[],[999]⟩) rfl ?_
 refine W.lenOf 0 (.ints l) (by kernel_rfl) ?_
 intro hl_l; replace hl_l : List.length l ≤ 9223372036854775807 := hl_l
 refine W.K cok tab29 hnt [] [0,1] (⟨[(0,.sl (.ints l)),(1,.i n)],[],[999]⟩)
  (True ∧ True) (by kernel_rfl)
  ⟨tt,tt⟩ ?_
 refine W.seq ?_
 refine W.K cok tab29 hnt [] [0,1,7,8,9] (⟨[(0,.sl (.ints l)),(1,.i n),(7,.sl (.ints l)),(8,.i (l.length : Int)),(9,.i (0 : Int))],[],[999]⟩)
  (True ∧ True ∧ True ∧ True) (by kernel_rfl)
  ⟨tt,tt,tt,tt⟩ ?_
 refine W.block ?_
 refine W.loop (ι := Nat) (fun (i : Nat) => (⟨[(0,.sl (.ints l)),(1,.i n),(7,.sl (.ints l)),(8,.i (l.length : Int)),(9,.i ((i : Nat) : Int))],[],[999]⟩ : St))
  (fun (i : Nat) => (i ≤ l.length) ∧ (∀ j,j < i → ordOK l n j = true))
  (fun (i : Nat) => (l.length - i : Nat)) (0) ?_ ?_ ?_
 ·exact (show (0 ≤ l.length) ∧ (∀ j,j < 0 → ordOK l n j = true) from ⟨(by first | assumption | omega | rfl | (intro _ hjj; omega) | (simp; done) | (simp; omega)),(by exact upto_zero)⟩)
 ·exact Sub.of [] (@cast ((((.ints l : Dat) = .ints l) ∧ (((.int .i64 n : Value) = .int .i64 n) ∧ (((.ints l : Dat) = .ints l) ∧ (((.int .i64 (l.length : Int) : Value) = .int .i64 (l.length : Int)) ∧ (((.int .i64 (0 : Int) : Value) = .int .i64 ((0 : Nat) : Int)) ∧ True))))) ∧ (True ∧ ((true = true) ∧ (true = true)))) _ (by kernel_rfl) ⟨⟨rfl,rfl,rfl,rfl,(congrArg (Value.int .i64) (by first | rfl | omega | assumption | simp | simp_all)),tt⟩,tt,rfl,rfl⟩)
 ·rintro i hC0
  have hC : (i ≤ l.length) ∧ (∀ j,j < i → ordOK l n j = true) := hC0
  clear hC0
  obtain ⟨hi,hA⟩ := hC
  refine W.to (⟨[(0,.sl (.ints l)),(1,.i n),(7,.sl (.ints l)),(8,.i (l.length : Int)),(9,.i ((i : Nat) : Int))],[],[999]⟩) rfl ?_
  refine W.K cok tab29 hnt [] [0,1,7,8,9,10] (⟨[(0,.sl (.ints l)),(1,.i n),(7,.sl (.ints l)),(8,.i (l.length : Int)),(9,.i ((i : Nat) : Int)),(10,.b (decide (((i : Nat) : Int) < (l.length : Int))))],[],[999]⟩)
   ((True ∧ True ∧ True) ∧ True) (by kernel_rfl)
   ⟨⟨tt,tt,tt⟩,tt⟩ ?_
  refine W.seq ?_
  refine W.ifP (((i : Nat) : Int) < (l.length : Int)) (.b (decide (((i : Nat) : Int) < (l.length : Int)))) (by kernel_rfl) rfl trivial ?_ ?_
  ·intro h10
   refine W.skip (thenQ_normal ?_)
   refine W.seq ?_
   refine W.block ?_
   refine W.K cok tab29 hnt [] [0,1,5,6,7,8,9] (⟨[(0,.sl (.ints l)),(1,.i n),(5,.i ((i : Nat) : Int)),(6,.i (l.getD i 0)),(7,.sl (.ints l)),(8,.i (l.length : Int)),(9,.i ((i : Nat) : Int))],[],[999]⟩)
    (True ∧ (True ∧ True ∧ (0 ≤ ((i : Nat) : Int)) ∧ (((i : Nat) : Int) < (l.length : Int))) ∧ True ∧ True ∧ True ∧ True) (by kernel_rfl)
    ⟨tt,⟨tt,tt,(by omega),(by omega)⟩,tt,tt,tt,tt⟩ ?_
   refine W.K cok tab29 hnt [] [0,1,7,8,9,25] (⟨[(0,.sl (.ints l)),(1,.i n),(7,.sl (.ints l)),(8,.i (l.length : Int)),(9,.i ((i : Nat) : Int)),(25,.b ((!(within (l.getD i 0) (0 : Int) (n - (1 : Int)))) || (hasInt (List.take i l) (l.getD i 0))))],[],[999]⟩)
    (True ∧ True ∧ (True ∧ True ∧ (Fits .i64 (n - (1 : Int)))) ∧ (True ∧ (True ∧ True ∧ True ∧ True) ∧ True) ∧ True ∧ True ∧ ((!(!(within (l.getD i 0) (0 : Int) (n - (1 : Int))))) = true → True) ∧ ((!(!(within (l.getD i 0) (0 : Int) (n - (1 : Int))))) = true → True) ∧ ((!(!(within (l.getD i 0) (0 : Int) (n - (1 : Int))))) = true → ((((!(!(within (l.getD i 0) (0 : Int) (n - (1 : Int))))) = true) ∧ True) ∧ True ∧ (((!(!(within (l.getD i 0) (0 : Int) (n - (1 : Int))))) = true) ∧ True) ∧ (0 ≤ (0 : Int)) ∧ ((0 : Int) ≤ ((i : Nat) : Int)) ∧ (((i : Nat) : Int) ≤ (l.length : Int)))) ∧ ((!(!(within (l.getD i 0) (0 : Int) (n - (1 : Int))))) = true → True) ∧ ((!(!(within (l.getD i 0) (0 : Int) (n - (1 : Int))))) = true → (True ∧ ((((!(!(within (l.getD i 0) (0 : Int) (n - (1 : Int))))) = true) ∧ True) ∧ (((!(!(within (l.getD i 0) (0 : Int) (n - (1 : Int))))) = true) ∧ True) ∧ True) ∧ True)) ∧ (True ∧ ((!(within (l.getD i 0) (0 : Int) (n - (1 : Int)))) = true → True) ∧ ((!(within (l.getD i 0) (0 : Int) (n - (1 : Int)))) = false → ((!(!(within (l.getD i 0) (0 : Int) (n - (1 : Int))))) = true) ∧ True)) ∧ True) (by kernel_rfl)
    ⟨tt,tt,⟨tt,tt,(by exact fits_i64 (by omega) (by omega))⟩,⟨tt,⟨tt,tt,tt,tt⟩,tt⟩,tt,tt,(fun _ => trivial),(fun _ => trivial),(fun hG => ⟨⟨hG,tt⟩,tt,⟨hG,tt⟩,(by omega),(by omega),(by omega)⟩),(fun _ => trivial),(fun hG => ⟨tt,⟨⟨hG,tt⟩,⟨hG,tt⟩,tt⟩,tt⟩),⟨tt,(fun _ => trivial),(fun hp => ⟨(not_t hp),tt⟩)⟩,tt⟩ ?_
   refine W.if' ((!(within (l.getD i 0) (0 : Int) (n - (1 : Int)))) || (hasInt (List.take i l) (l.getD i 0))) (.b ((!(within (l.getD i 0) (0 : Int) (n - (1 : Int)))) || (hasInt (List.take i l) (l.getD i 0)))) (by kernel_rfl) rfl trivial ?_ ?_
   ·intro h25
    refine W.K cok tab29 hnt [] [4] (⟨[(4,.b false)],[],[999]⟩)
     (True ∧ True) (by kernel_rfl)
     ⟨tt,tt⟩ ?_
    refine W.ret (blockQ_ret (thenQ_ret (thenQ_ret (blockQ_ret (thenQ_ret ?_)))))
    exact endQ_ret (.b false) (by kernel_rfl) (@cast ((.bool false : Value) = .bool (isOrd l n)) _ (by kernel_rfl) (congrArg Value.bool (by exact (ord_no (i := i) (by omega) h25).symm)))
   ·intro n25
    refine W.skip (blockQ_normal (thenQ_normal ?_))
    refine W.L cok tab29 hnt [] (⟨[(0,.sl (.ints l)),(1,.i n),(7,.sl (.ints l)),(8,.i (l.length : Int)),(9,.i (((i + 1) : Nat) : Int)),(25,.b ((!(within (l.getD i 0) (0 : Int) (n - (1 : Int)))) || (hasInt (List.take i l) (l.getD i 0)))),(26,.i (((i + 1) : Nat) : Int))],[],[999]⟩)
     ((True ∧ True ∧ (Fits .i64 (((i + 1) : Nat) : Int))) ∧ True ∧ True) (by kernel_rfl)
     ⟨⟨tt,tt,(by exact fits_i64 (by omega) (by omega))⟩,tt,tt⟩ ?_
    refine thenQ_normal ?_
    refine ⟨((i + 1)),(show ((i + 1) ≤ l.length) ∧ (∀ j,j < (i + 1) → ordOK l n j = true) from ⟨(by first | assumption | omega | rfl | (intro _ hjj; omega) | (simp; done) | (simp; omega)),(by exact upto_succ hA (ord_ok n25))⟩),(show l.length - (i + 1) < l.length - i from (by first | omega | (simp_all; omega))),?_⟩
    exact Sub.of [] (@cast ((((.ints l : Dat) = .ints l) ∧ (((.int .i64 n : Value) = .int .i64 n) ∧ (((.ints l : Dat) = .ints l) ∧ (((.int .i64 (l.length : Int) : Value) = .int .i64 (l.length : Int)) ∧ (((.int .i64 (((i + 1) : Nat) : Int) : Value) = .int .i64 (((i + 1) : Nat) : Int)) ∧ True))))) ∧ (True ∧ ((true = true) ∧ (true = true)))) _ (by kernel_rfl) ⟨⟨rfl,rfl,rfl,rfl,rfl,tt⟩,tt,rfl,rfl⟩)
  ·intro n10
   refine W.exit (thenQ_exit (thenQ_exit (blockQ_hit ?_)))
   refine thenQ_normal ?_
   refine W.K cok tab29 hnt [] [4] (⟨[(4,.b (decide ((l.length : Int) = n)))],[],[999]⟩)
    (True ∧ True ∧ True ∧ (True ∧ True ∧ True) ∧ True ∧ True) (by kernel_rfl)
    ⟨tt,tt,tt,⟨tt,tt,tt⟩,tt,tt⟩ ?_
   refine W.ret ?_
   exact endQ_ret (.b (decide ((l.length : Int) = n))) (by kernel_rfl) (@cast ((.bool (decide ((l.length : Int) = n)) : Value) = .bool (isOrd l n)) _ (by kernel_rfl) (congrArg Value.bool (by exact ord_end (fun j hj => hA j (by omega)))))
theorem ent29 : Entr prog 29 := ⟨_,func29,rfl,by decide⟩
end Go.Proofs.Try

set_option linter.unusedSimpArgs false
set_option linter.unusedVariables false
namespace Go.Proofs.Try
open Go.Ab Go.RowKit
def fs9 : FnS := fnS [.s .calls,.s .ints] [.calls,.ints] (fun _ (h,l,_) => (.tup [.sl (.ints ((pointsOf h l).1)),.b ((pointsOf h l).2)],[],True))
abbrev T9 : Tab := lk [(23,fs23),(29,fs29)]
theorem tab9 : TabOK prog T9 := (TabOK.cons ok23 ent23 (TabOK.cons ok29 ent29 TabOK.nil))
set_option maxRecDepth 100000 in
set_option maxHeartbeats 1000000 in
theorem ok9 : FnOK prog 9 fs9 := by
 refine FnOK.mk cok func9 rfl rfl rfl ?_
 rintro fl ⟨(h : List CallD),(l : List Int),_⟩ hpre F hnt0 _
 have hnt : F.nt = 47 := hnt0.trans ntmps9
 clear hpre
 refine W.to (⟨[(0,.sl (.calls h)),(1,.sl (.ints l))],[],[999]⟩) rfl ?_
 refine W.lenOf 0 (.calls h) (by kernel_rfl) ?_
 intro hl_h; replace hl_h : List.length h ≤ 9223372036854775807 := hl_h
 refine W.lenOf 1 (.ints l) (by kernel_rfl) ?_
 intro hl_l; replace hl_l : List.length l ≤ 9223372036854775807 := hl_l
 refine W.K cok tab9 hnt [] [0,1] (⟨[(0,.sl (.calls h)),(1,.sl (.ints l))],[],[999]⟩)
  (True ∧ True ∧ True) (by kernel_rfl)
  ⟨tt,tt,tt⟩ ?_
 refine W.seq ?_
 refine W.K cok tab9 hnt [] [0,1,19] (⟨[(0,.sl (.calls h)),(1,.sl (.ints l)),(19,.b ((!(validHistory h)) || (!(isOrd l (h.length : Int)))))],[],[999]⟩)
  (True ∧ (True ∧ (True ∧ True) ∧ True) ∧ True ∧ True ∧ ((!(!(validHistory h))) = true → True) ∧ ((!(!(validHistory h))) = true → True) ∧ ((!(!(validHistory h))) = true → (((!(!(validHistory h))) = true) ∧ True)) ∧ ((!(!(validHistory h))) = true → (True ∧ ((((!(!(validHistory h))) = true) ∧ True) ∧ (((!(!(validHistory h))) = true) ∧ True) ∧ True) ∧ 0 ≤ (h.length : Int) ∧ (h.length : Int) ≤ 9223372036854775807)) ∧ ((!(!(validHistory h))) = true → (((!(!(validHistory h))) = true) ∧ True)) ∧ (True ∧ ((!(validHistory h)) = true → True) ∧ ((!(validHistory h)) = false → ((!(!(validHistory h))) = true) ∧ True)) ∧ True) (by kernel_rfl)
  ⟨tt,⟨tt,⟨tt,tt⟩,tt⟩,tt,tt,(fun _ => trivial),(fun _ => trivial),(fun hG => ⟨hG,tt⟩),(fun hG => ⟨tt,⟨⟨hG,tt⟩,⟨hG,tt⟩,tt⟩,(by omega)⟩),(fun hG => ⟨hG,tt⟩),⟨tt,(fun _ => trivial),(fun hp => ⟨(not_t hp),tt⟩)⟩,tt⟩ ?_
 refine W.if' ((!(validHistory h)) || (!(isOrd l (h.length : Int)))) (.b ((!(validHistory h)) || (!(isOrd l (h.length : Int))))) (by kernel_rfl) rfl trivial ?_ ?_
 ·intro h19
  refine W.K cok tab9 hnt [] [4,5] (⟨[(4,.v (.slice none 0 0)),(5,.b false)],[],[999]⟩)
   (True ∧ True ∧ True) (by kernel_rfl)
   ⟨tt,tt,tt⟩ ?_
  refine W.ret (thenQ_ret ?_)
  exact endQ_ret (.tup [.v (.slice none 0 0),.b false]) (by kernel_rfl) (@cast ((((Value.slice none 0 0 : Value) = .slice none 0 0) ∧ ((Dat.ints ((pointsOf h l).1)).len = 0)) ∧ (((.bool false : Value) = .bool ((pointsOf h l).2)) ∧ True)) _ (by kernel_rfl) ⟨⟨rfl,(by show List.length ((pointsOf h l).1) = 0; rw [points_1 h19]; try rfl)⟩,(congrArg Value.bool (by rw [points_1 h19]; try rfl)),tt⟩)
 ·intro n19
  refine W.skip (thenQ_normal ?_)
  refine W.K cok tab9 hnt [20] [0,1,6,7] (⟨[(0,.sl (.calls h)),(1,.sl (.ints l)),(6,.own 20 (List.length ([] : List Int))),(7,.i (0 : Int))],[(20,⟨3,.row (.ints ([] : List Int))⟩)],[20,999]⟩)
   (True ∧ True ∧ True ∧ True) (by kernel_rfl)
   ⟨tt,tt,tt,tt⟩ ?_
  refine W.seq ?_
  refine W.K cok tab9 hnt [] [0,6,7,21,22,23] (⟨[(0,.sl (.calls h)),(6,.own 20 (List.length ([] : List Int))),(7,.i (0 : Int)),(21,.sl (.ints l)),(22,.i (l.length : Int)),(23,.i (0 : Int))],[(20,⟨3,.row (.ints ([] : List Int))⟩)],[20,999]⟩)
   (True ∧ True ∧ True ∧ True) (by kernel_rfl)
   ⟨tt,tt,tt,tt⟩ ?_
  refine W.block ?_
  refine W.loop (ι := Nat × (List Int) × Int) (fun (x : Nat × (List Int) × Int) => match x with | (i,o,cur) => (⟨[(0,.sl (.calls h)),(6,.own 20 o.length),(7,.i cur),(21,.sl (.ints l)),(22,.i (l.length : Int)),(23,.i ((i : Nat) : Int))],[(20,⟨3,.row (.ints o)⟩)],[20,999]⟩ : St))
   (fun (x : Nat × (List Int) × Int) => match x with | (i,o,cur) => (i ≤ l.length) ∧ (o = pts h l i) ∧ (cur = curF h l i) ∧ (∀ j,j < i → ptOK h l j = true))
   (fun (x : Nat × (List Int) × Int) => match x with | (i,o,cur) => (l.length - i : Nat)) (0,([] : List Int),(0 : Int)) ?_ ?_ ?_
  ·exact (show (0 ≤ l.length) ∧ (([] : List Int) = pts h l 0) ∧ ((0 : Int) = curF h l 0) ∧ (∀ j,j < 0 → ptOK h l j = true) from ⟨(by first | assumption | omega | rfl | (intro _ hjj; omega) | (simp; done) | (simp; omega)),(by rfl),(by rfl),(by exact upto_zero)⟩)
  ·exact Sub.of [] (@cast ((((.calls h : Dat) = .calls h) ∧ ((((20 : Nat) = 20) ∧ (((List.length ([] : List Int)) = (List.length ([] : List Int))) ∧ ((20 : Nat) ∈ ([20,999] : List Nat)))) ∧ (((.int .i64 (0 : Int) : Value) = .int .i64 (0 : Int)) ∧ (((.ints l : Dat) = .ints l) ∧ (((.int .i64 (l.length : Int) : Value) = .int .i64 (l.length : Int)) ∧ (((.int .i64 (0 : Int) : Value) = .int .i64 ((0 : Nat) : Int)) ∧ True)))))) ∧ (((((3 : Nat) = 3) ∧ (((.ints ([] : List Int) : Dat) = .ints ([] : List Int)) ∧ ((20 : Nat) ∈ ([20,999] : List Nat)))) ∧ True) ∧ ((true = true) ∧ (true = true)))) _ (by kernel_rfl) ⟨⟨rfl,⟨rfl,rfl,(by decide)⟩,rfl,rfl,rfl,(congrArg (Value.int .i64) (by first | rfl | omega | assumption | simp | simp_all)),tt⟩,⟨⟨rfl,rfl,(by decide)⟩,tt⟩,rfl,rfl⟩)
  ·rintro ⟨i,o,cur⟩ hC0
   have hC : (i ≤ l.length) ∧ (o = pts h l i) ∧ (cur = curF h l i) ∧ (∀ j,j < i → ptOK h l j = true) := hC0
   clear hC0
   obtain ⟨hi,ho,hc,hA⟩ := hC
   refine W.to (⟨[(0,.sl (.calls h)),(6,.own 20 o.length),(7,.i cur),(21,.sl (.ints l)),(22,.i (l.length : Int)),(23,.i ((i : Nat) : Int))],[(20,⟨3,.row (.ints o)⟩)],[20,999]⟩) rfl ?_
   have hol : o.length = i := by rw [ho]; exact pts_len h l i
   have hv : validHistory h = true := not_g (or_l n19)
   have hord : isOrd l (h.length : Int) = true := not_g (or_r n19)
   have hv6 := (valid_iff.1 hv).1
   have hrg := fun (j : Nat) (hj : j < l.length) => isOrd_range hord hj
   have hri := hrg i
   refine W.K cok tab9 hnt [] [0,6,7,21,22,23,24] (⟨[(0,.sl (.calls h)),(6,.own 20 o.length),(7,.i cur),(21,.sl (.ints l)),(22,.i (l.length : Int)),(23,.i ((i : Nat) : Int)),(24,.b (decide (((i : Nat) : Int) < (l.length : Int))))],[(20,⟨3,.row (.ints o)⟩)],[20,999]⟩)
    ((True ∧ True ∧ True) ∧ True) (by kernel_rfl)
    ⟨⟨tt,tt,tt⟩,tt⟩ ?_
   refine W.seq ?_
   refine W.ifP (((i : Nat) : Int) < (l.length : Int)) (.b (decide (((i : Nat) : Int) < (l.length : Int)))) (by kernel_rfl) rfl trivial ?_ ?_
   ·intro h24
    refine W.skip (thenQ_normal ?_)
    refine W.seq ?_
    refine W.block ?_
    refine W.K cok tab9 hnt [] [0,6,7,9,21,22,23] (⟨[(0,.sl (.calls h)),(6,.own 20 o.length),(7,.i cur),(9,.i (l.getD i 0)),(21,.sl (.ints l)),(22,.i (l.length : Int)),(23,.i ((i : Nat) : Int))],[(20,⟨3,.row (.ints o)⟩)],[20,999]⟩)
     ((True ∧ True ∧ (0 ≤ ((i : Nat) : Int)) ∧ (((i : Nat) : Int) < (l.length : Int))) ∧ True ∧ True ∧ True) (by kernel_rfl)
     ⟨⟨tt,tt,(by omega),(by omega)⟩,tt,tt,tt⟩ ?_
    refine W.K cok tab9 hnt [] [0,6,7,9,21,22,23] (⟨[(0,.sl (.calls h)),(6,.own 20 o.length),(7,.i (max cur ((h.getD (Int.toNat (l.getD i 0)) default).frm))),(9,.i (l.getD i 0)),(21,.sl (.ints l)),(22,.i (l.length : Int)),(23,.i ((i : Nat) : Int))],[(20,⟨3,.row (.ints o)⟩)],[20,999]⟩)
     (True ∧ True ∧ True ∧ (True ∧ True ∧ (0 ≤ (l.getD i 0)) ∧ ((l.getD i 0) < (h.length : Int))) ∧ True ∧ True ∧ (True ∧ True) ∧ True ∧ True) (by kernel_rfl)
     ⟨tt,tt,tt,⟨tt,tt,(by (first | omega | (simp only [List.length_append,List.length_cons,List.length_nil,List.length_take,List.length_drop,List.length_set,List.length_replicate,List.length_map] at *; omega) | assumption)),(by (first | omega | (simp only [List.length_append,List.length_cons,List.length_nil,List.length_take,List.length_drop,List.length_set,List.length_replicate,List.length_map] at *; omega) | assumption))⟩,tt,tt,⟨tt,tt⟩,tt,tt⟩ ?_
    refine W.seq ?_
    refine W.K cok tab9 hnt [] [0,6,7,21,22,23,40] (⟨[(0,.sl (.calls h)),(6,.own 20 o.length),(7,.i (max cur ((h.getD (Int.toNat (l.getD i 0)) default).frm))),(21,.sl (.ints l)),(22,.i (l.length : Int)),(23,.i ((i : Nat) : Int)),(40,.b (decide (((h.getD (Int.toNat (l.getD i 0)) default).to) ≤ (max cur ((h.getD (Int.toNat (l.getD i 0)) default).frm)))))],[(20,⟨3,.row (.ints o)⟩)],[20,999]⟩)
     (True ∧ True ∧ True ∧ (True ∧ True ∧ (0 ≤ (l.getD i 0)) ∧ ((l.getD i 0) < (h.length : Int))) ∧ True ∧ True ∧ (True ∧ True ∧ True) ∧ True) (by kernel_rfl)
     ⟨tt,tt,tt,⟨tt,tt,(by (first | omega | (simp only [List.length_append,List.length_cons,List.length_nil,List.length_take,List.length_drop,List.length_set,List.length_replicate,List.length_map] at *; omega) | assumption)),(by (first | omega | (simp only [List.length_append,List.length_cons,List.length_nil,List.length_take,List.length_drop,List.length_set,List.length_replicate,List.length_map] at *; omega) | assumption))⟩,tt,tt,⟨tt,tt,tt⟩,tt⟩ ?_
    refine W.ifP (((h.getD (Int.toNat (l.getD i 0)) default).to) ≤ (max cur ((h.getD (Int.toNat (l.getD i 0)) default).frm))) (.b (decide (((h.getD (Int.toNat (l.getD i 0)) default).to) ≤ (max cur ((h.getD (Int.toNat (l.getD i 0)) default).frm))))) (by kernel_rfl) rfl trivial ?_ ?_
    ·intro h40
     refine W.K cok tab9 hnt [] [4,5] (⟨[(4,.v (.slice none 0 0)),(5,.b false)],[(20,⟨3,.row (.ints o)⟩)],[20,999]⟩)
      (True ∧ True ∧ True) (by kernel_rfl)
      ⟨tt,tt,tt⟩ ?_
     refine W.ret (thenQ_ret (blockQ_ret (thenQ_ret (thenQ_ret (blockQ_ret (thenQ_ret ?_))))))
     exact endQ_ret (.tup [.v (.slice none 0 0),.b false]) (by kernel_rfl) (@cast ((((Value.slice none 0 0 : Value) = .slice none 0 0) ∧ ((Dat.ints ((pointsOf h l).1)).len = 0)) ∧ (((.bool false : Value) = .bool ((pointsOf h l).2)) ∧ True)) _ (by kernel_rfl) ⟨⟨rfl,(by show List.length ((pointsOf h l).1) = 0; rw [points_2 n19,points_no (i := i) (by omega) (decide_eq_false (by rw [hc] at h40; show ¬ max (curF h l i) _ < _; unfold callAt; omega))]; try rfl)⟩,(congrArg Value.bool (by rw [points_2 n19,points_no (i := i) (by omega) (decide_eq_false (by rw [hc] at h40; show ¬ max (curF h l i) _ < _; unfold callAt; omega))]; try rfl)),tt⟩)
    ·intro n40
     refine W.skip (thenQ_normal ?_)
     refine W.L cok tab9 hnt [44] (⟨[(0,.sl (.calls h)),(6,.own 44 (List.length (o ++ ([(max cur ((h.getD (Int.toNat (l.getD i 0)) default).frm))])))),(7,.i (max cur ((h.getD (Int.toNat (l.getD i 0)) default).frm))),(21,.sl (.ints l)),(22,.i (l.length : Int)),(23,.i ((i : Nat) : Int)),(40,.b (decide (((h.getD (Int.toNat (l.getD i 0)) default).to) ≤ (max cur ((h.getD (Int.toNat (l.getD i 0)) default).frm))))),(41,.own 20 o.length),(42,.i (max cur ((h.getD (Int.toNat (l.getD i 0)) default).frm))),(43,.sl (.ints ([(max cur ((h.getD (Int.toNat (l.getD i 0)) default).frm))]))),(44,.own 44 (List.length (o ++ ([(max cur ((h.getD (Int.toNat (l.getD i 0)) default).frm))]))))],[(44,⟨3,.row (.ints (o ++ ([(max cur ((h.getD (Int.toNat (l.getD i 0)) default).frm))])))⟩)],[44,43,20,999]⟩)
      (True ∧ True ∧ (True ∧ True) ∧ ((True ∧ (o.length = o.length)) ∧ True ∧ ((o.length + (List.length ([(max cur ((h.getD (Int.toNat (l.getD i 0)) default).frm))]))) * 8 ≤ 140737488355328)) ∧ True ∧ True) (by kernel_rfl)
      ⟨tt,tt,⟨tt,tt⟩,⟨⟨tt,rfl⟩,tt,(by (first | omega | (simp only [List.length_append,List.length_cons,List.length_nil,List.length_take,List.length_drop,List.length_set,List.length_replicate,List.length_map] at *; omega) | assumption))⟩,tt,tt⟩ ?_
     refine blockQ_normal (thenQ_normal ?_)
     refine W.L cok tab9 hnt [] (⟨[(0,.sl (.calls h)),(6,.own 44 (List.length (o ++ ([(max cur ((h.getD (Int.toNat (l.getD i 0)) default).frm))])))),(7,.i (max cur ((h.getD (Int.toNat (l.getD i 0)) default).frm))),(21,.sl (.ints l)),(22,.i (l.length : Int)),(23,.i (((i + 1) : Nat) : Int)),(40,.b (decide (((h.getD (Int.toNat (l.getD i 0)) default).to) ≤ (max cur ((h.getD (Int.toNat (l.getD i 0)) default).frm))))),(41,.own 20 o.length),(42,.i (max cur ((h.getD (Int.toNat (l.getD i 0)) default).frm))),(43,.sl (.ints ([(max cur ((h.getD (Int.toNat (l.getD i 0)) default).frm))]))),(44,.own 44 (List.length (o ++ ([(max cur ((h.getD (Int.toNat (l.getD i 0)) default).frm))])))),(45,.i (((i + 1) : Nat) : Int))],[(44,⟨3,.row (.ints (o ++ ([(max cur ((h.getD (Int.toNat (l.getD i 0)) default).frm))])))⟩)],[44,43,20,999]⟩)
      ((True ∧ True ∧ (Fits .i64 (((i + 1) : Nat) : Int))) ∧ True ∧ True) (by kernel_rfl)
      ⟨⟨tt,tt,(by exact fits_i64 (by omega) (by omega))⟩,tt,tt⟩ ?_
     refine thenQ_normal ?_
     refine ⟨((i + 1),(o ++ ([(max cur ((h.getD (Int.toNat (l.getD i 0)) default).frm))])),(max cur ((h.getD (Int.toNat (l.getD i 0)) default).frm))),(show ((i + 1) ≤ l.length) ∧ ((o ++ ([(max cur ((h.getD (Int.toNat (l.getD i 0)) default).frm))])) = pts h l (i + 1)) ∧ ((max cur ((h.getD (Int.toNat (l.getD i 0)) default).frm)) = curF h l (i + 1)) ∧ (∀ j,j < (i + 1) → ptOK h l j = true) from ⟨(by first | assumption | omega | rfl | (intro _ hjj; omega) | (simp; done) | (simp; omega)),(by rw [pts_succ,ho,hc]; rfl),(by rw [hc]; rfl),(by exact upto_succ hA (decide_eq_true (by rw [hc] at n40; unfold callAt at *; show max (curF h l i) _ < _; unfold callAt; omega)))⟩),(show l.length - (i + 1) < l.length - i from (by first | omega | (simp_all; omega))),?_⟩
     exact Sub.of [(20,44)] (@cast ((((.calls h : Dat) = .calls h) ∧ ((((44 : Nat) = 44) ∧ (((List.length (o ++ ([(max cur ((h.getD (Int.toNat (l.getD i 0)) default).frm))]))) = (List.length (o ++ ([(max cur ((h.getD (Int.toNat (l.getD i 0)) default).frm))])))) ∧ ((20 : Nat) ∈ ([20,999] : List Nat)))) ∧ (((.int .i64 (max cur ((h.getD (Int.toNat (l.getD i 0)) default).frm)) : Value) = .int .i64 (max cur ((h.getD (Int.toNat (l.getD i 0)) default).frm))) ∧ (((.ints l : Dat) = .ints l) ∧ (((.int .i64 (l.length : Int) : Value) = .int .i64 (l.length : Int)) ∧ (((.int .i64 (((i + 1) : Nat) : Int) : Value) = .int .i64 (((i + 1) : Nat) : Int)) ∧ True)))))) ∧ (((((3 : Nat) = 3) ∧ (((.ints (o ++ ([(max cur ((h.getD (Int.toNat (l.getD i 0)) default).frm))])) : Dat) = .ints (o ++ ([(max cur ((h.getD (Int.toNat (l.getD i 0)) default).frm))]))) ∧ ((20 : Nat) ∈ ([20,999] : List Nat)))) ∧ True) ∧ ((true = true) ∧ (true = true)))) _ (by kernel_rfl) ⟨⟨rfl,⟨rfl,rfl,(by decide)⟩,rfl,rfl,rfl,rfl,tt⟩,⟨⟨rfl,rfl,(by decide)⟩,tt⟩,rfl,rfl⟩)
   ·intro n24
    refine W.exit (thenQ_exit (thenQ_exit (blockQ_hit ?_)))
    refine thenQ_normal ?_
    refine W.K cok tab9 hnt [] [4,5] (⟨[(4,.own 20 o.length),(5,.b true)],[(20,⟨3,.row (.ints o)⟩)],[20,999]⟩)
     (True ∧ True ∧ True ∧ True) (by kernel_rfl)
     ⟨tt,tt,tt,tt⟩ ?_
    refine W.subS [] (⟨[(4,.sl (.ints o)),(5,.b true)],[],[999]⟩) (@cast ((((o.length = o.length) ∧ (((.ints o : Dat) = .ints o) ∧ ((20 : Nat) ∉ ([] : List Nat)))) ∧ (((.bool true : Value) = .bool true) ∧ True)) ∧ (True ∧ ((true = true) ∧ (true = true)))) _ (by kernel_rfl) ⟨⟨⟨rfl,rfl,(by decide)⟩,rfl,tt⟩,tt,rfl,rfl⟩) ?_
    refine W.ret ?_
    exact endQ_ret (.tup [.sl (.ints o),.b true]) (by kernel_rfl) (@cast (((.ints o : Dat) = .ints ((pointsOf h l).1)) ∧ (((.bool true : Value) = .bool ((pointsOf h l).2)) ∧ True)) _ (by kernel_rfl) ⟨(congrArg Dat.ints (by rw [points_2 n19,points_yes (n := i) (by omega) hA] <;> first | rfl | exact ho)),(congrArg Value.bool (by rw [points_2 n19,points_yes (n := i) (by omega) hA] <;> first | rfl | exact ho)),tt⟩)
theorem ent9 : Entr prog 9 := ⟨_,func9,rfl,by decide⟩
end Go.Proofs.Try
