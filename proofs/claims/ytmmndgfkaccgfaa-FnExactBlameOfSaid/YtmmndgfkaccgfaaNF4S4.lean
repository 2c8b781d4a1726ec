import Derived.Test.YtmmndgfkaccgfaaNF4S0
import Derived.Test.YtmmndgfkaccgfaaNF4S3
import Derived.Test.YtmmndgfkaccgfaaNF4S2
import Derived.Test.YtmmndgfkaccgfaaNF4S1
set_option linter.unusedSimpArgs false
set_option linter.unusedVariables false
namespace Go.Proofs.Try
open Go.Ab Go.RowKit
def out43 : Bool → ATy [.str,.calls,.ints,.ints] → AV × List (TypeId × Dat) × Prop := fun _ (s,h,rows,o,_) => (.sl (.intss (ordersF s h (bitF rows) (h.length - o.length) o)),[],(isObject s = true) ∧ (validHistory h = true) ∧ (rows = rowsOf h.length (bitF rows)) ∧ (headO h o))
def mu43 : ATy [.str,.calls,.ints,.ints] → Nat := fun (s,h,rows,o,_) => h.length - o.length
def fs43 : FnS := fnS [.o,.s .calls,.s .ints,.s .ints] [.str,.calls,.ints,.ints] out43
abbrev fsN43 (n : Nat) : FnS := fnS [.o,.s .calls,.s .ints,.s .ints] [.str,.calls,.ints,.ints] (lim out43 mu43 n)
theorem ent43 : Entr prog 43 := ⟨_,func43,rfl,by decide⟩
abbrev T43 (nn : Nat) : Tab := lk [(43,fsN43 nn),(29,fs29),(56,fs56),(57,fs57)]
theorem tab43 {nn : Nat} (ih : FnOK prog 43 (fsN43 nn)) : TabOK prog (T43 nn) := (TabOK.cons ih ent43 (TabOK.cons ok29 ent29 (TabOK.cons ok56 ent56 (TabOK.cons ok57 ent57 TabOK.nil))))
set_option maxRecDepth 100000 in
set_option maxHeartbeats 1000000 in
theorem okS43 (nn : Nat) (ih : FnOK prog 43 (fsN43 nn)) : FnOK prog 43 (fsN43 (nn + 1)) := by
 refine FnOK.mk cok func43 rfl rfl rfl ?_
 rintro fl ⟨(s : ByteArray),(h : List CallD),(rows : List Int),(o : List Int),_⟩ hpre F hnt0 _
 have hnt : F.nt = 78 := hnt0.trans ntmps43
 obtain ⟨hpre,hmu⟩ := hpre
 replace hmu : h.length - o.length < nn + 1 := hmu
 replace hpre : (isObject s = true) ∧ (validHistory h = true) ∧ (rows = rowsOf h.length (bitF rows)) ∧ (headO h o) := hpre
 obtain ⟨hs,hv,hr,ho⟩ := hpre
 refine W.to (⟨[(0,.v (.string s)),(1,.sl (.calls h)),(2,.sl (.ints rows)),(3,.sl (.ints o))],[],[999]⟩) rfl ?_
 have hv6 := (valid_iff.1 hv).1
 have hol := ho.2.2
 have hrl : rows.length = h.length := by rw [hr,rowsOf_len]
 have hio := ho.1
 refine W.lenOf 1 (.calls h) (by kernel_rfl) ?_
 intro hl_h; replace hl_h : List.length h ≤ 9223372036854775807 := hl_h
 refine W.lenOf 2 (.ints rows) (by kernel_rfl) ?_
 intro hl_rows; replace hl_rows : List.length rows ≤ 9223372036854775807 := hl_rows
 refine W.lenOf 3 (.ints o) (by kernel_rfl) ?_
 intro hl_o; replace hl_o : List.length o ≤ 9223372036854775807 := hl_o
 refine W.K cok (tab43 ih) hnt [] [0,1,2,3] (⟨[(0,.v (.string s)),(1,.sl (.calls h)),(2,.sl (.ints rows)),(3,.sl (.ints o))],[],[999]⟩)
  (True ∧ True) (by kernel_rfl)
  ⟨tt,tt⟩ ?_
 refine W.seq ?_
 refine W.K cok (tab43 ih) hnt [] [0,1,2,3,17] (⟨[(0,.v (.string s)),(1,.sl (.calls h)),(2,.sl (.ints rows)),(3,.sl (.ints o)),(17,.b (!(runsB s h o)))],[],[999]⟩)
  (True ∧ True ∧ True ∧ (True ∧ (True ∧ True ∧ True ∧ True) ∧ (isObject s = true) ∧ (validHistory h = true) ∧ (inH h o) ∧ (o.length ≤ 6)) ∧ True ∧ True) (by kernel_rfl)
  ⟨tt,tt,tt,⟨tt,⟨tt,tt,tt,tt⟩,(by exact hs),(by exact hv),(by exact ho.1),(by omega)⟩,tt,tt⟩ ?_
 refine W.if' (!(runsB s h o)) (.b (!(runsB s h o))) (by kernel_rfl) rfl trivial ?_ ?_
 ·intro h17
  refine W.K cok (tab43 ih) hnt [] [8] (⟨[(8,.sl (.intss ([] : List (List Int))))],[],[18,999]⟩)
   (True ∧ True ∧ True) (by kernel_rfl)
   ⟨tt,tt,tt⟩ ?_
  refine W.ret (thenQ_ret ?_)
  exact endQ_ret (.sl (.intss ([] : List (List Int)))) (by kernel_rfl) (@cast ((.intss ([] : List (List Int)) : Dat) = .intss (ordersF s h (bitF rows) (h.length - o.length) o)) _ (by kernel_rfl) (congrArg Dat.intss (by exact (orders_none (by simpa using h17)).symm)))
 ·intro n17
  refine W.skip (thenQ_normal ?_)
  refine W.seq ?_
  refine W.K cok (tab43 ih) hnt [] [0,1,2,3,23] (⟨[(0,.v (.string s)),(1,.sl (.calls h)),(2,.sl (.ints rows)),(3,.sl (.ints o)),(23,.b (decide ((o.length : Int) = (h.length : Int))))],[],[999]⟩)
   (True ∧ True ∧ True ∧ True ∧ (True ∧ True ∧ True) ∧ True) (by kernel_rfl)
   ⟨tt,tt,tt,tt,⟨tt,tt,tt⟩,tt⟩ ?_
  refine W.ifP ((o.length : Int) = (h.length : Int)) (.b (decide ((o.length : Int) = (h.length : Int)))) (by kernel_rfl) rfl trivial ?_ ?_
  ·intro h23
   refine W.K cok (tab43 ih) hnt [24] [8] (⟨[(8,.sl (.intss ([o])))],[],[27,26,24,999]⟩)
    (True ∧ True ∧ ((True ∧ ((List.length ([] : List Int)) = (List.length ([] : List Int)))) ∧ True ∧ (((List.length ([] : List Int)) + o.length) * 8 ≤ 140737488355328)) ∧ (True ∧ True) ∧ True ∧ True) (by kernel_rfl)
    ⟨tt,tt,⟨⟨tt,rfl⟩,tt,(by first | omega | (simp; done) | (simp; omega) | (have h9 := upto_len6 (s := s) (f := bitF rows) (m := h.length - o.length - 1) (k := k) hv6 (by omega) (by omega) o; have h8 := rest_len (s := s) (f := bitF rows) (m := h.length - (o ++ [((k : Nat) : Int)]).length) hv6 (by omega) (o ++ [((k : Nat) : Int)]); (try rw [← hou] at h9); (try simp only [List.length_append,List.length_cons,List.length_nil] at *); omega))⟩,⟨tt,tt⟩,tt,tt⟩ ?_
   refine W.ret (thenQ_ret ?_)
   exact endQ_ret (.sl (.intss ([o]))) (by kernel_rfl) (@cast ((.intss ([o]) : Dat) = .intss (ordersF s h (bitF rows) (h.length - o.length) o)) _ (by kernel_rfl) (congrArg Dat.intss (by exact explain_one (by simpa using n17) h23)))
  ·intro n23
   refine W.skip (thenQ_normal ?_)
   refine W.K cok (tab43 ih) hnt [28] [0,1,2,3,9] (⟨[(0,.v (.string s)),(1,.sl (.calls h)),(2,.sl (.ints rows)),(3,.sl (.ints o)),(9,.own 28 (List.length ([] : List (List Int))))],[(28,⟨23,.row (.intss ([] : List (List Int)))⟩)],[28,999]⟩)
    (True ∧ True ∧ True) (by kernel_rfl)
    ⟨tt,tt,tt⟩ ?_
   refine W.K cok (tab43 ih) hnt [] [0,1,2,3,9,10] (⟨[(0,.v (.string s)),(1,.sl (.calls h)),(2,.sl (.ints rows)),(3,.sl (.ints o)),(9,.own 28 (List.length ([] : List (List Int)))),(10,.i (0 : Int))],[(28,⟨23,.row (.intss ([] : List (List Int)))⟩)],[28,999]⟩)
    (True ∧ True) (by kernel_rfl)
    ⟨tt,tt⟩ ?_
   refine W.seq ?_
   refine W.K cok (tab43 ih) hnt [] [0,1,2,3,9,10,11] (⟨[(0,.v (.string s)),(1,.sl (.calls h)),(2,.sl (.ints rows)),(3,.sl (.ints o)),(9,.own 28 (List.length ([] : List (List Int)))),(10,.i (0 : Int)),(11,.i (0 : Int))],[(28,⟨23,.row (.intss ([] : List (List Int)))⟩)],[28,999]⟩)
    (True ∧ True) (by kernel_rfl)
    ⟨tt,tt⟩ ?_
   refine W.block ?_
   refine W.loop (ι := Nat × Int) (fun (x : Nat × Int) => match x with | (j,d) => (⟨[(0,.v (.string s)),(1,.sl (.calls h)),(2,.sl (.ints rows)),(3,.sl (.ints o)),(9,.own 28 (List.length ([] : List (List Int)))),(10,.i d),(11,.i ((j : Nat) : Int))],[(28,⟨23,.row (.intss ([] : List (List Int)))⟩)],[28,999]⟩ : St))
    (fun (x : Nat × Int) => match x with | (j,d) => (j ≤ o.length) ∧ (d = mask h.length (doneF o j)))
    (fun (x : Nat × Int) => match x with | (j,d) => (o.length - j : Nat)) (0,(0 : Int)) ?_ ?_ ?_
   ·exact (show (0 ≤ o.length) ∧ ((0 : Int) = mask h.length (doneF o 0)) from ⟨(by first | assumption | omega | rfl | (intro _ hjj; omega) | (simp; done) | (simp; omega)),(by exact (done_zero o _).symm)⟩)
   ·exact Sub.of [] (@cast (((((.string s) : Value) = (.string s)) ∧ (((.calls h : Dat) = .calls h) ∧ (((.ints rows : Dat) = .ints rows) ∧ (((.ints o : Dat) = .ints o) ∧ ((((28 : Nat) = 28) ∧ (((List.length ([] : List (List Int))) = (List.length ([] : List (List Int)))) ∧ ((28 : Nat) ∈ ([28,999] : List Nat)))) ∧ (((.int .i64 (0 : Int) : Value) = .int .i64 (0 : Int)) ∧ (((.int .i64 (0 : Int) : Value) = .int .i64 ((0 : Nat) : Int)) ∧ True))))))) ∧ (((((23 : Nat) = 23) ∧ (((.intss ([] : List (List Int)) : Dat) = .intss ([] : List (List Int))) ∧ ((28 : Nat) ∈ ([28,999] : List Nat)))) ∧ True) ∧ ((true = true) ∧ (true = true)))) _ (by kernel_rfl) ⟨⟨rfl,rfl,rfl,rfl,⟨rfl,rfl,(by decide)⟩,rfl,(congrArg (Value.int .i64) (by first | rfl | omega | assumption | simp | simp_all)),tt⟩,⟨⟨rfl,rfl,(by decide)⟩,tt⟩,rfl,rfl⟩)
   ·rintro ⟨j,d⟩ hC0
    have hC : (j ≤ o.length) ∧ (d = mask h.length (doneF o j)) := hC0
    clear hC0
    obtain ⟨hj,hd⟩ := hC
    refine W.to (⟨[(0,.v (.string s)),(1,.sl (.calls h)),(2,.sl (.ints rows)),(3,.sl (.ints o)),(9,.own 28 (List.length ([] : List (List Int)))),(10,.i d),(11,.i ((j : Nat) : Int))],[(28,⟨23,.row (.intss ([] : List (List Int)))⟩)],[28,999]⟩) rfl ?_
    refine W.seq ?_
    refine W.K cok (tab43 ih) hnt [] [0,1,2,3,9,10,11,32] (⟨[(0,.v (.string s)),(1,.sl (.calls h)),(2,.sl (.ints rows)),(3,.sl (.ints o)),(9,.own 28 (List.length ([] : List (List Int)))),(10,.i d),(11,.i ((j : Nat) : Int)),(32,.b (decide (((j : Nat) : Int) < (o.length : Int))))],[(28,⟨23,.row (.intss ([] : List (List Int)))⟩)],[28,999]⟩)
     (True ∧ True ∧ True ∧ (True ∧ True ∧ True) ∧ True) (by kernel_rfl)
     ⟨tt,tt,tt,⟨tt,tt,tt⟩,tt⟩ ?_
    refine W.ifP (((j : Nat) : Int) < (o.length : Int)) (.b (decide (((j : Nat) : Int) < (o.length : Int)))) (by kernel_rfl) rfl trivial ?_ ?_
    ·intro h32
     refine W.skip (thenQ_normal ?_)
     refine W.seq ?_
     refine W.block ?_
     refine W.L cok (tab43 ih) hnt [] (⟨[(0,.v (.string s)),(1,.sl (.calls h)),(2,.sl (.ints rows)),(3,.sl (.ints o)),(9,.own 28 (List.length ([] : List (List Int)))),(10,.i (d + (power (o.getD j 0)))),(11,.i ((j : Nat) : Int)),(32,.b (decide (((j : Nat) : Int) < (o.length : Int)))),(35,.i d),(36,.sl (.ints o)),(37,.i ((j : Nat) : Int)),(38,.ep [.i (o.getD j 0)]),(39,.i (o.getD j 0)),(40,.i (power (o.getD j 0))),(41,.i (d + (power (o.getD j 0))))],[(28,⟨23,.row (.intss ([] : List (List Int)))⟩)],[28,999]⟩)
      (True ∧ True ∧ True ∧ (True ∧ True ∧ (0 ≤ ((j : Nat) : Int)) ∧ (((j : Nat) : Int) < (o.length : Int))) ∧ True ∧ (True ∧ (True ∧ True) ∧ ((o.getD j 0) ≤ 60)) ∧ (True ∧ True ∧ (Fits .i64 (d + (power (o.getD j 0))))) ∧ True ∧ True) (by kernel_rfl)
      ⟨tt,tt,tt,⟨tt,tt,(by omega),(by omega)⟩,tt,⟨tt,⟨tt,tt⟩,(by have := hio j (by omega); omega)⟩,⟨tt,tt,(by rw [hd,done_next ho.2.1 (by omega) (by have := hio j (by omega); omega) (by have := hio j (by omega); omega)]; have := mask_bnd h.length (doneF o (j + 1)) (by omega); exact fits_i64 (by omega) (by omega))⟩,tt,tt⟩ ?_
     refine blockQ_normal (thenQ_normal ?_)
     refine W.L cok (tab43 ih) hnt [] (⟨[(0,.v (.string s)),(1,.sl (.calls h)),(2,.sl (.ints rows)),(3,.sl (.ints o)),(9,.own 28 (List.length ([] : List (List Int)))),(10,.i (d + (power (o.getD j 0)))),(11,.i (((j + 1) : Nat) : Int)),(32,.b (decide (((j : Nat) : Int) < (o.length : Int)))),(33,.i ((j : Nat) : Int)),(34,.i (((j + 1) : Nat) : Int)),(35,.i d),(36,.sl (.ints o)),(37,.i ((j : Nat) : Int)),(38,.ep [.i (o.getD j 0)]),(39,.i (o.getD j 0)),(40,.i (power (o.getD j 0))),(41,.i (d + (power (o.getD j 0))))],[(28,⟨23,.row (.intss ([] : List (List Int)))⟩)],[28,999]⟩)
      (True ∧ (True ∧ True ∧ (Fits .i64 (((j + 1) : Nat) : Int))) ∧ True ∧ True) (by kernel_rfl)
      ⟨tt,⟨tt,tt,(by exact fits_i64 (by omega) (by omega))⟩,tt,tt⟩ ?_
     refine thenQ_normal ?_
     refine ⟨((j + 1),(d + (power (o.getD j 0)))),(show ((j + 1) ≤ o.length) ∧ ((d + (power (o.getD j 0))) = mask h.length (doneF o (j + 1))) from ⟨(by first | assumption | omega | rfl | (intro _ hjj; omega) | (simp; done) | (simp; omega)),(by rw [hd]; exact done_next ho.2.1 (by omega) (by have := hio j (by omega); omega) (by have := hio j (by omega); omega))⟩),(show o.length - (j + 1) < o.length - j from (by first | omega | (simp_all; omega))),?_⟩
     exact Sub.of [] (@cast (((((.string s) : Value) = (.string s)) ∧ (((.calls h : Dat) = .calls h) ∧ (((.ints rows : Dat) = .ints rows) ∧ (((.ints o : Dat) = .ints o) ∧ ((((28 : Nat) = 28) ∧ (((List.length ([] : List (List Int))) = (List.length ([] : List (List Int)))) ∧ ((28 : Nat) ∈ ([28,999] : List Nat)))) ∧ (((.int .i64 (d + (power (o.getD j 0))) : Value) = .int .i64 (d + (power (o.getD j 0)))) ∧ (((.int .i64 (((j + 1) : Nat) : Int) : Value) = .int .i64 (((j + 1) : Nat) : Int)) ∧ True))))))) ∧ (((((23 : Nat) = 23) ∧ (((.intss ([] : List (List Int)) : Dat) = .intss ([] : List (List Int))) ∧ ((28 : Nat) ∈ ([28,999] : List Nat)))) ∧ True) ∧ ((true = true) ∧ (true = true)))) _ (by kernel_rfl) ⟨⟨rfl,rfl,rfl,rfl,⟨rfl,rfl,(by decide)⟩,rfl,rfl,tt⟩,⟨⟨rfl,rfl,(by decide)⟩,tt⟩,rfl,rfl⟩)
    ·intro n32
     refine W.exit (thenQ_exit (thenQ_exit (blockQ_hit ?_)))
     refine thenQ_normal ?_
     refine W.seq ?_
     refine W.K cok (tab43 ih) hnt [] [0,1,2,3,9,10,12] (⟨[(0,.v (.string s)),(1,.sl (.calls h)),(2,.sl (.ints rows)),(3,.sl (.ints o)),(9,.own 28 (List.length ([] : List (List Int)))),(10,.i d),(12,.i (0 : Int))],[(28,⟨23,.row (.intss ([] : List (List Int)))⟩)],[28,999]⟩)
      (True ∧ True) (by kernel_rfl)
      ⟨tt,tt⟩ ?_
     refine W.block ?_
     refine W.loop (ι := Nat × (List (List Int))) (fun (x : Nat × (List (List Int))) => match x with | (k,ou) => (⟨[(0,.v (.string s)),(1,.sl (.calls h)),(2,.sl (.ints rows)),(3,.sl (.ints o)),(9,.own 28 ou.length),(10,.i d),(12,.i ((k : Nat) : Int))],[(28,⟨23,.row (.intss ou)⟩)],[28,999]⟩ : St))
      (fun (x : Nat × (List (List Int))) => match x with | (k,ou) => (k ≤ h.length) ∧ (ou = ordersUp s h (bitF rows) (h.length - o.length - 1) o k))
      (fun (x : Nat × (List (List Int))) => match x with | (k,ou) => (h.length - k : Nat)) (0,([] : List (List Int))) ?_ ?_ ?_
     ·exact (show (0 ≤ h.length) ∧ (([] : List (List Int)) = ordersUp s h (bitF rows) (h.length - o.length - 1) o 0) from ⟨(by first | assumption | omega | rfl | (intro _ hjj; omega) | (simp; done) | (simp; omega)),(by rfl)⟩)
     ·exact Sub.of [] (@cast (((((.string s) : Value) = (.string s)) ∧ (((.calls h : Dat) = .calls h) ∧ (((.ints rows : Dat) = .ints rows) ∧ (((.ints o : Dat) = .ints o) ∧ ((((28 : Nat) = 28) ∧ (((List.length ([] : List (List Int))) = (List.length ([] : List (List Int)))) ∧ ((28 : Nat) ∈ ([28,999] : List Nat)))) ∧ (((.int .i64 d : Value) = .int .i64 d) ∧ (((.int .i64 (0 : Int) : Value) = .int .i64 ((0 : Nat) : Int)) ∧ True))))))) ∧ (((((23 : Nat) = 23) ∧ (((.intss ([] : List (List Int)) : Dat) = .intss ([] : List (List Int))) ∧ ((28 : Nat) ∈ ([28,999] : List Nat)))) ∧ True) ∧ ((true = true) ∧ (true = true)))) _ (by kernel_rfl) ⟨⟨rfl,rfl,rfl,rfl,⟨rfl,rfl,(by decide)⟩,rfl,(congrArg (Value.int .i64) (by first | rfl | omega | assumption | simp | simp_all)),tt⟩,⟨⟨rfl,rfl,(by decide)⟩,tt⟩,rfl,rfl⟩)
     ·rintro ⟨k,ou⟩ hC0
      have hC : (k ≤ h.length) ∧ (ou = ordersUp s h (bitF rows) (h.length - o.length - 1) o k) := hC0
      clear hC0
      obtain ⟨hk,hou⟩ := hC
      refine W.to (⟨[(0,.v (.string s)),(1,.sl (.calls h)),(2,.sl (.ints rows)),(3,.sl (.ints o)),(9,.own 28 ou.length),(10,.i d),(12,.i ((k : Nat) : Int))],[(28,⟨23,.row (.intss ou)⟩)],[28,999]⟩) rfl ?_
      have hdd : d = mask h.length (hasN o) := by rw [hd]; exact done_all (by omega)
      refine W.seq ?_
      refine W.K cok (tab43 ih) hnt [] [0,1,2,3,9,10,12,45] (⟨[(0,.v (.string s)),(1,.sl (.calls h)),(2,.sl (.ints rows)),(3,.sl (.ints o)),(9,.own 28 ou.length),(10,.i d),(12,.i ((k : Nat) : Int)),(45,.b (decide (((k : Nat) : Int) < (h.length : Int))))],[(28,⟨23,.row (.intss ou)⟩)],[28,999]⟩)
       (True ∧ True ∧ True ∧ (True ∧ True ∧ True) ∧ True) (by kernel_rfl)
       ⟨tt,tt,tt,⟨tt,tt,tt⟩,tt⟩ ?_
      refine W.ifP (((k : Nat) : Int) < (h.length : Int)) (.b (decide (((k : Nat) : Int) < (h.length : Int)))) (by kernel_rfl) rfl trivial ?_ ?_
      ·intro h45
       refine W.skip (thenQ_normal ?_)
       refine W.seq ?_
       refine W.block ?_
       refine W.KA cok (tab43 ih) hnt [] [0,1,2,3,9,10,12,64] (⟨[(0,.v (.string s)),(1,.sl (.calls h)),(2,.sl (.ints rows)),(3,.sl (.ints o)),(9,.own 28 ou.length),(10,.i d),(12,.i ((k : Nat) : Int)),(64,.b ((decide ((bitOf d ((k : Nat) : Int)) = (0 : Int))) && (decide ((bitsI .and .i64 (rows.getD k 0) d) = (rows.getD k 0)))))],[(28,⟨23,.row (.intss ou)⟩)],[28,999]⟩)
        (True ∧ True ∧ (True ∧ (True ∧ True ∧ True) ∧ (((k : Nat) : Int) ≤ 60) ∧ 0 ≤ d ∧ d ≤ 4611686018427387904) ∧ (True ∧ True ∧ True) ∧ True ∧ ((decide ((bitOf d ((k : Nat) : Int)) = (0 : Int))) = true → True) ∧ ((decide ((bitOf d ((k : Nat) : Int)) = (0 : Int))) = true → True) ∧ ((decide ((bitOf d ((k : Nat) : Int)) = (0 : Int))) = true → ((((decide ((bitOf d ((k : Nat) : Int)) = (0 : Int))) = true) ∧ True) ∧ (((decide ((bitOf d ((k : Nat) : Int)) = (0 : Int))) = true) ∧ True) ∧ (0 ≤ ((k : Nat) : Int)) ∧ (((k : Nat) : Int) < (rows.length : Int)))) ∧ ((decide ((bitOf d ((k : Nat) : Int)) = (0 : Int))) = true → (((decide ((bitOf d ((k : Nat) : Int)) = (0 : Int))) = true) ∧ True)) ∧ ((decide ((bitOf d ((k : Nat) : Int)) = (0 : Int))) = true → True) ∧ ((decide ((bitOf d ((k : Nat) : Int)) = (0 : Int))) = true → ((((decide ((bitOf d ((k : Nat) : Int)) = (0 : Int))) = true) ∧ True) ∧ (((decide ((bitOf d ((k : Nat) : Int)) = (0 : Int))) = true) ∧ True) ∧ True)) ∧ ((decide ((bitOf d ((k : Nat) : Int)) = (0 : Int))) = true → True) ∧ ((decide ((bitOf d ((k : Nat) : Int)) = (0 : Int))) = true → True) ∧ ((decide ((bitOf d ((k : Nat) : Int)) = (0 : Int))) = true → ((((decide ((bitOf d ((k : Nat) : Int)) = (0 : Int))) = true) ∧ True) ∧ (((decide ((bitOf d ((k : Nat) : Int)) = (0 : Int))) = true) ∧ True) ∧ (0 ≤ ((k : Nat) : Int)) ∧ (((k : Nat) : Int) < (rows.length : Int)))) ∧ ((decide ((bitOf d ((k : Nat) : Int)) = (0 : Int))) = true → (((decide ((bitOf d ((k : Nat) : Int)) = (0 : Int))) = true) ∧ True)) ∧ ((decide ((bitOf d ((k : Nat) : Int)) = (0 : Int))) = true → ((((decide ((bitOf d ((k : Nat) : Int)) = (0 : Int))) = true) ∧ True) ∧ (((decide ((bitOf d ((k : Nat) : Int)) = (0 : Int))) = true) ∧ True) ∧ True)) ∧ (True ∧ ((decide ((bitOf d ((k : Nat) : Int)) = (0 : Int))) = true → ((decide ((bitOf d ((k : Nat) : Int)) = (0 : Int))) = true) ∧ True) ∧ ((decide ((bitOf d ((k : Nat) : Int)) = (0 : Int))) = false → True)) ∧ True) (by kernel_rfl) (by kernel_rfl)
        ⟨tt,tt,⟨tt,⟨tt,tt,tt⟩,(by omega),(by rw [hd]; have := mask_bnd h.length (doneF o j) (by omega); omega)⟩,⟨tt,tt,tt⟩,tt,(fun _ => trivial),(fun _ => trivial),(fun hG => ⟨⟨hG,tt⟩,⟨hG,tt⟩,(by have hg0 : (bitOf d ((k : Nat) : Int)) = (0 : Int) := of_decide_eq_true hG; omega),(by have hg0 : (bitOf d ((k : Nat) : Int)) = (0 : Int) := of_decide_eq_true hG; omega)⟩),(fun hG => ⟨hG,tt⟩),(fun _ => trivial),(fun hG => ⟨⟨hG,tt⟩,⟨hG,tt⟩,tt⟩),(fun _ => trivial),(fun _ => trivial),(fun hG => ⟨⟨hG,tt⟩,⟨hG,tt⟩,(by have hg0 : (bitOf d ((k : Nat) : Int)) = (0 : Int) := of_decide_eq_true hG; omega),(by have hg0 : (bitOf d ((k : Nat) : Int)) = (0 : Int) := of_decide_eq_true hG; omega)⟩),(fun hG => ⟨hG,tt⟩),(fun hG => ⟨⟨hG,tt⟩,⟨hG,tt⟩,tt⟩),⟨tt,(fun hp => ⟨hp,tt⟩),(fun _ => trivial)⟩,tt⟩ ?_
       refine W.if' ((decide ((bitOf d ((k : Nat) : Int)) = (0 : Int))) && (decide ((bitsI .and .i64 (rows.getD k 0) d) = (rows.getD k 0)))) (.b ((decide ((bitOf d ((k : Nat) : Int)) = (0 : Int))) && (decide ((bitsI .and .i64 (rows.getD k 0) d) = (rows.getD k 0))))) (by kernel_rfl) rfl trivial ?_ ?_
       ·intro h64
        have h64_0 : (bitOf d ((k : Nat) : Int)) = (0 : Int) := of_decide_eq_true (and_l h64)
        have h64_1 : (bitsI .and .i64 (rows.getD k 0) d) = (rows.getD k 0) := of_decide_eq_true (and_r h64)
        have hfk : freeB (bitF rows) h.length o k = true := free_spec (by omega) (by omega) (by rw [← hr,← hdd]; exact h64)
        refine W.L cok (tab43 ih) hnt [69,71,76] (⟨[(0,.v (.string s)),(1,.sl (.calls h)),(2,.sl (.ints rows)),(3,.sl (.ints o)),(9,.own 76 (List.length (ou ++ (ordersF s h (bitF rows) (h.length - (o ++ ([((k : Nat) : Int)])).length) (o ++ ([((k : Nat) : Int)])))))),(10,.i d),(12,.i ((k : Nat) : Int)),(64,.b ((decide ((bitOf d ((k : Nat) : Int)) = (0 : Int))) && (decide ((bitsI .and .i64 (rows.getD k 0) d) = (rows.getD k 0))))),(65,.own 28 ou.length),(66,.v (.string s)),(67,.sl (.calls h)),(68,.sl (.ints rows)),(69,.own 69 (List.length ([] : List Int))),(70,.sl (.ints o)),(71,.own 71 o.length),(72,.i ((k : Nat) : Int)),(73,.sl (.ints ([((k : Nat) : Int)]))),(74,.sl (.ints (o ++ ([((k : Nat) : Int)])))),(75,.sl (.intss (ordersF s h (bitF rows) (h.length - (o ++ ([((k : Nat) : Int)])).length) (o ++ ([((k : Nat) : Int)]))))),(76,.own 76 (List.length (ou ++ (ordersF s h (bitF rows) (h.length - (o ++ ([((k : Nat) : Int)])).length) (o ++ ([((k : Nat) : Int)]))))))],[(76,⟨23,.row (.intss (ou ++ (ordersF s h (bitF rows) (h.length - (o ++ ([((k : Nat) : Int)])).length) (o ++ ([((k : Nat) : Int)])))))⟩)],[76,74,73,71,69,28,999]⟩)
         (True ∧ True ∧ True ∧ True ∧ True ∧ True ∧ ((True ∧ ((List.length ([] : List Int)) = (List.length ([] : List Int)))) ∧ True ∧ (((List.length ([] : List Int)) + o.length) * 8 ≤ 140737488355328)) ∧ True ∧ (True ∧ True) ∧ ((True ∧ (o.length = o.length)) ∧ True ∧ ((o.length + (List.length ([((k : Nat) : Int)]))) * 8 ≤ 140737488355328)) ∧ (True ∧ (True ∧ True ∧ True ∧ True ∧ True) ∧ ((isObject s = true) ∧ (validHistory h = true) ∧ (rows = rowsOf h.length (bitF rows)) ∧ (headO h (o ++ ([((k : Nat) : Int)])))) ∧ (h.length - (o ++ ([((k : Nat) : Int)])).length < nn)) ∧ ((True ∧ (ou.length = ou.length)) ∧ True ∧ ((ou.length + (List.length (ordersF s h (bitF rows) (h.length - (o ++ ([((k : Nat) : Int)])).length) (o ++ ([((k : Nat) : Int)]))))) * 24 ≤ 140737488355328)) ∧ True ∧ True) (by kernel_rfl)
         ⟨tt,tt,tt,tt,tt,tt,⟨⟨tt,rfl⟩,tt,(by first | omega | (simp; done) | (simp; omega) | (have h9 := upto_len6 (s := s) (f := bitF rows) (m := h.length - o.length - 1) (k := k) hv6 (by omega) (by omega) o; have h8 := rest_len (s := s) (f := bitF rows) (m := h.length - (o ++ [((k : Nat) : Int)]).length) hv6 (by omega) (o ++ [((k : Nat) : Int)]); (try rw [← hou] at h9); (try simp only [List.length_append,List.length_cons,List.length_nil] at *); omega))⟩,tt,⟨tt,tt⟩,⟨⟨tt,rfl⟩,tt,(by first | omega | (simp; done) | (simp; omega) | (have h9 := upto_len6 (s := s) (f := bitF rows) (m := h.length - o.length - 1) (k := k) hv6 (by omega) (by omega) o; have h8 := rest_len (s := s) (f := bitF rows) (m := h.length - (o ++ [((k : Nat) : Int)]).length) hv6 (by omega) (o ++ [((k : Nat) : Int)]); (try rw [← hou] at h9); (try simp only [List.length_append,List.length_cons,List.length_nil] at *); omega))⟩,⟨tt,⟨tt,tt,tt,tt,tt⟩,⟨(by exact hs),(by exact hv),(by exact hr),(by exact headO_snoc ho (by omega) (free_has hfk) (by omega))⟩,(by (try simp only [List.length_append,List.length_cons,List.length_nil]); omega)⟩,⟨⟨tt,rfl⟩,tt,(by first | omega | (simp; done) | (simp; omega) | (have h9 := upto_len6 (s := s) (f := bitF rows) (m := h.length - o.length - 1) (k := k) hv6 (by omega) (by omega) o; have h8 := rest_len (s := s) (f := bitF rows) (m := h.length - (o ++ [((k : Nat) : Int)]).length) hv6 (by omega) (o ++ [((k : Nat) : Int)]); (try rw [← hou] at h9); (try simp only [List.length_append,List.length_cons,List.length_nil] at *); omega))⟩,tt,tt⟩ ?_
        refine blockQ_normal (thenQ_normal ?_)
        refine W.L cok (tab43 ih) hnt [] (⟨[(0,.v (.string s)),(1,.sl (.calls h)),(2,.sl (.ints rows)),(3,.sl (.ints o)),(9,.own 76 (List.length (ou ++ (ordersF s h (bitF rows) (h.length - (o ++ ([((k : Nat) : Int)])).length) (o ++ ([((k : Nat) : Int)])))))),(10,.i d),(12,.i (((k + 1) : Nat) : Int)),(46,.i ((k : Nat) : Int)),(47,.i (((k + 1) : Nat) : Int)),(64,.b ((decide ((bitOf d ((k : Nat) : Int)) = (0 : Int))) && (decide ((bitsI .and .i64 (rows.getD k 0) d) = (rows.getD k 0))))),(65,.own 28 ou.length),(66,.v (.string s)),(67,.sl (.calls h)),(68,.sl (.ints rows)),(69,.own 69 (List.length ([] : List Int))),(70,.sl (.ints o)),(71,.own 71 o.length),(72,.i ((k : Nat) : Int)),(73,.sl (.ints ([((k : Nat) : Int)]))),(74,.sl (.ints (o ++ ([((k : Nat) : Int)])))),(75,.sl (.intss (ordersF s h (bitF rows) (h.length - (o ++ ([((k : Nat) : Int)])).length) (o ++ ([((k : Nat) : Int)]))))),(76,.own 76 (List.length (ou ++ (ordersF s h (bitF rows) (h.length - (o ++ ([((k : Nat) : Int)])).length) (o ++ ([((k : Nat) : Int)]))))))],[(76,⟨23,.row (.intss (ou ++ (ordersF s h (bitF rows) (h.length - (o ++ ([((k : Nat) : Int)])).length) (o ++ ([((k : Nat) : Int)])))))⟩)],[76,74,73,71,69,28,999]⟩)
         (True ∧ (True ∧ True ∧ (Fits .i64 (((k + 1) : Nat) : Int))) ∧ True ∧ True) (by kernel_rfl)
         ⟨tt,⟨tt,tt,(by exact fits_i64 (by omega) (by omega))⟩,tt,tt⟩ ?_
        refine thenQ_normal ?_
        refine ⟨((k + 1),(ou ++ (ordersF s h (bitF rows) (h.length - (o ++ ([((k : Nat) : Int)])).length) (o ++ ([((k : Nat) : Int)]))))),(show ((k + 1) ≤ h.length) ∧ ((ou ++ (ordersF s h (bitF rows) (h.length - (o ++ ([((k : Nat) : Int)])).length) (o ++ ([((k : Nat) : Int)])))) = ordersUp s h (bitF rows) (h.length - o.length - 1) o (k + 1)) from ⟨(by first | assumption | omega | rfl | (intro _ hjj; omega) | (simp; done) | (simp; omega)),(by first | (exact explain_step hfk hou) | (rw [up_no hfk]; exact hou))⟩),(show h.length - (k + 1) < h.length - k from (by first | omega | (simp_all; omega))),?_⟩
        exact Sub.of [(28,76)] (@cast (((((.string s) : Value) = (.string s)) ∧ (((.calls h : Dat) = .calls h) ∧ (((.ints rows : Dat) = .ints rows) ∧ (((.ints o : Dat) = .ints o) ∧ ((((76 : Nat) = 76) ∧ (((List.length (ou ++ (ordersF s h (bitF rows) (h.length - (o ++ ([((k : Nat) : Int)])).length) (o ++ ([((k : Nat) : Int)]))))) = (List.length (ou ++ (ordersF s h (bitF rows) (h.length - (o ++ ([((k : Nat) : Int)])).length) (o ++ ([((k : Nat) : Int)])))))) ∧ ((28 : Nat) ∈ ([28,999] : List Nat)))) ∧ (((.int .i64 d : Value) = .int .i64 d) ∧ (((.int .i64 (((k + 1) : Nat) : Int) : Value) = .int .i64 (((k + 1) : Nat) : Int)) ∧ True))))))) ∧ (((((23 : Nat) = 23) ∧ (((.intss (ou ++ (ordersF s h (bitF rows) (h.length - (o ++ ([((k : Nat) : Int)])).length) (o ++ ([((k : Nat) : Int)])))) : Dat) = .intss (ou ++ (ordersF s h (bitF rows) (h.length - (o ++ ([((k : Nat) : Int)])).length) (o ++ ([((k : Nat) : Int)]))))) ∧ ((28 : Nat) ∈ ([28,999] : List Nat)))) ∧ True) ∧ ((true = true) ∧ (true = true)))) _ (by kernel_rfl) ⟨⟨rfl,rfl,rfl,rfl,⟨rfl,rfl,(by decide)⟩,rfl,rfl,tt⟩,⟨⟨rfl,rfl,(by decide)⟩,tt⟩,rfl,rfl⟩)
       ·intro n64
        have hfk : freeB (bitF rows) h.length o k = false := free_spec (by omega) (by omega) (by rw [← hr,← hdd]; exact n64)
        refine W.skip (blockQ_normal (thenQ_normal ?_))
        refine W.L cok (tab43 ih) hnt [] (⟨[(0,.v (.string s)),(1,.sl (.calls h)),(2,.sl (.ints rows)),(3,.sl (.ints o)),(9,.own 28 ou.length),(10,.i d),(12,.i (((k + 1) : Nat) : Int)),(46,.i ((k : Nat) : Int)),(47,.i (((k + 1) : Nat) : Int)),(64,.b ((decide ((bitOf d ((k : Nat) : Int)) = (0 : Int))) && (decide ((bitsI .and .i64 (rows.getD k 0) d) = (rows.getD k 0)))))],[(28,⟨23,.row (.intss ou)⟩)],[28,999]⟩)
         (True ∧ (True ∧ True ∧ (Fits .i64 (((k + 1) : Nat) : Int))) ∧ True ∧ True) (by kernel_rfl)
         ⟨tt,⟨tt,tt,(by exact fits_i64 (by omega) (by omega))⟩,tt,tt⟩ ?_
        refine thenQ_normal ?_
        refine ⟨((k + 1),ou),(show ((k + 1) ≤ h.length) ∧ (ou = ordersUp s h (bitF rows) (h.length - o.length - 1) o (k + 1)) from ⟨(by first | assumption | omega | rfl | (intro _ hjj; omega) | (simp; done) | (simp; omega)),(by first | (exact explain_step hfk hou) | (rw [up_no hfk]; exact hou))⟩),(show h.length - (k + 1) < h.length - k from (by first | omega | (simp_all; omega))),?_⟩
        exact Sub.of [] (@cast (((((.string s) : Value) = (.string s)) ∧ (((.calls h : Dat) = .calls h) ∧ (((.ints rows : Dat) = .ints rows) ∧ (((.ints o : Dat) = .ints o) ∧ ((((28 : Nat) = 28) ∧ ((ou.length = ou.length) ∧ ((28 : Nat) ∈ ([28,999] : List Nat)))) ∧ (((.int .i64 d : Value) = .int .i64 d) ∧ (((.int .i64 (((k + 1) : Nat) : Int) : Value) = .int .i64 (((k + 1) : Nat) : Int)) ∧ True))))))) ∧ (((((23 : Nat) = 23) ∧ (((.intss ou : Dat) = .intss ou) ∧ ((28 : Nat) ∈ ([28,999] : List Nat)))) ∧ True) ∧ ((true = true) ∧ (true = true)))) _ (by kernel_rfl) ⟨⟨rfl,rfl,rfl,rfl,⟨rfl,rfl,(by decide)⟩,rfl,rfl,tt⟩,⟨⟨rfl,rfl,(by decide)⟩,tt⟩,rfl,rfl⟩)
      ·intro n45
       refine W.exit (thenQ_exit (thenQ_exit (blockQ_hit ?_)))
       refine thenQ_normal ?_
       refine W.K cok (tab43 ih) hnt [] [8] (⟨[(8,.own 28 ou.length)],[(28,⟨23,.row (.intss ou)⟩)],[28,999]⟩)
        (True ∧ True ∧ True) (by kernel_rfl)
        ⟨tt,tt,tt⟩ ?_
       refine W.ret ?_
       exact endQ_ret (.own 28 ou.length) (by kernel_rfl) (@cast ((ou.length = ou.length) ∧ (((.intss ou : Dat) = .intss (ordersF s h (bitF rows) (h.length - o.length) o)) ∧ ((28 : Nat) ∉ ([] : List Nat)))) _ (by kernel_rfl) ⟨rfl,⟨(congrArg Dat.intss (by exact explain_end (by omega) (by omega) hou)),(by decide)⟩⟩)
theorem ok43 : FnOK prog 43 fs43 := FnOK.rec' okS43
end Go.Proofs.Try

set_option linter.unusedSimpArgs false
set_option linter.unusedVariables false
namespace Go.Proofs.Try
open Go.Ab Go.RowKit
def fs38 : FnS := fnS [.o,.s .calls] [.str,.calls] (fun _ (s,h,_) => (.b (explains s h (aheadF h)),[],True))
abbrev T38 : Tab := lk [(37,fs37),(43,fs43),(44,fs44)]
theorem tab38 : TabOK prog T38 := (TabOK.cons ok37 ent37 (TabOK.cons ok43 ent43 (TabOK.cons ok44 ent44 TabOK.nil)))
set_option maxRecDepth 100000 in
set_option maxHeartbeats 1000000 in
theorem ok38 : FnOK prog 38 fs38 := by
 refine FnOK.mk cok func38 rfl rfl rfl ?_
 rintro fl ⟨(s : ByteArray),(h : List CallD),_⟩ hpre F hnt0 _
 have hnt : F.nt = 18 := hnt0.trans ntmps38
 clear hpre
 refine W.to (⟨[(0,.v (.string s)),(1,.sl (.calls h))],[],[999]⟩) rfl ?_
 refine W.lenOf 1 (.calls h) (by kernel_rfl) ?_
 intro hl_h; replace hl_h : List.length h ≤ 9223372036854775807 := hl_h
 refine W.K cok tab38 hnt [] [0,1] (⟨[(0,.v (.string s)),(1,.sl (.calls h))],[],[999]⟩)
  (True ∧ True) (by kernel_rfl)
  ⟨tt,tt⟩ ?_
 refine W.K cok tab38 hnt [] [4] (⟨[(4,.b ((isObject s && validHistory h) && (decide ((0 : Int) < (((List.length (ordersF s h (bitF (rowsOf h.length (aheadF h))) (h.length - ([] : List Int).length) ([] : List Int))) : Nat) : Int)))))],[],[13,999]⟩)
  (True ∧ True ∧ (True ∧ (True ∧ True ∧ True) ∧ True) ∧ True ∧ ((isObject s && validHistory h) = true → True) ∧ ((isObject s && validHistory h) = true → True) ∧ ((isObject s && validHistory h) = true → True) ∧ ((isObject s && validHistory h) = true → (True ∧ ((((isObject s && validHistory h) = true) ∧ True) ∧ True) ∧ (h.length ≤ 60))) ∧ ((isObject s && validHistory h) = true → True) ∧ ((isObject s && validHistory h) = true → (True ∧ ((((isObject s && validHistory h) = true) ∧ True) ∧ (((isObject s && validHistory h) = true) ∧ True) ∧ (((isObject s && validHistory h) = true) ∧ True) ∧ (((isObject s && validHistory h) = true) ∧ True) ∧ True) ∧ (isObject s = true) ∧ (validHistory h = true) ∧ ((rowsOf h.length (aheadF h)) = rowsOf h.length (bitF (rowsOf h.length (aheadF h)))) ∧ (headO h ([] : List Int)))) ∧ ((isObject s && validHistory h) = true → (((isObject s && validHistory h) = true) ∧ True)) ∧ ((isObject s && validHistory h) = true → ((((isObject s && validHistory h) = true) ∧ True) ∧ True ∧ True)) ∧ (True ∧ ((isObject s && validHistory h) = true → ((isObject s && validHistory h) = true) ∧ True) ∧ ((isObject s && validHistory h) = false → True)) ∧ True ∧ True) (by kernel_rfl)
  ⟨tt,tt,⟨tt,⟨tt,tt,tt⟩,tt⟩,tt,(fun _ => trivial),(fun _ => trivial),(fun _ => trivial),(fun hG => ⟨tt,⟨⟨hG,tt⟩,tt⟩,(by have h6 := (valid_iff.1 (and_r hG)).1; omega)⟩),(fun _ => trivial),(fun hG => ⟨tt,⟨⟨hG,tt⟩,⟨hG,tt⟩,⟨hG,tt⟩,⟨hG,tt⟩,tt⟩,(by exact and_l hG),(by exact and_r hG),(by exact rows_self),(by exact headO_nil h)⟩),(fun hG => ⟨hG,tt⟩),(fun hG => ⟨⟨hG,tt⟩,tt,tt⟩),⟨tt,(fun hp => ⟨hp,tt⟩),(fun _ => trivial)⟩,tt,tt⟩ ?_
 refine W.ret ?_
 exact endQ_ret (.b ((isObject s && validHistory h) && (decide ((0 : Int) < (((List.length (ordersF s h (bitF (rowsOf h.length (aheadF h))) (h.length - ([] : List Int).length) ([] : List Int))) : Nat) : Int))))) (by kernel_rfl) (@cast ((.bool ((isObject s && validHistory h) && (decide ((0 : Int) < (((List.length (ordersF s h (bitF (rowsOf h.length (aheadF h))) (h.length - ([] : List Int).length) ([] : List Int))) : Nat) : Int)))) : Value) = .bool (explains s h (aheadF h))) _ (by kernel_rfl) (congrArg Value.bool (by exact by_gt (fun _ => rfl))))
theorem ent38 : Entr prog 38 := ⟨_,func38,rfl,by decide⟩
end Go.Proofs.Try

set_option linter.unusedSimpArgs false
set_option linter.unusedVariables false
namespace Go.Proofs.Try
open Go.Ab Go.RowKit
def fs39 : FnS := fnS [.s .calls,.s .ints] [.calls,.ints] (fun _ (h,l,_) => (.sl (.calls (pickC h l)),[],(l.length ≤ 1000) ∧ (∀ x ∈ l,0 ≤ x ∧ x < (h.length : Int))))
abbrev T39 : Tab := lk []
theorem tab39 : TabOK prog T39 := TabOK.nil
set_option maxRecDepth 100000 in
set_option maxHeartbeats 1000000 in
theorem ok39 : FnOK prog 39 fs39 := by
 refine FnOK.mk cok func39 rfl rfl rfl ?_
 rintro fl ⟨(h : List CallD),(l : List Int),_⟩ hpre F hnt0 _
 have hnt : F.nt = 25 := hnt0.trans ntmps39
 replace hpre : (l.length ≤ 1000) ∧ (∀ x ∈ l,0 ≤ x ∧ x < (h.length : Int)) := hpre
 obtain ⟨hl6,hin⟩ := hpre
 refine W.to (⟨[(0,.sl (.calls h)),(1,.sl (.ints l))],[],[999]⟩) rfl ?_
 refine W.lenOf 0 (.calls h) (by kernel_rfl) ?_
 intro hl_h; replace hl_h : List.length h ≤ 9223372036854775807 := hl_h
 refine W.lenOf 1 (.ints l) (by kernel_rfl) ?_
 intro hl_l; replace hl_l : List.length l ≤ 9223372036854775807 := hl_l
 refine W.K cok tab39 hnt [] [0,1] (⟨[(0,.sl (.calls h)),(1,.sl (.ints l))],[],[999]⟩)
  (True ∧ True) (by kernel_rfl)
  ⟨tt,tt⟩ ?_
 refine W.K cok tab39 hnt [7] [0,1,5] (⟨[(0,.sl (.calls h)),(1,.sl (.ints l)),(5,.own 7 (List.length ([] : List CallD)))],[(7,⟨47,.row (.calls ([] : List CallD))⟩)],[7,999]⟩)
  (True ∧ True ∧ True) (by kernel_rfl)
  ⟨tt,tt,tt⟩ ?_
 refine W.seq ?_
 refine W.K cok tab39 hnt [] [0,1,5,6] (⟨[(0,.sl (.calls h)),(1,.sl (.ints l)),(5,.own 7 (List.length ([] : List CallD))),(6,.i (0 : Int))],[(7,⟨47,.row (.calls ([] : List CallD))⟩)],[7,999]⟩)
  (True ∧ True) (by kernel_rfl)
  ⟨tt,tt⟩ ?_
 refine W.block ?_
 refine W.loop (ι := Nat × (List CallD)) (fun (x : Nat × (List CallD)) => match x with | (j,pt) => (⟨[(0,.sl (.calls h)),(1,.sl (.ints l)),(5,.own 7 pt.length),(6,.i ((j : Nat) : Int))],[(7,⟨47,.row (.calls pt)⟩)],[7,999]⟩ : St))
  (fun (x : Nat × (List CallD)) => match x with | (j,pt) => (j ≤ l.length) ∧ (pt = pickC h (l.take j)))
  (fun (x : Nat × (List CallD)) => match x with | (j,pt) => (l.length - j : Nat)) (0,([] : List CallD)) ?_ ?_ ?_
 ·exact (show (0 ≤ l.length) ∧ (([] : List CallD) = pickC h (l.take 0)) from ⟨(by first | assumption | omega | rfl | (intro _ hjj; omega) | (simp; done) | (simp; omega)),(by rfl)⟩)
 ·exact Sub.of [] (@cast ((((.calls h : Dat) = .calls h) ∧ (((.ints l : Dat) = .ints l) ∧ ((((7 : Nat) = 7) ∧ (((List.length ([] : List CallD)) = (List.length ([] : List CallD))) ∧ ((7 : Nat) ∈ ([7,999] : List Nat)))) ∧ (((.int .i64 (0 : Int) : Value) = .int .i64 ((0 : Nat) : Int)) ∧ True)))) ∧ (((((47 : Nat) = 47) ∧ (((.calls ([] : List CallD) : Dat) = .calls ([] : List CallD)) ∧ ((7 : Nat) ∈ ([7,999] : List Nat)))) ∧ True) ∧ ((true = true) ∧ (true = true)))) _ (by kernel_rfl) ⟨⟨rfl,rfl,⟨rfl,rfl,(by decide)⟩,(congrArg (Value.int .i64) (by first | rfl | omega | assumption | simp | simp_all)),tt⟩,⟨⟨rfl,rfl,(by decide)⟩,tt⟩,rfl,rfl⟩)
 ·rintro ⟨j,pt⟩ hC0
  have hC : (j ≤ l.length) ∧ (pt = pickC h (l.take j)) := hC0
  clear hC0
  obtain ⟨hj,hpt⟩ := hC
  refine W.to (⟨[(0,.sl (.calls h)),(1,.sl (.ints l)),(5,.own 7 pt.length),(6,.i ((j : Nat) : Int))],[(7,⟨47,.row (.calls pt)⟩)],[7,999]⟩) rfl ?_
  have hgj := fun (hj : j < l.length) => hin _ (getD_mem l 0 hj)
  have hptl : pt.length ≤ j := by rw [hpt,pickC_len,List.length_take]; omega
  refine W.seq ?_
  refine W.K cok tab39 hnt [] [0,1,5,6,11] (⟨[(0,.sl (.calls h)),(1,.sl (.ints l)),(5,.own 7 pt.length),(6,.i ((j : Nat) : Int)),(11,.b (decide (((j : Nat) : Int) < (l.length : Int))))],[(7,⟨47,.row (.calls pt)⟩)],[7,999]⟩)
   (True ∧ True ∧ True ∧ (True ∧ True ∧ True) ∧ True) (by kernel_rfl)
   ⟨tt,tt,tt,⟨tt,tt,tt⟩,tt⟩ ?_
  refine W.ifP (((j : Nat) : Int) < (l.length : Int)) (.b (decide (((j : Nat) : Int) < (l.length : Int)))) (by kernel_rfl) rfl trivial ?_ ?_
  ·intro h11
   refine W.skip (thenQ_normal ?_)
   refine W.seq ?_
   refine W.block ?_
   refine W.L cok tab39 hnt [23] (⟨[(0,.sl (.calls h)),(1,.sl (.ints l)),(5,.own 23 (List.length (pt ++ ([(h.getD (Int.toNat (l.getD j 0)) default)])))),(6,.i ((j : Nat) : Int)),(11,.b (decide (((j : Nat) : Int) < (l.length : Int)))),(14,.own 7 pt.length),(15,.sl (.calls h)),(16,.sl (.ints l)),(17,.i ((j : Nat) : Int)),(18,.ep [.i (l.getD j 0)]),(19,.i (l.getD j 0)),(20,.ep [.i ((h.getD (Int.toNat (l.getD j 0)) default).proc),.i ((h.getD (Int.toNat (l.getD j 0)) default).obj),.i ((h.getD (Int.toNat (l.getD j 0)) default).kind),.i ((h.getD (Int.toNat (l.getD j 0)) default).arg),.i ((h.getD (Int.toNat (l.getD j 0)) default).ret),.i ((h.getD (Int.toNat (l.getD j 0)) default).frm),.i ((h.getD (Int.toNat (l.getD j 0)) default).to)]),(21,.agg [.i ((h.getD (Int.toNat (l.getD j 0)) default).proc),.i ((h.getD (Int.toNat (l.getD j 0)) default).obj),.i ((h.getD (Int.toNat (l.getD j 0)) default).kind),.i ((h.getD (Int.toNat (l.getD j 0)) default).arg),.i ((h.getD (Int.toNat (l.getD j 0)) default).ret),.i ((h.getD (Int.toNat (l.getD j 0)) default).frm),.i ((h.getD (Int.toNat (l.getD j 0)) default).to)]),(22,.sl (.calls ([(h.getD (Int.toNat (l.getD j 0)) default)]))),(23,.own 23 (List.length (pt ++ ([(h.getD (Int.toNat (l.getD j 0)) default)]))))],[(23,⟨47,.row (.calls (pt ++ ([(h.getD (Int.toNat (l.getD j 0)) default)])))⟩)],[23,22,7,999]⟩)
    (True ∧ True ∧ True ∧ True ∧ (True ∧ True ∧ (0 ≤ ((j : Nat) : Int)) ∧ (((j : Nat) : Int) < (l.length : Int))) ∧ True ∧ (True ∧ True ∧ (0 ≤ (l.getD j 0)) ∧ ((l.getD j 0) < (h.length : Int))) ∧ True ∧ (True ∧ True) ∧ ((True ∧ (pt.length = pt.length)) ∧ True ∧ ((pt.length + (List.length ([(h.getD (Int.toNat (l.getD j 0)) default)]))) * 56 ≤ 140737488355328)) ∧ True ∧ True) (by kernel_rfl)
    ⟨tt,tt,tt,tt,⟨tt,tt,(by omega),(by omega)⟩,tt,⟨tt,tt,(by have h9 := hgj (by omega); omega),(by have h9 := hgj (by omega); omega)⟩,tt,⟨tt,tt⟩,⟨⟨tt,rfl⟩,tt,(by (try simp only [List.length_cons,List.length_nil]); omega)⟩,tt,tt⟩ ?_
   refine blockQ_normal (thenQ_normal ?_)
   refine W.L cok tab39 hnt [] (⟨[(0,.sl (.calls h)),(1,.sl (.ints l)),(5,.own 23 (List.length (pt ++ ([(h.getD (Int.toNat (l.getD j 0)) default)])))),(6,.i (((j + 1) : Nat) : Int)),(11,.b (decide (((j : Nat) : Int) < (l.length : Int)))),(12,.i ((j : Nat) : Int)),(13,.i (((j + 1) : Nat) : Int)),(14,.own 7 pt.length),(15,.sl (.calls h)),(16,.sl (.ints l)),(17,.i ((j : Nat) : Int)),(18,.ep [.i (l.getD j 0)]),(19,.i (l.getD j 0)),(20,.ep [.i ((h.getD (Int.toNat (l.getD j 0)) default).proc),.i ((h.getD (Int.toNat (l.getD j 0)) default).obj),.i ((h.getD (Int.toNat (l.getD j 0)) default).kind),.i ((h.getD (Int.toNat (l.getD j 0)) default).arg),.i ((h.getD (Int.toNat (l.getD j 0)) default).ret),.i ((h.getD (Int.toNat (l.getD j 0)) default).frm),.i ((h.getD (Int.toNat (l.getD j 0)) default).to)]),(21,.agg [.i ((h.getD (Int.toNat (l.getD j 0)) default).proc),.i ((h.getD (Int.toNat (l.getD j 0)) default).obj),.i ((h.getD (Int.toNat (l.getD j 0)) default).kind),.i ((h.getD (Int.toNat (l.getD j 0)) default).arg),.i ((h.getD (Int.toNat (l.getD j 0)) default).ret),.i ((h.getD (Int.toNat (l.getD j 0)) default).frm),.i ((h.getD (Int.toNat (l.getD j 0)) default).to)]),(22,.sl (.calls ([(h.getD (Int.toNat (l.getD j 0)) default)]))),(23,.own 23 (List.length (pt ++ ([(h.getD (Int.toNat (l.getD j 0)) default)]))))],[(23,⟨47,.row (.calls (pt ++ ([(h.getD (Int.toNat (l.getD j 0)) default)])))⟩)],[23,22,7,999]⟩)
    (True ∧ (True ∧ True ∧ (Fits .i64 (((j + 1) : Nat) : Int))) ∧ True ∧ True) (by kernel_rfl)
    ⟨tt,⟨tt,tt,(by exact fits_i64 (by omega) (by omega))⟩,tt,tt⟩ ?_
   refine thenQ_normal ?_
   refine ⟨((j + 1),(pt ++ ([(h.getD (Int.toNat (l.getD j 0)) default)]))),(show ((j + 1) ≤ l.length) ∧ ((pt ++ ([(h.getD (Int.toNat (l.getD j 0)) default)])) = pickC h (l.take (j + 1))) from ⟨(by first | assumption | omega | rfl | (intro _ hjj; omega) | (simp; done) | (simp; omega)),(by exact pick_succ hpt (by omega))⟩),(show l.length - (j + 1) < l.length - j from (by first | omega | (simp_all; omega))),?_⟩
   exact Sub.of [(7,23)] (@cast ((((.calls h : Dat) = .calls h) ∧ (((.ints l : Dat) = .ints l) ∧ ((((23 : Nat) = 23) ∧ (((List.length (pt ++ ([(h.getD (Int.toNat (l.getD j 0)) default)]))) = (List.length (pt ++ ([(h.getD (Int.toNat (l.getD j 0)) default)])))) ∧ ((7 : Nat) ∈ ([7,999] : List Nat)))) ∧ (((.int .i64 (((j + 1) : Nat) : Int) : Value) = .int .i64 (((j + 1) : Nat) : Int)) ∧ True)))) ∧ (((((47 : Nat) = 47) ∧ (((.calls (pt ++ ([(h.getD (Int.toNat (l.getD j 0)) default)])) : Dat) = .calls (pt ++ ([(h.getD (Int.toNat (l.getD j 0)) default)]))) ∧ ((7 : Nat) ∈ ([7,999] : List Nat)))) ∧ True) ∧ ((true = true) ∧ (true = true)))) _ (by kernel_rfl) ⟨⟨rfl,rfl,⟨rfl,rfl,(by decide)⟩,rfl,tt⟩,⟨⟨rfl,rfl,(by decide)⟩,tt⟩,rfl,rfl⟩)
  ·intro n11
   refine W.exit (thenQ_exit (thenQ_exit (blockQ_hit ?_)))
   refine thenQ_normal ?_
   refine W.K cok tab39 hnt [] [4] (⟨[(4,.own 7 pt.length)],[(7,⟨47,.row (.calls pt)⟩)],[7,999]⟩)
    (True ∧ True ∧ True) (by kernel_rfl)
    ⟨tt,tt,tt⟩ ?_
   refine W.ret ?_
   exact endQ_ret (.own 7 pt.length) (by kernel_rfl) (@cast ((pt.length = pt.length) ∧ (((.calls pt : Dat) = .calls (pickC h l)) ∧ ((7 : Nat) ∉ ([] : List Nat)))) _ (by kernel_rfl) ⟨rfl,⟨(congrArg Dat.calls (by exact pick_all hpt (by omega))),(by decide)⟩⟩)
theorem ent39 : Entr prog 39 := ⟨_,func39,rfl,by decide⟩
end Go.Proofs.Try

set_option linter.unusedSimpArgs false
set_option linter.unusedVariables false
namespace Go.Proofs.Try
open Go.Ab Go.RowKit
def fs17 : FnS := fnS [.o,.s .calls] [.str,.calls] (fun _ (s,h,_) => (.tup [.sl (.ints ((blameP s h).1)),.b ((blameP s h).2)],[],True))
abbrev T17 : Tab := lk [(37,fs37),(38,fs38),(39,fs39)]
theorem tab17 : TabOK prog T17 := (TabOK.cons ok37 ent37 (TabOK.cons ok38 ent38 (TabOK.cons ok39 ent39 TabOK.nil)))
set_option maxRecDepth 100000 in
set_option maxHeartbeats 1000000 in
theorem ok17 : FnOK prog 17 fs17 := by
 refine FnOK.mk cok func17 rfl rfl rfl ?_
 rintro fl ⟨(s : ByteArray),(h : List CallD),_⟩ hpre F hnt0 _
 have hnt : F.nt = 66 := hnt0.trans ntmps17
 clear hpre
 refine W.to (⟨[(0,.v (.string s)),(1,.sl (.calls h))],[],[999]⟩) rfl ?_
 refine W.lenOf 1 (.calls h) (by kernel_rfl) ?_
 intro hl_h; replace hl_h : List.length h ≤ 9223372036854775807 := hl_h
 refine W.K cok tab17 hnt [] [0,1] (⟨[(0,.v (.string s)),(1,.sl (.calls h))],[],[999]⟩)
  (True ∧ True ∧ True) (by kernel_rfl)
  ⟨tt,tt,tt⟩ ?_
 refine W.seq ?_
 refine W.K cok tab17 hnt [] [0,1,19] (⟨[(0,.v (.string s)),(1,.sl (.calls h)),(19,.b ((!(isObject s && validHistory h)) || (explains s h (aheadF h))))],[],[999]⟩)
  (True ∧ True ∧ (True ∧ (True ∧ True ∧ True) ∧ True) ∧ True ∧ True ∧ ((!(!(isObject s && validHistory h))) = true → True) ∧ ((!(!(isObject s && validHistory h))) = true → True) ∧ ((!(!(isObject s && validHistory h))) = true → (True ∧ ((((!(!(isObject s && validHistory h))) = true) ∧ True) ∧ (((!(!(isObject s && validHistory h))) = true) ∧ True) ∧ True) ∧ True)) ∧ (True ∧ ((!(isObject s && validHistory h)) = true → True) ∧ ((!(isObject s && validHistory h)) = false → ((!(!(isObject s && validHistory h))) = true) ∧ True)) ∧ True) (by kernel_rfl)
  ⟨tt,tt,⟨tt,⟨tt,tt,tt⟩,tt⟩,tt,tt,(fun _ => trivial),(fun _ => trivial),(fun hG => ⟨tt,⟨⟨hG,tt⟩,⟨hG,tt⟩,tt⟩,tt⟩),⟨tt,(fun _ => trivial),(fun hp => ⟨(not_t hp),tt⟩)⟩,tt⟩ ?_
 refine W.if' ((!(isObject s && validHistory h)) || (explains s h (aheadF h))) (.b ((!(isObject s && validHistory h)) || (explains s h (aheadF h)))) (by kernel_rfl) rfl trivial ?_ ?_
 ·intro h19
  refine W.K cok tab17 hnt [] [4,5] (⟨[(4,.v (.slice none 0 0)),(5,.b false)],[],[999]⟩)
   (True ∧ True ∧ True) (by kernel_rfl)
   ⟨tt,tt,tt⟩ ?_
  refine W.ret (thenQ_ret ?_)
  exact endQ_ret (.tup [.v (.slice none 0 0),.b false]) (by kernel_rfl) (@cast ((((Value.slice none 0 0 : Value) = .slice none 0 0) ∧ ((Dat.ints ((blameP s h).1)).len = 0)) ∧ (((.bool false : Value) = .bool ((blameP s h).2)) ∧ True)) _ (by kernel_rfl) ⟨⟨rfl,(by show List.length ((blameP s h).1) = 0; rw [blameP_no' h19] <;> rfl)⟩,(congrArg Value.bool (by rw [blameP_no' h19] <;> rfl)),tt⟩)
 ·intro n19
  have hv6 := (valid_iff.1 (and_r (not_g (or_l n19)))).1
  refine W.skip (thenQ_normal ?_)
  refine W.K cok tab17 hnt [20] [0,1,6] (⟨[(0,.v (.string s)),(1,.sl (.calls h)),(6,.own 20 (List.length ([] : List Int)))],[(20,⟨3,.row (.ints ([] : List Int))⟩)],[20,999]⟩)
   (True ∧ True ∧ True) (by kernel_rfl)
   ⟨tt,tt,tt⟩ ?_
  refine W.seq ?_
  refine W.K cok tab17 hnt [] [0,1,6,7] (⟨[(0,.v (.string s)),(1,.sl (.calls h)),(6,.own 20 (List.length ([] : List Int))),(7,.i (0 : Int))],[(20,⟨3,.row (.ints ([] : List Int))⟩)],[20,999]⟩)
   (True ∧ True) (by kernel_rfl)
   ⟨tt,tt⟩ ?_
  refine W.block ?_
  refine W.loop (ι := Nat × (List Int)) (fun (x : Nat × (List Int)) => match x with | (k,l0) => (⟨[(0,.v (.string s)),(1,.sl (.calls h)),(6,.own 20 l0.length),(7,.i ((k : Nat) : Int))],[(20,⟨3,.row (.ints l0)⟩)],[20,999]⟩ : St))
   (fun (x : Nat × (List Int)) => match x with | (k,l0) => (k ≤ h.length) ∧ (l0 = idx k))
   (fun (x : Nat × (List Int)) => match x with | (k,l0) => (h.length - k : Nat)) (0,([] : List Int)) ?_ ?_ ?_
  ·exact (show (0 ≤ h.length) ∧ (([] : List Int) = idx 0) from ⟨(by first | assumption | omega | rfl | (intro _ hjj; omega) | (simp; done) | (simp; omega)),(by rfl)⟩)
  ·exact Sub.of [] (@cast (((((.string s) : Value) = (.string s)) ∧ (((.calls h : Dat) = .calls h) ∧ ((((20 : Nat) = 20) ∧ (((List.length ([] : List Int)) = (List.length ([] : List Int))) ∧ ((20 : Nat) ∈ ([20,999] : List Nat)))) ∧ (((.int .i64 (0 : Int) : Value) = .int .i64 ((0 : Nat) : Int)) ∧ True)))) ∧ (((((3 : Nat) = 3) ∧ (((.ints ([] : List Int) : Dat) = .ints ([] : List Int)) ∧ ((20 : Nat) ∈ ([20,999] : List Nat)))) ∧ True) ∧ ((true = true) ∧ (true = true)))) _ (by kernel_rfl) ⟨⟨rfl,rfl,⟨rfl,rfl,(by decide)⟩,(congrArg (Value.int .i64) (by first | rfl | omega | assumption | simp | simp_all)),tt⟩,⟨⟨rfl,rfl,(by decide)⟩,tt⟩,rfl,rfl⟩)
  ·rintro ⟨k,l0⟩ hC0
   have hC : (k ≤ h.length) ∧ (l0 = idx k) := hC0
   clear hC0
   obtain ⟨hk,hl0⟩ := hC
   refine W.to (⟨[(0,.v (.string s)),(1,.sl (.calls h)),(6,.own 20 l0.length),(7,.i ((k : Nat) : Int))],[(20,⟨3,.row (.ints l0)⟩)],[20,999]⟩) rfl ?_
   have hl0l : l0.length = k := by rw [hl0]; exact idx_len k
   refine W.seq ?_
   refine W.K cok tab17 hnt [] [0,1,6,7,24] (⟨[(0,.v (.string s)),(1,.sl (.calls h)),(6,.own 20 l0.length),(7,.i ((k : Nat) : Int)),(24,.b (decide (((k : Nat) : Int) < (h.length : Int))))],[(20,⟨3,.row (.ints l0)⟩)],[20,999]⟩)
    (True ∧ True ∧ True ∧ (True ∧ True ∧ True) ∧ True) (by kernel_rfl)
    ⟨tt,tt,tt,⟨tt,tt,tt⟩,tt⟩ ?_
   refine W.ifP (((k : Nat) : Int) < (h.length : Int)) (.b (decide (((k : Nat) : Int) < (h.length : Int)))) (by kernel_rfl) rfl trivial ?_ ?_
   ·intro h24
    refine W.skip (thenQ_normal ?_)
    refine W.seq ?_
    refine W.block ?_
    refine W.L cok tab17 hnt [30] (⟨[(0,.v (.string s)),(1,.sl (.calls h)),(6,.own 30 (List.length (l0 ++ ([((k : Nat) : Int)])))),(7,.i ((k : Nat) : Int)),(24,.b (decide (((k : Nat) : Int) < (h.length : Int)))),(27,.own 20 l0.length),(28,.i ((k : Nat) : Int)),(29,.sl (.ints ([((k : Nat) : Int)]))),(30,.own 30 (List.length (l0 ++ ([((k : Nat) : Int)]))))],[(30,⟨3,.row (.ints (l0 ++ ([((k : Nat) : Int)])))⟩)],[30,29,20,999]⟩)
     (True ∧ True ∧ (True ∧ True) ∧ ((True ∧ (l0.length = l0.length)) ∧ True ∧ ((l0.length + (List.length ([((k : Nat) : Int)]))) * 8 ≤ 140737488355328)) ∧ True ∧ True) (by kernel_rfl)
     ⟨tt,tt,⟨tt,tt⟩,⟨⟨tt,rfl⟩,tt,(by (try simp only [List.length_cons,List.length_nil]); omega)⟩,tt,tt⟩ ?_
    refine blockQ_normal (thenQ_normal ?_)
    refine W.L cok tab17 hnt [] (⟨[(0,.v (.string s)),(1,.sl (.calls h)),(6,.own 30 (List.length (l0 ++ ([((k : Nat) : Int)])))),(7,.i (((k + 1) : Nat) : Int)),(24,.b (decide (((k : Nat) : Int) < (h.length : Int)))),(25,.i ((k : Nat) : Int)),(26,.i (((k + 1) : Nat) : Int)),(27,.own 20 l0.length),(28,.i ((k : Nat) : Int)),(29,.sl (.ints ([((k : Nat) : Int)]))),(30,.own 30 (List.length (l0 ++ ([((k : Nat) : Int)]))))],[(30,⟨3,.row (.ints (l0 ++ ([((k : Nat) : Int)])))⟩)],[30,29,20,999]⟩)
     (True ∧ (True ∧ True ∧ (Fits .i64 (((k + 1) : Nat) : Int))) ∧ True ∧ True) (by kernel_rfl)
     ⟨tt,⟨tt,tt,(by exact fits_i64 (by omega) (by omega))⟩,tt,tt⟩ ?_
    refine thenQ_normal ?_
    refine ⟨((k + 1),(l0 ++ ([((k : Nat) : Int)]))),(show ((k + 1) ≤ h.length) ∧ ((l0 ++ ([((k : Nat) : Int)])) = idx (k + 1)) from ⟨(by first | assumption | omega | rfl | (intro _ hjj; omega) | (simp; done) | (simp; omega)),(by rw [hl0]; rfl)⟩),(show h.length - (k + 1) < h.length - k from (by first | omega | (simp_all; omega))),?_⟩
    exact Sub.of [(20,30)] (@cast (((((.string s) : Value) = (.string s)) ∧ (((.calls h : Dat) = .calls h) ∧ ((((30 : Nat) = 30) ∧ (((List.length (l0 ++ ([((k : Nat) : Int)]))) = (List.length (l0 ++ ([((k : Nat) : Int)])))) ∧ ((20 : Nat) ∈ ([20,999] : List Nat)))) ∧ (((.int .i64 (((k + 1) : Nat) : Int) : Value) = .int .i64 (((k + 1) : Nat) : Int)) ∧ True)))) ∧ (((((3 : Nat) = 3) ∧ (((.ints (l0 ++ ([((k : Nat) : Int)])) : Dat) = .ints (l0 ++ ([((k : Nat) : Int)]))) ∧ ((20 : Nat) ∈ ([20,999] : List Nat)))) ∧ True) ∧ ((true = true) ∧ (true = true)))) _ (by kernel_rfl) ⟨⟨rfl,rfl,⟨rfl,rfl,(by decide)⟩,rfl,tt⟩,⟨⟨rfl,rfl,(by decide)⟩,tt⟩,rfl,rfl⟩)
   ·intro n24
    refine W.exit (thenQ_exit (thenQ_exit (blockQ_hit ?_)))
    refine thenQ_normal ?_
    refine W.seq ?_
    refine W.K cok tab17 hnt [] [0,1,6,8] (⟨[(0,.v (.string s)),(1,.sl (.calls h)),(6,.own 20 l0.length),(8,.i ((h.length : Int) - (1 : Int)))],[(20,⟨3,.row (.ints l0)⟩)],[20,999]⟩)
     (True ∧ True ∧ (True ∧ True ∧ (Fits .i64 ((h.length : Int) - (1 : Int)))) ∧ True ∧ True) (by kernel_rfl)
     ⟨tt,tt,⟨tt,tt,(by exact fits_i64 (by omega) (by omega))⟩,tt,tt⟩ ?_
    refine W.subS [] (⟨[(0,.v (.string s)),(1,.sl (.calls h)),(6,.sl (.ints l0)),(8,.i ((h.length : Int) - (1 : Int)))],[],[999]⟩) (@cast (((((.string s) : Value) = (.string s)) ∧ (((.calls h : Dat) = .calls h) ∧ (((l0.length = l0.length) ∧ (((.ints l0 : Dat) = .ints l0) ∧ ((20 : Nat) ∉ ([] : List Nat)))) ∧ (((.int .i64 ((h.length : Int) - (1 : Int)) : Value) = .int .i64 ((h.length : Int) - (1 : Int))) ∧ True)))) ∧ (True ∧ ((true = true) ∧ (true = true)))) _ (by kernel_rfl) ⟨⟨rfl,rfl,⟨rfl,rfl,(by decide)⟩,rfl,tt⟩,tt,rfl,rfl⟩) ?_
    refine W.block ?_
    refine W.loop (ι := Int × (List Int)) (fun (x : Int × (List Int)) => match x with | (i,lf) => (⟨[(0,.v (.string s)),(1,.sl (.calls h)),(6,.sl (.ints lf)),(8,.i i)],[],[999]⟩ : St))
     (fun (x : Int × (List Int)) => match x with | (i,lf) => (-1 ≤ i ∧ i < (h.length : Int)) ∧ (lf = blameR s h ((h.length : Int) - 1 - i).toNat))
     (fun (x : Int × (List Int)) => match x with | (i,lf) => ((i + 1).toNat : Nat)) (((h.length : Int) - (1 : Int)),l0) ?_ ?_ ?_
    ·exact (show (-1 ≤ ((h.length : Int) - (1 : Int)) ∧ ((h.length : Int) - (1 : Int)) < (h.length : Int)) ∧ (l0 = blameR s h ((h.length : Int) - 1 - ((h.length : Int) - (1 : Int))).toNat) from ⟨(by first | assumption | omega | rfl | (intro _ hjj; omega) | (simp; done) | (simp; omega)),(by exact blame_start hl0 (by omega))⟩)
    ·exact Sub.of [] (@cast (((((.string s) : Value) = (.string s)) ∧ (((.calls h : Dat) = .calls h) ∧ (((.ints l0 : Dat) = .ints l0) ∧ (((.int .i64 ((h.length : Int) - (1 : Int)) : Value) = .int .i64 ((h.length : Int) - (1 : Int))) ∧ True)))) ∧ (True ∧ ((true = true) ∧ (true = true)))) _ (by kernel_rfl) ⟨⟨rfl,rfl,rfl,rfl,tt⟩,tt,rfl,rfl⟩)
    ·rintro ⟨i,lf⟩ hC0
     have hC : (-1 ≤ i ∧ i < (h.length : Int)) ∧ (lf = blameR s h ((h.length : Int) - 1 - i).toNat) := hC0
     clear hC0
     obtain ⟨hi,hl⟩ := hC
     refine W.to (⟨[(0,.v (.string s)),(1,.sl (.calls h)),(6,.sl (.ints lf)),(8,.i i)],[],[999]⟩) rfl ?_
     have hin : ∀ x ∈ lf,0 ≤ x ∧ x < (h.length : Int) := by rw [hl]; exact blame_in _
     have hlfl : lf.length ≤ h.length := by rw [hl]; exact blame_len _
     refine W.seq ?_
     refine W.K cok tab17 hnt [] [0,1,6,8,35] (⟨[(0,.v (.string s)),(1,.sl (.calls h)),(6,.sl (.ints lf)),(8,.i i),(35,.b (decide ((0 : Int) ≤ i)))],[],[999]⟩)
      (True ∧ (True ∧ True ∧ True) ∧ True) (by kernel_rfl)
      ⟨tt,⟨tt,tt,tt⟩,tt⟩ ?_
     refine W.ifP ((0 : Int) ≤ i) (.b (decide ((0 : Int) ≤ i))) (by kernel_rfl) rfl trivial ?_ ?_
     ·intro h35
      refine W.skip (thenQ_normal ?_)
      refine W.seq ?_
      refine W.block ?_
      refine W.K cok tab17 hnt [38] [0,1,6,8,9] (⟨[(0,.v (.string s)),(1,.sl (.calls h)),(6,.sl (.ints lf)),(8,.i i),(9,.own 38 (List.length ([] : List Int)))],[(38,⟨3,.row (.ints ([] : List Int))⟩)],[38,999]⟩)
       (True ∧ True ∧ True) (by kernel_rfl)
       ⟨tt,tt,tt⟩ ?_
      refine W.seq ?_
      refine W.K cok tab17 hnt [] [0,1,6,8,9,10] (⟨[(0,.v (.string s)),(1,.sl (.calls h)),(6,.sl (.ints lf)),(8,.i i),(9,.own 38 (List.length ([] : List Int))),(10,.i (0 : Int))],[(38,⟨3,.row (.ints ([] : List Int))⟩)],[38,999]⟩)
       (True ∧ True) (by kernel_rfl)
       ⟨tt,tt⟩ ?_
      refine W.block ?_
      refine W.loop (ι := Nat × (List Int)) (fun (x : Nat × (List Int)) => match x with | (j,ot) => (⟨[(0,.v (.string s)),(1,.sl (.calls h)),(6,.sl (.ints lf)),(8,.i i),(9,.own 38 ot.length),(10,.i ((j : Nat) : Int))],[(38,⟨3,.row (.ints ot)⟩)],[38,999]⟩ : St))
       (fun (x : Nat × (List Int)) => match x with | (j,ot) => (j ≤ lf.length) ∧ (ot = wUp lf i j))
       (fun (x : Nat × (List Int)) => match x with | (j,ot) => (lf.length - j : Nat)) (0,([] : List Int)) ?_ ?_ ?_
      ·exact (show (0 ≤ lf.length) ∧ (([] : List Int) = wUp lf i 0) from ⟨(by first | assumption | omega | rfl | (intro _ hjj; omega) | (simp; done) | (simp; omega)),(by rfl)⟩)
      ·exact Sub.of [] (@cast (((((.string s) : Value) = (.string s)) ∧ (((.calls h : Dat) = .calls h) ∧ (((.ints lf : Dat) = .ints lf) ∧ (((.int .i64 i : Value) = .int .i64 i) ∧ ((((38 : Nat) = 38) ∧ (((List.length ([] : List Int)) = (List.length ([] : List Int))) ∧ ((38 : Nat) ∈ ([38,999] : List Nat)))) ∧ (((.int .i64 (0 : Int) : Value) = .int .i64 ((0 : Nat) : Int)) ∧ True)))))) ∧ (((((3 : Nat) = 3) ∧ (((.ints ([] : List Int) : Dat) = .ints ([] : List Int)) ∧ ((38 : Nat) ∈ ([38,999] : List Nat)))) ∧ True) ∧ ((true = true) ∧ (true = true)))) _ (by kernel_rfl) ⟨⟨rfl,rfl,rfl,rfl,⟨rfl,rfl,(by decide)⟩,(congrArg (Value.int .i64) (by first | rfl | omega | assumption | simp | simp_all)),tt⟩,⟨⟨rfl,rfl,(by decide)⟩,tt⟩,rfl,rfl⟩)
      ·rintro ⟨j,ot⟩ hC0
       have hC : (j ≤ lf.length) ∧ (ot = wUp lf i j) := hC0
       clear hC0
       obtain ⟨hj,hot⟩ := hC
       refine W.to (⟨[(0,.v (.string s)),(1,.sl (.calls h)),(6,.sl (.ints lf)),(8,.i i),(9,.own 38 ot.length),(10,.i ((j : Nat) : Int))],[(38,⟨3,.row (.ints ot)⟩)],[38,999]⟩) rfl ?_
       have hgj := fun (hj : j < lf.length) => hin _ (getD_mem lf 0 hj)
       have hotl : ot.length ≤ j := by rw [hot]; exact wUp_len _ _ _
       refine W.seq ?_
       refine W.K cok tab17 hnt [] [0,1,6,8,9,10,42] (⟨[(0,.v (.string s)),(1,.sl (.calls h)),(6,.sl (.ints lf)),(8,.i i),(9,.own 38 ot.length),(10,.i ((j : Nat) : Int)),(42,.b (decide (((j : Nat) : Int) < (lf.length : Int))))],[(38,⟨3,.row (.ints ot)⟩)],[38,999]⟩)
        (True ∧ True ∧ True ∧ (True ∧ True ∧ True) ∧ True) (by kernel_rfl)
        ⟨tt,tt,tt,⟨tt,tt,tt⟩,tt⟩ ?_
       refine W.ifP (((j : Nat) : Int) < (lf.length : Int)) (.b (decide (((j : Nat) : Int) < (lf.length : Int)))) (by kernel_rfl) rfl trivial ?_ ?_
       ·intro h42
        refine W.skip (thenQ_normal ?_)
        refine W.seq ?_
        refine W.block ?_
        refine W.K cok tab17 hnt [] [0,1,6,8,9,10,50] (⟨[(0,.v (.string s)),(1,.sl (.calls h)),(6,.sl (.ints lf)),(8,.i i),(9,.own 38 ot.length),(10,.i ((j : Nat) : Int)),(50,.b (decide ((lf.getD j 0) ≠ i)))],[(38,⟨3,.row (.ints ot)⟩)],[38,999]⟩)
         (True ∧ True ∧ (True ∧ True ∧ (0 ≤ ((j : Nat) : Int)) ∧ (((j : Nat) : Int) < (lf.length : Int))) ∧ True ∧ True ∧ (True ∧ True ∧ True) ∧ True) (by kernel_rfl)
         ⟨tt,tt,⟨tt,tt,(by omega),(by omega)⟩,tt,tt,⟨tt,tt,tt⟩,tt⟩ ?_
        refine W.ifP ((lf.getD j 0) ≠ i) (.b (decide ((lf.getD j 0) ≠ i))) (by kernel_rfl) rfl trivial ?_ ?_
        ·intro h50
         refine W.L cok tab17 hnt [57] (⟨[(0,.v (.string s)),(1,.sl (.calls h)),(6,.sl (.ints lf)),(8,.i i),(9,.own 57 (List.length (ot ++ ([(lf.getD j 0)])))),(10,.i ((j : Nat) : Int)),(50,.b (decide ((lf.getD j 0) ≠ i))),(51,.own 38 ot.length),(52,.sl (.ints lf)),(53,.i ((j : Nat) : Int)),(54,.ep [.i (lf.getD j 0)]),(55,.i (lf.getD j 0)),(56,.sl (.ints ([(lf.getD j 0)]))),(57,.own 57 (List.length (ot ++ ([(lf.getD j 0)]))))],[(57,⟨3,.row (.ints (ot ++ ([(lf.getD j 0)])))⟩)],[57,56,38,999]⟩)
          (True ∧ True ∧ True ∧ (True ∧ True ∧ (0 ≤ ((j : Nat) : Int)) ∧ (((j : Nat) : Int) < (lf.length : Int))) ∧ True ∧ (True ∧ True) ∧ ((True ∧ (ot.length = ot.length)) ∧ True ∧ ((ot.length + (List.length ([(lf.getD j 0)]))) * 8 ≤ 140737488355328)) ∧ True ∧ True) (by kernel_rfl)
          ⟨tt,tt,tt,⟨tt,tt,(by omega),(by omega)⟩,tt,⟨tt,tt⟩,⟨⟨tt,rfl⟩,tt,(by (try simp only [List.length_cons,List.length_nil]); omega)⟩,tt,tt⟩ ?_
         refine blockQ_normal (thenQ_normal ?_)
         refine W.L cok tab17 hnt [] (⟨[(0,.v (.string s)),(1,.sl (.calls h)),(6,.sl (.ints lf)),(8,.i i),(9,.own 57 (List.length (ot ++ ([(lf.getD j 0)])))),(10,.i (((j + 1) : Nat) : Int)),(43,.i ((j : Nat) : Int)),(44,.i (((j + 1) : Nat) : Int)),(50,.b (decide ((lf.getD j 0) ≠ i))),(51,.own 38 ot.length),(52,.sl (.ints lf)),(53,.i ((j : Nat) : Int)),(54,.ep [.i (lf.getD j 0)]),(55,.i (lf.getD j 0)),(56,.sl (.ints ([(lf.getD j 0)]))),(57,.own 57 (List.length (ot ++ ([(lf.getD j 0)]))))],[(57,⟨3,.row (.ints (ot ++ ([(lf.getD j 0)])))⟩)],[57,56,38,999]⟩)
          (True ∧ (True ∧ True ∧ (Fits .i64 (((j + 1) : Nat) : Int))) ∧ True ∧ True) (by kernel_rfl)
          ⟨tt,⟨tt,tt,(by exact fits_i64 (by omega) (by omega))⟩,tt,tt⟩ ?_
         refine thenQ_normal ?_
         refine ⟨((j + 1),(ot ++ ([(lf.getD j 0)]))),(show ((j + 1) ≤ lf.length) ∧ ((ot ++ ([(lf.getD j 0)])) = wUp lf i (j + 1)) from ⟨(by first | assumption | omega | rfl | (intro _ hjj; omega) | (simp; done) | (simp; omega)),(by first | exact wUp_yes hot (by omega) h50 | exact wUp_no hot (by omega) n50)⟩),(show lf.length - (j + 1) < lf.length - j from (by first | omega | (simp_all; omega))),?_⟩
         exact Sub.of [(38,57)] (@cast (((((.string s) : Value) = (.string s)) ∧ (((.calls h : Dat) = .calls h) ∧ (((.ints lf : Dat) = .ints lf) ∧ (((.int .i64 i : Value) = .int .i64 i) ∧ ((((57 : Nat) = 57) ∧ (((List.length (ot ++ ([(lf.getD j 0)]))) = (List.length (ot ++ ([(lf.getD j 0)])))) ∧ ((38 : Nat) ∈ ([38,999] : List Nat)))) ∧ (((.int .i64 (((j + 1) : Nat) : Int) : Value) = .int .i64 (((j + 1) : Nat) : Int)) ∧ True)))))) ∧ (((((3 : Nat) = 3) ∧ (((.ints (ot ++ ([(lf.getD j 0)])) : Dat) = .ints (ot ++ ([(lf.getD j 0)]))) ∧ ((38 : Nat) ∈ ([38,999] : List Nat)))) ∧ True) ∧ ((true = true) ∧ (true = true)))) _ (by kernel_rfl) ⟨⟨rfl,rfl,rfl,rfl,⟨rfl,rfl,(by decide)⟩,rfl,tt⟩,⟨⟨rfl,rfl,(by decide)⟩,tt⟩,rfl,rfl⟩)
        ·intro n50
         refine W.skip (blockQ_normal (thenQ_normal ?_))
         refine W.L cok tab17 hnt [] (⟨[(0,.v (.string s)),(1,.sl (.calls h)),(6,.sl (.ints lf)),(8,.i i),(9,.own 38 ot.length),(10,.i (((j + 1) : Nat) : Int)),(43,.i ((j : Nat) : Int)),(44,.i (((j + 1) : Nat) : Int)),(50,.b (decide ((lf.getD j 0) ≠ i)))],[(38,⟨3,.row (.ints ot)⟩)],[38,999]⟩)
          (True ∧ (True ∧ True ∧ (Fits .i64 (((j + 1) : Nat) : Int))) ∧ True ∧ True) (by kernel_rfl)
          ⟨tt,⟨tt,tt,(by exact fits_i64 (by omega) (by omega))⟩,tt,tt⟩ ?_
         refine thenQ_normal ?_
         refine ⟨((j + 1),ot),(show ((j + 1) ≤ lf.length) ∧ (ot = wUp lf i (j + 1)) from ⟨(by first | assumption | omega | rfl | (intro _ hjj; omega) | (simp; done) | (simp; omega)),(by first | exact wUp_yes hot (by omega) h50 | exact wUp_no hot (by omega) n50)⟩),(show lf.length - (j + 1) < lf.length - j from (by first | omega | (simp_all; omega))),?_⟩
         exact Sub.of [] (@cast (((((.string s) : Value) = (.string s)) ∧ (((.calls h : Dat) = .calls h) ∧ (((.ints lf : Dat) = .ints lf) ∧ (((.int .i64 i : Value) = .int .i64 i) ∧ ((((38 : Nat) = 38) ∧ ((ot.length = ot.length) ∧ ((38 : Nat) ∈ ([38,999] : List Nat)))) ∧ (((.int .i64 (((j + 1) : Nat) : Int) : Value) = .int .i64 (((j + 1) : Nat) : Int)) ∧ True)))))) ∧ (((((3 : Nat) = 3) ∧ (((.ints ot : Dat) = .ints ot) ∧ ((38 : Nat) ∈ ([38,999] : List Nat)))) ∧ True) ∧ ((true = true) ∧ (true = true)))) _ (by kernel_rfl) ⟨⟨rfl,rfl,rfl,rfl,⟨rfl,rfl,(by decide)⟩,rfl,tt⟩,⟨⟨rfl,rfl,(by decide)⟩,tt⟩,rfl,rfl⟩)
       ·intro n42
        refine W.exit (thenQ_exit (thenQ_exit (blockQ_hit ?_)))
        refine thenQ_normal ?_
        refine W.subS [] (⟨[(0,.v (.string s)),(1,.sl (.calls h)),(6,.sl (.ints lf)),(8,.i i),(9,.sl (.ints ot)),(10,.i ((j : Nat) : Int)),(42,.b (decide (((j : Nat) : Int) < (lf.length : Int))))],[],[999]⟩) (@cast (((((.string s) : Value) = (.string s)) ∧ (((.calls h : Dat) = .calls h) ∧ (((.ints lf : Dat) = .ints lf) ∧ (((.int .i64 i : Value) = .int .i64 i) ∧ (((ot.length = ot.length) ∧ (((.ints ot : Dat) = .ints ot) ∧ ((38 : Nat) ∉ ([] : List Nat)))) ∧ (((.int .i64 ((j : Nat) : Int) : Value) = .int .i64 ((j : Nat) : Int)) ∧ (((.bool (decide (((j : Nat) : Int) < (lf.length : Int))) : Value) = .bool (decide (((j : Nat) : Int) < (lf.length : Int)))) ∧ True))))))) ∧ (True ∧ ((true = true) ∧ (true = true)))) _ (by kernel_rfl) ⟨⟨rfl,rfl,rfl,rfl,⟨rfl,rfl,(by decide)⟩,rfl,rfl,tt⟩,tt,rfl,rfl⟩) ?_
        refine W.K cok tab17 hnt [] [0,1,6,8,9,63] (⟨[(0,.v (.string s)),(1,.sl (.calls h)),(6,.sl (.ints lf)),(8,.i i),(9,.sl (.ints ot)),(63,.b (!(explains s (pickC h ot) (aheadF (pickC h ot)))))],[],[999]⟩)
         (True ∧ True ∧ True ∧ (True ∧ (True ∧ True ∧ True) ∧ (ot.length ≤ 1000) ∧ (∀ x ∈ ot,0 ≤ x ∧ x < (h.length : Int))) ∧ (True ∧ (True ∧ True ∧ True) ∧ True) ∧ True ∧ True) (by kernel_rfl)
         ⟨tt,tt,tt,⟨tt,⟨tt,tt,tt⟩,(by omega),(by rw [hot]; exact fun x hx => hin x (wUp_mem x hx))⟩,⟨tt,⟨tt,tt,tt⟩,tt⟩,tt,tt⟩ ?_
        refine W.if' (!(explains s (pickC h ot) (aheadF (pickC h ot)))) (.b (!(explains s (pickC h ot) (aheadF (pickC h ot))))) (by kernel_rfl) rfl trivial ?_ ?_
        ·intro h63
         refine W.L cok tab17 hnt [] (⟨[(0,.v (.string s)),(1,.sl (.calls h)),(6,.sl (.ints ot)),(8,.i i),(9,.sl (.ints ot)),(63,.b (!(explains s (pickC h ot) (aheadF (pickC h ot))))),(64,.sl (.ints ot))],[],[999]⟩)
          (True ∧ True ∧ True) (by kernel_rfl)
          ⟨tt,tt,tt⟩ ?_
         refine blockQ_normal (thenQ_normal ?_)
         refine W.L cok tab17 hnt [] (⟨[(0,.v (.string s)),(1,.sl (.calls h)),(6,.sl (.ints ot)),(8,.i (i - (1 : Int))),(9,.sl (.ints ot)),(36,.i i),(37,.i (i - (1 : Int))),(63,.b (!(explains s (pickC h ot) (aheadF (pickC h ot))))),(64,.sl (.ints ot))],[],[999]⟩)
          (True ∧ (True ∧ True ∧ (Fits .i64 (i - (1 : Int)))) ∧ True ∧ True) (by kernel_rfl)
          ⟨tt,⟨tt,tt,(by exact fits_i64 (by omega) (by omega))⟩,tt,tt⟩ ?_
         refine thenQ_normal ?_
         refine ⟨((i - (1 : Int)),ot),(show (-1 ≤ (i - (1 : Int)) ∧ (i - (1 : Int)) < (h.length : Int)) ∧ (ot = blameR s h ((h.length : Int) - 1 - (i - (1 : Int))).toNat) from ⟨(by first | assumption | omega | rfl | (intro _ hjj; omega) | (simp; done) | (simp; omega)),(by first | exact blame_yes hl (by omega) (by omega) (by omega) hot (congrArg (pickC h) hot) h63 | exact blame_no hl (by omega) (by omega) (by omega) (congrArg (pickC h) hot) n63)⟩),(show ((i - (1 : Int)) + 1).toNat < (i + 1).toNat from (by first | omega | (simp_all; omega))),?_⟩
         exact Sub.of [] (@cast (((((.string s) : Value) = (.string s)) ∧ (((.calls h : Dat) = .calls h) ∧ (((.ints ot : Dat) = .ints ot) ∧ (((.int .i64 (i - (1 : Int)) : Value) = .int .i64 (i - (1 : Int))) ∧ True)))) ∧ (True ∧ ((true = true) ∧ (true = true)))) _ (by kernel_rfl) ⟨⟨rfl,rfl,rfl,rfl,tt⟩,tt,rfl,rfl⟩)
        ·intro n63
         refine W.skip (blockQ_normal (thenQ_normal ?_))
         refine W.L cok tab17 hnt [] (⟨[(0,.v (.string s)),(1,.sl (.calls h)),(6,.sl (.ints lf)),(8,.i (i - (1 : Int))),(9,.sl (.ints ot)),(36,.i i),(37,.i (i - (1 : Int))),(63,.b (!(explains s (pickC h ot) (aheadF (pickC h ot)))))],[],[999]⟩)
          (True ∧ (True ∧ True ∧ (Fits .i64 (i - (1 : Int)))) ∧ True ∧ True) (by kernel_rfl)
          ⟨tt,⟨tt,tt,(by exact fits_i64 (by omega) (by omega))⟩,tt,tt⟩ ?_
         refine thenQ_normal ?_
         refine ⟨((i - (1 : Int)),lf),(show (-1 ≤ (i - (1 : Int)) ∧ (i - (1 : Int)) < (h.length : Int)) ∧ (lf = blameR s h ((h.length : Int) - 1 - (i - (1 : Int))).toNat) from ⟨(by first | assumption | omega | rfl | (intro _ hjj; omega) | (simp; done) | (simp; omega)),(by first | exact blame_yes hl (by omega) (by omega) (by omega) hot (congrArg (pickC h) hot) h63 | exact blame_no hl (by omega) (by omega) (by omega) (congrArg (pickC h) hot) n63)⟩),(show ((i - (1 : Int)) + 1).toNat < (i + 1).toNat from (by first | omega | (simp_all; omega))),?_⟩
         exact Sub.of [] (@cast (((((.string s) : Value) = (.string s)) ∧ (((.calls h : Dat) = .calls h) ∧ (((.ints lf : Dat) = .ints lf) ∧ (((.int .i64 (i - (1 : Int)) : Value) = .int .i64 (i - (1 : Int))) ∧ True)))) ∧ (True ∧ ((true = true) ∧ (true = true)))) _ (by kernel_rfl) ⟨⟨rfl,rfl,rfl,rfl,tt⟩,tt,rfl,rfl⟩)
     ·intro n35
      refine W.exit (thenQ_exit (thenQ_exit (blockQ_hit ?_)))
      refine thenQ_normal ?_
      refine W.K cok tab17 hnt [] [4,5] (⟨[(4,.sl (.ints lf)),(5,.b true)],[],[999]⟩)
       (True ∧ True ∧ True ∧ True) (by kernel_rfl)
       ⟨tt,tt,tt,tt⟩ ?_
      refine W.ret ?_
      exact endQ_ret (.tup [.sl (.ints lf),.b true]) (by kernel_rfl) (@cast (((.ints lf : Dat) = .ints ((blameP s h).1)) ∧ (((.bool true : Value) = .bool ((blameP s h).2)) ∧ True)) _ (by kernel_rfl) ⟨(congrArg Dat.ints (by rw [blameP_yes' n19] <;> first | rfl | exact blame_done hl (by omega))),(congrArg Value.bool (by rw [blameP_yes' n19] <;> first | rfl | exact blame_done hl (by omega))),tt⟩)
theorem ent17 : Entr prog 17 := ⟨_,func17,rfl,by decide⟩
end Go.Proofs.Try

set_option linter.unusedSimpArgs false
set_option linter.unusedVariables false
namespace Go.Proofs.Try
open Go.Ab Go.RowKit
def fs53 : FnS := fnS [.o] [.str] (fun _ (s,_) => (.b (isSingle s),[],True))
abbrev T53 : Tab := lk []
theorem tab53 : TabOK prog T53 := TabOK.nil
set_option maxRecDepth 100000 in
set_option maxHeartbeats 1000000 in
theorem ok53 : FnOK prog 53 fs53 := by
 refine FnOK.mk cok func53 rfl rfl rfl ?_
 rintro fl ⟨(s : ByteArray),_⟩ hpre F hnt0 _
 have hnt : F.nt = 13 := hnt0.trans ntmps53
 clear hpre
 refine W.to (⟨[(0,.v (.string s))],[],[999]⟩) rfl ?_
 refine W.K cok tab53 hnt [] [0] (⟨[(0,.v (.string s))],[],[999]⟩)
  (True ∧ True) (by kernel_rfl)
  ⟨tt,tt⟩ ?_
 refine W.K cok tab53 hnt [] [2] (⟨[(2,.b (((eqS s nRegister) || (eqS s nCounter)) || (eqS s nMost)))],[],[999]⟩)
  (True ∧ (True ∧ True ∧ True) ∧ True ∧ ((!(eqS s nRegister)) = true → True) ∧ ((!(eqS s nRegister)) = true → ((((!(eqS s nRegister)) = true) ∧ True) ∧ True ∧ True)) ∧ (True ∧ ((eqS s nRegister) = true → True) ∧ ((eqS s nRegister) = false → ((!(eqS s nRegister)) = true) ∧ True)) ∧ True ∧ ((!((eqS s nRegister) || (eqS s nCounter))) = true → True) ∧ ((!((eqS s nRegister) || (eqS s nCounter))) = true → ((((!((eqS s nRegister) || (eqS s nCounter))) = true) ∧ True) ∧ True ∧ True)) ∧ (True ∧ (((eqS s nRegister) || (eqS s nCounter)) = true → True) ∧ (((eqS s nRegister) || (eqS s nCounter)) = false → ((!((eqS s nRegister) || (eqS s nCounter))) = true) ∧ True)) ∧ True ∧ True) (by kernel_rfl)
  ⟨tt,⟨tt,tt,tt⟩,tt,(fun _ => trivial),(fun hG => ⟨⟨hG,tt⟩,tt,tt⟩),⟨tt,(fun _ => trivial),(fun hp => ⟨(not_t hp),tt⟩)⟩,tt,(fun _ => trivial),(fun hG => ⟨⟨hG,tt⟩,tt,tt⟩),⟨tt,(fun _ => trivial),(fun hp => ⟨(not_t hp),tt⟩)⟩,tt,tt⟩ ?_
 refine W.ret ?_
 exact endQ_ret (.b (((eqS s nRegister) || (eqS s nCounter)) || (eqS s nMost))) (by kernel_rfl) (@cast ((.bool (((eqS s nRegister) || (eqS s nCounter)) || (eqS s nMost)) : Value) = .bool (isSingle s)) _ (by kernel_rfl) (congrArg Value.bool (by first | rfl | simp_all)))
theorem ent53 : Entr prog 53 := ⟨_,func53,rfl,by decide⟩
end Go.Proofs.Try

set_option linter.unusedSimpArgs false
set_option linter.unusedVariables false
namespace Go.Proofs.Try
open Go.Ab Go.RowKit
def fs40 : FnS := fnS [.o] [.str] (fun _ (s,_) => (.b (isObject s),[],True))
abbrev T40 : Tab := lk [(53,fs53)]
theorem tab40 : TabOK prog T40 := (TabOK.cons ok53 ent53 TabOK.nil)
set_option maxRecDepth 100000 in
set_option maxHeartbeats 1000000 in
theorem ok40 : FnOK prog 40 fs40 := by
 refine FnOK.mk cok func40 rfl rfl rfl ?_
 rintro fl ⟨(s : ByteArray),_⟩ hpre F hnt0 _
 have hnt : F.nt = 17 := hnt0.trans ntmps40
 clear hpre
 refine W.to (⟨[(0,.v (.string s))],[],[999]⟩) rfl ?_
 refine W.K cok tab40 hnt [] [0] (⟨[(0,.v (.string s))],[],[999]⟩)
  (True ∧ True) (by kernel_rfl)
  ⟨tt,tt⟩ ?_
 refine W.K cok tab40 hnt [] [2] (⟨[(2,.b ((((isSingle s) || (eqS s nQueue)) || (eqS s nStack)) || (eqS s nSet)))],[],[999]⟩)
  (True ∧ (True ∧ (True ∧ True) ∧ True) ∧ True ∧ ((!(isSingle s)) = true → True) ∧ ((!(isSingle s)) = true → ((((!(isSingle s)) = true) ∧ True) ∧ True ∧ True)) ∧ (True ∧ ((isSingle s) = true → True) ∧ ((isSingle s) = false → ((!(isSingle s)) = true) ∧ True)) ∧ True ∧ ((!((isSingle s) || (eqS s nQueue))) = true → True) ∧ ((!((isSingle s) || (eqS s nQueue))) = true → ((((!((isSingle s) || (eqS s nQueue))) = true) ∧ True) ∧ True ∧ True)) ∧ (True ∧ (((isSingle s) || (eqS s nQueue)) = true → True) ∧ (((isSingle s) || (eqS s nQueue)) = false → ((!((isSingle s) || (eqS s nQueue))) = true) ∧ True)) ∧ True ∧ ((!(((isSingle s) || (eqS s nQueue)) || (eqS s nStack))) = true → True) ∧ ((!(((isSingle s) || (eqS s nQueue)) || (eqS s nStack))) = true → ((((!(((isSingle s) || (eqS s nQueue)) || (eqS s nStack))) = true) ∧ True) ∧ True ∧ True)) ∧ (True ∧ ((((isSingle s) || (eqS s nQueue)) || (eqS s nStack)) = true → True) ∧ ((((isSingle s) || (eqS s nQueue)) || (eqS s nStack)) = false → ((!(((isSingle s) || (eqS s nQueue)) || (eqS s nStack))) = true) ∧ True)) ∧ True ∧ True) (by kernel_rfl)
  ⟨tt,⟨tt,⟨tt,tt⟩,tt⟩,tt,(fun _ => trivial),(fun hG => ⟨⟨hG,tt⟩,tt,tt⟩),⟨tt,(fun _ => trivial),(fun hp => ⟨(not_t hp),tt⟩)⟩,tt,(fun _ => trivial),(fun hG => ⟨⟨hG,tt⟩,tt,tt⟩),⟨tt,(fun _ => trivial),(fun hp => ⟨(not_t hp),tt⟩)⟩,tt,(fun _ => trivial),(fun hG => ⟨⟨hG,tt⟩,tt,tt⟩),⟨tt,(fun _ => trivial),(fun hp => ⟨(not_t hp),tt⟩)⟩,tt,tt⟩ ?_
 refine W.ret ?_
 exact endQ_ret (.b ((((isSingle s) || (eqS s nQueue)) || (eqS s nStack)) || (eqS s nSet))) (by kernel_rfl) (@cast ((.bool ((((isSingle s) || (eqS s nQueue)) || (eqS s nStack)) || (eqS s nSet)) : Value) = .bool (isObject s)) _ (by kernel_rfl) (congrArg Value.bool (by exact single_obj s)))
theorem ent40 : Entr prog 40 := ⟨_,func40,rfl,by decide⟩
end Go.Proofs.Try

set_option linter.unusedSimpArgs false
set_option linter.unusedVariables false
namespace Go.Proofs.Try
open Go.Ab Go.RowKit
def fs34 : FnS := fnS [.o,.o,.o] [.int,.int,.int] (fun _ (n,low,high,_) => (.b (within n low high),[],True))
abbrev T34 : Tab := lk []
theorem tab34 : TabOK prog T34 := TabOK.nil
set_option maxRecDepth 100000 in
set_option maxHeartbeats 1000000 in
theorem ok34 : FnOK prog 34 fs34 := by
 refine FnOK.mk cok func34 rfl rfl rfl ?_
 rintro fl ⟨(n : Int),(low : Int),(high : Int),_⟩ hpre F hnt0 _
 have hnt : F.nt = 15 := hnt0.trans ntmps34
 clear hpre
 refine W.to (⟨[(0,.i n),(1,.i low),(2,.i high)],[],[999]⟩) rfl ?_
 refine W.K cok tab34 hnt [] [0,1,2] (⟨[(0,.i n),(1,.i low),(2,.i high)],[],[999]⟩)
  (True ∧ True) (by kernel_rfl)
  ⟨tt,tt⟩ ?_
 refine W.K cok tab34 hnt [] [6] (⟨[(6,.b ((decide (low ≤ n)) && (decide (n ≤ high))))],[],[999]⟩)
  (True ∧ True ∧ (True ∧ True ∧ True) ∧ True ∧ ((decide (low ≤ n)) = true → True) ∧ ((decide (low ≤ n)) = true → True) ∧ ((decide (low ≤ n)) = true → ((((decide (low ≤ n)) = true) ∧ True) ∧ (((decide (low ≤ n)) = true) ∧ True) ∧ True)) ∧ (True ∧ ((decide (low ≤ n)) = true → ((decide (low ≤ n)) = true) ∧ True) ∧ ((decide (low ≤ n)) = false → True)) ∧ True ∧ True) (by kernel_rfl)
  ⟨tt,tt,⟨tt,tt,tt⟩,tt,(fun _ => trivial),(fun _ => trivial),(fun hG => ⟨⟨hG,tt⟩,⟨hG,tt⟩,tt⟩),⟨tt,(fun hp => ⟨hp,tt⟩),(fun _ => trivial)⟩,tt,tt⟩ ?_
 refine W.ret ?_
 exact endQ_ret (.b ((decide (low ≤ n)) && (decide (n ≤ high)))) (by kernel_rfl) (@cast ((.bool ((decide (low ≤ n)) && (decide (n ≤ high))) : Value) = .bool (within n low high)) _ (by kernel_rfl) (congrArg Value.bool (by first | rfl | simp_all)))
theorem ent34 : Entr prog 34 := ⟨_,func34,rfl,by decide⟩
end Go.Proofs.Try
