import Derived.Test.YtggcajkjoaichaaIF8S0
import Derived.Test.YtggcajkjoaichaaIF8S6
import Derived.Test.YtggcajkjoaichaaIF8S5
import Derived.Test.YtggcajkjoaichaaIF8S1
import Derived.Test.YtggcajkjoaichaaIF8S2
import Derived.Test.YtggcajkjoaichaaIF8S4
set_option linter.unusedSimpArgs false
set_option linter.unusedVariables false
namespace Go.Proofs.Try
open Go.Ab Go.RowKit
def out55 : Bool → ATy [.str,.calls,.ints,.ints] → AV × List (TypeId × Dat) × Prop := fun _ (s,h,rows,o,_) => (.sl (.intss (ordersF s h (bitF rows) (h.length - o.length) o)),[],(isObject s = true) ∧ (validHistory h = true) ∧ (rows = rowsOf h.length (bitF rows)) ∧ (headO h o))
def mu55 : ATy [.str,.calls,.ints,.ints] → Nat := fun (s,h,rows,o,_) => h.length - o.length
def fs55 : FnS := fnS [.o,.s .calls,.s .ints,.s .ints] [.str,.calls,.ints,.ints] out55
abbrev fsN55 (n : Nat) : FnS := fnS [.o,.s .calls,.s .ints,.s .ints] [.str,.calls,.ints,.ints] (lim out55 mu55 n)
theorem ent55 : Entr prog 55 := ⟨_,func55,rfl,by decide⟩
abbrev T55 (nn : Nat) : Tab := lk [(55,fsN55 nn),(45,fs45),(77,fs77),(78,fs78)]
theorem tab55 {nn : Nat} (ih : FnOK prog 55 (fsN55 nn)) : TabOK prog (T55 nn) := (TabOK.cons ih ent55 (TabOK.cons ok45 ent45 (TabOK.cons ok77 ent77 (TabOK.cons ok78 ent78 TabOK.nil))))
set_option maxRecDepth 100000 in
set_option maxHeartbeats 1000000 in
theorem okS55 (nn : Nat) (ih : FnOK prog 55 (fsN55 nn)) : FnOK prog 55 (fsN55 (nn + 1)) := by
 refine FnOK.mk cok func55 rfl rfl rfl ?_
 rintro fl ⟨(s : ByteArray),(h : List CallD),(rows : List Int),(o : List Int),_⟩ hpre F hnt0 _
 have hnt : F.nt = 78 := hnt0.trans ntmps55
 obtain ⟨hpre,hmu⟩ := hpre
 replace hmu : h.length - o.length < nn + 1 := hmu
 replace hpre : (isObject s = true) ∧ (validHistory h = true) ∧ (rows = rowsOf h.length (bitF rows)) ∧ (headO h o) := hpre
 obtain ⟨hs,hv,hr,ho⟩ := hpre
 refine W.to (⟨[(0,.v (.string s)),(1,.sl (.calls h)),(2,.sl (.ints rows)),(3,.sl (.ints o))],[],[999]⟩) rfl ?_
 have hv6 := (valid_iff.1 hv).1
 have hol := ho.2.2
 have hrl : rows.length = h.length := by rw [hr,rowsOf_len]
 have hio := ho.1
 refine W.lenOf 1 (.calls h) (by kernel_rfl) ?_
 intro hl_h; replace hl_h : List.length h ≤ 9223372036854775807 := hl_h
 refine W.lenOf 2 (.ints rows) (by kernel_rfl) ?_
 intro hl_rows; replace hl_rows : List.length rows ≤ 9223372036854775807 := hl_rows
 refine W.lenOf 3 (.ints o) (by kernel_rfl) ?_
 intro hl_o; replace hl_o : List.length o ≤ 9223372036854775807 := hl_o
 refine W.K cok (tab55 ih) hnt [] [0,1,2,3] (⟨[(0,.v (.string s)),(1,.sl (.calls h)),(2,.sl (.ints rows)),(3,.sl (.ints o))],[],[999]⟩)
  (True ∧ True) (by kernel_rfl)
  ⟨tt,tt⟩ ?_
 refine W.seq ?_
 refine W.K cok (tab55 ih) hnt [] [0,1,2,3,17] (⟨[(0,.v (.string s)),(1,.sl (.calls h)),(2,.sl (.ints rows)),(3,.sl (.ints o)),(17,.b (!(runsB s h o)))],[],[999]⟩)
  (True ∧ True ∧ True ∧ (True ∧ (True ∧ True ∧ True ∧ True) ∧ (isObject s = true) ∧ (validHistory h = true) ∧ (inH h o) ∧ (o.length ≤ 6)) ∧ True ∧ True) (by kernel_rfl)
  ⟨tt,tt,tt,⟨tt,⟨tt,tt,tt,tt⟩,(by exact hs),(by exact hv),(by exact ho.1),(by omega)⟩,tt,tt⟩ ?_
 refine W.if' (!(runsB s h o)) (.b (!(runsB s h o))) (by kernel_rfl) rfl trivial ?_ ?_
 ·intro h17
  refine W.K cok (tab55 ih) hnt [] [8] (⟨[(8,.sl (.intss ([] : List (List Int))))],[],[18,999]⟩)
   (True ∧ True ∧ True) (by kernel_rfl)
   ⟨tt,tt,tt⟩ ?_
  refine W.ret (thenQ_ret ?_)
  exact endQ_ret (.sl (.intss ([] : List (List Int)))) (by kernel_rfl) (@cast ((.intss ([] : List (List Int)) : Dat) = .intss (ordersF s h (bitF rows) (h.length - o.length) o)) _ (by kernel_rfl) (congrArg Dat.intss (by exact (orders_none (by simpa using h17)).symm)))
 ·intro n17
  refine W.skip (thenQ_normal ?_)
  refine W.seq ?_
  refine W.K cok (tab55 ih) hnt [] [0,1,2,3,23] (⟨[(0,.v (.string s)),(1,.sl (.calls h)),(2,.sl (.ints rows)),(3,.sl (.ints o)),(23,.b (decide ((o.length : Int) = (h.length : Int))))],[],[999]⟩)
   (True ∧ True ∧ True ∧ True ∧ (True ∧ True ∧ True) ∧ True) (by kernel_rfl)
   ⟨tt,tt,tt,tt,⟨tt,tt,tt⟩,tt⟩ ?_
  refine W.ifP ((o.length : Int) = (h.length : Int)) (.b (decide ((o.length : Int) = (h.length : Int)))) (by kernel_rfl) rfl trivial ?_ ?_
  ·intro h23
   refine W.K cok (tab55 ih) hnt [24] [8] (⟨[(8,.sl (.intss ([o])))],[],[27,26,24,999]⟩)
    (True ∧ True ∧ ((True ∧ ((List.length ([] : List Int)) = (List.length ([] : List Int)))) ∧ True ∧ (((List.length ([] : List Int)) + o.length) * 8 ≤ 140737488355328)) ∧ (True ∧ True) ∧ True ∧ True) (by kernel_rfl)
    ⟨tt,tt,⟨⟨tt,rfl⟩,tt,(by first | omega | (simp; done) | (simp; omega) | (have h9 := upto_len6 (s := s) (f := bitF rows) (m := h.length - o.length - 1) (k := k) hv6 (by omega) (by omega) o; have h8 := rest_len (s := s) (f := bitF rows) (m := h.length - (o ++ [((k : Nat) : Int)]).length) hv6 (by omega) (o ++ [((k : Nat) : Int)]); (try rw [← hou] at h9); (try simp only [List.length_append,List.length_cons,List.length_nil] at *); omega))⟩,⟨tt,tt⟩,tt,tt⟩ ?_
   refine W.ret (thenQ_ret ?_)
   exact endQ_ret (.sl (.intss ([o]))) (by kernel_rfl) (@cast ((.intss ([o]) : Dat) = .intss (ordersF s h (bitF rows) (h.length - o.length) o)) _ (by kernel_rfl) (congrArg Dat.intss (by exact explain_one (by simpa using n17) h23)))
  ·intro n23
   refine W.skip (thenQ_normal ?_)
   refine W.K cok (tab55 ih) hnt [28] [0,1,2,3,9] (⟨[(0,.v (.string s)),(1,.sl (.calls h)),(2,.sl (.ints rows)),(3,.sl (.ints o)),(9,.own 28 (List.length ([] : List (List Int))))],[(28,⟨24,.row (.intss ([] : List (List Int)))⟩)],[28,999]⟩)
    (True ∧ True ∧ True) (by kernel_rfl)
    ⟨tt,tt,tt⟩ ?_
   refine W.K cok (tab55 ih) hnt [] [0,1,2,3,9,10] (⟨[(0,.v (.string s)),(1,.sl (.calls h)),(2,.sl (.ints rows)),(3,.sl (.ints o)),(9,.own 28 (List.length ([] : List (List Int)))),(10,.i (0 : Int))],[(28,⟨24,.row (.intss ([] : List (List Int)))⟩)],[28,999]⟩)
    (True ∧ True) (by kernel_rfl)
    ⟨tt,tt⟩ ?_
   refine W.seq ?_
   refine W.K cok (tab55 ih) hnt [] [0,1,2,3,9,10,11] (⟨[(0,.v (.string s)),(1,.sl (.calls h)),(2,.sl (.ints rows)),(3,.sl (.ints o)),(9,.own 28 (List.length ([] : List (List Int)))),(10,.i (0 : Int)),(11,.i (0 : Int))],[(28,⟨24,.row (.intss ([] : List (List Int)))⟩)],[28,999]⟩)
    (True ∧ True) (by kernel_rfl)
    ⟨tt,tt⟩ ?_
   refine W.block ?_
   refine W.loop (ι := Nat × Int) (fun (x : Nat × Int) => match x with | (j,d) => (⟨[(0,.v (.string s)),(1,.sl (.calls h)),(2,.sl (.ints rows)),(3,.sl (.ints o)),(9,.own 28 (List.length ([] : List (List Int)))),(10,.i d),(11,.i ((j : Nat) : Int))],[(28,⟨24,.row (.intss ([] : List (List Int)))⟩)],[28,999]⟩ : St))
    (fun (x : Nat × Int) => match x with | (j,d) => (j ≤ o.length) ∧ (d = mask h.length (doneF o j)))
    (fun (x : Nat × Int) => match x with | (j,d) => (o.length - j : Nat)) (0,(0 : Int)) ?_ ?_ ?_
   ·exact (show (0 ≤ o.length) ∧ ((0 : Int) = mask h.length (doneF o 0)) from ⟨(by first | assumption | omega | rfl | (intro _ hjj; omega) | (simp; done) | (simp; omega)),(by exact (done_zero o _).symm)⟩)
   ·exact Sub.of [] (@cast (((((.string s) : Value) = (.string s)) ∧ (((.calls h : Dat) = .calls h) ∧ (((.ints rows : Dat) = .ints rows) ∧ (((.ints o : Dat) = .ints o) ∧ ((((28 : Nat) = 28) ∧ (((List.length ([] : List (List Int))) = (List.length ([] : List (List Int)))) ∧ ((28 : Nat) ∈ ([28,999] : List Nat)))) ∧ (((.int .i64 (0 : Int) : Value) = .int .i64 (0 : Int)) ∧ (((.int .i64 (0 : Int) : Value) = .int .i64 ((0 : Nat) : Int)) ∧ True))))))) ∧ (((((24 : Nat) = 24) ∧ (((.intss ([] : List (List Int)) : Dat) = .intss ([] : List (List Int))) ∧ ((28 : Nat) ∈ ([28,999] : List Nat)))) ∧ True) ∧ ((true = true) ∧ (true = true)))) _ (by kernel_rfl) ⟨⟨rfl,rfl,rfl,rfl,⟨rfl,rfl,(by decide)⟩,rfl,(congrArg (Value.int .i64) (by first | rfl | omega | assumption | simp | simp_all)),tt⟩,⟨⟨rfl,rfl,(by decide)⟩,tt⟩,rfl,rfl⟩)
   ·rintro ⟨j,d⟩ hC0
    have hC : (j ≤ o.length) ∧ (d = mask h.length (doneF o j)) := hC0
    clear hC0
    obtain ⟨hj,hd⟩ := hC
    refine W.to (⟨[(0,.v (.string s)),(1,.sl (.calls h)),(2,.sl (.ints rows)),(3,.sl (.ints o)),(9,.own 28 (List.length ([] : List (List Int)))),(10,.i d),(11,.i ((j : Nat) : Int))],[(28,⟨24,.row (.intss ([] : List (List Int)))⟩)],[28,999]⟩) rfl ?_
    refine W.seq ?_
    refine W.K cok (tab55 ih) hnt [] [0,1,2,3,9,10,11,32] (⟨[(0,.v (.string s)),(1,.sl (.calls h)),(2,.sl (.ints rows)),(3,.sl (.ints o)),(9,.own 28 (List.length ([] : List (List Int)))),(10,.i d),(11,.i ((j : Nat) : Int)),(32,.b (decide (((j : Nat) : Int) < (o.length : Int))))],[(28,⟨24,.row (.intss ([] : List (List Int)))⟩)],[28,999]⟩)
     (True ∧ True ∧ True ∧ (True ∧ True ∧ True) ∧ True) (by kernel_rfl)
     ⟨tt,tt,tt,⟨tt,tt,tt⟩,tt⟩ ?_
    refine W.ifP (((j : Nat) : Int) < (o.length : Int)) (.b (decide (((j : Nat) : Int) < (o.length : Int)))) (by kernel_rfl) rfl trivial ?_ ?_
    ·intro h32
     refine W.skip (thenQ_normal ?_)
     refine W.seq ?_
     refine W.block ?_
     refine W.L cok (tab55 ih) hnt [] (⟨[(0,.v (.string s)),(1,.sl (.calls h)),(2,.sl (.ints rows)),(3,.sl (.ints o)),(9,.own 28 (List.length ([] : List (List Int)))),(10,.i (d + (power (o.getD j 0)))),(11,.i ((j : Nat) : Int)),(32,.b (decide (((j : Nat) : Int) < (o.length : Int)))),(35,.i d),(36,.sl (.ints o)),(37,.i ((j : Nat) : Int)),(38,.ep [.i (o.getD j 0)]),(39,.i (o.getD j 0)),(40,.i (power (o.getD j 0))),(41,.i (d + (power (o.getD j 0))))],[(28,⟨24,.row (.intss ([] : List (List Int)))⟩)],[28,999]⟩)
      (True ∧ True ∧ True ∧ (True ∧ True ∧ (0 ≤ ((j : Nat) : Int)) ∧ (((j : Nat) : Int) < (o.length : Int))) ∧ True ∧ (True ∧ (True ∧ True) ∧ ((o.getD j 0) ≤ 60)) ∧ (True ∧ True ∧ (Fits .i64 (d + (power (o.getD j 0))))) ∧ True ∧ True) (by kernel_rfl)
      ⟨tt,tt,tt,⟨tt,tt,(by omega),(by omega)⟩,tt,⟨tt,⟨tt,tt⟩,(by have := hio j (by omega); omega)⟩,⟨tt,tt,(by rw [hd,done_next ho.2.1 (by omega) (by have := hio j (by omega); omega) (by have := hio j (by omega); omega)]; have := mask_bnd h.length (doneF o (j + 1)) (by omega); exact fits_i64 (by omega) (by omega))⟩,tt,tt⟩ ?_
     refine blockQ_normal (thenQ_normal ?_)
     refine W.L cok (tab55 ih) hnt [] (⟨[(0,.v (.string s)),(1,.sl (.calls h)),(2,.sl (.ints rows)),(3,.sl (.ints o)),(9,.own 28 (List.length ([] : List (List Int)))),(10,.i (d + (power (o.getD j 0)))),(11,.i (((j + 1) : Nat) : Int)),(32,.b (decide (((j : Nat) : Int) < (o.length : Int)))),(33,.i ((j : Nat) : Int)),(34,.i (((j + 1) : Nat) : Int)),(35,.i d),(36,.sl (.ints o)),(37,.i ((j : Nat) : Int)),(38,.ep [.i (o.getD j 0)]),(39,.i (o.getD j 0)),(40,.i (power (o.getD j 0))),(41,.i (d + (power (o.getD j 0))))],[(28,⟨24,.row (.intss ([] : List (List Int)))⟩)],[28,999]⟩)
      (True ∧ (True ∧ True ∧ (Fits .i64 (((j + 1) : Nat) : Int))) ∧ True ∧ True) (by kernel_rfl)
      ⟨tt,⟨tt,tt,(by exact fits_i64 (by omega) (by omega))⟩,tt,tt⟩ ?_
     refine thenQ_normal ?_
     refine ⟨((j + 1),(d + (power (o.getD j 0)))),(show ((j + 1) ≤ o.length) ∧ ((d + (power (o.getD j 0))) = mask h.length (doneF o (j + 1))) from ⟨(by first | assumption | omega | rfl | (intro _ hjj; omega) | (simp; done) | (simp; omega)),(by rw [hd]; exact done_next ho.2.1 (by omega) (by have := hio j (by omega); omega) (by have := hio j (by omega); omega))⟩),(show o.length - (j + 1) < o.length - j from (by first | omega | (simp_all; omega))),?_⟩
     exact Sub.of [] (@cast (((((.string s) : Value) = (.string s)) ∧ (((.calls h : Dat) = .calls h) ∧ (((.ints rows : Dat) = .ints rows) ∧ (((.ints o : Dat) = .ints o) ∧ ((((28 : Nat) = 28) ∧ (((List.length ([] : List (List Int))) = (List.length ([] : List (List Int)))) ∧ ((28 : Nat) ∈ ([28,999] : List Nat)))) ∧ (((.int .i64 (d + (power (o.getD j 0))) : Value) = .int .i64 (d + (power (o.getD j 0)))) ∧ (((.int .i64 (((j + 1) : Nat) : Int) : Value) = .int .i64 (((j + 1) : Nat) : Int)) ∧ True))))))) ∧ (((((24 : Nat) = 24) ∧ (((.intss ([] : List (List Int)) : Dat) = .intss ([] : List (List Int))) ∧ ((28 : Nat) ∈ ([28,999] : List Nat)))) ∧ True) ∧ ((true = true) ∧ (true = true)))) _ (by kernel_rfl) ⟨⟨rfl,rfl,rfl,rfl,⟨rfl,rfl,(by decide)⟩,rfl,rfl,tt⟩,⟨⟨rfl,rfl,(by decide)⟩,tt⟩,rfl,rfl⟩)
    ·intro n32
     refine W.exit (thenQ_exit (thenQ_exit (blockQ_hit ?_)))
     refine thenQ_normal ?_
     refine W.seq ?_
     refine W.K cok (tab55 ih) hnt [] [0,1,2,3,9,10,12] (⟨[(0,.v (.string s)),(1,.sl (.calls h)),(2,.sl (.ints rows)),(3,.sl (.ints o)),(9,.own 28 (List.length ([] : List (List Int)))),(10,.i d),(12,.i (0 : Int))],[(28,⟨24,.row (.intss ([] : List (List Int)))⟩)],[28,999]⟩)
      (True ∧ True) (by kernel_rfl)
      ⟨tt,tt⟩ ?_
     refine W.block ?_
     refine W.loop (ι := Nat × (List (List Int))) (fun (x : Nat × (List (List Int))) => match x with | (k,ou) => (⟨[(0,.v (.string s)),(1,.sl (.calls h)),(2,.sl (.ints rows)),(3,.sl (.ints o)),(9,.own 28 ou.length),(10,.i d),(12,.i ((k : Nat) : Int))],[(28,⟨24,.row (.intss ou)⟩)],[28,999]⟩ : St))
      (fun (x : Nat × (List (List Int))) => match x with | (k,ou) => (k ≤ h.length) ∧ (ou = ordersUp s h (bitF rows) (h.length - o.length - 1) o k))
      (fun (x : Nat × (List (List Int))) => match x with | (k,ou) => (h.length - k : Nat)) (0,([] : List (List Int))) ?_ ?_ ?_
     ·exact (show (0 ≤ h.length) ∧ (([] : List (List Int)) = ordersUp s h (bitF rows) (h.length - o.length - 1) o 0) from ⟨(by first | assumption | omega | rfl | (intro _ hjj; omega) | (simp; done) | (simp; omega)),(by rfl)⟩)
     ·exact Sub.of [] (@cast (((((.string s) : Value) = (.string s)) ∧ (((.calls h : Dat) = .calls h) ∧ (((.ints rows : Dat) = .ints rows) ∧ (((.ints o : Dat) = .ints o) ∧ ((((28 : Nat) = 28) ∧ (((List.length ([] : List (List Int))) = (List.length ([] : List (List Int)))) ∧ ((28 : Nat) ∈ ([28,999] : List Nat)))) ∧ (((.int .i64 d : Value) = .int .i64 d) ∧ (((.int .i64 (0 : Int) : Value) = .int .i64 ((0 : Nat) : Int)) ∧ True))))))) ∧ (((((24 : Nat) = 24) ∧ (((.intss ([] : List (List Int)) : Dat) = .intss ([] : List (List Int))) ∧ ((28 : Nat) ∈ ([28,999] : List Nat)))) ∧ True) ∧ ((true = true) ∧ (true = true)))) _ (by kernel_rfl) ⟨⟨rfl,rfl,rfl,rfl,⟨rfl,rfl,(by decide)⟩,rfl,(congrArg (Value.int .i64) (by first | rfl | omega | assumption | simp | simp_all)),tt⟩,⟨⟨rfl,rfl,(by decide)⟩,tt⟩,rfl,rfl⟩)
     ·rintro ⟨k,ou⟩ hC0
      have hC : (k ≤ h.length) ∧ (ou = ordersUp s h (bitF rows) (h.length - o.length - 1) o k) := hC0
      clear hC0
      obtain ⟨hk,hou⟩ := hC
      refine W.to (⟨[(0,.v (.string s)),(1,.sl (.calls h)),(2,.sl (.ints rows)),(3,.sl (.ints o)),(9,.own 28 ou.length),(10,.i d),(12,.i ((k : Nat) : Int))],[(28,⟨24,.row (.intss ou)⟩)],[28,999]⟩) rfl ?_
      have hdd : d = mask h.length (hasN o) := by rw [hd]; exact done_all (by omega)
      refine W.seq ?_
      refine W.K cok (tab55 ih) hnt [] [0,1,2,3,9,10,12,45] (⟨[(0,.v (.string s)),(1,.sl (.calls h)),(2,.sl (.ints rows)),(3,.sl (.ints o)),(9,.own 28 ou.length),(10,.i d),(12,.i ((k : Nat) : Int)),(45,.b (decide (((k : Nat) : Int) < (h.length : Int))))],[(28,⟨24,.row (.intss ou)⟩)],[28,999]⟩)
       (True ∧ True ∧ True ∧ (True ∧ True ∧ True) ∧ True) (by kernel_rfl)
       ⟨tt,tt,tt,⟨tt,tt,tt⟩,tt⟩ ?_
      refine W.ifP (((k : Nat) : Int) < (h.length : Int)) (.b (decide (((k : Nat) : Int) < (h.length : Int)))) (by kernel_rfl) rfl trivial ?_ ?_
      ·intro h45
       refine W.skip (thenQ_normal ?_)
       refine W.seq ?_
       refine W.block ?_
       refine W.KA cok (tab55 ih) hnt [] [0,1,2,3,9,10,12,64] (⟨[(0,.v (.string s)),(1,.sl (.calls h)),(2,.sl (.ints rows)),(3,.sl (.ints o)),(9,.own 28 ou.length),(10,.i d),(12,.i ((k : Nat) : Int)),(64,.b ((decide ((bitOf d ((k : Nat) : Int)) = (0 : Int))) && (decide ((bitsI .and .i64 (rows.getD k 0) d) = (rows.getD k 0)))))],[(28,⟨24,.row (.intss ou)⟩)],[28,999]⟩)
        (True ∧ True ∧ (True ∧ (True ∧ True ∧ True) ∧ (((k : Nat) : Int) ≤ 60) ∧ 0 ≤ d ∧ d ≤ 4611686018427387904) ∧ (True ∧ True ∧ True) ∧ True ∧ ((decide ((bitOf d ((k : Nat) : Int)) = (0 : Int))) = true → True) ∧ ((decide ((bitOf d ((k : Nat) : Int)) = (0 : Int))) = true → True) ∧ ((decide ((bitOf d ((k : Nat) : Int)) = (0 : Int))) = true → ((((decide ((bitOf d ((k : Nat) : Int)) = (0 : Int))) = true) ∧ True) ∧ (((decide ((bitOf d ((k : Nat) : Int)) = (0 : Int))) = true) ∧ True) ∧ (0 ≤ ((k : Nat) : Int)) ∧ (((k : Nat) : Int) < (rows.length : Int)))) ∧ ((decide ((bitOf d ((k : Nat) : Int)) = (0 : Int))) = true → (((decide ((bitOf d ((k : Nat) : Int)) = (0 : Int))) = true) ∧ True)) ∧ ((decide ((bitOf d ((k : Nat) : Int)) = (0 : Int))) = true → True) ∧ ((decide ((bitOf d ((k : Nat) : Int)) = (0 : Int))) = true → ((((decide ((bitOf d ((k : Nat) : Int)) = (0 : Int))) = true) ∧ True) ∧ (((decide ((bitOf d ((k : Nat) : Int)) = (0 : Int))) = true) ∧ True) ∧ True)) ∧ ((decide ((bitOf d ((k : Nat) : Int)) = (0 : Int))) = true → True) ∧ ((decide ((bitOf d ((k : Nat) : Int)) = (0 : Int))) = true → True) ∧ ((decide ((bitOf d ((k : Nat) : Int)) = (0 : Int))) = true → ((((decide ((bitOf d ((k : Nat) : Int)) = (0 : Int))) = true) ∧ True) ∧ (((decide ((bitOf d ((k : Nat) : Int)) = (0 : Int))) = true) ∧ True) ∧ (0 ≤ ((k : Nat) : Int)) ∧ (((k : Nat) : Int) < (rows.length : Int)))) ∧ ((decide ((bitOf d ((k : Nat) : Int)) = (0 : Int))) = true → (((decide ((bitOf d ((k : Nat) : Int)) = (0 : Int))) = true) ∧ True)) ∧ ((decide ((bitOf d ((k : Nat) : Int)) = (0 : Int))) = true → ((((decide ((bitOf d ((k : Nat) : Int)) = (0 : Int))) = true) ∧ True) ∧ (((decide ((bitOf d ((k : Nat) : Int)) = (0 : Int))) = true) ∧ True) ∧ True)) ∧ (True ∧ ((decide ((bitOf d ((k : Nat) : Int)) = (0 : Int))) = true → ((decide ((bitOf d ((k : Nat) : Int)) = (0 : Int))) = true) ∧ True) ∧ ((decide ((bitOf d ((k : Nat) : Int)) = (0 : Int))) = false → True)) ∧ True) (by kernel_rfl) (by kernel_rfl)
        ⟨tt,tt,⟨tt,⟨tt,tt,tt⟩,(by omega),(by rw [hd]; have := mask_bnd h.length (doneF o j) (by omega); omega)⟩,⟨tt,tt,tt⟩,tt,(fun _ => trivial),(fun _ => trivial),(fun hG => ⟨⟨hG,tt⟩,⟨hG,tt⟩,(by have hg0 : (bitOf d ((k : Nat) : Int)) = (0 : Int) := of_decide_eq_true hG; omega),(by have hg0 : (bitOf d ((k : Nat) : Int)) = (0 : Int) := of_decide_eq_true hG; omega)⟩),(fun hG => ⟨hG,tt⟩),(fun _ => trivial),(fun hG => ⟨⟨hG,tt⟩,⟨hG,tt⟩,tt⟩),(fun _ => trivial),(fun _ => trivial),(fun hG => ⟨⟨hG,tt⟩,⟨hG,tt⟩,(by have hg0 : (bitOf d ((k : Nat) : Int)) = (0 : Int) := of_decide_eq_true hG; omega),(by have hg0 : (bitOf d ((k : Nat) : Int)) = (0 : Int) := of_decide_eq_true hG; omega)⟩),(fun hG => ⟨hG,tt⟩),(fun hG => ⟨⟨hG,tt⟩,⟨hG,tt⟩,tt⟩),⟨tt,(fun hp => ⟨hp,tt⟩),(fun _ => trivial)⟩,tt⟩ ?_
       refine W.if' ((decide ((bitOf d ((k : Nat) : Int)) = (0 : Int))) && (decide ((bitsI .and .i64 (rows.getD k 0) d) = (rows.getD k 0)))) (.b ((decide ((bitOf d ((k : Nat) : Int)) = (0 : Int))) && (decide ((bitsI .and .i64 (rows.getD k 0) d) = (rows.getD k 0))))) (by kernel_rfl) rfl trivial ?_ ?_
       ·intro h64
        have h64_0 : (bitOf d ((k : Nat) : Int)) = (0 : Int) := of_decide_eq_true (and_l h64)
        have h64_1 : (bitsI .and .i64 (rows.getD k 0) d) = (rows.getD k 0) := of_decide_eq_true (and_r h64)
        have hfk : freeB (bitF rows) h.length o k = true := free_spec (by omega) (by omega) (by rw [← hr,← hdd]; exact h64)
        refine W.L cok (tab55 ih) hnt [69,71,76] (⟨[(0,.v (.string s)),(1,.sl (.calls h)),(2,.sl (.ints rows)),(3,.sl (.ints o)),(9,.own 76 (List.length (ou ++ (ordersF s h (bitF rows) (h.length - (o ++ ([((k : Nat) : Int)])).length) (o ++ ([((k : Nat) : Int)])))))),(10,.i d),(12,.i ((k : Nat) : Int)),(64,.b ((decide ((bitOf d ((k : Nat) : Int)) = (0 : Int))) && (decide ((bitsI .and .i64 (rows.getD k 0) d) = (rows.getD k 0))))),(65,.own 28 ou.length),(66,.v (.string s)),(67,.sl (.calls h)),(68,.sl (.ints rows)),(69,.own 69 (List.length ([] : List Int))),(70,.sl (.ints o)),(71,.own 71 o.length),(72,.i ((k : Nat) : Int)),(73,.sl (.ints ([((k : Nat) : Int)]))),(74,.sl (.ints (o ++ ([((k : Nat) : Int)])))),(75,.sl (.intss (ordersF s h (bitF rows) (h.length - (o ++ ([((k : Nat) : Int)])).length) (o ++ ([((k : Nat) : Int)]))))),(76,.own 76 (List.length (ou ++ (ordersF s h (bitF rows) (h.length - (o ++ ([((k : Nat) : Int)])).length) (o ++ ([((k : Nat) : Int)]))))))],[(76,⟨24,.row (.intss (ou ++ (ordersF s h (bitF rows) (h.length - (o ++ ([((k : Nat) : Int)])).length) (o ++ ([((k : Nat) : Int)])))))⟩)],[76,74,73,71,69,28,999]⟩)
         (True ∧ True ∧ True ∧ True ∧ True ∧ True ∧ ((True ∧ ((List.length ([] : List Int)) = (List.length ([] : List Int)))) ∧ True ∧ (((List.length ([] : List Int)) + o.length) * 8 ≤ 140737488355328)) ∧ True ∧ (True ∧ True) ∧ ((True ∧ (o.length = o.length)) ∧ True ∧ ((o.length + (List.length ([((k : Nat) : Int)]))) * 8 ≤ 140737488355328)) ∧ (True ∧ (True ∧ True ∧ True ∧ True ∧ True) ∧ ((isObject s = true) ∧ (validHistory h = true) ∧ (rows = rowsOf h.length (bitF rows)) ∧ (headO h (o ++ ([((k : Nat) : Int)])))) ∧ (h.length - (o ++ ([((k : Nat) : Int)])).length < nn)) ∧ ((True ∧ (ou.length = ou.length)) ∧ True ∧ ((ou.length + (List.length (ordersF s h (bitF rows) (h.length - (o ++ ([((k : Nat) : Int)])).length) (o ++ ([((k : Nat) : Int)]))))) * 24 ≤ 140737488355328)) ∧ True ∧ True) (by kernel_rfl)
         ⟨tt,tt,tt,tt,tt,tt,⟨⟨tt,rfl⟩,tt,(by first | omega | (simp; done) | (simp; omega) | (have h9 := upto_len6 (s := s) (f := bitF rows) (m := h.length - o.length - 1) (k := k) hv6 (by omega) (by omega) o; have h8 := rest_len (s := s) (f := bitF rows) (m := h.length - (o ++ [((k : Nat) : Int)]).length) hv6 (by omega) (o ++ [((k : Nat) : Int)]); (try rw [← hou] at h9); (try simp only [List.length_append,List.length_cons,List.length_nil] at *); omega))⟩,tt,⟨tt,tt⟩,⟨⟨tt,rfl⟩,tt,(by first | omega | (simp; done) | (simp; omega) | (have h9 := upto_len6 (s := s) (f := bitF rows) (m := h.length - o.length - 1) (k := k) hv6 (by omega) (by omega) o; have h8 := rest_len (s := s) (f := bitF rows) (m := h.length - (o ++ [((k : Nat) : Int)]).length) hv6 (by omega) (o ++ [((k : Nat) : Int)]); (try rw [← hou] at h9); (try simp only [List.length_append,List.length_cons,List.length_nil] at *); omega))⟩,⟨tt,⟨tt,tt,tt,tt,tt⟩,⟨(by exact hs),(by exact hv),(by exact hr),(by exact headO_snoc ho (by omega) (free_has hfk) (by omega))⟩,(by (try simp only [List.length_append,List.length_cons,List.length_nil]); omega)⟩,⟨⟨tt,rfl⟩,tt,(by first | omega | (simp; done) | (simp; omega) | (have h9 := upto_len6 (s := s) (f := bitF rows) (m := h.length - o.length - 1) (k := k) hv6 (by omega) (by omega) o; have h8 := rest_len (s := s) (f := bitF rows) (m := h.length - (o ++ [((k : Nat) : Int)]).length) hv6 (by omega) (o ++ [((k : Nat) : Int)]); (try rw [← hou] at h9); (try simp only [List.length_append,List.length_cons,List.length_nil] at *); omega))⟩,tt,tt⟩ ?_
        refine blockQ_normal (thenQ_normal ?_)
        refine W.L cok (tab55 ih) hnt [] (⟨[(0,.v (.string s)),(1,.sl (.calls h)),(2,.sl (.ints rows)),(3,.sl (.ints o)),(9,.own 76 (List.length (ou ++ (ordersF s h (bitF rows) (h.length - (o ++ ([((k : Nat) : Int)])).length) (o ++ ([((k : Nat) : Int)])))))),(10,.i d),(12,.i (((k + 1) : Nat) : Int)),(46,.i ((k : Nat) : Int)),(47,.i (((k + 1) : Nat) : Int)),(64,.b ((decide ((bitOf d ((k : Nat) : Int)) = (0 : Int))) && (decide ((bitsI .and .i64 (rows.getD k 0) d) = (rows.getD k 0))))),(65,.own 28 ou.length),(66,.v (.string s)),(67,.sl (.calls h)),(68,.sl (.ints rows)),(69,.own 69 (List.length ([] : List Int))),(70,.sl (.ints o)),(71,.own 71 o.length),(72,.i ((k : Nat) : Int)),(73,.sl (.ints ([((k : Nat) : Int)]))),(74,.sl (.ints (o ++ ([((k : Nat) : Int)])))),(75,.sl (.intss (ordersF s h (bitF rows) (h.length - (o ++ ([((k : Nat) : Int)])).length) (o ++ ([((k : Nat) : Int)]))))),(76,.own 76 (List.length (ou ++ (ordersF s h (bitF rows) (h.length - (o ++ ([((k : Nat) : Int)])).length) (o ++ ([((k : Nat) : Int)]))))))],[(76,⟨24,.row (.intss (ou ++ (ordersF s h (bitF rows) (h.length - (o ++ ([((k : Nat) : Int)])).length) (o ++ ([((k : Nat) : Int)])))))⟩)],[76,74,73,71,69,28,999]⟩)
         (True ∧ (True ∧ True ∧ (Fits .i64 (((k + 1) : Nat) : Int))) ∧ True ∧ True) (by kernel_rfl)
         ⟨tt,⟨tt,tt,(by exact fits_i64 (by omega) (by omega))⟩,tt,tt⟩ ?_
        refine thenQ_normal ?_
        refine ⟨((k + 1),(ou ++ (ordersF s h (bitF rows) (h.length - (o ++ ([((k : Nat) : Int)])).length) (o ++ ([((k : Nat) : Int)]))))),(show ((k + 1) ≤ h.length) ∧ ((ou ++ (ordersF s h (bitF rows) (h.length - (o ++ ([((k : Nat) : Int)])).length) (o ++ ([((k : Nat) : Int)])))) = ordersUp s h (bitF rows) (h.length - o.length - 1) o (k + 1)) from ⟨(by first | assumption | omega | rfl | (intro _ hjj; omega) | (simp; done) | (simp; omega)),(by first | (exact explain_step hfk hou) | (rw [up_no hfk]; exact hou))⟩),(show h.length - (k + 1) < h.length - k from (by first | omega | (simp_all; omega))),?_⟩
        exact Sub.of [(28,76)] (@cast (((((.string s) : Value) = (.string s)) ∧ (((.calls h : Dat) = .calls h) ∧ (((.ints rows : Dat) = .ints rows) ∧ (((.ints o : Dat) = .ints o) ∧ ((((76 : Nat) = 76) ∧ (((List.length (ou ++ (ordersF s h (bitF rows) (h.length - (o ++ ([((k : Nat) : Int)])).length) (o ++ ([((k : Nat) : Int)]))))) = (List.length (ou ++ (ordersF s h (bitF rows) (h.length - (o ++ ([((k : Nat) : Int)])).length) (o ++ ([((k : Nat) : Int)])))))) ∧ ((28 : Nat) ∈ ([28,999] : List Nat)))) ∧ (((.int .i64 d : Value) = .int .i64 d) ∧ (((.int .i64 (((k + 1) : Nat) : Int) : Value) = .int .i64 (((k + 1) : Nat) : Int)) ∧ True))))))) ∧ (((((24 : Nat) = 24) ∧ (((.intss (ou ++ (ordersF s h (bitF rows) (h.length - (o ++ ([((k : Nat) : Int)])).length) (o ++ ([((k : Nat) : Int)])))) : Dat) = .intss (ou ++ (ordersF s h (bitF rows) (h.length - (o ++ ([((k : Nat) : Int)])).length) (o ++ ([((k : Nat) : Int)]))))) ∧ ((28 : Nat) ∈ ([28,999] : List Nat)))) ∧ True) ∧ ((true = true) ∧ (true = true)))) _ (by kernel_rfl) ⟨⟨rfl,rfl,rfl,rfl,⟨rfl,rfl,(by decide)⟩,rfl,rfl,tt⟩,⟨⟨rfl,rfl,(by decide)⟩,tt⟩,rfl,rfl⟩)
       ·intro n64
        have hfk : freeB (bitF rows) h.length o k = false := free_spec (by omega) (by omega) (by rw [← hr,← hdd]; exact n64)
        refine W.skip (blockQ_normal (thenQ_normal ?_))
        refine W.L cok (tab55 ih) hnt [] (⟨[(0,.v (.string s)),(1,.sl (.calls h)),(2,.sl (.ints rows)),(3,.sl (.ints o)),(9,.own 28 ou.length),(10,.i d),(12,.i (((k + 1) : Nat) : Int)),(46,.i ((k : Nat) : Int)),(47,.i (((k + 1) : Nat) : Int)),(64,.b ((decide ((bitOf d ((k : Nat) : Int)) = (0 : Int))) && (decide ((bitsI .and .i64 (rows.getD k 0) d) = (rows.getD k 0)))))],[(28,⟨24,.row (.intss ou)⟩)],[28,999]⟩)
         (True ∧ (True ∧ True ∧ (Fits .i64 (((k + 1) : Nat) : Int))) ∧ True ∧ True) (by kernel_rfl)
         ⟨tt,⟨tt,tt,(by exact fits_i64 (by omega) (by omega))⟩,tt,tt⟩ ?_
        refine thenQ_normal ?_
        refine ⟨((k + 1),ou),(show ((k + 1) ≤ h.length) ∧ (ou = ordersUp s h (bitF rows) (h.length - o.length - 1) o (k + 1)) from ⟨(by first | assumption | omega | rfl | (intro _ hjj; omega) | (simp; done) | (simp; omega)),(by first | (exact explain_step hfk hou) | (rw [up_no hfk]; exact hou))⟩),(show h.length - (k + 1) < h.length - k from (by first | omega | (simp_all; omega))),?_⟩
        exact Sub.of [] (@cast (((((.string s) : Value) = (.string s)) ∧ (((.calls h : Dat) = .calls h) ∧ (((.ints rows : Dat) = .ints rows) ∧ (((.ints o : Dat) = .ints o) ∧ ((((28 : Nat) = 28) ∧ ((ou.length = ou.length) ∧ ((28 : Nat) ∈ ([28,999] : List Nat)))) ∧ (((.int .i64 d : Value) = .int .i64 d) ∧ (((.int .i64 (((k + 1) : Nat) : Int) : Value) = .int .i64 (((k + 1) : Nat) : Int)) ∧ True))))))) ∧ (((((24 : Nat) = 24) ∧ (((.intss ou : Dat) = .intss ou) ∧ ((28 : Nat) ∈ ([28,999] : List Nat)))) ∧ True) ∧ ((true = true) ∧ (true = true)))) _ (by kernel_rfl) ⟨⟨rfl,rfl,rfl,rfl,⟨rfl,rfl,(by decide)⟩,rfl,rfl,tt⟩,⟨⟨rfl,rfl,(by decide)⟩,tt⟩,rfl,rfl⟩)
      ·intro n45
       refine W.exit (thenQ_exit (thenQ_exit (blockQ_hit ?_)))
       refine thenQ_normal ?_
       refine W.K cok (tab55 ih) hnt [] [8] (⟨[(8,.own 28 ou.length)],[(28,⟨24,.row (.intss ou)⟩)],[28,999]⟩)
        (True ∧ True ∧ True) (by kernel_rfl)
        ⟨tt,tt,tt⟩ ?_
       refine W.ret ?_
       exact endQ_ret (.own 28 ou.length) (by kernel_rfl) (@cast ((ou.length = ou.length) ∧ (((.intss ou : Dat) = .intss (ordersF s h (bitF rows) (h.length - o.length) o)) ∧ ((28 : Nat) ∉ ([] : List Nat)))) _ (by kernel_rfl) ⟨rfl,⟨(congrArg Dat.intss (by exact explain_end (by omega) (by omega) hou)),(by decide)⟩⟩)
theorem ok55 : FnOK prog 55 fs55 := FnOK.rec' okS55
end Go.Proofs.Try

set_option linter.unusedSimpArgs false
set_option linter.unusedVariables false
namespace Go.Proofs.Try
open Go.Ab Go.RowKit
def fs33 : FnS := fnS [.o,.s .calls] [.str,.calls] (fun _ (s,h,_) => (.b (explains s h (aheadF h)),[],True))
abbrev T33 : Tab := lk [(54,fs54),(55,fs55),(63,fs63)]
theorem tab33 : TabOK prog T33 := (TabOK.cons ok54 ent54 (TabOK.cons ok55 ent55 (TabOK.cons ok63 ent63 TabOK.nil)))
set_option maxRecDepth 100000 in
set_option maxHeartbeats 1000000 in
theorem ok33 : FnOK prog 33 fs33 := by
 refine FnOK.mk cok func33 rfl rfl rfl ?_
 rintro fl ⟨(s : ByteArray),(h : List CallD),_⟩ hpre F hnt0 _
 have hnt : F.nt = 18 := hnt0.trans ntmps33
 clear hpre
 refine W.to (⟨[(0,.v (.string s)),(1,.sl (.calls h))],[],[999]⟩) rfl ?_
 refine W.lenOf 1 (.calls h) (by kernel_rfl) ?_
 intro hl_h; replace hl_h : List.length h ≤ 9223372036854775807 := hl_h
 refine W.K cok tab33 hnt [] [0,1] (⟨[(0,.v (.string s)),(1,.sl (.calls h))],[],[999]⟩)
  (True ∧ True) (by kernel_rfl)
  ⟨tt,tt⟩ ?_
 refine W.K cok tab33 hnt [] [4] (⟨[(4,.b ((isObject s && validHistory h) && (decide ((0 : Int) < (((List.length (ordersF s h (bitF (rowsOf h.length (aheadF h))) (h.length - ([] : List Int).length) ([] : List Int))) : Nat) : Int)))))],[],[13,999]⟩)
  (True ∧ True ∧ (True ∧ (True ∧ True ∧ True) ∧ True) ∧ True ∧ ((isObject s && validHistory h) = true → True) ∧ ((isObject s && validHistory h) = true → True) ∧ ((isObject s && validHistory h) = true → True) ∧ ((isObject s && validHistory h) = true → (True ∧ ((((isObject s && validHistory h) = true) ∧ True) ∧ True) ∧ (h.length ≤ 60))) ∧ ((isObject s && validHistory h) = true → True) ∧ ((isObject s && validHistory h) = true → (True ∧ ((((isObject s && validHistory h) = true) ∧ True) ∧ (((isObject s && validHistory h) = true) ∧ True) ∧ (((isObject s && validHistory h) = true) ∧ True) ∧ (((isObject s && validHistory h) = true) ∧ True) ∧ True) ∧ (isObject s = true) ∧ (validHistory h = true) ∧ ((rowsOf h.length (aheadF h)) = rowsOf h.length (bitF (rowsOf h.length (aheadF h)))) ∧ (headO h ([] : List Int)))) ∧ ((isObject s && validHistory h) = true → (((isObject s && validHistory h) = true) ∧ True)) ∧ ((isObject s && validHistory h) = true → ((((isObject s && validHistory h) = true) ∧ True) ∧ True ∧ True)) ∧ (True ∧ ((isObject s && validHistory h) = true → ((isObject s && validHistory h) = true) ∧ True) ∧ ((isObject s && validHistory h) = false → True)) ∧ True ∧ True) (by kernel_rfl)
  ⟨tt,tt,⟨tt,⟨tt,tt,tt⟩,tt⟩,tt,(fun _ => trivial),(fun _ => trivial),(fun _ => trivial),(fun hG => ⟨tt,⟨⟨hG,tt⟩,tt⟩,(by have h6 := (valid_iff.1 (and_r hG)).1; omega)⟩),(fun _ => trivial),(fun hG => ⟨tt,⟨⟨hG,tt⟩,⟨hG,tt⟩,⟨hG,tt⟩,⟨hG,tt⟩,tt⟩,(by exact and_l hG),(by exact and_r hG),(by exact rows_self),(by exact headO_nil h)⟩),(fun hG => ⟨hG,tt⟩),(fun hG => ⟨⟨hG,tt⟩,tt,tt⟩),⟨tt,(fun hp => ⟨hp,tt⟩),(fun _ => trivial)⟩,tt,tt⟩ ?_
 refine W.ret ?_
 exact endQ_ret (.b ((isObject s && validHistory h) && (decide ((0 : Int) < (((List.length (ordersF s h (bitF (rowsOf h.length (aheadF h))) (h.length - ([] : List Int).length) ([] : List Int))) : Nat) : Int))))) (by kernel_rfl) (@cast ((.bool ((isObject s && validHistory h) && (decide ((0 : Int) < (((List.length (ordersF s h (bitF (rowsOf h.length (aheadF h))) (h.length - ([] : List Int).length) ([] : List Int))) : Nat) : Int)))) : Value) = .bool (explains s h (aheadF h))) _ (by kernel_rfl) (congrArg Value.bool (by exact by_gt (fun _ => rfl))))
theorem ent33 : Entr prog 33 := ⟨_,func33,rfl,by decide⟩
end Go.Proofs.Try

set_option linter.unusedSimpArgs false
set_option linter.unusedVariables false
namespace Go.Proofs.Try
open Go.Ab Go.RowKit
def fs35 : FnS := fnS [.s .calls,.o] [.calls,.int] (fun _ (h,z,_) => (.sl (.calls (partOf h z)),[],True))
abbrev T35 : Tab := lk [(12,fs12)]
theorem tab35 : TabOK prog T35 := (TabOK.cons ok12 ent12 TabOK.nil)
set_option maxRecDepth 100000 in
set_option maxHeartbeats 1000000 in
theorem ok35 : FnOK prog 35 fs35 := by
 refine FnOK.mk cok func35 rfl rfl rfl ?_
 rintro fl ⟨(h : List CallD),(z : Int),_⟩ hpre F hnt0 _
 have hnt : F.nt = 29 := hnt0.trans ntmps35
 clear hpre
 refine W.to (⟨[(0,.sl (.calls h)),(1,.i z)],[],[999]⟩) rfl ?_
 refine W.lenOf 0 (.calls h) (by kernel_rfl) ?_
 intro hl_h; replace hl_h : List.length h ≤ 9223372036854775807 := hl_h
 refine W.K cok tab35 hnt [] [0,1] (⟨[(0,.sl (.calls h)),(1,.i z)],[],[999]⟩)
  (True ∧ True) (by kernel_rfl)
  ⟨tt,tt⟩ ?_
 refine W.K cok tab35 hnt [8] [0,1,5] (⟨[(0,.sl (.calls h)),(1,.i z),(5,.own 8 (List.length ([] : List CallD)))],[(8,⟨36,.row (.calls ([] : List CallD))⟩)],[8,999]⟩)
  (True ∧ True ∧ True) (by kernel_rfl)
  ⟨tt,tt,tt⟩ ?_
 refine W.seq ?_
 refine W.K cok tab35 hnt [] [0,1,5,11] (⟨[(0,.sl (.calls h)),(1,.i z),(5,.own 8 (List.length ([] : List CallD))),(11,.b (!(validHistory h)))],[(8,⟨36,.row (.calls ([] : List CallD))⟩)],[8,999]⟩)
  (True ∧ (True ∧ (True ∧ True) ∧ True) ∧ True ∧ True) (by kernel_rfl)
  ⟨tt,⟨tt,⟨tt,tt⟩,tt⟩,tt,tt⟩ ?_
 refine W.if' (!(validHistory h)) (.b (!(validHistory h))) (by kernel_rfl) rfl trivial ?_ ?_
 ·intro h11
  refine W.K cok tab35 hnt [] [4] (⟨[(4,.own 8 (List.length ([] : List CallD)))],[(8,⟨36,.row (.calls ([] : List CallD))⟩)],[8,999]⟩)
   (True ∧ True ∧ True) (by kernel_rfl)
   ⟨tt,tt,tt⟩ ?_
  refine W.ret (thenQ_ret ?_)
  exact endQ_ret (.own 8 (List.length ([] : List CallD))) (by kernel_rfl) (@cast (((List.length ([] : List CallD)) = (List.length ([] : List CallD))) ∧ (((.calls ([] : List CallD) : Dat) = .calls (partOf h z)) ∧ ((8 : Nat) ∉ ([] : List Nat)))) _ (by kernel_rfl) ⟨rfl,⟨(congrArg Dat.calls (by unfold partOf; rw [not_f h11]; rfl)),(by decide)⟩⟩)
 ·intro n11
  have hv6 := (valid_iff.1 (not_g n11)).1
  refine W.skip (thenQ_normal ?_)
  refine W.seq ?_
  refine W.K cok tab35 hnt [] [1,5,13,14,15] (⟨[(1,.i z),(5,.own 8 (List.length ([] : List CallD))),(13,.sl (.calls h)),(14,.i (h.length : Int)),(15,.i (0 : Int))],[(8,⟨36,.row (.calls ([] : List CallD))⟩)],[8,999]⟩)
   (True ∧ True ∧ True ∧ True) (by kernel_rfl)
   ⟨tt,tt,tt,tt⟩ ?_
  refine W.block ?_
  refine W.loop (ι := Nat × (List CallD)) (fun (x : Nat × (List CallD)) => match x with | (i,ou) => (⟨[(1,.i z),(5,.own 8 ou.length),(13,.sl (.calls h)),(14,.i (h.length : Int)),(15,.i ((i : Nat) : Int))],[(8,⟨36,.row (.calls ou)⟩)],[8,999]⟩ : St))
   (fun (x : Nat × (List CallD)) => match x with | (i,ou) => (i ≤ h.length) ∧ (ou = partUp h z i))
   (fun (x : Nat × (List CallD)) => match x with | (i,ou) => (h.length - i : Nat)) (0,([] : List CallD)) ?_ ?_ ?_
  ·exact (show (0 ≤ h.length) ∧ (([] : List CallD) = partUp h z 0) from ⟨(by first | assumption | omega | rfl | (intro _ hjj; omega) | (simp; done) | (simp; omega)),(by rfl)⟩)
  ·exact Sub.of [] (@cast ((((.int .i64 z : Value) = .int .i64 z) ∧ ((((8 : Nat) = 8) ∧ (((List.length ([] : List CallD)) = (List.length ([] : List CallD))) ∧ ((8 : Nat) ∈ ([8,999] : List Nat)))) ∧ (((.calls h : Dat) = .calls h) ∧ (((.int .i64 (h.length : Int) : Value) = .int .i64 (h.length : Int)) ∧ (((.int .i64 (0 : Int) : Value) = .int .i64 ((0 : Nat) : Int)) ∧ True))))) ∧ (((((36 : Nat) = 36) ∧ (((.calls ([] : List CallD) : Dat) = .calls ([] : List CallD)) ∧ ((8 : Nat) ∈ ([8,999] : List Nat)))) ∧ True) ∧ ((true = true) ∧ (true = true)))) _ (by kernel_rfl) ⟨⟨rfl,⟨rfl,rfl,(by decide)⟩,rfl,rfl,(congrArg (Value.int .i64) (by first | rfl | omega | assumption | simp | simp_all)),tt⟩,⟨⟨rfl,rfl,(by decide)⟩,tt⟩,rfl,rfl⟩)
  ·rintro ⟨i,ou⟩ hC0
   have hC : (i ≤ h.length) ∧ (ou = partUp h z i) := hC0
   clear hC0
   obtain ⟨hi,hou⟩ := hC
   refine W.to (⟨[(1,.i z),(5,.own 8 ou.length),(13,.sl (.calls h)),(14,.i (h.length : Int)),(15,.i ((i : Nat) : Int))],[(8,⟨36,.row (.calls ou)⟩)],[8,999]⟩) rfl ?_
   have houl : ou.length ≤ i := by rw [hou]; exact partUp_len _ _ _
   refine W.K cok tab35 hnt [] [1,5,13,14,15,16] (⟨[(1,.i z),(5,.own 8 ou.length),(13,.sl (.calls h)),(14,.i (h.length : Int)),(15,.i ((i : Nat) : Int)),(16,.b (decide (((i : Nat) : Int) < (h.length : Int))))],[(8,⟨36,.row (.calls ou)⟩)],[8,999]⟩)
    ((True ∧ True ∧ True) ∧ True) (by kernel_rfl)
    ⟨⟨tt,tt,tt⟩,tt⟩ ?_
   refine W.seq ?_
   refine W.ifP (((i : Nat) : Int) < (h.length : Int)) (.b (decide (((i : Nat) : Int) < (h.length : Int)))) (by kernel_rfl) rfl trivial ?_ ?_
   ·intro h16
    refine W.skip (thenQ_normal ?_)
    refine W.seq ?_
    refine W.block ?_
    refine W.K cok tab35 hnt [] [1,5,7,13,14,15] (⟨[(1,.i z),(5,.own 8 ou.length),(7,.ptr 7 0),(13,.sl (.calls h)),(14,.i (h.length : Int)),(15,.i ((i : Nat) : Int))],[(7,⟨36,.fix [.i ((h.getD i default).proc),.i ((h.getD i default).obj),.i ((h.getD i default).kind),.i ((h.getD i default).arg),.i ((h.getD i default).ret),.i ((h.getD i default).frm),.i ((h.getD i default).to)]⟩),(8,⟨36,.row (.calls ou)⟩)],[7,8,999]⟩)
     ((True ∧ True ∧ (0 ≤ ((i : Nat) : Int)) ∧ (((i : Nat) : Int) < (h.length : Int))) ∧ True ∧ True ∧ (True ∧ True) ∧ True) (by kernel_rfl)
     ⟨⟨tt,tt,(by omega),(by omega)⟩,tt,tt,⟨tt,tt⟩,tt⟩ ?_
    refine W.K cok tab35 hnt [] [1,5,7,13,14,15,22] (⟨[(1,.i z),(5,.own 8 ou.length),(7,.ptr 7 0),(13,.sl (.calls h)),(14,.i (h.length : Int)),(15,.i ((i : Nat) : Int)),(22,.b (decide (((h.getD i default).obj) = z)))],[(7,⟨36,.fix [.i ((h.getD i default).proc),.i ((h.getD i default).obj),.i ((h.getD i default).kind),.i ((h.getD i default).arg),.i ((h.getD i default).ret),.i ((h.getD i default).frm),.i ((h.getD i default).to)]⟩),(8,⟨36,.row (.calls ou)⟩)],[7,8,999]⟩)
     (True ∧ True ∧ True ∧ (True ∧ True ∧ True) ∧ True) (by kernel_rfl)
     ⟨tt,tt,tt,⟨tt,tt,tt⟩,tt⟩ ?_
    refine W.ifP (((h.getD i default).obj) = z) (.b (decide (((h.getD i default).obj) = z))) (by kernel_rfl) rfl trivial ?_ ?_
    ·intro h22
     refine W.L cok tab35 hnt [26] (⟨[(1,.i z),(5,.own 26 (List.length (ou ++ ([(h.getD i default)])))),(7,.ptr 7 0),(13,.sl (.calls h)),(14,.i (h.length : Int)),(15,.i ((i : Nat) : Int)),(22,.b (decide (((h.getD i default).obj) = z))),(23,.own 8 ou.length),(24,.agg [.i ((h.getD i default).proc),.i ((h.getD i default).obj),.i ((h.getD i default).kind),.i ((h.getD i default).arg),.i ((h.getD i default).ret),.i ((h.getD i default).frm),.i ((h.getD i default).to)]),(25,.sl (.calls ([(h.getD i default)]))),(26,.own 26 (List.length (ou ++ ([(h.getD i default)]))))],[(7,⟨36,.fix [.i ((h.getD i default).proc),.i ((h.getD i default).obj),.i ((h.getD i default).kind),.i ((h.getD i default).arg),.i ((h.getD i default).ret),.i ((h.getD i default).frm),.i ((h.getD i default).to)]⟩),(26,⟨36,.row (.calls (ou ++ ([(h.getD i default)])))⟩)],[26,25,7,8,999]⟩)
      (True ∧ True ∧ (True ∧ True) ∧ ((True ∧ (ou.length = ou.length)) ∧ True ∧ ((ou.length + (List.length ([(h.getD i default)]))) * 56 ≤ 140737488355328)) ∧ True ∧ True) (by kernel_rfl)
      ⟨tt,tt,⟨tt,tt⟩,⟨⟨tt,rfl⟩,tt,(by (first | omega | (simp only [List.length_append,List.length_cons,List.length_nil,List.length_take,List.length_drop,List.length_set,List.length_replicate,List.length_map] at *; omega) | assumption))⟩,tt,tt⟩ ?_
     refine blockQ_normal (thenQ_normal ?_)
     refine W.L cok tab35 hnt [] (⟨[(1,.i z),(5,.own 26 (List.length (ou ++ ([(h.getD i default)])))),(7,.ptr 7 0),(13,.sl (.calls h)),(14,.i (h.length : Int)),(15,.i (((i + 1) : Nat) : Int)),(22,.b (decide (((h.getD i default).obj) = z))),(23,.own 8 ou.length),(24,.agg [.i ((h.getD i default).proc),.i ((h.getD i default).obj),.i ((h.getD i default).kind),.i ((h.getD i default).arg),.i ((h.getD i default).ret),.i ((h.getD i default).frm),.i ((h.getD i default).to)]),(25,.sl (.calls ([(h.getD i default)]))),(26,.own 26 (List.length (ou ++ ([(h.getD i default)])))),(27,.i (((i + 1) : Nat) : Int))],[(7,⟨36,.fix [.i ((h.getD i default).proc),.i ((h.getD i default).obj),.i ((h.getD i default).kind),.i ((h.getD i default).arg),.i ((h.getD i default).ret),.i ((h.getD i default).frm),.i ((h.getD i default).to)]⟩),(26,⟨36,.row (.calls (ou ++ ([(h.getD i default)])))⟩)],[26,25,7,8,999]⟩)
      ((True ∧ True ∧ (Fits .i64 (((i + 1) : Nat) : Int))) ∧ True ∧ True) (by kernel_rfl)
      ⟨⟨tt,tt,(by exact fits_i64 (by omega) (by omega))⟩,tt,tt⟩ ?_
     refine thenQ_normal ?_
     refine ⟨((i + 1),(ou ++ ([(h.getD i default)]))),(show ((i + 1) ≤ h.length) ∧ ((ou ++ ([(h.getD i default)])) = partUp h z (i + 1)) from ⟨(by first | assumption | omega | rfl | (intro _ hjj; omega) | (simp; done) | (simp; omega)),(by first | (rw [hou]; exact partUp_yes (by omega) h22) | (rw [hou]; exact partUp_no (by omega) n22))⟩),(show h.length - (i + 1) < h.length - i from (by first | omega | (simp_all; omega))),?_⟩
     exact Sub.of [(8,26)] (@cast ((((.int .i64 z : Value) = .int .i64 z) ∧ ((((26 : Nat) = 26) ∧ (((List.length (ou ++ ([(h.getD i default)]))) = (List.length (ou ++ ([(h.getD i default)])))) ∧ ((8 : Nat) ∈ ([8,999] : List Nat)))) ∧ (((.calls h : Dat) = .calls h) ∧ (((.int .i64 (h.length : Int) : Value) = .int .i64 (h.length : Int)) ∧ (((.int .i64 (((i + 1) : Nat) : Int) : Value) = .int .i64 (((i + 1) : Nat) : Int)) ∧ True))))) ∧ (((((36 : Nat) = 36) ∧ (((.calls (ou ++ ([(h.getD i default)])) : Dat) = .calls (ou ++ ([(h.getD i default)]))) ∧ ((8 : Nat) ∈ ([8,999] : List Nat)))) ∧ True) ∧ ((true = true) ∧ (true = true)))) _ (by kernel_rfl) ⟨⟨rfl,⟨rfl,rfl,(by decide)⟩,rfl,rfl,rfl,tt⟩,⟨⟨rfl,rfl,(by decide)⟩,tt⟩,rfl,rfl⟩)
    ·intro n22
     refine W.skip (blockQ_normal (thenQ_normal ?_))
     refine W.L cok tab35 hnt [] (⟨[(1,.i z),(5,.own 8 ou.length),(7,.ptr 7 0),(13,.sl (.calls h)),(14,.i (h.length : Int)),(15,.i (((i + 1) : Nat) : Int)),(22,.b (decide (((h.getD i default).obj) = z))),(27,.i (((i + 1) : Nat) : Int))],[(7,⟨36,.fix [.i ((h.getD i default).proc),.i ((h.getD i default).obj),.i ((h.getD i default).kind),.i ((h.getD i default).arg),.i ((h.getD i default).ret),.i ((h.getD i default).frm),.i ((h.getD i default).to)]⟩),(8,⟨36,.row (.calls ou)⟩)],[7,8,999]⟩)
      ((True ∧ True ∧ (Fits .i64 (((i + 1) : Nat) : Int))) ∧ True ∧ True) (by kernel_rfl)
      ⟨⟨tt,tt,(by exact fits_i64 (by omega) (by omega))⟩,tt,tt⟩ ?_
     refine thenQ_normal ?_
     refine ⟨((i + 1),ou),(show ((i + 1) ≤ h.length) ∧ (ou = partUp h z (i + 1)) from ⟨(by first | assumption | omega | rfl | (intro _ hjj; omega) | (simp; done) | (simp; omega)),(by first | (rw [hou]; exact partUp_yes (by omega) h22) | (rw [hou]; exact partUp_no (by omega) n22))⟩),(show h.length - (i + 1) < h.length - i from (by first | omega | (simp_all; omega))),?_⟩
     exact Sub.of [] (@cast ((((.int .i64 z : Value) = .int .i64 z) ∧ ((((8 : Nat) = 8) ∧ ((ou.length = ou.length) ∧ ((8 : Nat) ∈ ([8,999] : List Nat)))) ∧ (((.calls h : Dat) = .calls h) ∧ (((.int .i64 (h.length : Int) : Value) = .int .i64 (h.length : Int)) ∧ (((.int .i64 (((i + 1) : Nat) : Int) : Value) = .int .i64 (((i + 1) : Nat) : Int)) ∧ True))))) ∧ (((((36 : Nat) = 36) ∧ (((.calls ou : Dat) = .calls ou) ∧ ((8 : Nat) ∈ ([8,999] : List Nat)))) ∧ True) ∧ ((true = true) ∧ (true = true)))) _ (by kernel_rfl) ⟨⟨rfl,⟨rfl,rfl,(by decide)⟩,rfl,rfl,rfl,tt⟩,⟨⟨rfl,rfl,(by decide)⟩,tt⟩,rfl,rfl⟩)
   ·intro n16
    refine W.exit (thenQ_exit (thenQ_exit (blockQ_hit ?_)))
    refine thenQ_normal ?_
    refine W.K cok tab35 hnt [] [4] (⟨[(4,.own 8 ou.length)],[(8,⟨36,.row (.calls ou)⟩)],[8,999]⟩)
     (True ∧ True ∧ True) (by kernel_rfl)
     ⟨tt,tt,tt⟩ ?_
    refine W.ret ?_
    exact endQ_ret (.own 8 ou.length) (by kernel_rfl) (@cast ((ou.length = ou.length) ∧ (((.calls ou : Dat) = .calls (partOf h z)) ∧ ((8 : Nat) ∉ ([] : List Nat)))) _ (by kernel_rfl) ⟨rfl,⟨(congrArg Dat.calls (by rw [hou]; exact partUp_all (not_g n11) (by omega))),(by decide)⟩⟩)
theorem ent35 : Entr prog 35 := ⟨_,func35,rfl,by decide⟩
end Go.Proofs.Try

set_option linter.unusedSimpArgs false
set_option linter.unusedVariables false
namespace Go.Proofs.Try
open Go.Ab Go.RowKit
def fs61 : FnS := fnS [.o,.o,.o] [.int,.int,(.ep .calls)] (fun _ (i,k,h,_) => (.b (ownF h i.toNat k.toNat),[],(0 ≤ i ∧ i < h.length) ∧ (0 ≤ k ∧ k < h.length)))
abbrev T61 : Tab := lk [(62,fs62)]
theorem tab61 : TabOK prog T61 := (TabOK.cons ok62 ent62 TabOK.nil)
set_option maxRecDepth 100000 in
set_option maxHeartbeats 1000000 in
theorem ok61 : FnOK prog 61 fs61 := by
 refine FnOK.mk cok func61 rfl rfl rfl ?_
 rintro fl ⟨(i : Int),(k : Int),(h : List CallD),_⟩ hpre F hnt0 _
 have hnt : F.nt = 28 := hnt0.trans ntmps61
 replace hpre : (0 ≤ i ∧ i < h.length) ∧ (0 ≤ k ∧ k < h.length) := hpre
 obtain ⟨hi,hk⟩ := hpre
 refine W.to (⟨[(0,.i i),(1,.i k),(2,.ep [.sl (.calls h)])],[],[999]⟩) rfl ?_
 refine W.K cok tab61 hnt [] [0,1,2] (⟨[(0,.i i),(1,.i k),(2,.ep [.sl (.calls h)])],[],[999]⟩)
  (True ∧ True) (by kernel_rfl)
  ⟨tt,tt⟩ ?_
 refine W.KA cok tab61 hnt [] [5] (⟨[(5,.b ((decide (((h.getD (Int.toNat i) default).proc) = ((h.getD (Int.toNat k) default).proc))) && (isBefore (h.getD (Int.toNat k) default) (h.getD (Int.toNat i) default))))],[],[999]⟩)
  (True ∧ True ∧ (True ∧ True ∧ (0 ≤ i) ∧ (i < (h.length : Int))) ∧ True ∧ True ∧ True ∧ True ∧ (True ∧ True ∧ (0 ≤ k) ∧ (k < (h.length : Int))) ∧ True ∧ True ∧ (True ∧ True ∧ True) ∧ True ∧ ((decide (((h.getD (Int.toNat i) default).proc) = ((h.getD (Int.toNat k) default).proc))) = true → True) ∧ ((decide (((h.getD (Int.toNat i) default).proc) = ((h.getD (Int.toNat k) default).proc))) = true → True) ∧ ((decide (((h.getD (Int.toNat i) default).proc) = ((h.getD (Int.toNat k) default).proc))) = true → ((((decide (((h.getD (Int.toNat i) default).proc) = ((h.getD (Int.toNat k) default).proc))) = true) ∧ True) ∧ (((decide (((h.getD (Int.toNat i) default).proc) = ((h.getD (Int.toNat k) default).proc))) = true) ∧ True) ∧ (0 ≤ k) ∧ (k < (h.length : Int)))) ∧ ((decide (((h.getD (Int.toNat i) default).proc) = ((h.getD (Int.toNat k) default).proc))) = true → (((decide (((h.getD (Int.toNat i) default).proc) = ((h.getD (Int.toNat k) default).proc))) = true) ∧ True)) ∧ ((decide (((h.getD (Int.toNat i) default).proc) = ((h.getD (Int.toNat k) default).proc))) = true → True) ∧ ((decide (((h.getD (Int.toNat i) default).proc) = ((h.getD (Int.toNat k) default).proc))) = true → True) ∧ ((decide (((h.getD (Int.toNat i) default).proc) = ((h.getD (Int.toNat k) default).proc))) = true → ((((decide (((h.getD (Int.toNat i) default).proc) = ((h.getD (Int.toNat k) default).proc))) = true) ∧ True) ∧ (((decide (((h.getD (Int.toNat i) default).proc) = ((h.getD (Int.toNat k) default).proc))) = true) ∧ True) ∧ (0 ≤ i) ∧ (i < (h.length : Int)))) ∧ ((decide (((h.getD (Int.toNat i) default).proc) = ((h.getD (Int.toNat k) default).proc))) = true → (((decide (((h.getD (Int.toNat i) default).proc) = ((h.getD (Int.toNat k) default).proc))) = true) ∧ True)) ∧ ((decide (((h.getD (Int.toNat i) default).proc) = ((h.getD (Int.toNat k) default).proc))) = true → (True ∧ ((((decide (((h.getD (Int.toNat i) default).proc) = ((h.getD (Int.toNat k) default).proc))) = true) ∧ True) ∧ (((decide (((h.getD (Int.toNat i) default).proc) = ((h.getD (Int.toNat k) default).proc))) = true) ∧ True) ∧ True) ∧ True)) ∧ (True ∧ ((decide (((h.getD (Int.toNat i) default).proc) = ((h.getD (Int.toNat k) default).proc))) = true → ((decide (((h.getD (Int.toNat i) default).proc) = ((h.getD (Int.toNat k) default).proc))) = true) ∧ True) ∧ ((decide (((h.getD (Int.toNat i) default).proc) = ((h.getD (Int.toNat k) default).proc))) = false → True)) ∧ True ∧ True) (by kernel_rfl) (by kernel_rfl)
  ⟨tt,tt,⟨tt,tt,(by omega),(by omega)⟩,tt,tt,tt,tt,⟨tt,tt,(by omega),(by omega)⟩,tt,tt,⟨tt,tt,tt⟩,tt,(fun _ => trivial),(fun _ => trivial),(fun hG => ⟨⟨hG,tt⟩,⟨hG,tt⟩,(by have hg0 : ((h.getD (Int.toNat i) default).proc) = ((h.getD (Int.toNat k) default).proc) := of_decide_eq_true hG; omega),(by have hg0 : ((h.getD (Int.toNat i) default).proc) = ((h.getD (Int.toNat k) default).proc) := of_decide_eq_true hG; omega)⟩),(fun hG => ⟨hG,tt⟩),(fun _ => trivial),(fun _ => trivial),(fun hG => ⟨⟨hG,tt⟩,⟨hG,tt⟩,(by have hg0 : ((h.getD (Int.toNat i) default).proc) = ((h.getD (Int.toNat k) default).proc) := of_decide_eq_true hG; omega),(by have hg0 : ((h.getD (Int.toNat i) default).proc) = ((h.getD (Int.toNat k) default).proc) := of_decide_eq_true hG; omega)⟩),(fun hG => ⟨hG,tt⟩),(fun hG => ⟨tt,⟨⟨hG,tt⟩,⟨hG,tt⟩,tt⟩,tt⟩),⟨tt,(fun hp => ⟨hp,tt⟩),(fun _ => trivial)⟩,tt,tt⟩ ?_
 refine W.ret ?_
 exact endQ_ret (.b ((decide (((h.getD (Int.toNat i) default).proc) = ((h.getD (Int.toNat k) default).proc))) && (isBefore (h.getD (Int.toNat k) default) (h.getD (Int.toNat i) default)))) (by kernel_rfl) (@cast ((.bool ((decide (((h.getD (Int.toNat i) default).proc) = ((h.getD (Int.toNat k) default).proc))) && (isBefore (h.getD (Int.toNat k) default) (h.getD (Int.toNat i) default))) : Value) = .bool (ownF h i.toNat k.toNat)) _ (by kernel_rfl) (congrArg Value.bool (by first | rfl | simp_all)))
theorem ent61 : Entr prog 61 := ⟨_,func61,rfl,by decide⟩
end Go.Proofs.Try

set_option linter.unusedSimpArgs false
set_option linter.unusedVariables false
namespace Go.Proofs.Try
open Go.Ab Go.RowKit
def fs60OwnAhead : FnS := fnS [.o,.o] [.int,(.fn1 61 (.ep .calls))] (fun _ (n,h,_) => (.sl (.ints (rowsOf n.toNat (ownF h))),[],(0 ≤ n ∧ n ≤ 60 ∧ n = h.length)))
abbrev T60OwnAhead : Tab := lk [(61,fs61)]
theorem tab60OwnAhead : TabOK prog T60OwnAhead := (TabOK.cons ok61 ent61 TabOK.nil)
set_option maxRecDepth 100000 in
set_option maxHeartbeats 1000000 in
theorem ok60OwnAhead : FnOK prog 60 fs60OwnAhead := by
 refine FnOK.mk cok func60 rfl rfl rfl ?_
 rintro fl ⟨(n : Int),(h : List CallD),_⟩ hpre F hnt0 _
 have hnt : F.nt = 35 := hnt0.trans ntmps60
 replace hpre : (0 ≤ n ∧ n ≤ 60 ∧ n = h.length) := hpre
 have hn := hpre
 refine W.to (⟨[(0,.i n),(1,.fn 61 [.ep [.sl (.calls h)]])],[],[999]⟩) rfl ?_
 refine W.K cok tab60OwnAhead hnt [] [0,1] (⟨[(0,.i n),(1,.fn 61 [.ep [.sl (.calls h)]])],[],[999]⟩)
  (True ∧ True) (by kernel_rfl)
  ⟨tt,tt⟩ ?_
 refine W.K cok tab60OwnAhead hnt [9] [0,1,5] (⟨[(0,.i n),(1,.fn 61 [.ep [.sl (.calls h)]]),(5,.own 9 (List.length (List.replicate (Int.toNat n) (0 : Int))))],[(9,⟨3,.row (.ints (List.replicate (Int.toNat n) (0 : Int)))⟩)],[9,999]⟩)
  (True ∧ (True ∧ True ∧ (n = n) ∧ (0 ≤ n) ∧ (n * 8 ≤ 281474976710656)) ∧ True ∧ True) (by kernel_rfl)
  ⟨tt,⟨tt,tt,rfl,(by omega),(by omega)⟩,tt,tt⟩ ?_
 refine W.seq ?_
 refine W.K cok tab60OwnAhead hnt [] [0,1,5,11,12] (⟨[(0,.i n),(1,.fn 61 [.ep [.sl (.calls h)]]),(5,.own 9 (List.length (List.replicate (Int.toNat n) (0 : Int)))),(11,.i (((List.length (List.replicate (Int.toNat n) (0 : Int))) : Nat) : Int)),(12,.i (0 : Int))],[(9,⟨3,.row (.ints (List.replicate (Int.toNat n) (0 : Int)))⟩)],[9,999]⟩)
  (True ∧ True ∧ True ∧ True) (by kernel_rfl)
  ⟨tt,tt,tt,tt⟩ ?_
 refine W.block ?_
 refine W.loop (ι := Nat × (List Int)) (fun (x : Nat × (List Int)) => match x with | (i,o) => (⟨[(0,.i n),(1,.fn 61 [.ep [.sl (.calls h)]]),(5,.own 9 o.length),(11,.i (((List.length (List.replicate (Int.toNat n) (0 : Int))) : Nat) : Int)),(12,.i ((i : Nat) : Int))],[(9,⟨3,.row (.ints o)⟩)],[9,999]⟩ : St))
  (fun (x : Nat × (List Int)) => match x with | (i,o) => (i ≤ n.toNat) ∧ (o = partRows n.toNat (ownF h) i 0))
  (fun (x : Nat × (List Int)) => match x with | (i,o) => (n.toNat - i : Nat)) (0,(List.replicate (Int.toNat n) (0 : Int))) ?_ ?_ ?_
 ·exact (show (0 ≤ n.toNat) ∧ ((List.replicate (Int.toNat n) (0 : Int)) = partRows n.toNat (ownF h) 0 0) from ⟨(by first | assumption | omega | rfl | (intro _ hjj; omega) | (simp; done) | (simp; omega)),(by exact partRows_zero _ _)⟩)
 ·exact Sub.of [] (@cast ((((.int .i64 n : Value) = .int .i64 n) ∧ ((((61 : Nat) = 61) ∧ ((((.ep [.sl (.calls h)] : AV) = .ep [.sl (.calls h)]) ∧ (([] : List Nat) = [])) ∧ True)) ∧ ((((9 : Nat) = 9) ∧ (((List.length (List.replicate (Int.toNat n) (0 : Int))) = (List.length (List.replicate (Int.toNat n) (0 : Int)))) ∧ ((9 : Nat) ∈ ([9,999] : List Nat)))) ∧ (((.int .i64 (((List.length (List.replicate (Int.toNat n) (0 : Int))) : Nat) : Int) : Value) = .int .i64 (((List.length (List.replicate (Int.toNat n) (0 : Int))) : Nat) : Int)) ∧ (((.int .i64 (0 : Int) : Value) = .int .i64 ((0 : Nat) : Int)) ∧ True))))) ∧ (((((3 : Nat) = 3) ∧ (((.ints (List.replicate (Int.toNat n) (0 : Int)) : Dat) = .ints (List.replicate (Int.toNat n) (0 : Int))) ∧ ((9 : Nat) ∈ ([9,999] : List Nat)))) ∧ True) ∧ ((true = true) ∧ (true = true)))) _ (by kernel_rfl) ⟨⟨rfl,⟨rfl,⟨rfl,rfl⟩,tt⟩,⟨rfl,rfl,(by decide)⟩,rfl,(congrArg (Value.int .i64) (by first | rfl | omega | assumption | simp | simp_all)),tt⟩,⟨⟨rfl,rfl,(by decide)⟩,tt⟩,rfl,rfl⟩)
 ·rintro ⟨i,o⟩ hC0
  have hC : (i ≤ n.toNat) ∧ (o = partRows n.toNat (ownF h) i 0) := hC0
  clear hC0
  obtain ⟨hi,ho⟩ := hC
  refine W.to (⟨[(0,.i n),(1,.fn 61 [.ep [.sl (.calls h)]]),(5,.own 9 o.length),(11,.i (((List.length (List.replicate (Int.toNat n) (0 : Int))) : Nat) : Int)),(12,.i ((i : Nat) : Int))],[(9,⟨3,.row (.ints o)⟩)],[9,999]⟩) rfl ?_
  have hol : o.length = n.toNat := by rw [ho]; exact partRows_len _ _ _ _
  refine W.K cok tab60OwnAhead hnt [] [0,1,5,11,12,13] (⟨[(0,.i n),(1,.fn 61 [.ep [.sl (.calls h)]]),(5,.own 9 o.length),(11,.i (((List.length (List.replicate (Int.toNat n) (0 : Int))) : Nat) : Int)),(12,.i ((i : Nat) : Int)),(13,.b (decide (((i : Nat) : Int) < (((List.length (List.replicate (Int.toNat n) (0 : Int))) : Nat) : Int))))],[(9,⟨3,.row (.ints o)⟩)],[9,999]⟩)
   ((True ∧ True ∧ True) ∧ True) (by kernel_rfl)
   ⟨⟨tt,tt,tt⟩,tt⟩ ?_
  refine W.seq ?_
  refine W.ifP (((i : Nat) : Int) < (((List.length (List.replicate (Int.toNat n) (0 : Int))) : Nat) : Int)) (.b (decide (((i : Nat) : Int) < (((List.length (List.replicate (Int.toNat n) (0 : Int))) : Nat) : Int)))) (by kernel_rfl) rfl trivial ?_ ?_
  ·intro h13
   have h13' := h13
   simp only [List.length_append,List.length_cons,List.length_nil,List.length_take,List.length_drop,List.length_set,List.length_replicate,List.length_map] at h13'
   refine W.skip (thenQ_normal ?_)
   refine W.seq ?_
   refine W.block ?_
   refine W.K cok tab60OwnAhead hnt [] [0,1,5,6,11,12] (⟨[(0,.i n),(1,.fn 61 [.ep [.sl (.calls h)]]),(5,.own 9 o.length),(6,.i ((i : Nat) : Int)),(11,.i (((List.length (List.replicate (Int.toNat n) (0 : Int))) : Nat) : Int)),(12,.i ((i : Nat) : Int))],[(9,⟨3,.row (.ints o)⟩)],[9,999]⟩)
    (True ∧ True ∧ True) (by kernel_rfl)
    ⟨tt,tt,tt⟩ ?_
   refine W.K cok tab60OwnAhead hnt [] [0,1,5,6,11,12,15,16] (⟨[(0,.i n),(1,.fn 61 [.ep [.sl (.calls h)]]),(5,.own 9 o.length),(6,.i ((i : Nat) : Int)),(11,.i (((List.length (List.replicate (Int.toNat n) (0 : Int))) : Nat) : Int)),(12,.i ((i : Nat) : Int)),(15,.i n),(16,.i (0 : Int))],[(9,⟨3,.row (.ints o)⟩)],[9,999]⟩)
    (True ∧ True ∧ True) (by kernel_rfl)
    ⟨tt,tt,tt⟩ ?_
   refine W.block ?_
   refine W.loop (ι := Nat × (List Int)) (fun (x : Nat × (List Int)) => match x with | (k,x) => (⟨[(0,.i n),(1,.fn 61 [.ep [.sl (.calls h)]]),(5,.own 9 o.length),(6,.i ((i : Nat) : Int)),(11,.i (((List.length (List.replicate (Int.toNat n) (0 : Int))) : Nat) : Int)),(12,.i ((i : Nat) : Int)),(15,.i n),(16,.i ((k : Nat) : Int))],[(9,⟨3,.row (.ints x)⟩)],[9,999]⟩ : St))
    (fun (x : Nat × (List Int)) => match x with | (k,x) => (k ≤ n.toNat) ∧ (x = partRows n.toNat (ownF h) i k))
    (fun (x : Nat × (List Int)) => match x with | (k,x) => (n.toNat - k : Nat)) (0,o) ?_ ?_ ?_
   ·exact (show (0 ≤ n.toNat) ∧ (o = partRows n.toNat (ownF h) i 0) from ⟨(by first | assumption | omega | rfl | (intro _ hjj; omega) | (simp; done) | (simp; omega)),(by exact ho)⟩)
   ·exact Sub.of [] (@cast ((((.int .i64 n : Value) = .int .i64 n) ∧ ((((61 : Nat) = 61) ∧ ((((.ep [.sl (.calls h)] : AV) = .ep [.sl (.calls h)]) ∧ (([] : List Nat) = [])) ∧ True)) ∧ ((((9 : Nat) = 9) ∧ ((o.length = o.length) ∧ ((9 : Nat) ∈ ([9,999] : List Nat)))) ∧ (((.int .i64 ((i : Nat) : Int) : Value) = .int .i64 ((i : Nat) : Int)) ∧ (((.int .i64 (((List.length (List.replicate (Int.toNat n) (0 : Int))) : Nat) : Int) : Value) = .int .i64 (((List.length (List.replicate (Int.toNat n) (0 : Int))) : Nat) : Int)) ∧ (((.int .i64 ((i : Nat) : Int) : Value) = .int .i64 ((i : Nat) : Int)) ∧ (((.int .i64 n : Value) = .int .i64 n) ∧ (((.int .i64 (0 : Int) : Value) = .int .i64 ((0 : Nat) : Int)) ∧ True)))))))) ∧ (((((3 : Nat) = 3) ∧ (((.ints o : Dat) = .ints o) ∧ ((9 : Nat) ∈ ([9,999] : List Nat)))) ∧ True) ∧ ((true = true) ∧ (true = true)))) _ (by kernel_rfl) ⟨⟨rfl,⟨rfl,⟨rfl,rfl⟩,tt⟩,⟨rfl,rfl,(by decide)⟩,rfl,rfl,rfl,rfl,(congrArg (Value.int .i64) (by first | rfl | omega | assumption | simp | simp_all)),tt⟩,⟨⟨rfl,rfl,(by decide)⟩,tt⟩,rfl,rfl⟩)
   ·rintro ⟨k,x⟩ hC0
    have hC : (k ≤ n.toNat) ∧ (x = partRows n.toNat (ownF h) i k) := hC0
    clear hC0
    obtain ⟨hk,hx⟩ := hC
    refine W.to (⟨[(0,.i n),(1,.fn 61 [.ep [.sl (.calls h)]]),(5,.own 9 o.length),(6,.i ((i : Nat) : Int)),(11,.i (((List.length (List.replicate (Int.toNat n) (0 : Int))) : Nat) : Int)),(12,.i ((i : Nat) : Int)),(15,.i n),(16,.i ((k : Nat) : Int))],[(9,⟨3,.row (.ints x)⟩)],[9,999]⟩) rfl ?_
    have hxl : x.length = n.toNat := by rw [hx]; exact partRows_len _ _ _ _
    refine W.K cok tab60OwnAhead hnt [] [0,1,5,6,11,12,15,16,17] (⟨[(0,.i n),(1,.fn 61 [.ep [.sl (.calls h)]]),(5,.own 9 o.length),(6,.i ((i : Nat) : Int)),(11,.i (((List.length (List.replicate (Int.toNat n) (0 : Int))) : Nat) : Int)),(12,.i ((i : Nat) : Int)),(15,.i n),(16,.i ((k : Nat) : Int)),(17,.b (decide (((k : Nat) : Int) < n)))],[(9,⟨3,.row (.ints x)⟩)],[9,999]⟩)
     ((True ∧ True ∧ True) ∧ True) (by kernel_rfl)
     ⟨⟨tt,tt,tt⟩,tt⟩ ?_
    refine W.seq ?_
    refine W.ifP (((k : Nat) : Int) < n) (.b (decide (((k : Nat) : Int) < n))) (by kernel_rfl) rfl trivial ?_ ?_
    ·intro h17
     refine W.skip (thenQ_normal ?_)
     refine W.seq ?_
     refine W.block ?_
     refine W.K cok tab60OwnAhead hnt [] [0,1,5,6,7,11,12,15,16] (⟨[(0,.i n),(1,.fn 61 [.ep [.sl (.calls h)]]),(5,.own 9 o.length),(6,.i ((i : Nat) : Int)),(7,.i ((k : Nat) : Int)),(11,.i (((List.length (List.replicate (Int.toNat n) (0 : Int))) : Nat) : Int)),(12,.i ((i : Nat) : Int)),(15,.i n),(16,.i ((k : Nat) : Int))],[(9,⟨3,.row (.ints x)⟩)],[9,999]⟩)
      (True ∧ True ∧ True) (by kernel_rfl)
      ⟨tt,tt,tt⟩ ?_
     refine W.K cok tab60OwnAhead hnt [] [0,1,5,6,7,11,12,15,16,22] (⟨[(0,.i n),(1,.fn 61 [.ep [.sl (.calls h)]]),(5,.own 9 o.length),(6,.i ((i : Nat) : Int)),(7,.i ((k : Nat) : Int)),(11,.i (((List.length (List.replicate (Int.toNat n) (0 : Int))) : Nat) : Int)),(12,.i ((i : Nat) : Int)),(15,.i n),(16,.i ((k : Nat) : Int)),(22,.b (ownF h ((i : Nat) : Int).toNat ((k : Nat) : Int).toNat))],[(9,⟨3,.row (.ints x)⟩)],[9,999]⟩)
      (True ∧ True ∧ True ∧ (True ∧ (True ∧ True ∧ True ∧ True) ∧ (0 ≤ ((i : Nat) : Int) ∧ ((i : Nat) : Int) < h.length) ∧ 0 ≤ ((k : Nat) : Int) ∧ ((k : Nat) : Int) < h.length) ∧ True) (by kernel_rfl)
      ⟨tt,tt,tt,⟨tt,⟨tt,tt,tt,tt⟩,(by omega),(by omega)⟩,tt⟩ ?_
     refine W.if' (ownF h ((i : Nat) : Int).toNat ((k : Nat) : Int).toNat) (.b (ownF h ((i : Nat) : Int).toNat ((k : Nat) : Int).toNat)) (by kernel_rfl) rfl trivial ?_ ?_
     ·intro h22
      refine W.L cok tab60OwnAhead hnt [] (⟨[(0,.i n),(1,.fn 61 [.ep [.sl (.calls h)]]),(5,.own 9 o.length),(6,.i ((i : Nat) : Int)),(7,.i ((k : Nat) : Int)),(11,.i (((List.length (List.replicate (Int.toNat n) (0 : Int))) : Nat) : Int)),(12,.i ((i : Nat) : Int)),(15,.i n),(16,.i ((k : Nat) : Int)),(22,.b (ownF h ((i : Nat) : Int).toNat ((k : Nat) : Int).toNat)),(23,.own 9 o.length),(24,.i ((i : Nat) : Int)),(25,.pel 9 1 i 0),(26,.i (x.getD i 0)),(27,.i ((k : Nat) : Int)),(28,.v (.int .u64 ((k : Nat) : Int))),(29,.i (shlI .i64 (1 : Int) ((k : Nat) : Int))),(30,.i (bitsI .or .i64 (x.getD i 0) (shlI .i64 (1 : Int) ((k : Nat) : Int)))),(31,.pel 9 1 i 0)],[(9,⟨3,.row (.ints (List.set x i (bitsI .or .i64 (x.getD i 0) (shlI .i64 (1 : Int) ((k : Nat) : Int)))))⟩)],[9,999]⟩)
       (True ∧ True ∧ (True ∧ True ∧ (0 ≤ ((i : Nat) : Int)) ∧ (((i : Nat) : Int) < (o.length : Int))) ∧ (True ∧ (i < x.length)) ∧ True ∧ (True ∧ (Fits .u64 ((k : Nat) : Int))) ∧ (True ∧ True ∧ (0 ≤ ((k : Nat) : Int)) ∧ (Fits .i64 (shlI .i64 (1 : Int) ((k : Nat) : Int)))) ∧ (True ∧ True ∧ True) ∧ (True ∧ True ∧ (0 ≤ ((i : Nat) : Int)) ∧ (((i : Nat) : Int) < (o.length : Int))) ∧ (True ∧ True ∧ (i < x.length)) ∧ True) (by kernel_rfl)
       ⟨tt,tt,⟨tt,tt,(by omega),(by omega)⟩,⟨tt,(by omega)⟩,tt,⟨tt,(by exact fits_u64 (by omega) (by omega))⟩,⟨tt,tt,(by omega),(by exact fits_shl (by omega))⟩,⟨tt,tt,tt⟩,⟨tt,tt,(by omega),(by omega)⟩,⟨tt,tt,(by omega)⟩,tt⟩ ?_
      refine blockQ_normal (thenQ_normal ?_)
      refine W.L cok tab60OwnAhead hnt [] (⟨[(0,.i n),(1,.fn 61 [.ep [.sl (.calls h)]]),(5,.own 9 o.length),(6,.i ((i : Nat) : Int)),(7,.i ((k : Nat) : Int)),(11,.i (((List.length (List.replicate (Int.toNat n) (0 : Int))) : Nat) : Int)),(12,.i ((i : Nat) : Int)),(15,.i n),(16,.i (((k + 1) : Nat) : Int)),(22,.b (ownF h ((i : Nat) : Int).toNat ((k : Nat) : Int).toNat)),(23,.own 9 o.length),(24,.i ((i : Nat) : Int)),(25,.pel 9 1 i 0),(26,.i (x.getD i 0)),(27,.i ((k : Nat) : Int)),(28,.v (.int .u64 ((k : Nat) : Int))),(29,.i (shlI .i64 (1 : Int) ((k : Nat) : Int))),(30,.i (bitsI .or .i64 (x.getD i 0) (shlI .i64 (1 : Int) ((k : Nat) : Int)))),(31,.pel 9 1 i 0),(32,.i (((k + 1) : Nat) : Int))],[(9,⟨3,.row (.ints (List.set x i (bitsI .or .i64 (x.getD i 0) (shlI .i64 (1 : Int) ((k : Nat) : Int)))))⟩)],[9,999]⟩)
       ((True ∧ True ∧ (Fits .i64 (((k + 1) : Nat) : Int))) ∧ True ∧ True) (by kernel_rfl)
       ⟨⟨tt,tt,(by exact fits_i64 (by omega) (by omega))⟩,tt,tt⟩ ?_
      refine thenQ_normal ?_
      refine ⟨((k + 1),(List.set x i (bitsI .or .i64 (x.getD i 0) (shlI .i64 (1 : Int) ((k : Nat) : Int))))),(show ((k + 1) ≤ n.toNat) ∧ ((List.set x i (bitsI .or .i64 (x.getD i 0) (shlI .i64 (1 : Int) ((k : Nat) : Int)))) = partRows n.toNat (ownF h) i (k + 1)) from ⟨(by first | assumption | omega | rfl | (intro _ hjj; omega) | (simp; done) | (simp; omega)),(by first | (rw [hx]; exact partRows_skip n22) | (rw [hx]; exact partRows_set (by omega) (by rw [partRows_get _ (by omega)]; exact mask_or _ (by omega) h22)))⟩),(show n.toNat - (k + 1) < n.toNat - k from (by first | omega | (simp_all; omega))),?_⟩
      exact Sub.of [] (@cast ((((.int .i64 n : Value) = .int .i64 n) ∧ ((((61 : Nat) = 61) ∧ ((((.ep [.sl (.calls h)] : AV) = .ep [.sl (.calls h)]) ∧ (([] : List Nat) = [])) ∧ True)) ∧ ((((9 : Nat) = 9) ∧ ((o.length = o.length) ∧ ((9 : Nat) ∈ ([9,999] : List Nat)))) ∧ (((.int .i64 ((i : Nat) : Int) : Value) = .int .i64 ((i : Nat) : Int)) ∧ (((.int .i64 (((List.length (List.replicate (Int.toNat n) (0 : Int))) : Nat) : Int) : Value) = .int .i64 (((List.length (List.replicate (Int.toNat n) (0 : Int))) : Nat) : Int)) ∧ (((.int .i64 ((i : Nat) : Int) : Value) = .int .i64 ((i : Nat) : Int)) ∧ (((.int .i64 n : Value) = .int .i64 n) ∧ (((.int .i64 (((k + 1) : Nat) : Int) : Value) = .int .i64 (((k + 1) : Nat) : Int)) ∧ True)))))))) ∧ (((((3 : Nat) = 3) ∧ (((.ints (List.set x i (bitsI .or .i64 (x.getD i 0) (shlI .i64 (1 : Int) ((k : Nat) : Int)))) : Dat) = .ints (List.set x i (bitsI .or .i64 (x.getD i 0) (shlI .i64 (1 : Int) ((k : Nat) : Int))))) ∧ ((9 : Nat) ∈ ([9,999] : List Nat)))) ∧ True) ∧ ((true = true) ∧ (true = true)))) _ (by kernel_rfl) ⟨⟨rfl,⟨rfl,⟨rfl,rfl⟩,tt⟩,⟨rfl,rfl,(by decide)⟩,rfl,rfl,rfl,rfl,rfl,tt⟩,⟨⟨rfl,rfl,(by decide)⟩,tt⟩,rfl,rfl⟩)
     ·intro n22
      refine W.skip (blockQ_normal (thenQ_normal ?_))
      refine W.L cok tab60OwnAhead hnt [] (⟨[(0,.i n),(1,.fn 61 [.ep [.sl (.calls h)]]),(5,.own 9 o.length),(6,.i ((i : Nat) : Int)),(7,.i ((k : Nat) : Int)),(11,.i (((List.length (List.replicate (Int.toNat n) (0 : Int))) : Nat) : Int)),(12,.i ((i : Nat) : Int)),(15,.i n),(16,.i (((k + 1) : Nat) : Int)),(22,.b (ownF h ((i : Nat) : Int).toNat ((k : Nat) : Int).toNat)),(32,.i (((k + 1) : Nat) : Int))],[(9,⟨3,.row (.ints x)⟩)],[9,999]⟩)
       ((True ∧ True ∧ (Fits .i64 (((k + 1) : Nat) : Int))) ∧ True ∧ True) (by kernel_rfl)
       ⟨⟨tt,tt,(by exact fits_i64 (by omega) (by omega))⟩,tt,tt⟩ ?_
      refine thenQ_normal ?_
      refine ⟨((k + 1),x),(show ((k + 1) ≤ n.toNat) ∧ (x = partRows n.toNat (ownF h) i (k + 1)) from ⟨(by first | assumption | omega | rfl | (intro _ hjj; omega) | (simp; done) | (simp; omega)),(by first | (rw [hx]; exact partRows_skip n22) | (rw [hx]; exact partRows_set (by omega) (by rw [partRows_get _ (by omega)]; exact mask_or _ (by omega) h22)))⟩),(show n.toNat - (k + 1) < n.toNat - k from (by first | omega | (simp_all; omega))),?_⟩
      exact Sub.of [] (@cast ((((.int .i64 n : Value) = .int .i64 n) ∧ ((((61 : Nat) = 61) ∧ ((((.ep [.sl (.calls h)] : AV) = .ep [.sl (.calls h)]) ∧ (([] : List Nat) = [])) ∧ True)) ∧ ((((9 : Nat) = 9) ∧ ((o.length = o.length) ∧ ((9 : Nat) ∈ ([9,999] : List Nat)))) ∧ (((.int .i64 ((i : Nat) : Int) : Value) = .int .i64 ((i : Nat) : Int)) ∧ (((.int .i64 (((List.length (List.replicate (Int.toNat n) (0 : Int))) : Nat) : Int) : Value) = .int .i64 (((List.length (List.replicate (Int.toNat n) (0 : Int))) : Nat) : Int)) ∧ (((.int .i64 ((i : Nat) : Int) : Value) = .int .i64 ((i : Nat) : Int)) ∧ (((.int .i64 n : Value) = .int .i64 n) ∧ (((.int .i64 (((k + 1) : Nat) : Int) : Value) = .int .i64 (((k + 1) : Nat) : Int)) ∧ True)))))))) ∧ (((((3 : Nat) = 3) ∧ (((.ints x : Dat) = .ints x) ∧ ((9 : Nat) ∈ ([9,999] : List Nat)))) ∧ True) ∧ ((true = true) ∧ (true = true)))) _ (by kernel_rfl) ⟨⟨rfl,⟨rfl,⟨rfl,rfl⟩,tt⟩,⟨rfl,rfl,(by decide)⟩,rfl,rfl,rfl,rfl,rfl,tt⟩,⟨⟨rfl,rfl,(by decide)⟩,tt⟩,rfl,rfl⟩)
    ·intro n17
     refine W.exit (thenQ_exit (thenQ_exit (blockQ_hit ?_)))
     refine blockQ_normal (thenQ_normal ?_)
     refine W.L cok tab60OwnAhead hnt [] (⟨[(0,.i n),(1,.fn 61 [.ep [.sl (.calls h)]]),(5,.own 9 o.length),(6,.i ((i : Nat) : Int)),(11,.i (((List.length (List.replicate (Int.toNat n) (0 : Int))) : Nat) : Int)),(12,.i (((i + 1) : Nat) : Int)),(15,.i n),(16,.i ((k : Nat) : Int)),(17,.b (decide (((k : Nat) : Int) < n))),(33,.i (((i + 1) : Nat) : Int))],[(9,⟨3,.row (.ints x)⟩)],[9,999]⟩)
      ((True ∧ True ∧ (Fits .i64 (((i + 1) : Nat) : Int))) ∧ True ∧ True) (by kernel_rfl)
      ⟨⟨tt,tt,(by exact fits_i64 (by omega) (by omega))⟩,tt,tt⟩ ?_
     refine thenQ_normal ?_
     refine ⟨((i + 1),x),(show ((i + 1) ≤ n.toNat) ∧ (x = partRows n.toNat (ownF h) (i + 1) 0) from ⟨(by first | assumption | omega | rfl | (intro _ hjj; omega) | (simp; done) | (simp; omega)),(by rw [hx,← partRows_next]; congr 1; omega)⟩),(show n.toNat - (i + 1) < n.toNat - i from (by first | omega | (simp_all; omega))),?_⟩
     exact Sub.of [] (@cast ((((.int .i64 n : Value) = .int .i64 n) ∧ ((((61 : Nat) = 61) ∧ ((((.ep [.sl (.calls h)] : AV) = .ep [.sl (.calls h)]) ∧ (([] : List Nat) = [])) ∧ True)) ∧ ((((9 : Nat) = 9) ∧ ((o.length = x.length) ∧ ((9 : Nat) ∈ ([9,999] : List Nat)))) ∧ (((.int .i64 (((List.length (List.replicate (Int.toNat n) (0 : Int))) : Nat) : Int) : Value) = .int .i64 (((List.length (List.replicate (Int.toNat n) (0 : Int))) : Nat) : Int)) ∧ (((.int .i64 (((i + 1) : Nat) : Int) : Value) = .int .i64 (((i + 1) : Nat) : Int)) ∧ True))))) ∧ (((((3 : Nat) = 3) ∧ (((.ints x : Dat) = .ints x) ∧ ((9 : Nat) ∈ ([9,999] : List Nat)))) ∧ True) ∧ ((true = true) ∧ (true = true)))) _ (by kernel_rfl) ⟨⟨rfl,⟨rfl,⟨rfl,rfl⟩,tt⟩,⟨rfl,(by first | rfl | omega | assumption | (symm; assumption) | simp | simp_all),(by decide)⟩,rfl,rfl,tt⟩,⟨⟨rfl,rfl,(by decide)⟩,tt⟩,rfl,rfl⟩)
  ·intro n13
   have n13' := n13
   simp only [List.length_append,List.length_cons,List.length_nil,List.length_take,List.length_drop,List.length_set,List.length_replicate,List.length_map] at n13'
   refine W.exit (thenQ_exit (thenQ_exit (blockQ_hit ?_)))
   refine thenQ_normal ?_
   refine W.K cok tab60OwnAhead hnt [] [4] (⟨[(4,.own 9 o.length)],[(9,⟨3,.row (.ints o)⟩)],[9,999]⟩)
    (True ∧ True ∧ True) (by kernel_rfl)
    ⟨tt,tt,tt⟩ ?_
   refine W.subS [] (⟨[(4,.sl (.ints o))],[],[999]⟩) (@cast ((((o.length = o.length) ∧ (((.ints o : Dat) = .ints o) ∧ ((9 : Nat) ∉ ([] : List Nat)))) ∧ True) ∧ (True ∧ ((true = true) ∧ (true = true)))) _ (by kernel_rfl) ⟨⟨⟨rfl,rfl,(by decide)⟩,tt⟩,tt,rfl,rfl⟩) ?_
   refine W.ret ?_
   exact endQ_ret (.sl (.ints o)) (by kernel_rfl) (@cast ((.ints o : Dat) = .ints (rowsOf n.toNat (ownF h))) _ (by kernel_rfl) (congrArg Dat.ints (by rw [ho,← partRows_end]; congr 1; omega)))
theorem ent60OwnAhead : Entr prog 60 := ⟨_,func60,rfl,by decide⟩
end Go.Proofs.Try

set_option linter.unusedSimpArgs false
set_option linter.unusedVariables false
namespace Go.Proofs.Try
open Go.Ab Go.RowKit
def fs30 : FnS := fnS [.s .calls] [.calls] (fun _ (h,_) => (.sl (.ints (ownAhead h)),[],True))
abbrev T30 : Tab := lk [(12,fs12),(60,fs60OwnAhead)]
theorem tab30 : TabOK prog T30 := (TabOK.cons ok12 ent12 (TabOK.cons ok60OwnAhead ent60OwnAhead TabOK.nil))
set_option maxRecDepth 100000 in
set_option maxHeartbeats 1000000 in
theorem ok30 : FnOK prog 30 fs30 := by
 refine FnOK.mk cok func30 rfl rfl rfl ?_
 rintro fl ⟨(h : List CallD),_⟩ hpre F hnt0 _
 have hnt : F.nt = 10 := hnt0.trans ntmps30
 clear hpre
 refine W.to (⟨[(0,.sl (.calls h))],[],[999]⟩) rfl ?_
 refine W.lenOf 0 (.calls h) (by kernel_rfl) ?_
 intro hl_h; replace hl_h : List.length h ≤ 9223372036854775807 := hl_h
 refine W.K cok tab30 hnt [] [1] (⟨[(1,.ptr 1 0)],[(1,⟨23,.fix [.sl (.calls h)]⟩)],[1,999]⟩)
  (True ∧ True ∧ True) (by kernel_rfl)
  ⟨tt,tt,tt⟩ ?_
 refine W.subS [] (⟨[(1,.ep [.sl (.calls h)])],[],[999]⟩) (@cast ((((([.sl (.calls h)] : List AV) = [.sl (.calls h)]) ∧ ((([] : List Nat) = []) ∧ ((1 : Nat) ∉ ([] : List Nat)))) ∧ True) ∧ (True ∧ ((true = true) ∧ (true = true)))) _ (by kernel_rfl) ⟨⟨⟨rfl,rfl,(by decide)⟩,tt⟩,tt,rfl,rfl⟩) ?_
 refine W.seq ?_
 refine W.K cok tab30 hnt [] [1,5] (⟨[(1,.ep [.sl (.calls h)]),(5,.b (!(validHistory h)))],[],[999]⟩)
  (True ∧ (True ∧ (True ∧ True) ∧ True) ∧ True ∧ True) (by kernel_rfl)
  ⟨tt,⟨tt,⟨tt,tt⟩,tt⟩,tt,tt⟩ ?_
 refine W.if' (!(validHistory h)) (.b (!(validHistory h))) (by kernel_rfl) rfl trivial ?_ ?_
 ·intro h5
  refine W.K cok tab30 hnt [] [2] (⟨[(2,.v (.slice none 0 0))],[],[999]⟩)
   (True ∧ True) (by kernel_rfl)
   ⟨tt,tt⟩ ?_
  refine W.ret (thenQ_ret ?_)
  exact endQ_ret (.v (.slice none 0 0)) (by kernel_rfl) (@cast (((Value.slice none 0 0 : Value) = .slice none 0 0) ∧ ((Dat.ints (ownAhead h)).len = 0)) _ (by kernel_rfl) ⟨rfl,(by show List.length (ownAhead h) = 0; unfold ownAhead; rw [not_f h5]; rfl)⟩)
 ·intro n5
  refine W.skip (thenQ_normal ?_)
  refine W.K cok tab30 hnt [] [2] (⟨[(2,.sl (.ints (rowsOf (h.length : Int).toNat (ownF h))))],[],[999]⟩)
   (True ∧ True ∧ True ∧ (True ∧ (True ∧ True ∧ True) ∧ 0 ≤ (h.length : Int) ∧ (h.length : Int) ≤ 60 ∧ (h.length : Int) = h.length) ∧ True ∧ True) (by kernel_rfl)
   ⟨tt,tt,tt,⟨tt,⟨tt,tt,tt⟩,(by have hv := (valid_iff.1 (not_g n5)).1; omega)⟩,tt,tt⟩ ?_
  refine W.ret ?_
  exact endQ_ret (.sl (.ints (rowsOf (h.length : Int).toNat (ownF h)))) (by kernel_rfl) (@cast ((.ints (rowsOf (h.length : Int).toNat (ownF h)) : Dat) = .ints (ownAhead h)) _ (by kernel_rfl) (congrArg Dat.ints (by unfold ownAhead; rw [not_g n5]; rfl)))
theorem ent30 : Entr prog 30 := ⟨_,func30,rfl,by decide⟩
end Go.Proofs.Try

set_option linter.unusedSimpArgs false
set_option linter.unusedVariables false
namespace Go.Proofs.Try
open Go.Ab Go.RowKit
def fs21 : FnS := fnS [.o,.s .calls] [.str,.calls] (fun _ (s,h,_) => (.sl (.intss (ordersBy s h (ownF h))),[],True))
abbrev T21 : Tab := lk [(12,fs12),(30,fs30),(39,fs39),(57,fs57)]
theorem tab21 : TabOK prog T21 := (TabOK.cons ok12 ent12 (TabOK.cons ok30 ent30 (TabOK.cons ok39 ent39 (TabOK.cons ok57 ent57 TabOK.nil))))
set_option maxRecDepth 100000 in
set_option maxHeartbeats 1000000 in
theorem ok21 : FnOK prog 21 fs21 := by
 refine FnOK.mk cok func21 rfl rfl rfl ?_
 rintro fl ⟨(s : ByteArray),(h : List CallD),_⟩ hpre F hnt0 _
 have hnt : F.nt = 18 := hnt0.trans ntmps21
 clear hpre
 refine W.to (⟨[(0,.v (.string s)),(1,.sl (.calls h))],[],[999]⟩) rfl ?_
 refine W.lenOf 1 (.calls h) (by kernel_rfl) ?_
 intro hl_h; replace hl_h : List.length h ≤ 9223372036854775807 := hl_h
 refine W.K cok tab21 hnt [] [0,1] (⟨[(0,.v (.string s)),(1,.sl (.calls h))],[],[999]⟩)
  (True ∧ True) (by kernel_rfl)
  ⟨tt,tt⟩ ?_
 refine W.seq ?_
 refine W.K cok tab21 hnt [] [0,1,12] (⟨[(0,.v (.string s)),(1,.sl (.calls h)),(12,.b ((!(isObject s)) || (!(validHistory h))))],[],[999]⟩)
  (True ∧ (True ∧ (True ∧ True) ∧ True) ∧ True ∧ True ∧ ((!(!(isObject s))) = true → True) ∧ ((!(!(isObject s))) = true → (True ∧ ((((!(!(isObject s))) = true) ∧ True) ∧ True) ∧ True)) ∧ ((!(!(isObject s))) = true → (((!(!(isObject s))) = true) ∧ True)) ∧ (True ∧ ((!(isObject s)) = true → True) ∧ ((!(isObject s)) = false → ((!(!(isObject s))) = true) ∧ True)) ∧ True) (by kernel_rfl)
  ⟨tt,⟨tt,⟨tt,tt⟩,tt⟩,tt,tt,(fun _ => trivial),(fun hG => ⟨tt,⟨⟨hG,tt⟩,tt⟩,tt⟩),(fun hG => ⟨hG,tt⟩),⟨tt,(fun _ => trivial),(fun hp => ⟨(not_t hp),tt⟩)⟩,tt⟩ ?_
 refine W.if' ((!(isObject s)) || (!(validHistory h))) (.b ((!(isObject s)) || (!(validHistory h)))) (by kernel_rfl) rfl trivial ?_ ?_
 ·intro h12
  refine W.K cok tab21 hnt [] [4] (⟨[(4,.v (.slice none 0 0))],[],[999]⟩)
   (True ∧ True) (by kernel_rfl)
   ⟨tt,tt⟩ ?_
  refine W.ret (thenQ_ret ?_)
  exact endQ_ret (.v (.slice none 0 0)) (by kernel_rfl) (@cast (((Value.slice none 0 0 : Value) = .slice none 0 0) ∧ ((Dat.intss (ordersBy s h (ownF h))).len = 0)) _ (by kernel_rfl) ⟨rfl,(by show List.length (ordersBy s h (ownF h)) = 0; first | exact (by_no' h12).symm | (rw [by_no' h12]; rfl))⟩)
 ·intro n12
  refine W.skip (thenQ_normal ?_)
  refine W.K cok tab21 hnt [] [4] (⟨[(4,.sl (.intss (ordersF s h (bitF (ownAhead h)) h.length [])))],[],[999]⟩)
   (True ∧ True ∧ True ∧ (True ∧ (True ∧ True) ∧ True) ∧ (True ∧ (True ∧ True ∧ True ∧ True) ∧ (isObject s = true) ∧ (validHistory h = true) ∧ ((ownAhead h) = rowsOf h.length (bitF (ownAhead h)))) ∧ True ∧ True) (by kernel_rfl)
   ⟨tt,tt,tt,⟨tt,⟨tt,tt⟩,tt⟩,⟨tt,⟨tt,tt,tt,tt⟩,(by exact and_l (by_yes' n12)),(by exact and_r (by_yes' n12)),(by exact own_rows (and_r (by_yes' n12)))⟩,tt,tt⟩ ?_
  refine W.ret ?_
  exact endQ_ret (.sl (.intss (ordersF s h (bitF (ownAhead h)) h.length []))) (by kernel_rfl) (@cast ((.intss (ordersF s h (bitF (ownAhead h)) h.length []) : Dat) = .intss (ordersBy s h (ownF h))) _ (by kernel_rfl) (congrArg Dat.intss (by exact by_val (by_yes' n12) (own_eq (and_r (by_yes' n12))))))
theorem ent21 : Entr prog 21 := ⟨_,func21,rfl,by decide⟩
end Go.Proofs.Try

set_option linter.unusedSimpArgs false
set_option linter.unusedVariables false
namespace Go.Proofs.Try
open Go.Ab Go.RowKit
def fs19 : FnS := fnS [.o,.s .calls] [.str,.calls] (fun _ (s,h,_) => (.b (explains s h (ownF h)),[],True))
abbrev T19 : Tab := lk [(21,fs21)]
theorem tab19 : TabOK prog T19 := (TabOK.cons ok21 ent21 TabOK.nil)
set_option maxRecDepth 100000 in
set_option maxHeartbeats 1000000 in
theorem ok19 : FnOK prog 19 fs19 := by
 refine FnOK.mk cok func19 rfl rfl rfl ?_
 rintro fl ⟨(s : ByteArray),(h : List CallD),_⟩ hpre F hnt0 _
 have hnt : F.nt = 10 := hnt0.trans ntmps19
 clear hpre
 refine W.to (⟨[(0,.v (.string s)),(1,.sl (.calls h))],[],[999]⟩) rfl ?_
 refine W.lenOf 1 (.calls h) (by kernel_rfl) ?_
 intro hl_h; replace hl_h : List.length h ≤ 9223372036854775807 := hl_h
 refine W.K cok tab19 hnt [] [0,1] (⟨[(0,.v (.string s)),(1,.sl (.calls h))],[],[999]⟩)
  (True ∧ True) (by kernel_rfl)
  ⟨tt,tt⟩ ?_
 refine W.K cok tab19 hnt [] [4] (⟨[(4,.b (decide ((0 : Int) < (((List.length (ordersBy s h (ownF h))) : Nat) : Int))))],[],[999]⟩)
  (True ∧ True ∧ (True ∧ (True ∧ True ∧ True) ∧ True) ∧ True ∧ (True ∧ True ∧ True) ∧ True ∧ True) (by kernel_rfl)
  ⟨tt,tt,⟨tt,⟨tt,tt,tt⟩,tt⟩,tt,⟨tt,tt,tt⟩,tt,tt⟩ ?_
 refine W.ret ?_
 exact endQ_ret (.b (decide ((0 : Int) < (((List.length (ordersBy s h (ownF h))) : Nat) : Int)))) (by kernel_rfl) (@cast ((.bool (decide ((0 : Int) < (((List.length (ordersBy s h (ownF h))) : Nat) : Int))) : Value) = .bool (explains s h (ownF h))) _ (by kernel_rfl) (congrArg Value.bool (by rfl)))
theorem ent19 : Entr prog 19 := ⟨_,func19,rfl,by decide⟩
end Go.Proofs.Try
