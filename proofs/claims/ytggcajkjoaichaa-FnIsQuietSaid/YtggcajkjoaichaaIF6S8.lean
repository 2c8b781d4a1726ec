import Derived.Test.YtggcajkjoaichaaIF6S0
import Derived.Test.YtggcajkjoaichaaIF6S1
import Derived.Test.YtggcajkjoaichaaIF6S7
import Derived.Test.YtggcajkjoaichaaIF6S5
import Derived.Test.YtggcajkjoaichaaIF6S6
import Derived.Test.YtggcajkjoaichaaIF6S2
set_option linter.unusedSimpArgs false
set_option linter.unusedVariables false
namespace Go.Proofs.Try
open Go.Ab Go.RowKit
def out55 : Bool → ATy [.str, .calls, .ints, .ints] → AV × List (TypeId × Dat) × Prop := fun _ (s, h, rows, o, _) => (.sl (.intss (ordersF s h (bitF rows) (h.length - o.length) o)), [], (isObject s = true) ∧ (validHistory h = true) ∧ (rows = rowsOf h.length (bitF rows)) ∧ (headO h o))
def mu55 : ATy [.str, .calls, .ints, .ints] → Nat := fun (s, h, rows, o, _) => h.length - o.length
def fs55 : FnS := fnS [.o, .s .calls, .s .ints, .s .ints] [.str, .calls, .ints, .ints] out55
abbrev fsN55 (n : Nat) : FnS := fnS [.o, .s .calls, .s .ints, .s .ints] [.str, .calls, .ints, .ints] (lim out55 mu55 n)
theorem ent55 : Entr prog 55 := ⟨_, func55, rfl, by decide⟩
abbrev T55 (nn : Nat) : Tab := lk [(55, fsN55 nn), (45, fs45), (77, fs77), (78, fs78)]
theorem tab55 {nn : Nat} (ih : FnOK prog 55 (fsN55 nn)) : TabOK prog (T55 nn) := (TabOK.cons ih ent55 (TabOK.cons ok45 ent45 (TabOK.cons ok77 ent77 (TabOK.cons ok78 ent78 TabOK.nil))))
set_option maxRecDepth 100000 in
set_option maxHeartbeats 1000000 in
theorem okS55 (nn : Nat) (ih : FnOK prog 55 (fsN55 nn)) : FnOK prog 55 (fsN55 (nn + 1)) := by
 refine FnOK.mk cok func55 rfl rfl rfl ?_
 rintro fl ⟨(s : ByteArray), (h : List CallD), (rows : List Int), (o : List Int), _⟩ hpre F hnt0 _
 have hnt : F.nt = 78 := hnt0.trans ntmps55
 obtain ⟨hpre, hmu⟩ := hpre
 replace hmu : h.length - o.length < nn + 1 := hmu
 replace hpre : (isObject s = true) ∧ (validHistory h = true) ∧ (rows = rowsOf h.length (bitF rows)) ∧ (headO h o) := hpre
 obtain ⟨hs, hv, hr, ho⟩ := hpre
 refine W.to (⟨[(0, .v (.string s)), (1, .sl (.calls h)), (2, .sl (.ints rows)), (3, .sl (.ints o))], [], [999]⟩) rfl ?_
 have hv6 := (valid_iff.1 hv).1
 have hol := ho.2.2
 have hrl : rows.length = h.length := by rw [hr, rowsOf_len]
 have hio := ho.1
 refine W.lenOf 1 (.calls h) (by kernel_rfl) ?_
 intro hl_h; replace hl_h : List.length h ≤ 9223372036854775807 := hl_h
 refine W.lenOf 2 (.ints rows) (by kernel_rfl) ?_
 intro hl_rows; replace hl_rows : List.length rows ≤ 9223372036854775807 := hl_rows
 refine W.lenOf 3 (.ints o) (by kernel_rfl) ?_
 intro hl_o; replace hl_o : List.length o ≤ 9223372036854775807 := hl_o
 refine W.K cok (tab55 ih) hnt [] [0, 1, 2, 3] (⟨[(0, .v (.string s)), (1, .sl (.calls h)), (2, .sl (.ints rows)), (3, .sl (.ints o))], [], [999]⟩)
  (True ∧ True) (by kernel_rfl)
  ⟨tt, tt⟩ ?_
 refine W.seq ?_
 refine W.K cok (tab55 ih) hnt [] [0, 1, 2, 3, 17] (⟨[(0, .v (.string s)), (1, .sl (.calls h)), (2, .sl (.ints rows)), (3, .sl (.ints o)), (17, .b (!(runsB s h o)))], [], [999]⟩)
  (True ∧ True ∧ True ∧ (True ∧ (True ∧ True ∧ True ∧ True) ∧ (isObject s = true) ∧ (validHistory h = true) ∧ (inH h o) ∧ (o.length ≤ 6)) ∧ True ∧ True) (by kernel_rfl)
  ⟨tt, tt, tt, ⟨tt, ⟨tt, tt, tt, tt⟩, (by exact hs), (by exact hv), (by exact ho.1), (by omega)⟩, tt, tt⟩ ?_
 refine W.if' (!(runsB s h o)) (.b (!(runsB s h o))) (by kernel_rfl) rfl trivial ?_ ?_
 ·intro h17
  refine W.K cok (tab55 ih) hnt [] [8] (⟨[(8, .sl (.intss ([] : List (List Int))))], [], [18, 999]⟩)
   (True ∧ True ∧ True) (by kernel_rfl)
   ⟨tt, tt, tt⟩ ?_
  refine W.ret (thenQ_ret ?_)
  exact endQ_ret (.sl (.intss ([] : List (List Int)))) (by kernel_rfl) (@cast ((.intss ([] : List (List Int)) : Dat) = .intss (ordersF s h (bitF rows) (h.length - o.length) o)) _ (by kernel_rfl) (congrArg Dat.intss (by exact (orders_none (by simpa using h17)).symm)))
 ·intro n17
  refine W.skip (thenQ_normal ?_)
  refine W.seq ?_
  refine W.K cok (tab55 ih) hnt [] [0, 1, 2, 3, 23] (⟨[(0, .v (.string s)), (1, .sl (.calls h)), (2, .sl (.ints rows)), (3, .sl (.ints o)), (23, .b (decide ((o.length : Int) = (h.length : Int))))], [], [999]⟩)
   (True ∧ True ∧ True ∧ True ∧ (True ∧ True ∧ True) ∧ True) (by kernel_rfl)
   ⟨tt, tt, tt, tt, ⟨tt, tt, tt⟩, tt⟩ ?_
  refine W.ifP ((o.length : Int) = (h.length : Int)) (.b (decide ((o.length : Int) = (h.length : Int)))) (by kernel_rfl) rfl trivial ?_ ?_
  ·intro h23
   refine W.K cok (tab55 ih) hnt [24] [8] (⟨[(8, .sl (.intss ([o])))], [], [27, 26, 24, 999]⟩)
    (True ∧ True ∧ ((True ∧ ((List.length ([] : List Int)) = (List.length ([] : List Int)))) ∧ True ∧ (((List.length ([] : List Int)) + o.length) * 8 ≤ 140737488355328)) ∧ (True ∧ True) ∧ True ∧ True) (by kernel_rfl)
    ⟨tt, tt, ⟨⟨tt, rfl⟩, tt, (by first | omega | (simp; done) | (simp; omega) | (have h9 := upto_len6 (s := s) (f := bitF rows) (m := h.length - o.length - 1) (k := k) hv6 (by omega) (by omega) o; have h8 := rest_len (s := s) (f := bitF rows) (m := h.length - (o ++ [((k : Nat) : Int)]).length) hv6 (by omega) (o ++ [((k : Nat) : Int)]); (try rw [← hou] at h9); (try simp only [List.length_append, List.length_cons, List.length_nil] at *); omega))⟩, ⟨tt, tt⟩, tt, tt⟩ ?_
   refine W.ret (thenQ_ret ?_)
   exact endQ_ret (.sl (.intss ([o]))) (by kernel_rfl) (@cast ((.intss ([o]) : Dat) = .intss (ordersF s h (bitF rows) (h.length - o.length) o)) _ (by kernel_rfl) (congrArg Dat.intss (by exact explain_one (by simpa using n17) h23)))
  ·intro n23
   refine W.skip (thenQ_normal ?_)
   refine W.K cok (tab55 ih) hnt [28] [0, 1, 2, 3, 9] (⟨[(0, .v (.string s)), (1, .sl (.calls h)), (2, .sl (.ints rows)), (3, .sl (.ints o)), (9, .own 28 (List.length ([] : List (List Int))))], [(28, ⟨24, .row (.intss ([] : List (List Int)))⟩)], [28, 999]⟩)
    (True ∧ True ∧ True) (by kernel_rfl)
    ⟨tt, tt, tt⟩ ?_
   refine W.K cok (tab55 ih) hnt [] [0, 1, 2, 3, 9, 10] (⟨[(0, .v (.string s)), (1, .sl (.calls h)), (2, .sl (.ints rows)), (3, .sl (.ints o)), (9, .own 28 (List.length ([] : List (List Int)))), (10, .i (0 : Int))], [(28, ⟨24, .row (.intss ([] : List (List Int)))⟩)], [28, 999]⟩)
    (True ∧ True) (by kernel_rfl)
    ⟨tt, tt⟩ ?_
   refine W.seq ?_
   refine W.K cok (tab55 ih) hnt [] [0, 1, 2, 3, 9, 10, 11] (⟨[(0, .v (.string s)), (1, .sl (.calls h)), (2, .sl (.ints rows)), (3, .sl (.ints o)), (9, .own 28 (List.length ([] : List (List Int)))), (10, .i (0 : Int)), (11, .i (0 : Int))], [(28, ⟨24, .row (.intss ([] : List (List Int)))⟩)], [28, 999]⟩)
    (True ∧ True) (by kernel_rfl)
    ⟨tt, tt⟩ ?_
   refine W.block ?_
   refine W.loop (ι := Nat × Int) (fun (x : Nat × Int) => match x with | (j, d) => (⟨[(0, .v (.string s)), (1, .sl (.calls h)), (2, .sl (.ints rows)), (3, .sl (.ints o)), (9, .own 28 (List.length ([] : List (List Int)))), (10, .i d), (11, .i ((j : Nat) : Int))], [(28, ⟨24, .row (.intss ([] : List (List Int)))⟩)], [28, 999]⟩ : St))
    (fun (x : Nat × Int) => match x with | (j, d) => (j ≤ o.length) ∧ (d = mask h.length (doneF o j)))
    (fun (x : Nat × Int) => match x with | (j, d) => (o.length - j : Nat)) (0, (0 : Int)) ?_ ?_ ?_
   ·exact (show (0 ≤ o.length) ∧ ((0 : Int) = mask h.length (doneF o 0)) from ⟨(by first | assumption | omega | rfl | (intro _ hjj; omega) | (simp; done) | (simp; omega)), (by exact (done_zero o _).symm)⟩)
   ·exact Sub.of [] (@cast (((((.string s) : Value) = (.string s)) ∧ (((.calls h : Dat) = .calls h) ∧ (((.ints rows : Dat) = .ints rows) ∧ (((.ints o : Dat) = .ints o) ∧ ((((28 : Nat) = 28) ∧ (((List.length ([] : List (List Int))) = (List.length ([] : List (List Int)))) ∧ ((28 : Nat) ∈ ([28, 999] : List Nat)))) ∧ (((.int .i64 (0 : Int) : Value) = .int .i64 (0 : Int)) ∧ (((.int .i64 (0 : Int) : Value) = .int .i64 ((0 : Nat) : Int)) ∧ True))))))) ∧ (((((24 : Nat) = 24) ∧ (((.intss ([] : List (List Int)) : Dat) = .intss ([] : List (List Int))) ∧ ((28 : Nat) ∈ ([28, 999] : List Nat)))) ∧ True) ∧ ((true = true) ∧ (true = true)))) _ (by kernel_rfl) ⟨⟨rfl, rfl, rfl, rfl, ⟨rfl, rfl, (by decide)⟩, rfl, (congrArg (Value.int .i64) (by first | rfl | omega | assumption | simp | simp_all)), tt⟩, ⟨⟨rfl, rfl, (by decide)⟩, tt⟩, rfl, rfl⟩)
   ·rintro ⟨j, d⟩ hC0
    have hC : (j ≤ o.length) ∧ (d = mask h.length (doneF o j)) := hC0
    clear hC0
    obtain ⟨hj, hd⟩ := hC
    refine W.to (⟨[(0, .v (.string s)), (1, .sl (.calls h)), (2, .sl (.ints rows)), (3, .sl (.ints o)), (9, .own 28 (List.length ([] : List (List Int)))), (10, .i d), (11, .i ((j : Nat) : Int))], [(28, ⟨24, .row (.intss ([] : List (List Int)))⟩)], [28, 999]⟩) rfl ?_
    refine W.seq ?_
    refine W.K cok (tab55 ih) hnt [] [0, 1, 2, 3, 9, 10, 11, 32] (⟨[(0, .v (.string s)), (1, .sl (.calls h)), (2, .sl (.ints rows)), (3, .sl (.ints o)), (9, .own 28 (List.length ([] : List (List Int)))), (10, .i d), (11, .i ((j : Nat) : Int)), (32, .b (decide (((j : Nat) : Int) < (o.length : Int))))], [(28, ⟨24, .row (.intss ([] : List (List Int)))⟩)], [28, 999]⟩)
     (True ∧ True ∧ True ∧ (True ∧ True ∧ True) ∧ True) (by kernel_rfl)
     ⟨tt, tt, tt, ⟨tt, tt, tt⟩, tt⟩ ?_
    refine W.ifP (((j : Nat) : Int) < (o.length : Int)) (.b (decide (((j : Nat) : Int) < (o.length : Int)))) (by kernel_rfl) rfl trivial ?_ ?_
    ·intro h32
     refine W.skip (thenQ_normal ?_)
     refine W.seq ?_
     refine W.block ?_
     refine W.L cok (tab55 ih) hnt [] (⟨[(0, .v (.string s)), (1, .sl (.calls h)), (2, .sl (.ints rows)), (3, .sl (.ints o)), (9, .own 28 (List.length ([] : List (List Int)))), (10, .i (d + (power (List.getD o j 0)))), (11, .i ((j : Nat) : Int)), (32, .b (decide (((j : Nat) : Int) < (o.length : Int)))), (35, .i d), (36, .sl (.ints o)), (37, .i ((j : Nat) : Int)), (38, .ep [.i (List.getD o j 0)]), (39, .i (List.getD o j 0)), (40, .i (power (List.getD o j 0))), (41, .i (d + (power (List.getD o j 0))))], [(28, ⟨24, .row (.intss ([] : List (List Int)))⟩)], [28, 999]⟩)
      (True ∧ True ∧ True ∧ (True ∧ True ∧ (0 ≤ ((j : Nat) : Int)) ∧ (((j : Nat) : Int) < (o.length : Int))) ∧ True ∧ (True ∧ (True ∧ True) ∧ ((List.getD o j 0) ≤ 60)) ∧ (True ∧ True ∧ (Fits .i64 (d + (power (List.getD o j 0))))) ∧ True ∧ True) (by kernel_rfl)
      ⟨tt, tt, tt, ⟨tt, tt, (by omega), (by omega)⟩, tt, ⟨tt, ⟨tt, tt⟩, (by have := hio j (by omega); omega)⟩, ⟨tt, tt, (by rw [hd, done_next ho.2.1 (by omega) (by have := hio j (by omega); omega) (by have := hio j (by omega); omega)]; have := mask_bnd h.length (doneF o (j + 1)) (by omega); exact fits_i64 (by omega) (by omega))⟩, tt, tt⟩ ?_
     refine blockQ_normal (thenQ_normal ?_)
     refine W.L cok (tab55 ih) hnt [] (⟨[(0, .v (.string s)), (1, .sl (.calls h)), (2, .sl (.ints rows)), (3, .sl (.ints o)), (9, .own 28 (List.length ([] : List (List Int)))), (10, .i (d + (power (List.getD o j 0)))), (11, .i (((j + 1) : Nat) : Int)), (32, .b (decide (((j : Nat) : Int) < (o.length : Int)))), (33, .i ((j : Nat) : Int)), (34, .i (((j + 1) : Nat) : Int)), (35, .i d), (36, .sl (.ints o)), (37, .i ((j : Nat) : Int)), (38, .ep [.i (List.getD o j 0)]), (39, .i (List.getD o j 0)), (40, .i (power (List.getD o j 0))), (41, .i (d + (power (List.getD o j 0))))], [(28, ⟨24, .row (.intss ([] : List (List Int)))⟩)], [28, 999]⟩)
      (True ∧ (True ∧ True ∧ (Fits .i64 (((j + 1) : Nat) : Int))) ∧ True ∧ True) (by kernel_rfl)
      ⟨tt, ⟨tt, tt, (by exact fits_i64 (by omega) (by omega))⟩, tt, tt⟩ ?_
     refine thenQ_normal ?_
     refine ⟨((j + 1), (d + (power (List.getD o j 0)))), (show ((j + 1) ≤ o.length) ∧ ((d + (power (List.getD o j 0))) = mask h.length (doneF o (j + 1))) from ⟨(by first | assumption | omega | rfl | (intro _ hjj; omega) | (simp; done) | (simp; omega)), (by rw [hd]; exact done_next ho.2.1 (by omega) (by have := hio j (by omega); omega) (by have := hio j (by omega); omega))⟩), (show o.length - (j + 1) < o.length - j from (by first | omega | (simp_all; omega))), ?_⟩
     exact Sub.of [] (@cast (((((.string s) : Value) = (.string s)) ∧ (((.calls h : Dat) = .calls h) ∧ (((.ints rows : Dat) = .ints rows) ∧ (((.ints o : Dat) = .ints o) ∧ ((((28 : Nat) = 28) ∧ (((List.length ([] : List (List Int))) = (List.length ([] : List (List Int)))) ∧ ((28 : Nat) ∈ ([28, 999] : List Nat)))) ∧ (((.int .i64 (d + (power (List.getD o j 0))) : Value) = .int .i64 (d + (power (List.getD o j 0)))) ∧ (((.int .i64 (((j + 1) : Nat) : Int) : Value) = .int .i64 (((j + 1) : Nat) : Int)) ∧ True))))))) ∧ (((((24 : Nat) = 24) ∧ (((.intss ([] : List (List Int)) : Dat) = .intss ([] : List (List Int))) ∧ ((28 : Nat) ∈ ([28, 999] : List Nat)))) ∧ True) ∧ ((true = true) ∧ (true = true)))) _ (by kernel_rfl) ⟨⟨rfl, rfl, rfl, rfl, ⟨rfl, rfl, (by decide)⟩, rfl, rfl, tt⟩, ⟨⟨rfl, rfl, (by decide)⟩, tt⟩, rfl, rfl⟩)
    ·intro n32
     refine W.exit (thenQ_exit (thenQ_exit (blockQ_hit ?_)))
     refine thenQ_normal ?_
     refine W.seq ?_
     refine W.K cok (tab55 ih) hnt [] [0, 1, 2, 3, 9, 10, 12] (⟨[(0, .v (.string s)), (1, .sl (.calls h)), (2, .sl (.ints rows)), (3, .sl (.ints o)), (9, .own 28 (List.length ([] : List (List Int)))), (10, .i d), (12, .i (0 : Int))], [(28, ⟨24, .row (.intss ([] : List (List Int)))⟩)], [28, 999]⟩)
      (True ∧ True) (by kernel_rfl)
      ⟨tt, tt⟩ ?_
     refine W.block ?_
     refine W.loop (ι := Nat × (List (List Int))) (fun (x : Nat × (List (List Int))) => match x with | (k, ou) => (⟨[(0, .v (.string s)), (1, .sl (.calls h)), (2, .sl (.ints rows)), (3, .sl (.ints o)), (9, .own 28 ou.length), (10, .i d), (12, .i ((k : Nat) : Int))], [(28, ⟨24, .row (.intss ou)⟩)], [28, 999]⟩ : St))
      (fun (x : Nat × (List (List Int))) => match x with | (k, ou) => (k ≤ h.length) ∧ (ou = ordersUp s h (bitF rows) (h.length - o.length - 1) o k))
      (fun (x : Nat × (List (List Int))) => match x with | (k, ou) => (h.length - k : Nat)) (0, ([] : List (List Int))) ?_ ?_ ?_
     ·exact (show (0 ≤ h.length) ∧ (([] : List (List Int)) = ordersUp s h (bitF rows) (h.length - o.length - 1) o 0) from ⟨(by first | assumption | omega | rfl | (intro _ hjj; omega) | (simp; done) | (simp; omega)), (by rfl)⟩)
     ·exact Sub.of [] (@cast (((((.string s) : Value) = (.string s)) ∧ (((.calls h : Dat) = .calls h) ∧ (((.ints rows : Dat) = .ints rows) ∧ (((.ints o : Dat) = .ints o) ∧ ((((28 : Nat) = 28) ∧ (((List.length ([] : List (List Int))) = (List.length ([] : List (List Int)))) ∧ ((28 : Nat) ∈ ([28, 999] : List Nat)))) ∧ (((.int .i64 d : Value) = .int .i64 d) ∧ (((.int .i64 (0 : Int) : Value) = .int .i64 ((0 : Nat) : Int)) ∧ True))))))) ∧ (((((24 : Nat) = 24) ∧ (((.intss ([] : List (List Int)) : Dat) = .intss ([] : List (List Int))) ∧ ((28 : Nat) ∈ ([28, 999] : List Nat)))) ∧ True) ∧ ((true = true) ∧ (true = true)))) _ (by kernel_rfl) ⟨⟨rfl, rfl, rfl, rfl, ⟨rfl, rfl, (by decide)⟩, rfl, (congrArg (Value.int .i64) (by first | rfl | omega | assumption | simp | simp_all)), tt⟩, ⟨⟨rfl, rfl, (by decide)⟩, tt⟩, rfl, rfl⟩)
     ·rintro ⟨k, ou⟩ hC0
      have hC : (k ≤ h.length) ∧ (ou = ordersUp s h (bitF rows) (h.length - o.length - 1) o k) := hC0
      clear hC0
      obtain ⟨hk, hou⟩ := hC
      refine W.to (⟨[(0, .v (.string s)), (1, .sl (.calls h)), (2, .sl (.ints rows)), (3, .sl (.ints o)), (9, .own 28 ou.length), (10, .i d), (12, .i ((k : Nat) : Int))], [(28, ⟨24, .row (.intss ou)⟩)], [28, 999]⟩) rfl ?_
      have hdd : d = mask h.length (hasN o) := by rw [hd]; exact done_all (by omega)
      refine W.seq ?_
      refine W.K cok (tab55 ih) hnt [] [0, 1, 2, 3, 9, 10, 12, 45] (⟨[(0, .v (.string s)), (1, .sl (.calls h)), (2, .sl (.ints rows)), (3, .sl (.ints o)), (9, .own 28 ou.length), (10, .i d), (12, .i ((k : Nat) : Int)), (45, .b (decide (((k : Nat) : Int) < (h.length : Int))))], [(28, ⟨24, .row (.intss ou)⟩)], [28, 999]⟩)
       (True ∧ True ∧ True ∧ (True ∧ True ∧ True) ∧ True) (by kernel_rfl)
       ⟨tt, tt, tt, ⟨tt, tt, tt⟩, tt⟩ ?_
      refine W.ifP (((k : Nat) : Int) < (h.length : Int)) (.b (decide (((k : Nat) : Int) < (h.length : Int)))) (by kernel_rfl) rfl trivial ?_ ?_
      ·intro h45
       refine W.skip (thenQ_normal ?_)
       refine W.seq ?_
       refine W.block ?_
       refine W.KA cok (tab55 ih) hnt [] [0, 1, 2, 3, 9, 10, 12, 64] (⟨[(0, .v (.string s)), (1, .sl (.calls h)), (2, .sl (.ints rows)), (3, .sl (.ints o)), (9, .own 28 ou.length), (10, .i d), (12, .i ((k : Nat) : Int)), (64, .b ((decide ((bitOf d ((k : Nat) : Int)) = (0 : Int))) && (decide ((bitsI .and .i64 (List.getD rows k 0) d) = (List.getD rows k 0)))))], [(28, ⟨24, .row (.intss ou)⟩)], [28, 999]⟩)
        (True ∧ True ∧ (True ∧ (True ∧ True ∧ True) ∧ (((k : Nat) : Int) ≤ 60) ∧ 0 ≤ d ∧ d ≤ 4611686018427387904) ∧ (True ∧ True ∧ True) ∧ True ∧ ((decide ((bitOf d ((k : Nat) : Int)) = (0 : Int))) = true → True) ∧ ((decide ((bitOf d ((k : Nat) : Int)) = (0 : Int))) = true → True) ∧ ((decide ((bitOf d ((k : Nat) : Int)) = (0 : Int))) = true → ((((decide ((bitOf d ((k : Nat) : Int)) = (0 : Int))) = true) ∧ True) ∧ (((decide ((bitOf d ((k : Nat) : Int)) = (0 : Int))) = true) ∧ True) ∧ (0 ≤ ((k : Nat) : Int)) ∧ (((k : Nat) : Int) < (rows.length : Int)))) ∧ ((decide ((bitOf d ((k : Nat) : Int)) = (0 : Int))) = true → (((decide ((bitOf d ((k : Nat) : Int)) = (0 : Int))) = true) ∧ True)) ∧ ((decide ((bitOf d ((k : Nat) : Int)) = (0 : Int))) = true → True) ∧ ((decide ((bitOf d ((k : Nat) : Int)) = (0 : Int))) = true → ((((decide ((bitOf d ((k : Nat) : Int)) = (0 : Int))) = true) ∧ True) ∧ (((decide ((bitOf d ((k : Nat) : Int)) = (0 : Int))) = true) ∧ True) ∧ True)) ∧ ((decide ((bitOf d ((k : Nat) : Int)) = (0 : Int))) = true → True) ∧ ((decide ((bitOf d ((k : Nat) : Int)) = (0 : Int))) = true → True) ∧ ((decide ((bitOf d ((k : Nat) : Int)) = (0 : Int))) = true → ((((decide ((bitOf d ((k : Nat) : Int)) = (0 : Int))) = true) ∧ True) ∧ (((decide ((bitOf d ((k : Nat) : Int)) = (0 : Int))) = true) ∧ True) ∧ (0 ≤ ((k : Nat) : Int)) ∧ (((k : Nat) : Int) < (rows.length : Int)))) ∧ ((decide ((bitOf d ((k : Nat) : Int)) = (0 : Int))) = true → (((decide ((bitOf d ((k : Nat) : Int)) = (0 : Int))) = true) ∧ True)) ∧ ((decide ((bitOf d ((k : Nat) : Int)) = (0 : Int))) = true → ((((decide ((bitOf d ((k : Nat) : Int)) = (0 : Int))) = true) ∧ True) ∧ (((decide ((bitOf d ((k : Nat) : Int)) = (0 : Int))) = true) ∧ True) ∧ True)) ∧ (True ∧ ((decide ((bitOf d ((k : Nat) : Int)) = (0 : Int))) = true → ((decide ((bitOf d ((k : Nat) : Int)) = (0 : Int))) = true) ∧ True) ∧ ((decide ((bitOf d ((k : Nat) : Int)) = (0 : Int))) = false → True)) ∧ True) (by kernel_rfl) (by kernel_rfl)
        ⟨tt, tt, ⟨tt, ⟨tt, tt, tt⟩, (by omega), (by rw [hd]; have := mask_bnd h.length (doneF o j) (by omega); omega)⟩, ⟨tt, tt, tt⟩, tt, (fun _ => trivial), (fun _ => trivial), (fun hG => ⟨⟨hG, tt⟩, ⟨hG, tt⟩, (by have hg0 : (bitOf d ((k : Nat) : Int)) = (0 : Int) := of_decide_eq_true hG; omega), (by have hg0 : (bitOf d ((k : Nat) : Int)) = (0 : Int) := of_decide_eq_true hG; omega)⟩), (fun hG => ⟨hG, tt⟩), (fun _ => trivial), (fun hG => ⟨⟨hG, tt⟩, ⟨hG, tt⟩, tt⟩), (fun _ => trivial), (fun _ => trivial), (fun hG => ⟨⟨hG, tt⟩, ⟨hG, tt⟩, (by have hg0 : (bitOf d ((k : Nat) : Int)) = (0 : Int) := of_decide_eq_true hG; omega), (by have hg0 : (bitOf d ((k : Nat) : Int)) = (0 : Int) := of_decide_eq_true hG; omega)⟩), (fun hG => ⟨hG, tt⟩), (fun hG => ⟨⟨hG, tt⟩, ⟨hG, tt⟩, tt⟩), ⟨tt, (fun hp => ⟨hp, tt⟩), (fun _ => trivial)⟩, tt⟩ ?_
       refine W.if' ((decide ((bitOf d ((k : Nat) : Int)) = (0 : Int))) && (decide ((bitsI .and .i64 (List.getD rows k 0) d) = (List.getD rows k 0)))) (.b ((decide ((bitOf d ((k : Nat) : Int)) = (0 : Int))) && (decide ((bitsI .and .i64 (List.getD rows k 0) d) = (List.getD rows k 0))))) (by kernel_rfl) rfl trivial ?_ ?_
       ·intro h64
        have h64_0 : (bitOf d ((k : Nat) : Int)) = (0 : Int) := of_decide_eq_true (and_l h64)
        have h64_1 : (bitsI .and .i64 (List.getD rows k 0) d) = (List.getD rows k 0) := of_decide_eq_true (and_r h64)
        have hfk : freeB (bitF rows) h.length o k = true := free_spec (by omega) (by omega) (by rw [← hr, ← hdd]; exact h64)
        refine W.L cok (tab55 ih) hnt [69, 71, 76] (⟨[(0, .v (.string s)), (1, .sl (.calls h)), (2, .sl (.ints rows)), (3, .sl (.ints o)), (9, .own 76 (List.length (ou ++ (ordersF s h (bitF rows) (h.length - (o ++ ([((k : Nat) : Int)])).length) (o ++ ([((k : Nat) : Int)])))))), (10, .i d), (12, .i ((k : Nat) : Int)), (64, .b ((decide ((bitOf d ((k : Nat) : Int)) = (0 : Int))) && (decide ((bitsI .and .i64 (List.getD rows k 0) d) = (List.getD rows k 0))))), (65, .own 28 ou.length), (66, .v (.string s)), (67, .sl (.calls h)), (68, .sl (.ints rows)), (69, .own 69 (List.length ([] : List Int))), (70, .sl (.ints o)), (71, .own 71 o.length), (72, .i ((k : Nat) : Int)), (73, .sl (.ints ([((k : Nat) : Int)]))), (74, .sl (.ints (o ++ ([((k : Nat) : Int)])))), (75, .sl (.intss (ordersF s h (bitF rows) (h.length - (o ++ ([((k : Nat) : Int)])).length) (o ++ ([((k : Nat) : Int)]))))), (76, .own 76 (List.length (ou ++ (ordersF s h (bitF rows) (h.length - (o ++ ([((k : Nat) : Int)])).length) (o ++ ([((k : Nat) : Int)]))))))], [(76, ⟨24, .row (.intss (ou ++ (ordersF s h (bitF rows) (h.length - (o ++ ([((k : Nat) : Int)])).length) (o ++ ([((k : Nat) : Int)])))))⟩)], [76, 74, 73, 71, 69, 28, 999]⟩)
         (True ∧ True ∧ True ∧ True ∧ True ∧ True ∧ ((True ∧ ((List.length ([] : List Int)) = (List.length ([] : List Int)))) ∧ True ∧ (((List.length ([] : List Int)) + o.length) * 8 ≤ 140737488355328)) ∧ True ∧ (True ∧ True) ∧ ((True ∧ (o.length = o.length)) ∧ True ∧ ((o.length + (List.length ([((k : Nat) : Int)]))) * 8 ≤ 140737488355328)) ∧ (True ∧ (True ∧ True ∧ True ∧ True ∧ True) ∧ ((isObject s = true) ∧ (validHistory h = true) ∧ (rows = rowsOf h.length (bitF rows)) ∧ (headO h (o ++ ([((k : Nat) : Int)])))) ∧ (h.length - (o ++ ([((k : Nat) : Int)])).length < nn)) ∧ ((True ∧ (ou.length = ou.length)) ∧ True ∧ ((ou.length + (List.length (ordersF s h (bitF rows) (h.length - (o ++ ([((k : Nat) : Int)])).length) (o ++ ([((k : Nat) : Int)]))))) * 24 ≤ 140737488355328)) ∧ True ∧ True) (by kernel_rfl)
         ⟨tt, tt, tt, tt, tt, tt, ⟨⟨tt, rfl⟩, tt, (by first | omega | (simp; done) | (simp; omega) | (have h9 := upto_len6 (s := s) (f := bitF rows) (m := h.length - o.length - 1) (k := k) hv6 (by omega) (by omega) o; have h8 := rest_len (s := s) (f := bitF rows) (m := h.length - (o ++ [((k : Nat) : Int)]).length) hv6 (by omega) (o ++ [((k : Nat) : Int)]); (try rw [← hou] at h9); (try simp only [List.length_append, List.length_cons, List.length_nil] at *); omega))⟩, tt, ⟨tt, tt⟩, ⟨⟨tt, rfl⟩, tt, (by first | omega | (simp; done) | (simp; omega) | (have h9 := upto_len6 (s := s) (f := bitF rows) (m := h.length - o.length - 1) (k := k) hv6 (by omega) (by omega) o; have h8 := rest_len (s := s) (f := bitF rows) (m := h.length - (o ++ [((k : Nat) : Int)]).length) hv6 (by omega) (o ++ [((k : Nat) : Int)]); (try rw [← hou] at h9); (try simp only [List.length_append, List.length_cons, List.length_nil] at *); omega))⟩, ⟨tt, ⟨tt, tt, tt, tt, tt⟩, ⟨(by exact hs), (by exact hv), (by exact hr), (by exact headO_snoc ho (by omega) (free_has hfk) (by omega))⟩, (by (try simp only [List.length_append, List.length_cons, List.length_nil]); omega)⟩, ⟨⟨tt, rfl⟩, tt, (by first | omega | (simp; done) | (simp; omega) | (have h9 := upto_len6 (s := s) (f := bitF rows) (m := h.length - o.length - 1) (k := k) hv6 (by omega) (by omega) o; have h8 := rest_len (s := s) (f := bitF rows) (m := h.length - (o ++ [((k : Nat) : Int)]).length) hv6 (by omega) (o ++ [((k : Nat) : Int)]); (try rw [← hou] at h9); (try simp only [List.length_append, List.length_cons, List.length_nil] at *); omega))⟩, tt, tt⟩ ?_
        refine blockQ_normal (thenQ_normal ?_)
        refine W.L cok (tab55 ih) hnt [] (⟨[(0, .v (.string s)), (1, .sl (.calls h)), (2, .sl (.ints rows)), (3, .sl (.ints o)), (9, .own 76 (List.length (ou ++ (ordersF s h (bitF rows) (h.length - (o ++ ([((k : Nat) : Int)])).length) (o ++ ([((k : Nat) : Int)])))))), (10, .i d), (12, .i (((k + 1) : Nat) : Int)), (46, .i ((k : Nat) : Int)), (47, .i (((k + 1) : Nat) : Int)), (64, .b ((decide ((bitOf d ((k : Nat) : Int)) = (0 : Int))) && (decide ((bitsI .and .i64 (List.getD rows k 0) d) = (List.getD rows k 0))))), (65, .own 28 ou.length), (66, .v (.string s)), (67, .sl (.calls h)), (68, .sl (.ints rows)), (69, .own 69 (List.length ([] : List Int))), (70, .sl (.ints o)), (71, .own 71 o.length), (72, .i ((k : Nat) : Int)), (73, .sl (.ints ([((k : Nat) : Int)]))), (74, .sl (.ints (o ++ ([((k : Nat) : Int)])))), (75, .sl (.intss (ordersF s h (bitF rows) (h.length - (o ++ ([((k : Nat) : Int)])).length) (o ++ ([((k : Nat) : Int)]))))), (76, .own 76 (List.length (ou ++ (ordersF s h (bitF rows) (h.length - (o ++ ([((k : Nat) : Int)])).length) (o ++ ([((k : Nat) : Int)]))))))], [(76, ⟨24, .row (.intss (ou ++ (ordersF s h (bitF rows) (h.length - (o ++ ([((k : Nat) : Int)])).length) (o ++ ([((k : Nat) : Int)])))))⟩)], [76, 74, 73, 71, 69, 28, 999]⟩)
         (True ∧ (True ∧ True ∧ (Fits .i64 (((k + 1) : Nat) : Int))) ∧ True ∧ True) (by kernel_rfl)
         ⟨tt, ⟨tt, tt, (by exact fits_i64 (by omega) (by omega))⟩, tt, tt⟩ ?_
        refine thenQ_normal ?_
        refine ⟨((k + 1), (ou ++ (ordersF s h (bitF rows) (h.length - (o ++ ([((k : Nat) : Int)])).length) (o ++ ([((k : Nat) : Int)]))))), (show ((k + 1) ≤ h.length) ∧ ((ou ++ (ordersF s h (bitF rows) (h.length - (o ++ ([((k : Nat) : Int)])).length) (o ++ ([((k : Nat) : Int)])))) = ordersUp s h (bitF rows) (h.length - o.length - 1) o (k + 1)) from ⟨(by first | assumption | omega | rfl | (intro _ hjj; omega) | (simp; done) | (simp; omega)), (by first | (exact explain_step hfk hou) | (rw [up_no hfk]; exact hou))⟩), (show h.length - (k + 1) < h.length - k from (by first | omega | (simp_all; omega))), ?_⟩
        exact Sub.of [(28, 76)] (@cast (((((.string s) : Value) = (.string s)) ∧ (((.calls h : Dat) = .calls h) ∧ (((.ints rows : Dat) = .ints rows) ∧ (((.ints o : Dat) = .ints o) ∧ ((((76 : Nat) = 76) ∧ (((List.length (ou ++ (ordersF s h (bitF rows) (h.length - (o ++ ([((k : Nat) : Int)])).length) (o ++ ([((k : Nat) : Int)]))))) = (List.length (ou ++ (ordersF s h (bitF rows) (h.length - (o ++ ([((k : Nat) : Int)])).length) (o ++ ([((k : Nat) : Int)])))))) ∧ ((28 : Nat) ∈ ([28, 999] : List Nat)))) ∧ (((.int .i64 d : Value) = .int .i64 d) ∧ (((.int .i64 (((k + 1) : Nat) : Int) : Value) = .int .i64 (((k + 1) : Nat) : Int)) ∧ True))))))) ∧ (((((24 : Nat) = 24) ∧ (((.intss (ou ++ (ordersF s h (bitF rows) (h.length - (o ++ ([((k : Nat) : Int)])).length) (o ++ ([((k : Nat) : Int)])))) : Dat) = .intss (ou ++ (ordersF s h (bitF rows) (h.length - (o ++ ([((k : Nat) : Int)])).length) (o ++ ([((k : Nat) : Int)]))))) ∧ ((28 : Nat) ∈ ([28, 999] : List Nat)))) ∧ True) ∧ ((true = true) ∧ (true = true)))) _ (by kernel_rfl) ⟨⟨rfl, rfl, rfl, rfl, ⟨rfl, rfl, (by decide)⟩, rfl, rfl, tt⟩, ⟨⟨rfl, rfl, (by decide)⟩, tt⟩, rfl, rfl⟩)
       ·intro n64
        have hfk : freeB (bitF rows) h.length o k = false := free_spec (by omega) (by omega) (by rw [← hr, ← hdd]; exact n64)
        refine W.skip (blockQ_normal (thenQ_normal ?_))
        refine W.L cok (tab55 ih) hnt [] (⟨[(0, .v (.string s)), (1, .sl (.calls h)), (2, .sl (.ints rows)), (3, .sl (.ints o)), (9, .own 28 ou.length), (10, .i d), (12, .i (((k + 1) : Nat) : Int)), (46, .i ((k : Nat) : Int)), (47, .i (((k + 1) : Nat) : Int)), (64, .b ((decide ((bitOf d ((k : Nat) : Int)) = (0 : Int))) && (decide ((bitsI .and .i64 (List.getD rows k 0) d) = (List.getD rows k 0)))))], [(28, ⟨24, .row (.intss ou)⟩)], [28, 999]⟩)
         (True ∧ (True ∧ True ∧ (Fits .i64 (((k + 1) : Nat) : Int))) ∧ True ∧ True) (by kernel_rfl)
         ⟨tt, ⟨tt, tt, (by exact fits_i64 (by omega) (by omega))⟩, tt, tt⟩ ?_
        refine thenQ_normal ?_
        refine ⟨((k + 1), ou), (show ((k + 1) ≤ h.length) ∧ (ou = ordersUp s h (bitF rows) (h.length - o.length - 1) o (k + 1)) from ⟨(by first | assumption | omega | rfl | (intro _ hjj; omega) | (simp; done) | (simp; omega)), (by first | (exact explain_step hfk hou) | (rw [up_no hfk]; exact hou))⟩), (show h.length - (k + 1) < h.length - k from (by first | omega | (simp_all; omega))), ?_⟩
        exact Sub.of [] (@cast (((((.string s) : Value) = (.string s)) ∧ (((.calls h : Dat) = .calls h) ∧ (((.ints rows : Dat) = .ints rows) ∧ (((.ints o : Dat) = .ints o) ∧ ((((28 : Nat) = 28) ∧ ((ou.length = ou.length) ∧ ((28 : Nat) ∈ ([28, 999] : List Nat)))) ∧ (((.int .i64 d : Value) = .int .i64 d) ∧ (((.int .i64 (((k + 1) : Nat) : Int) : Value) = .int .i64 (((k + 1) : Nat) : Int)) ∧ True))))))) ∧ (((((24 : Nat) = 24) ∧ (((.intss ou : Dat) = .intss ou) ∧ ((28 : Nat) ∈ ([28, 999] : List Nat)))) ∧ True) ∧ ((true = true) ∧ (true = true)))) _ (by kernel_rfl) ⟨⟨rfl, rfl, rfl, rfl, ⟨rfl, rfl, (by decide)⟩, rfl, rfl, tt⟩, ⟨⟨rfl, rfl, (by decide)⟩, tt⟩, rfl, rfl⟩)
      ·intro n45
       refine W.exit (thenQ_exit (thenQ_exit (blockQ_hit ?_)))
       refine thenQ_normal ?_
       refine W.K cok (tab55 ih) hnt [] [8] (⟨[(8, .own 28 ou.length)], [(28, ⟨24, .row (.intss ou)⟩)], [28, 999]⟩)
        (True ∧ True ∧ True) (by kernel_rfl)
        ⟨tt, tt, tt⟩ ?_
       refine W.ret ?_
       exact endQ_ret (.own 28 ou.length) (by kernel_rfl) (@cast ((ou.length = ou.length) ∧ (((.intss ou : Dat) = .intss (ordersF s h (bitF rows) (h.length - o.length) o)) ∧ ((28 : Nat) ∉ ([] : List Nat)))) _ (by kernel_rfl) ⟨rfl, ⟨(congrArg Dat.intss (by exact explain_end (by omega) (by omega) hou)), (by decide)⟩⟩)
theorem ok55 : FnOK prog 55 fs55 := FnOK.rec' okS55
end Go.Proofs.Try

set_option linter.unusedSimpArgs false
set_option linter.unusedVariables false
namespace Go.Proofs.Try
open Go.Ab Go.RowKit
def fs25 : FnS := fnS [.o, .s .calls] [.str, .calls] (fun _ (s, h, _) => (.b (explains s h (quietF h)), [], True))
abbrev T25 : Tab := lk [(54, fs54), (55, fs55), (59, fs59)]
theorem tab25 : TabOK prog T25 := (TabOK.cons ok54 ent54 (TabOK.cons ok55 ent55 (TabOK.cons ok59 ent59 TabOK.nil)))
set_option maxRecDepth 100000 in
set_option maxHeartbeats 1000000 in
theorem ok25 : FnOK prog 25 fs25 := by
 refine FnOK.mk cok func25 rfl rfl rfl ?_
 rintro fl ⟨(s : ByteArray), (h : List CallD), _⟩ hpre F hnt0 _
 have hnt : F.nt = 18 := hnt0.trans ntmps25
 clear hpre
 refine W.to (⟨[(0, .v (.string s)), (1, .sl (.calls h))], [], [999]⟩) rfl ?_
 refine W.lenOf 1 (.calls h) (by kernel_rfl) ?_
 intro hl_h; replace hl_h : List.length h ≤ 9223372036854775807 := hl_h
 refine W.K cok tab25 hnt [] [0, 1] (⟨[(0, .v (.string s)), (1, .sl (.calls h))], [], [999]⟩)
  (True ∧ True) (by kernel_rfl)
  ⟨tt, tt⟩ ?_
 refine W.K cok tab25 hnt [] [4] (⟨[(4, .b ((isObject s && validHistory h) && (decide ((0 : Int) < (((List.length (ordersF s h (bitF (rowsOf h.length (quietF h))) (h.length - ([] : List Int).length) ([] : List Int))) : Nat) : Int)))))], [], [13, 999]⟩)
  (True ∧ True ∧ (True ∧ (True ∧ True ∧ True) ∧ True) ∧ True ∧ ((isObject s && validHistory h) = true → True) ∧ ((isObject s && validHistory h) = true → True) ∧ ((isObject s && validHistory h) = true → True) ∧ ((isObject s && validHistory h) = true → (True ∧ ((((isObject s && validHistory h) = true) ∧ True) ∧ True) ∧ (validHistory h = true))) ∧ ((isObject s && validHistory h) = true → True) ∧ ((isObject s && validHistory h) = true → (True ∧ ((((isObject s && validHistory h) = true) ∧ True) ∧ (((isObject s && validHistory h) = true) ∧ True) ∧ (((isObject s && validHistory h) = true) ∧ True) ∧ (((isObject s && validHistory h) = true) ∧ True) ∧ True) ∧ (isObject s = true) ∧ (validHistory h = true) ∧ ((rowsOf h.length (quietF h)) = rowsOf h.length (bitF (rowsOf h.length (quietF h)))) ∧ (headO h ([] : List Int)))) ∧ ((isObject s && validHistory h) = true → (((isObject s && validHistory h) = true) ∧ True)) ∧ ((isObject s && validHistory h) = true → ((((isObject s && validHistory h) = true) ∧ True) ∧ True ∧ True)) ∧ (True ∧ ((isObject s && validHistory h) = true → ((isObject s && validHistory h) = true) ∧ True) ∧ ((isObject s && validHistory h) = false → True)) ∧ True ∧ True) (by kernel_rfl)
  ⟨tt, tt, ⟨tt, ⟨tt, tt, tt⟩, tt⟩, tt, (fun _ => trivial), (fun _ => trivial), (fun _ => trivial), (fun hG => ⟨tt, ⟨⟨hG, tt⟩, tt⟩, (by exact and_r hG)⟩), (fun _ => trivial), (fun hG => ⟨tt, ⟨⟨hG, tt⟩, ⟨hG, tt⟩, ⟨hG, tt⟩, ⟨hG, tt⟩, tt⟩, (by exact and_l hG), (by exact and_r hG), (by exact rows_self), (by exact headO_nil h)⟩), (fun hG => ⟨hG, tt⟩), (fun hG => ⟨⟨hG, tt⟩, tt, tt⟩), ⟨tt, (fun hp => ⟨hp, tt⟩), (fun _ => trivial)⟩, tt, tt⟩ ?_
 refine W.ret ?_
 exact endQ_ret (.b ((isObject s && validHistory h) && (decide ((0 : Int) < (((List.length (ordersF s h (bitF (rowsOf h.length (quietF h))) (h.length - ([] : List Int).length) ([] : List Int))) : Nat) : Int))))) (by kernel_rfl) (@cast ((.bool ((isObject s && validHistory h) && (decide ((0 : Int) < (((List.length (ordersF s h (bitF (rowsOf h.length (quietF h))) (h.length - ([] : List Int).length) ([] : List Int))) : Nat) : Int)))) : Value) = .bool (explains s h (quietF h))) _ (by kernel_rfl) (congrArg Value.bool (by exact by_gt (fun _ => rfl))))
theorem ent25 : Entr prog 25 := ⟨_, func25, rfl, by decide⟩
end Go.Proofs.Try

set_option linter.unusedSimpArgs false
set_option linter.unusedVariables false
namespace Go.Proofs.Try
open Go.Ab Go.RowKit
def fs26 : FnS := fnS [.s .calls] [.calls] (fun _ (h, _) => (.b (oneByOne h), [], True))
abbrev T26 : Tab := lk [(12, fs12), (47, fs47)]
theorem tab26 : TabOK prog T26 := (TabOK.cons ok12 ent12 (TabOK.cons ok47 ent47 TabOK.nil))
set_option maxRecDepth 100000 in
set_option maxHeartbeats 1000000 in
theorem ok26 : FnOK prog 26 fs26 := by
 refine FnOK.mk cok func26 rfl rfl rfl ?_
 rintro fl ⟨(h : List CallD), _⟩ hpre F hnt0 _
 have hnt : F.nt = 29 := hnt0.trans ntmps26
 clear hpre
 refine W.to (⟨[(0, .sl (.calls h))], [], [999]⟩) rfl ?_
 refine W.lenOf 0 (.calls h) (by kernel_rfl) ?_
 intro hl_h; replace hl_h : List.length h ≤ 9223372036854775807 := hl_h
 refine W.K cok tab26 hnt [] [0] (⟨[(0, .sl (.calls h))], [], [999]⟩)
  (True ∧ True) (by kernel_rfl)
  ⟨tt, tt⟩ ?_
 refine W.seq ?_
 refine W.K cok tab26 hnt [] [0, 7, 8, 9] (⟨[(0, .sl (.calls h)), (7, .sl (.calls h)), (8, .i (h.length : Int)), (9, .i (0 : Int))], [], [999]⟩)
  (True ∧ True ∧ True ∧ True) (by kernel_rfl)
  ⟨tt, tt, tt, tt⟩ ?_
 refine W.block ?_
 refine W.loop (ι := Nat) (fun (i : Nat) => (⟨[(0, .sl (.calls h)), (7, .sl (.calls h)), (8, .i (h.length : Int)), (9, .i ((i : Nat) : Int))], [], [999]⟩ : St))
  (fun (i : Nat) => (i ≤ h.length) ∧ (∀ j, j < i → allN j (fun kk => !doOverlap (callAt h j) (callAt h kk)) = true))
  (fun (i : Nat) => (h.length - i : Nat)) (0) ?_ ?_ ?_
 ·exact (show (0 ≤ h.length) ∧ (∀ j, j < 0 → allN j (fun kk => !doOverlap (callAt h j) (callAt h kk)) = true) from ⟨(by first | assumption | omega | rfl | (intro _ hjj; omega) | (simp; done) | (simp; omega)), (by exact upto_zero)⟩)
 ·exact Sub.of [] (@cast ((((.calls h : Dat) = .calls h) ∧ (((.calls h : Dat) = .calls h) ∧ (((.int .i64 (h.length : Int) : Value) = .int .i64 (h.length : Int)) ∧ (((.int .i64 (0 : Int) : Value) = .int .i64 ((0 : Nat) : Int)) ∧ True)))) ∧ (True ∧ ((true = true) ∧ (true = true)))) _ (by kernel_rfl) ⟨⟨rfl, rfl, rfl, (congrArg (Value.int .i64) (by first | rfl | omega | assumption | simp | simp_all)), tt⟩, tt, rfl, rfl⟩)
 ·rintro i hC0
  have hC : (i ≤ h.length) ∧ (∀ j, j < i → allN j (fun kk => !doOverlap (callAt h j) (callAt h kk)) = true) := hC0
  clear hC0
  obtain ⟨hi, hA⟩ := hC
  refine W.to (⟨[(0, .sl (.calls h)), (7, .sl (.calls h)), (8, .i (h.length : Int)), (9, .i ((i : Nat) : Int))], [], [999]⟩) rfl ?_
  refine W.K cok tab26 hnt [] [0, 7, 8, 9, 10] (⟨[(0, .sl (.calls h)), (7, .sl (.calls h)), (8, .i (h.length : Int)), (9, .i ((i : Nat) : Int)), (10, .b (decide (((i : Nat) : Int) < (h.length : Int))))], [], [999]⟩)
   ((True ∧ True ∧ True) ∧ True) (by kernel_rfl)
   ⟨⟨tt, tt, tt⟩, tt⟩ ?_
  refine W.seq ?_
  refine W.ifP (((i : Nat) : Int) < (h.length : Int)) (.b (decide (((i : Nat) : Int) < (h.length : Int)))) (by kernel_rfl) rfl trivial ?_ ?_
  ·intro h10
   refine W.skip (thenQ_normal ?_)
   refine W.seq ?_
   refine W.block ?_
   refine W.K cok tab26 hnt [] [0, 3, 4, 7, 8, 9] (⟨[(0, .sl (.calls h)), (3, .i ((i : Nat) : Int)), (4, .ptr 4 0), (7, .sl (.calls h)), (8, .i (h.length : Int)), (9, .i ((i : Nat) : Int))], [(4, ⟨36, .fix [.i ((List.getD h i default).proc), .i ((List.getD h i default).obj), .i ((List.getD h i default).kind), .i ((List.getD h i default).arg), .i ((List.getD h i default).ret), .i ((List.getD h i default).frm), .i ((List.getD h i default).to)]⟩)], [4, 999]⟩)
    (True ∧ (True ∧ True ∧ (0 ≤ ((i : Nat) : Int)) ∧ (((i : Nat) : Int) < (h.length : Int))) ∧ True ∧ True ∧ True ∧ (True ∧ True) ∧ True) (by kernel_rfl)
    ⟨tt, ⟨tt, tt, (by omega), (by omega)⟩, tt, tt, tt, ⟨tt, tt⟩, tt⟩ ?_
   refine W.K cok tab26 hnt [] [0, 4, 7, 8, 9, 16, 17, 18] (⟨[(0, .sl (.calls h)), (4, .ptr 4 0), (7, .sl (.calls h)), (8, .i (h.length : Int)), (9, .i ((i : Nat) : Int)), (16, .sl (.calls (List.take i h))), (17, .i (((List.length (List.take i h)) : Nat) : Int)), (18, .i (0 : Int))], [(4, ⟨36, .fix [.i ((List.getD h i default).proc), .i ((List.getD h i default).obj), .i ((List.getD h i default).kind), .i ((List.getD h i default).arg), .i ((List.getD h i default).ret), .i ((List.getD h i default).frm), .i ((List.getD h i default).to)]⟩)], [4, 999]⟩)
    (True ∧ True ∧ (True ∧ True ∧ True ∧ (0 ≤ (0 : Int)) ∧ ((0 : Int) ≤ ((i : Nat) : Int)) ∧ (((i : Nat) : Int) ≤ (h.length : Int))) ∧ True ∧ True ∧ True) (by kernel_rfl)
    ⟨tt, tt, ⟨tt, tt, tt, (by omega), (by omega), (by omega)⟩, tt, tt, tt⟩ ?_
   refine W.block ?_
   refine W.loop (ι := Nat) (fun (k : Nat) => (⟨[(0, .sl (.calls h)), (4, .ptr 4 0), (7, .sl (.calls h)), (8, .i (h.length : Int)), (9, .i ((i : Nat) : Int)), (16, .sl (.calls (List.take i h))), (17, .i (((List.length (List.take i h)) : Nat) : Int)), (18, .i ((k : Nat) : Int))], [(4, ⟨36, .fix [.i ((List.getD h i default).proc), .i ((List.getD h i default).obj), .i ((List.getD h i default).kind), .i ((List.getD h i default).arg), .i ((List.getD h i default).ret), .i ((List.getD h i default).frm), .i ((List.getD h i default).to)]⟩)], [4, 999]⟩ : St))
    (fun (k : Nat) => (k ≤ i) ∧ (∀ j, j < k → (!doOverlap (callAt h i) (callAt h j)) = true))
    (fun (k : Nat) => (i - k : Nat)) (0) ?_ ?_ ?_
   ·exact (show (0 ≤ i) ∧ (∀ j, j < 0 → (!doOverlap (callAt h i) (callAt h j)) = true) from ⟨(by first | assumption | omega | rfl | (intro _ hjj; omega) | (simp; done) | (simp; omega)), (by exact upto_zero)⟩)
   ·exact Sub.of [] (@cast ((((.calls h : Dat) = .calls h) ∧ ((((4 : Nat) = 4) ∧ (((0 : Nat) = 0) ∧ ((4 : Nat) ∈ ([4, 999] : List Nat)))) ∧ (((.calls h : Dat) = .calls h) ∧ (((.int .i64 (h.length : Int) : Value) = .int .i64 (h.length : Int)) ∧ (((.int .i64 ((i : Nat) : Int) : Value) = .int .i64 ((i : Nat) : Int)) ∧ (((.calls (List.take i h) : Dat) = .calls (List.take i h)) ∧ (((.int .i64 (((List.length (List.take i h)) : Nat) : Int) : Value) = .int .i64 (((List.length (List.take i h)) : Nat) : Int)) ∧ (((.int .i64 (0 : Int) : Value) = .int .i64 ((0 : Nat) : Int)) ∧ True)))))))) ∧ (((((36 : Nat) = 36) ∧ ((((.int .i64 ((List.getD h i default).proc) : Value) = .int .i64 ((List.getD h i default).proc)) ∧ (((.int .i64 ((List.getD h i default).obj) : Value) = .int .i64 ((List.getD h i default).obj)) ∧ (((.int .i64 ((List.getD h i default).kind) : Value) = .int .i64 ((List.getD h i default).kind)) ∧ (((.int .i64 ((List.getD h i default).arg) : Value) = .int .i64 ((List.getD h i default).arg)) ∧ (((.int .i64 ((List.getD h i default).ret) : Value) = .int .i64 ((List.getD h i default).ret)) ∧ (((.int .i64 ((List.getD h i default).frm) : Value) = .int .i64 ((List.getD h i default).frm)) ∧ (((.int .i64 ((List.getD h i default).to) : Value) = .int .i64 ((List.getD h i default).to)) ∧ True))))))) ∧ ((4 : Nat) ∈ ([4, 999] : List Nat)))) ∧ True) ∧ ((true = true) ∧ (true = true)))) _ (by kernel_rfl) ⟨⟨rfl, ⟨rfl, rfl, (by decide)⟩, rfl, rfl, rfl, rfl, rfl, (congrArg (Value.int .i64) (by first | rfl | omega | assumption | simp | simp_all)), tt⟩, ⟨⟨rfl, ⟨rfl, rfl, rfl, rfl, rfl, rfl, rfl, tt⟩, (by decide)⟩, tt⟩, rfl, rfl⟩)
   ·rintro k hC0
    have hC : (k ≤ i) ∧ (∀ j, j < k → (!doOverlap (callAt h i) (callAt h j)) = true) := hC0
    clear hC0
    obtain ⟨hk, hB⟩ := hC
    refine W.to (⟨[(0, .sl (.calls h)), (4, .ptr 4 0), (7, .sl (.calls h)), (8, .i (h.length : Int)), (9, .i ((i : Nat) : Int)), (16, .sl (.calls (List.take i h))), (17, .i (((List.length (List.take i h)) : Nat) : Int)), (18, .i ((k : Nat) : Int))], [(4, ⟨36, .fix [.i ((List.getD h i default).proc), .i ((List.getD h i default).obj), .i ((List.getD h i default).kind), .i ((List.getD h i default).arg), .i ((List.getD h i default).ret), .i ((List.getD h i default).frm), .i ((List.getD h i default).to)]⟩)], [4, 999]⟩) rfl ?_
    refine W.K cok tab26 hnt [] [0, 4, 7, 8, 9, 16, 17, 18, 19] (⟨[(0, .sl (.calls h)), (4, .ptr 4 0), (7, .sl (.calls h)), (8, .i (h.length : Int)), (9, .i ((i : Nat) : Int)), (16, .sl (.calls (List.take i h))), (17, .i (((List.length (List.take i h)) : Nat) : Int)), (18, .i ((k : Nat) : Int)), (19, .b (decide (((k : Nat) : Int) < (((List.length (List.take i h)) : Nat) : Int))))], [(4, ⟨36, .fix [.i ((List.getD h i default).proc), .i ((List.getD h i default).obj), .i ((List.getD h i default).kind), .i ((List.getD h i default).arg), .i ((List.getD h i default).ret), .i ((List.getD h i default).frm), .i ((List.getD h i default).to)]⟩)], [4, 999]⟩)
     ((True ∧ True ∧ True) ∧ True) (by kernel_rfl)
     ⟨⟨tt, tt, tt⟩, tt⟩ ?_
    refine W.seq ?_
    refine W.ifP (((k : Nat) : Int) < (((List.length (List.take i h)) : Nat) : Int)) (.b (decide (((k : Nat) : Int) < (((List.length (List.take i h)) : Nat) : Int)))) (by kernel_rfl) rfl trivial ?_ ?_
    ·intro h19
     have h19' := h19
     simp only [List.length_append, List.length_cons, List.length_nil, List.length_take, List.length_drop, List.length_set, List.length_replicate, List.length_map] at h19'
     refine W.skip (thenQ_normal ?_)
     refine W.seq ?_
     refine W.block ?_
     refine W.K cok tab26 hnt [] [0, 4, 6, 7, 8, 9, 16, 17, 18] (⟨[(0, .sl (.calls h)), (4, .ptr 4 0), (6, .ptr 6 0), (7, .sl (.calls h)), (8, .i (h.length : Int)), (9, .i ((i : Nat) : Int)), (16, .sl (.calls (List.take i h))), (17, .i (((List.length (List.take i h)) : Nat) : Int)), (18, .i ((k : Nat) : Int))], [(4, ⟨36, .fix [.i ((List.getD h i default).proc), .i ((List.getD h i default).obj), .i ((List.getD h i default).kind), .i ((List.getD h i default).arg), .i ((List.getD h i default).ret), .i ((List.getD h i default).frm), .i ((List.getD h i default).to)]⟩), (6, ⟨36, .fix [.i ((List.getD (List.take i h) k default).proc), .i ((List.getD (List.take i h) k default).obj), .i ((List.getD (List.take i h) k default).kind), .i ((List.getD (List.take i h) k default).arg), .i ((List.getD (List.take i h) k default).ret), .i ((List.getD (List.take i h) k default).frm), .i ((List.getD (List.take i h) k default).to)]⟩)], [6, 4, 999]⟩)
      ((True ∧ True ∧ (0 ≤ ((k : Nat) : Int)) ∧ (((k : Nat) : Int) < (((List.length (List.take i h)) : Nat) : Int))) ∧ True ∧ True ∧ (True ∧ True) ∧ True) (by kernel_rfl)
      ⟨⟨tt, tt, (by omega), (by (first | omega | (simp only [List.length_append, List.length_cons, List.length_nil, List.length_take, List.length_drop, List.length_set, List.length_replicate, List.length_map] at *; omega) | assumption))⟩, tt, tt, ⟨tt, tt⟩, tt⟩ ?_
     refine W.K cok tab26 hnt [] [0, 4, 7, 8, 9, 16, 17, 18, 24] (⟨[(0, .sl (.calls h)), (4, .ptr 4 0), (7, .sl (.calls h)), (8, .i (h.length : Int)), (9, .i ((i : Nat) : Int)), (16, .sl (.calls (List.take i h))), (17, .i (((List.length (List.take i h)) : Nat) : Int)), (18, .i ((k : Nat) : Int)), (24, .b (doOverlap (List.getD h i default) (List.getD (List.take i h) k default)))], [(4, ⟨36, .fix [.i ((List.getD h i default).proc), .i ((List.getD h i default).obj), .i ((List.getD h i default).kind), .i ((List.getD h i default).arg), .i ((List.getD h i default).ret), .i ((List.getD h i default).frm), .i ((List.getD h i default).to)]⟩), (6, ⟨36, .fix [.i ((List.getD (List.take i h) k default).proc), .i ((List.getD (List.take i h) k default).obj), .i ((List.getD (List.take i h) k default).kind), .i ((List.getD (List.take i h) k default).arg), .i ((List.getD (List.take i h) k default).ret), .i ((List.getD (List.take i h) k default).frm), .i ((List.getD (List.take i h) k default).to)]⟩)], [6, 4, 999]⟩)
      (True ∧ True ∧ (True ∧ (True ∧ True ∧ True) ∧ True) ∧ True) (by kernel_rfl)
      ⟨tt, tt, ⟨tt, ⟨tt, tt, tt⟩, tt⟩, tt⟩ ?_
     refine W.if' (doOverlap (List.getD h i default) (List.getD (List.take i h) k default)) (.b (doOverlap (List.getD h i default) (List.getD (List.take i h) k default))) (by kernel_rfl) rfl trivial ?_ ?_
     ·intro h24
      refine W.K cok tab26 hnt [] [2] (⟨[(2, .b false)], [(4, ⟨36, .fix [.i ((List.getD h i default).proc), .i ((List.getD h i default).obj), .i ((List.getD h i default).kind), .i ((List.getD h i default).arg), .i ((List.getD h i default).ret), .i ((List.getD h i default).frm), .i ((List.getD h i default).to)]⟩), (6, ⟨36, .fix [.i ((List.getD (List.take i h) k default).proc), .i ((List.getD (List.take i h) k default).obj), .i ((List.getD (List.take i h) k default).kind), .i ((List.getD (List.take i h) k default).arg), .i ((List.getD (List.take i h) k default).ret), .i ((List.getD (List.take i h) k default).frm), .i ((List.getD (List.take i h) k default).to)]⟩)], [6, 4, 999]⟩)
       (True ∧ True) (by kernel_rfl)
       ⟨tt, tt⟩ ?_
      refine W.ret (blockQ_ret (thenQ_ret (thenQ_ret (blockQ_ret (blockQ_ret (thenQ_ret (thenQ_ret (blockQ_ret (thenQ_ret ?_)))))))))
      exact endQ_ret (.b false) (by kernel_rfl) (@cast ((.bool false : Value) = .bool (oneByOne h)) _ (by kernel_rfl) (congrArg Value.bool (by unfold oneByOne; symm; rw [getD_take h (default : CallD) (show k < i by omega)] at h24; exact and_fl (allN_false (i := i) (by omega) (allN_false (i := k) (by omega) (not_h h24))))))
     ·intro n24
      refine W.skip (blockQ_normal (thenQ_normal ?_))
      refine W.L cok tab26 hnt [] (⟨[(0, .sl (.calls h)), (4, .ptr 4 0), (7, .sl (.calls h)), (8, .i (h.length : Int)), (9, .i ((i : Nat) : Int)), (16, .sl (.calls (List.take i h))), (17, .i (((List.length (List.take i h)) : Nat) : Int)), (18, .i (((k + 1) : Nat) : Int)), (24, .b (doOverlap (List.getD h i default) (List.getD (List.take i h) k default))), (25, .i (((k + 1) : Nat) : Int))], [(4, ⟨36, .fix [.i ((List.getD h i default).proc), .i ((List.getD h i default).obj), .i ((List.getD h i default).kind), .i ((List.getD h i default).arg), .i ((List.getD h i default).ret), .i ((List.getD h i default).frm), .i ((List.getD h i default).to)]⟩), (6, ⟨36, .fix [.i ((List.getD (List.take i h) k default).proc), .i ((List.getD (List.take i h) k default).obj), .i ((List.getD (List.take i h) k default).kind), .i ((List.getD (List.take i h) k default).arg), .i ((List.getD (List.take i h) k default).ret), .i ((List.getD (List.take i h) k default).frm), .i ((List.getD (List.take i h) k default).to)]⟩)], [6, 4, 999]⟩)
       ((True ∧ True ∧ (Fits .i64 (((k + 1) : Nat) : Int))) ∧ True ∧ True) (by kernel_rfl)
       ⟨⟨tt, tt, (by exact fits_i64 (by omega) (by omega))⟩, tt, tt⟩ ?_
      refine thenQ_normal ?_
      refine ⟨((k + 1)), (show ((k + 1) ≤ i) ∧ (∀ j, j < (k + 1) → (!doOverlap (callAt h i) (callAt h j)) = true) from ⟨(by first | assumption | omega | rfl | (intro _ hjj; omega) | (simp; done) | (simp; omega)), (by rw [getD_take h (default : CallD) (show k < i by omega)] at n24; exact upto_succ hB (not_t n24))⟩), (show i - (k + 1) < i - k from (by first | omega | (simp_all; omega))), ?_⟩
      exact Sub.of [] (@cast ((((.calls h : Dat) = .calls h) ∧ ((((4 : Nat) = 4) ∧ (((0 : Nat) = 0) ∧ ((4 : Nat) ∈ ([4, 999] : List Nat)))) ∧ (((.calls h : Dat) = .calls h) ∧ (((.int .i64 (h.length : Int) : Value) = .int .i64 (h.length : Int)) ∧ (((.int .i64 ((i : Nat) : Int) : Value) = .int .i64 ((i : Nat) : Int)) ∧ (((.calls (List.take i h) : Dat) = .calls (List.take i h)) ∧ (((.int .i64 (((List.length (List.take i h)) : Nat) : Int) : Value) = .int .i64 (((List.length (List.take i h)) : Nat) : Int)) ∧ (((.int .i64 (((k + 1) : Nat) : Int) : Value) = .int .i64 (((k + 1) : Nat) : Int)) ∧ True)))))))) ∧ (((((36 : Nat) = 36) ∧ ((((.int .i64 ((List.getD h i default).proc) : Value) = .int .i64 ((List.getD h i default).proc)) ∧ (((.int .i64 ((List.getD h i default).obj) : Value) = .int .i64 ((List.getD h i default).obj)) ∧ (((.int .i64 ((List.getD h i default).kind) : Value) = .int .i64 ((List.getD h i default).kind)) ∧ (((.int .i64 ((List.getD h i default).arg) : Value) = .int .i64 ((List.getD h i default).arg)) ∧ (((.int .i64 ((List.getD h i default).ret) : Value) = .int .i64 ((List.getD h i default).ret)) ∧ (((.int .i64 ((List.getD h i default).frm) : Value) = .int .i64 ((List.getD h i default).frm)) ∧ (((.int .i64 ((List.getD h i default).to) : Value) = .int .i64 ((List.getD h i default).to)) ∧ True))))))) ∧ ((4 : Nat) ∈ ([4, 999] : List Nat)))) ∧ True) ∧ ((true = true) ∧ (true = true)))) _ (by kernel_rfl) ⟨⟨rfl, ⟨rfl, rfl, (by decide)⟩, rfl, rfl, rfl, rfl, rfl, rfl, tt⟩, ⟨⟨rfl, ⟨rfl, rfl, rfl, rfl, rfl, rfl, rfl, tt⟩, (by decide)⟩, tt⟩, rfl, rfl⟩)
    ·intro n19
     have n19' := n19
     simp only [List.length_append, List.length_cons, List.length_nil, List.length_take, List.length_drop, List.length_set, List.length_replicate, List.length_map] at n19'
     refine W.exit (thenQ_exit (thenQ_exit (blockQ_hit ?_)))
     refine blockQ_normal (thenQ_normal ?_)
     refine W.L cok tab26 hnt [] (⟨[(0, .sl (.calls h)), (4, .ptr 4 0), (7, .sl (.calls h)), (8, .i (h.length : Int)), (9, .i (((i + 1) : Nat) : Int)), (16, .sl (.calls (List.take i h))), (17, .i (((List.length (List.take i h)) : Nat) : Int)), (18, .i ((k : Nat) : Int)), (19, .b (decide (((k : Nat) : Int) < (((List.length (List.take i h)) : Nat) : Int)))), (26, .i (((i + 1) : Nat) : Int))], [(4, ⟨36, .fix [.i ((List.getD h i default).proc), .i ((List.getD h i default).obj), .i ((List.getD h i default).kind), .i ((List.getD h i default).arg), .i ((List.getD h i default).ret), .i ((List.getD h i default).frm), .i ((List.getD h i default).to)]⟩)], [4, 999]⟩)
      ((True ∧ True ∧ (Fits .i64 (((i + 1) : Nat) : Int))) ∧ True ∧ True) (by kernel_rfl)
      ⟨⟨tt, tt, (by exact fits_i64 (by omega) (by omega))⟩, tt, tt⟩ ?_
     refine thenQ_normal ?_
     refine ⟨((i + 1)), (show ((i + 1) ≤ h.length) ∧ (∀ j, j < (i + 1) → allN j (fun kk => !doOverlap (callAt h j) (callAt h kk)) = true) from ⟨(by first | assumption | omega | rfl | (intro _ hjj; omega) | (simp; done) | (simp; omega)), (by exact upto_succ hA (allN_true (fun j hj => hB j (by omega))))⟩), (show h.length - (i + 1) < h.length - i from (by first | omega | (simp_all; omega))), ?_⟩
     exact Sub.of [] (@cast ((((.calls h : Dat) = .calls h) ∧ (((.calls h : Dat) = .calls h) ∧ (((.int .i64 (h.length : Int) : Value) = .int .i64 (h.length : Int)) ∧ (((.int .i64 (((i + 1) : Nat) : Int) : Value) = .int .i64 (((i + 1) : Nat) : Int)) ∧ True)))) ∧ (True ∧ ((true = true) ∧ (true = true)))) _ (by kernel_rfl) ⟨⟨rfl, rfl, rfl, rfl, tt⟩, tt, rfl, rfl⟩)
  ·intro n10
   refine W.exit (thenQ_exit (thenQ_exit (blockQ_hit ?_)))
   refine thenQ_normal ?_
   refine W.K cok tab26 hnt [] [2] (⟨[(2, .b (validHistory h))], [], [999]⟩)
    (True ∧ (True ∧ (True ∧ True) ∧ True) ∧ True ∧ True) (by kernel_rfl)
    ⟨tt, ⟨tt, ⟨tt, tt⟩, tt⟩, tt, tt⟩ ?_
   refine W.ret ?_
   exact endQ_ret (.b (validHistory h)) (by kernel_rfl) (@cast ((.bool (validHistory h) : Value) = .bool (oneByOne h)) _ (by kernel_rfl) (congrArg Value.bool (by unfold oneByOne; symm; rw [allN_true (fun j hj => hA j (by omega)), Bool.true_and])))
theorem ent26 : Entr prog 26 := ⟨_, func26, rfl, by decide⟩
end Go.Proofs.Try

set_option linter.unusedSimpArgs false
set_option linter.unusedVariables false
namespace Go.Proofs.Try
open Go.Ab Go.RowKit
def fs83 : FnS := fnS [.o, .o, .o] [.int, .int, (.ep .calls)] (fun _ (i, k, h, _) => (.b (aheadF h i.toNat k.toNat), [], (0 ≤ i ∧ i < h.length) ∧ (0 ≤ k ∧ k < h.length)))
abbrev T83 : Tab := lk [(62, fs62)]
theorem tab83 : TabOK prog T83 := (TabOK.cons ok62 ent62 TabOK.nil)
set_option maxRecDepth 100000 in
set_option maxHeartbeats 1000000 in
theorem ok83 : FnOK prog 83 fs83 := by
 refine FnOK.mk cok func83 rfl rfl rfl ?_
 rintro fl ⟨(i : Int), (k : Int), (h : List CallD), _⟩ hpre F hnt0 _
 have hnt : F.nt = 15 := hnt0.trans ntmps83
 replace hpre : (0 ≤ i ∧ i < h.length) ∧ (0 ≤ k ∧ k < h.length) := hpre
 obtain ⟨hi, hk⟩ := hpre
 refine W.to (⟨[(0, .i i), (1, .i k), (2, .ep [.sl (.calls h)])], [], [999]⟩) rfl ?_
 refine W.K cok tab83 hnt [] [0, 1, 2] (⟨[(0, .i i), (1, .i k), (2, .ep [.sl (.calls h)])], [], [999]⟩)
  (True ∧ True) (by kernel_rfl)
  ⟨tt, tt⟩ ?_
 refine W.KA cok tab83 hnt [] [5] (⟨[(5, .b (isBefore (List.getD h (Int.toNat k) default) (List.getD h (Int.toNat i) default)))], [], [999]⟩)
  (True ∧ True ∧ (True ∧ True ∧ (0 ≤ k) ∧ (k < (h.length : Int))) ∧ True ∧ True ∧ True ∧ (True ∧ True ∧ (0 ≤ i) ∧ (i < (h.length : Int))) ∧ True ∧ (True ∧ (True ∧ True ∧ True) ∧ True) ∧ True ∧ True) (by kernel_rfl) (by kernel_rfl)
  ⟨tt, tt, ⟨tt, tt, (by omega), (by omega)⟩, tt, tt, tt, ⟨tt, tt, (by omega), (by omega)⟩, tt, ⟨tt, ⟨tt, tt, tt⟩, tt⟩, tt, tt⟩ ?_
 refine W.ret ?_
 exact endQ_ret (.b (isBefore (List.getD h (Int.toNat k) default) (List.getD h (Int.toNat i) default))) (by kernel_rfl) (@cast ((.bool (isBefore (List.getD h (Int.toNat k) default) (List.getD h (Int.toNat i) default)) : Value) = .bool (aheadF h i.toNat k.toNat)) _ (by kernel_rfl) (congrArg Value.bool (by first | rfl | simp_all)))
theorem ent83 : Entr prog 83 := ⟨_, func83, rfl, by decide⟩
end Go.Proofs.Try

set_option linter.unusedSimpArgs false
set_option linter.unusedVariables false
namespace Go.Proofs.Try
open Go.Ab Go.RowKit
def fs60AheadOf : FnS := fnS [.o, .o] [.int, (.fn1 83 (.ep .calls))] (fun _ (n, h, _) => (.sl (.ints (rowsOf n.toNat (aheadF h))), [], (0 ≤ n ∧ n ≤ 60 ∧ n = h.length)))
abbrev T60AheadOf : Tab := lk [(83, fs83)]
theorem tab60AheadOf : TabOK prog T60AheadOf := (TabOK.cons ok83 ent83 TabOK.nil)
set_option maxRecDepth 100000 in
set_option maxHeartbeats 1000000 in
theorem ok60AheadOf : FnOK prog 60 fs60AheadOf := by
 refine FnOK.mk cok func60 rfl rfl rfl ?_
 rintro fl ⟨(n : Int), (h : List CallD), _⟩ hpre F hnt0 _
 have hnt : F.nt = 35 := hnt0.trans ntmps60
 replace hpre : (0 ≤ n ∧ n ≤ 60 ∧ n = h.length) := hpre
 have hn := hpre
 refine W.to (⟨[(0, .i n), (1, .fn 83 [.ep [.sl (.calls h)]])], [], [999]⟩) rfl ?_
 refine W.K cok tab60AheadOf hnt [] [0, 1] (⟨[(0, .i n), (1, .fn 83 [.ep [.sl (.calls h)]])], [], [999]⟩)
  (True ∧ True) (by kernel_rfl)
  ⟨tt, tt⟩ ?_
 refine W.K cok tab60AheadOf hnt [9] [0, 1, 5] (⟨[(0, .i n), (1, .fn 83 [.ep [.sl (.calls h)]]), (5, .own 9 (List.length (List.replicate (Int.toNat n) (0 : Int))))], [(9, ⟨3, .row (.ints (List.replicate (Int.toNat n) (0 : Int)))⟩)], [9, 999]⟩)
  (True ∧ (True ∧ True ∧ (n = n) ∧ (0 ≤ n) ∧ (n * 8 ≤ 281474976710656)) ∧ True ∧ True) (by kernel_rfl)
  ⟨tt, ⟨tt, tt, rfl, (by omega), (by omega)⟩, tt, tt⟩ ?_
 refine W.seq ?_
 refine W.K cok tab60AheadOf hnt [] [0, 1, 5, 11, 12] (⟨[(0, .i n), (1, .fn 83 [.ep [.sl (.calls h)]]), (5, .own 9 (List.length (List.replicate (Int.toNat n) (0 : Int)))), (11, .i (((List.length (List.replicate (Int.toNat n) (0 : Int))) : Nat) : Int)), (12, .i (0 : Int))], [(9, ⟨3, .row (.ints (List.replicate (Int.toNat n) (0 : Int)))⟩)], [9, 999]⟩)
  (True ∧ True ∧ True ∧ True) (by kernel_rfl)
  ⟨tt, tt, tt, tt⟩ ?_
 refine W.block ?_
 refine W.loop (ι := Nat × (List Int)) (fun (x : Nat × (List Int)) => match x with | (i, o) => (⟨[(0, .i n), (1, .fn 83 [.ep [.sl (.calls h)]]), (5, .own 9 o.length), (11, .i (((List.length (List.replicate (Int.toNat n) (0 : Int))) : Nat) : Int)), (12, .i ((i : Nat) : Int))], [(9, ⟨3, .row (.ints o)⟩)], [9, 999]⟩ : St))
  (fun (x : Nat × (List Int)) => match x with | (i, o) => (i ≤ n.toNat) ∧ (o = partRows n.toNat (aheadF h) i 0))
  (fun (x : Nat × (List Int)) => match x with | (i, o) => (n.toNat - i : Nat)) (0, (List.replicate (Int.toNat n) (0 : Int))) ?_ ?_ ?_
 ·exact (show (0 ≤ n.toNat) ∧ ((List.replicate (Int.toNat n) (0 : Int)) = partRows n.toNat (aheadF h) 0 0) from ⟨(by first | assumption | omega | rfl | (intro _ hjj; omega) | (simp; done) | (simp; omega)), (by exact partRows_zero _ _)⟩)
 ·exact Sub.of [] (@cast ((((.int .i64 n : Value) = .int .i64 n) ∧ ((((83 : Nat) = 83) ∧ ((((.ep [.sl (.calls h)] : AV) = .ep [.sl (.calls h)]) ∧ (([] : List Nat) = [])) ∧ True)) ∧ ((((9 : Nat) = 9) ∧ (((List.length (List.replicate (Int.toNat n) (0 : Int))) = (List.length (List.replicate (Int.toNat n) (0 : Int)))) ∧ ((9 : Nat) ∈ ([9, 999] : List Nat)))) ∧ (((.int .i64 (((List.length (List.replicate (Int.toNat n) (0 : Int))) : Nat) : Int) : Value) = .int .i64 (((List.length (List.replicate (Int.toNat n) (0 : Int))) : Nat) : Int)) ∧ (((.int .i64 (0 : Int) : Value) = .int .i64 ((0 : Nat) : Int)) ∧ True))))) ∧ (((((3 : Nat) = 3) ∧ (((.ints (List.replicate (Int.toNat n) (0 : Int)) : Dat) = .ints (List.replicate (Int.toNat n) (0 : Int))) ∧ ((9 : Nat) ∈ ([9, 999] : List Nat)))) ∧ True) ∧ ((true = true) ∧ (true = true)))) _ (by kernel_rfl) ⟨⟨rfl, ⟨rfl, ⟨rfl, rfl⟩, tt⟩, ⟨rfl, rfl, (by decide)⟩, rfl, (congrArg (Value.int .i64) (by first | rfl | omega | assumption | simp | simp_all)), tt⟩, ⟨⟨rfl, rfl, (by decide)⟩, tt⟩, rfl, rfl⟩)
 ·rintro ⟨i, o⟩ hC0
  have hC : (i ≤ n.toNat) ∧ (o = partRows n.toNat (aheadF h) i 0) := hC0
  clear hC0
  obtain ⟨hi, ho⟩ := hC
  refine W.to (⟨[(0, .i n), (1, .fn 83 [.ep [.sl (.calls h)]]), (5, .own 9 o.length), (11, .i (((List.length (List.replicate (Int.toNat n) (0 : Int))) : Nat) : Int)), (12, .i ((i : Nat) : Int))], [(9, ⟨3, .row (.ints o)⟩)], [9, 999]⟩) rfl ?_
  have hol : o.length = n.toNat := by rw [ho]; exact partRows_len _ _ _ _
  refine W.K cok tab60AheadOf hnt [] [0, 1, 5, 11, 12, 13] (⟨[(0, .i n), (1, .fn 83 [.ep [.sl (.calls h)]]), (5, .own 9 o.length), (11, .i (((List.length (List.replicate (Int.toNat n) (0 : Int))) : Nat) : Int)), (12, .i ((i : Nat) : Int)), (13, .b (decide (((i : Nat) : Int) < (((List.length (List.replicate (Int.toNat n) (0 : Int))) : Nat) : Int))))], [(9, ⟨3, .row (.ints o)⟩)], [9, 999]⟩)
   ((True ∧ True ∧ True) ∧ True) (by kernel_rfl)
   ⟨⟨tt, tt, tt⟩, tt⟩ ?_
  refine W.seq ?_
  refine W.ifP (((i : Nat) : Int) < (((List.length (List.replicate (Int.toNat n) (0 : Int))) : Nat) : Int)) (.b (decide (((i : Nat) : Int) < (((List.length (List.replicate (Int.toNat n) (0 : Int))) : Nat) : Int)))) (by kernel_rfl) rfl trivial ?_ ?_
  ·intro h13
   have h13' := h13
   simp only [List.length_append, List.length_cons, List.length_nil, List.length_take, List.length_drop, List.length_set, List.length_replicate, List.length_map] at h13'
   refine W.skip (thenQ_normal ?_)
   refine W.seq ?_
   refine W.block ?_
   refine W.K cok tab60AheadOf hnt [] [0, 1, 5, 6, 11, 12] (⟨[(0, .i n), (1, .fn 83 [.ep [.sl (.calls h)]]), (5, .own 9 o.length), (6, .i ((i : Nat) : Int)), (11, .i (((List.length (List.replicate (Int.toNat n) (0 : Int))) : Nat) : Int)), (12, .i ((i : Nat) : Int))], [(9, ⟨3, .row (.ints o)⟩)], [9, 999]⟩)
    (True ∧ True ∧ True) (by kernel_rfl)
    ⟨tt, tt, tt⟩ ?_
   refine W.K cok tab60AheadOf hnt [] [0, 1, 5, 6, 11, 12, 15, 16] (⟨[(0, .i n), (1, .fn 83 [.ep [.sl (.calls h)]]), (5, .own 9 o.length), (6, .i ((i : Nat) : Int)), (11, .i (((List.length (List.replicate (Int.toNat n) (0 : Int))) : Nat) : Int)), (12, .i ((i : Nat) : Int)), (15, .i n), (16, .i (0 : Int))], [(9, ⟨3, .row (.ints o)⟩)], [9, 999]⟩)
    (True ∧ True ∧ True) (by kernel_rfl)
    ⟨tt, tt, tt⟩ ?_
   refine W.block ?_
   refine W.loop (ι := Nat × (List Int)) (fun (x : Nat × (List Int)) => match x with | (k, x) => (⟨[(0, .i n), (1, .fn 83 [.ep [.sl (.calls h)]]), (5, .own 9 o.length), (6, .i ((i : Nat) : Int)), (11, .i (((List.length (List.replicate (Int.toNat n) (0 : Int))) : Nat) : Int)), (12, .i ((i : Nat) : Int)), (15, .i n), (16, .i ((k : Nat) : Int))], [(9, ⟨3, .row (.ints x)⟩)], [9, 999]⟩ : St))
    (fun (x : Nat × (List Int)) => match x with | (k, x) => (k ≤ n.toNat) ∧ (x = partRows n.toNat (aheadF h) i k))
    (fun (x : Nat × (List Int)) => match x with | (k, x) => (n.toNat - k : Nat)) (0, o) ?_ ?_ ?_
   ·exact (show (0 ≤ n.toNat) ∧ (o = partRows n.toNat (aheadF h) i 0) from ⟨(by first | assumption | omega | rfl | (intro _ hjj; omega) | (simp; done) | (simp; omega)), (by exact ho)⟩)
   ·exact Sub.of [] (@cast ((((.int .i64 n : Value) = .int .i64 n) ∧ ((((83 : Nat) = 83) ∧ ((((.ep [.sl (.calls h)] : AV) = .ep [.sl (.calls h)]) ∧ (([] : List Nat) = [])) ∧ True)) ∧ ((((9 : Nat) = 9) ∧ ((o.length = o.length) ∧ ((9 : Nat) ∈ ([9, 999] : List Nat)))) ∧ (((.int .i64 ((i : Nat) : Int) : Value) = .int .i64 ((i : Nat) : Int)) ∧ (((.int .i64 (((List.length (List.replicate (Int.toNat n) (0 : Int))) : Nat) : Int) : Value) = .int .i64 (((List.length (List.replicate (Int.toNat n) (0 : Int))) : Nat) : Int)) ∧ (((.int .i64 ((i : Nat) : Int) : Value) = .int .i64 ((i : Nat) : Int)) ∧ (((.int .i64 n : Value) = .int .i64 n) ∧ (((.int .i64 (0 : Int) : Value) = .int .i64 ((0 : Nat) : Int)) ∧ True)))))))) ∧ (((((3 : Nat) = 3) ∧ (((.ints o : Dat) = .ints o) ∧ ((9 : Nat) ∈ ([9, 999] : List Nat)))) ∧ True) ∧ ((true = true) ∧ (true = true)))) _ (by kernel_rfl) ⟨⟨rfl, ⟨rfl, ⟨rfl, rfl⟩, tt⟩, ⟨rfl, rfl, (by decide)⟩, rfl, rfl, rfl, rfl, (congrArg (Value.int .i64) (by first | rfl | omega | assumption | simp | simp_all)), tt⟩, ⟨⟨rfl, rfl, (by decide)⟩, tt⟩, rfl, rfl⟩)
   ·rintro ⟨k, x⟩ hC0
    have hC : (k ≤ n.toNat) ∧ (x = partRows n.toNat (aheadF h) i k) := hC0
    clear hC0
    obtain ⟨hk, hx⟩ := hC
    refine W.to (⟨[(0, .i n), (1, .fn 83 [.ep [.sl (.calls h)]]), (5, .own 9 o.length), (6, .i ((i : Nat) : Int)), (11, .i (((List.length (List.replicate (Int.toNat n) (0 : Int))) : Nat) : Int)), (12, .i ((i : Nat) : Int)), (15, .i n), (16, .i ((k : Nat) : Int))], [(9, ⟨3, .row (.ints x)⟩)], [9, 999]⟩) rfl ?_
    have hxl : x.length = n.toNat := by rw [hx]; exact partRows_len _ _ _ _
    refine W.K cok tab60AheadOf hnt [] [0, 1, 5, 6, 11, 12, 15, 16, 17] (⟨[(0, .i n), (1, .fn 83 [.ep [.sl (.calls h)]]), (5, .own 9 o.length), (6, .i ((i : Nat) : Int)), (11, .i (((List.length (List.replicate (Int.toNat n) (0 : Int))) : Nat) : Int)), (12, .i ((i : Nat) : Int)), (15, .i n), (16, .i ((k : Nat) : Int)), (17, .b (decide (((k : Nat) : Int) < n)))], [(9, ⟨3, .row (.ints x)⟩)], [9, 999]⟩)
     ((True ∧ True ∧ True) ∧ True) (by kernel_rfl)
     ⟨⟨tt, tt, tt⟩, tt⟩ ?_
    refine W.seq ?_
    refine W.ifP (((k : Nat) : Int) < n) (.b (decide (((k : Nat) : Int) < n))) (by kernel_rfl) rfl trivial ?_ ?_
    ·intro h17
     refine W.skip (thenQ_normal ?_)
     refine W.seq ?_
     refine W.block ?_
     refine W.K cok tab60AheadOf hnt [] [0, 1, 5, 6, 7, 11, 12, 15, 16] (⟨[(0, .i n), (1, .fn 83 [.ep [.sl (.calls h)]]), (5, .own 9 o.length), (6, .i ((i : Nat) : Int)), (7, .i ((k : Nat) : Int)), (11, .i (((List.length (List.replicate (Int.toNat n) (0 : Int))) : Nat) : Int)), (12, .i ((i : Nat) : Int)), (15, .i n), (16, .i ((k : Nat) : Int))], [(9, ⟨3, .row (.ints x)⟩)], [9, 999]⟩)
      (True ∧ True ∧ True) (by kernel_rfl)
      ⟨tt, tt, tt⟩ ?_
     refine W.K cok tab60AheadOf hnt [] [0, 1, 5, 6, 7, 11, 12, 15, 16, 22] (⟨[(0, .i n), (1, .fn 83 [.ep [.sl (.calls h)]]), (5, .own 9 o.length), (6, .i ((i : Nat) : Int)), (7, .i ((k : Nat) : Int)), (11, .i (((List.length (List.replicate (Int.toNat n) (0 : Int))) : Nat) : Int)), (12, .i ((i : Nat) : Int)), (15, .i n), (16, .i ((k : Nat) : Int)), (22, .b (aheadF h ((i : Nat) : Int).toNat ((k : Nat) : Int).toNat))], [(9, ⟨3, .row (.ints x)⟩)], [9, 999]⟩)
      (True ∧ True ∧ True ∧ (True ∧ (True ∧ True ∧ True ∧ True) ∧ (0 ≤ ((i : Nat) : Int) ∧ ((i : Nat) : Int) < h.length) ∧ 0 ≤ ((k : Nat) : Int) ∧ ((k : Nat) : Int) < h.length) ∧ True) (by kernel_rfl)
      ⟨tt, tt, tt, ⟨tt, ⟨tt, tt, tt, tt⟩, (by omega), (by omega)⟩, tt⟩ ?_
     refine W.if' (aheadF h ((i : Nat) : Int).toNat ((k : Nat) : Int).toNat) (.b (aheadF h ((i : Nat) : Int).toNat ((k : Nat) : Int).toNat)) (by kernel_rfl) rfl trivial ?_ ?_
     ·intro h22
      refine W.L cok tab60AheadOf hnt [] (⟨[(0, .i n), (1, .fn 83 [.ep [.sl (.calls h)]]), (5, .own 9 o.length), (6, .i ((i : Nat) : Int)), (7, .i ((k : Nat) : Int)), (11, .i (((List.length (List.replicate (Int.toNat n) (0 : Int))) : Nat) : Int)), (12, .i ((i : Nat) : Int)), (15, .i n), (16, .i ((k : Nat) : Int)), (22, .b (aheadF h ((i : Nat) : Int).toNat ((k : Nat) : Int).toNat)), (23, .own 9 o.length), (24, .i ((i : Nat) : Int)), (25, .pel 9 1 i 0), (26, .i (List.getD x i 0)), (27, .i ((k : Nat) : Int)), (28, .v (.int .u64 ((k : Nat) : Int))), (29, .i (shlI .i64 (1 : Int) ((k : Nat) : Int))), (30, .i (bitsI .or .i64 (List.getD x i 0) (shlI .i64 (1 : Int) ((k : Nat) : Int)))), (31, .pel 9 1 i 0)], [(9, ⟨3, .row (.ints (List.set x i (bitsI .or .i64 (List.getD x i 0) (shlI .i64 (1 : Int) ((k : Nat) : Int)))))⟩)], [9, 999]⟩)
       (True ∧ True ∧ (True ∧ True ∧ (0 ≤ ((i : Nat) : Int)) ∧ (((i : Nat) : Int) < (o.length : Int))) ∧ (True ∧ (i < x.length)) ∧ True ∧ (True ∧ (Fits .u64 ((k : Nat) : Int))) ∧ (True ∧ True ∧ (0 ≤ ((k : Nat) : Int)) ∧ (Fits .i64 (shlI .i64 (1 : Int) ((k : Nat) : Int)))) ∧ (True ∧ True ∧ True) ∧ (True ∧ True ∧ (0 ≤ ((i : Nat) : Int)) ∧ (((i : Nat) : Int) < (o.length : Int))) ∧ (True ∧ True ∧ (i < x.length)) ∧ True) (by kernel_rfl)
       ⟨tt, tt, ⟨tt, tt, (by omega), (by omega)⟩, ⟨tt, (by omega)⟩, tt, ⟨tt, (by exact fits_u64 (by omega) (by omega))⟩, ⟨tt, tt, (by omega), (by exact fits_shl (by omega))⟩, ⟨tt, tt, tt⟩, ⟨tt, tt, (by omega), (by omega)⟩, ⟨tt, tt, (by omega)⟩, tt⟩ ?_
      refine blockQ_normal (thenQ_normal ?_)
      refine W.L cok tab60AheadOf hnt [] (⟨[(0, .i n), (1, .fn 83 [.ep [.sl (.calls h)]]), (5, .own 9 o.length), (6, .i ((i : Nat) : Int)), (7, .i ((k : Nat) : Int)), (11, .i (((List.length (List.replicate (Int.toNat n) (0 : Int))) : Nat) : Int)), (12, .i ((i : Nat) : Int)), (15, .i n), (16, .i (((k + 1) : Nat) : Int)), (22, .b (aheadF h ((i : Nat) : Int).toNat ((k : Nat) : Int).toNat)), (23, .own 9 o.length), (24, .i ((i : Nat) : Int)), (25, .pel 9 1 i 0), (26, .i (List.getD x i 0)), (27, .i ((k : Nat) : Int)), (28, .v (.int .u64 ((k : Nat) : Int))), (29, .i (shlI .i64 (1 : Int) ((k : Nat) : Int))), (30, .i (bitsI .or .i64 (List.getD x i 0) (shlI .i64 (1 : Int) ((k : Nat) : Int)))), (31, .pel 9 1 i 0), (32, .i (((k + 1) : Nat) : Int))], [(9, ⟨3, .row (.ints (List.set x i (bitsI .or .i64 (List.getD x i 0) (shlI .i64 (1 : Int) ((k : Nat) : Int)))))⟩)], [9, 999]⟩)
       ((True ∧ True ∧ (Fits .i64 (((k + 1) : Nat) : Int))) ∧ True ∧ True) (by kernel_rfl)
       ⟨⟨tt, tt, (by exact fits_i64 (by omega) (by omega))⟩, tt, tt⟩ ?_
      refine thenQ_normal ?_
      refine ⟨((k + 1), (List.set x i (bitsI .or .i64 (List.getD x i 0) (shlI .i64 (1 : Int) ((k : Nat) : Int))))), (show ((k + 1) ≤ n.toNat) ∧ ((List.set x i (bitsI .or .i64 (List.getD x i 0) (shlI .i64 (1 : Int) ((k : Nat) : Int)))) = partRows n.toNat (aheadF h) i (k + 1)) from ⟨(by first | assumption | omega | rfl | (intro _ hjj; omega) | (simp; done) | (simp; omega)), (by first | (rw [hx]; exact partRows_skip n22) | (rw [hx]; exact partRows_set (by omega) (by rw [partRows_get _ (by omega)]; exact mask_or _ (by omega) h22)))⟩), (show n.toNat - (k + 1) < n.toNat - k from (by first | omega | (simp_all; omega))), ?_⟩
      exact Sub.of [] (@cast ((((.int .i64 n : Value) = .int .i64 n) ∧ ((((83 : Nat) = 83) ∧ ((((.ep [.sl (.calls h)] : AV) = .ep [.sl (.calls h)]) ∧ (([] : List Nat) = [])) ∧ True)) ∧ ((((9 : Nat) = 9) ∧ ((o.length = o.length) ∧ ((9 : Nat) ∈ ([9, 999] : List Nat)))) ∧ (((.int .i64 ((i : Nat) : Int) : Value) = .int .i64 ((i : Nat) : Int)) ∧ (((.int .i64 (((List.length (List.replicate (Int.toNat n) (0 : Int))) : Nat) : Int) : Value) = .int .i64 (((List.length (List.replicate (Int.toNat n) (0 : Int))) : Nat) : Int)) ∧ (((.int .i64 ((i : Nat) : Int) : Value) = .int .i64 ((i : Nat) : Int)) ∧ (((.int .i64 n : Value) = .int .i64 n) ∧ (((.int .i64 (((k + 1) : Nat) : Int) : Value) = .int .i64 (((k + 1) : Nat) : Int)) ∧ True)))))))) ∧ (((((3 : Nat) = 3) ∧ (((.ints (List.set x i (bitsI .or .i64 (List.getD x i 0) (shlI .i64 (1 : Int) ((k : Nat) : Int)))) : Dat) = .ints (List.set x i (bitsI .or .i64 (List.getD x i 0) (shlI .i64 (1 : Int) ((k : Nat) : Int))))) ∧ ((9 : Nat) ∈ ([9, 999] : List Nat)))) ∧ True) ∧ ((true = true) ∧ (true = true)))) _ (by kernel_rfl) ⟨⟨rfl, ⟨rfl, ⟨rfl, rfl⟩, tt⟩, ⟨rfl, rfl, (by decide)⟩, rfl, rfl, rfl, rfl, rfl, tt⟩, ⟨⟨rfl, rfl, (by decide)⟩, tt⟩, rfl, rfl⟩)
     ·intro n22
      refine W.skip (blockQ_normal (thenQ_normal ?_))
      refine W.L cok tab60AheadOf hnt [] (⟨[(0, .i n), (1, .fn 83 [.ep [.sl (.calls h)]]), (5, .own 9 o.length), (6, .i ((i : Nat) : Int)), (7, .i ((k : Nat) : Int)), (11, .i (((List.length (List.replicate (Int.toNat n) (0 : Int))) : Nat) : Int)), (12, .i ((i : Nat) : Int)), (15, .i n), (16, .i (((k + 1) : Nat) : Int)), (22, .b (aheadF h ((i : Nat) : Int).toNat ((k : Nat) : Int).toNat)), (32, .i (((k + 1) : Nat) : Int))], [(9, ⟨3, .row (.ints x)⟩)], [9, 999]⟩)
       ((True ∧ True ∧ (Fits .i64 (((k + 1) : Nat) : Int))) ∧ True ∧ True) (by kernel_rfl)
       ⟨⟨tt, tt, (by exact fits_i64 (by omega) (by omega))⟩, tt, tt⟩ ?_
      refine thenQ_normal ?_
      refine ⟨((k + 1), x), (show ((k + 1) ≤ n.toNat) ∧ (x = partRows n.toNat (aheadF h) i (k + 1)) from ⟨(by first | assumption | omega | rfl | (intro _ hjj; omega) | (simp; done) | (simp; omega)), (by first | (rw [hx]; exact partRows_skip n22) | (rw [hx]; exact partRows_set (by omega) (by rw [partRows_get _ (by omega)]; exact mask_or _ (by omega) h22)))⟩), (show n.toNat - (k + 1) < n.toNat - k from (by first | omega | (simp_all; omega))), ?_⟩
      exact Sub.of [] (@cast ((((.int .i64 n : Value) = .int .i64 n) ∧ ((((83 : Nat) = 83) ∧ ((((.ep [.sl (.calls h)] : AV) = .ep [.sl (.calls h)]) ∧ (([] : List Nat) = [])) ∧ True)) ∧ ((((9 : Nat) = 9) ∧ ((o.length = o.length) ∧ ((9 : Nat) ∈ ([9, 999] : List Nat)))) ∧ (((.int .i64 ((i : Nat) : Int) : Value) = .int .i64 ((i : Nat) : Int)) ∧ (((.int .i64 (((List.length (List.replicate (Int.toNat n) (0 : Int))) : Nat) : Int) : Value) = .int .i64 (((List.length (List.replicate (Int.toNat n) (0 : Int))) : Nat) : Int)) ∧ (((.int .i64 ((i : Nat) : Int) : Value) = .int .i64 ((i : Nat) : Int)) ∧ (((.int .i64 n : Value) = .int .i64 n) ∧ (((.int .i64 (((k + 1) : Nat) : Int) : Value) = .int .i64 (((k + 1) : Nat) : Int)) ∧ True)))))))) ∧ (((((3 : Nat) = 3) ∧ (((.ints x : Dat) = .ints x) ∧ ((9 : Nat) ∈ ([9, 999] : List Nat)))) ∧ True) ∧ ((true = true) ∧ (true = true)))) _ (by kernel_rfl) ⟨⟨rfl, ⟨rfl, ⟨rfl, rfl⟩, tt⟩, ⟨rfl, rfl, (by decide)⟩, rfl, rfl, rfl, rfl, rfl, tt⟩, ⟨⟨rfl, rfl, (by decide)⟩, tt⟩, rfl, rfl⟩)
    ·intro n17
     refine W.exit (thenQ_exit (thenQ_exit (blockQ_hit ?_)))
     refine blockQ_normal (thenQ_normal ?_)
     refine W.L cok tab60AheadOf hnt [] (⟨[(0, .i n), (1, .fn 83 [.ep [.sl (.calls h)]]), (5, .own 9 o.length), (6, .i ((i : Nat) : Int)), (11, .i (((List.length (List.replicate (Int.toNat n) (0 : Int))) : Nat) : Int)), (12, .i (((i + 1) : Nat) : Int)), (15, .i n), (16, .i ((k : Nat) : Int)), (17, .b (decide (((k : Nat) : Int) < n))), (33, .i (((i + 1) : Nat) : Int))], [(9, ⟨3, .row (.ints x)⟩)], [9, 999]⟩)
      ((True ∧ True ∧ (Fits .i64 (((i + 1) : Nat) : Int))) ∧ True ∧ True) (by kernel_rfl)
      ⟨⟨tt, tt, (by exact fits_i64 (by omega) (by omega))⟩, tt, tt⟩ ?_
     refine thenQ_normal ?_
     refine ⟨((i + 1), x), (show ((i + 1) ≤ n.toNat) ∧ (x = partRows n.toNat (aheadF h) (i + 1) 0) from ⟨(by first | assumption | omega | rfl | (intro _ hjj; omega) | (simp; done) | (simp; omega)), (by rw [hx, ← partRows_next]; congr 1; omega)⟩), (show n.toNat - (i + 1) < n.toNat - i from (by first | omega | (simp_all; omega))), ?_⟩
     exact Sub.of [] (@cast ((((.int .i64 n : Value) = .int .i64 n) ∧ ((((83 : Nat) = 83) ∧ ((((.ep [.sl (.calls h)] : AV) = .ep [.sl (.calls h)]) ∧ (([] : List Nat) = [])) ∧ True)) ∧ ((((9 : Nat) = 9) ∧ ((o.length = x.length) ∧ ((9 : Nat) ∈ ([9, 999] : List Nat)))) ∧ (((.int .i64 (((List.length (List.replicate (Int.toNat n) (0 : Int))) : Nat) : Int) : Value) = .int .i64 (((List.length (List.replicate (Int.toNat n) (0 : Int))) : Nat) : Int)) ∧ (((.int .i64 (((i + 1) : Nat) : Int) : Value) = .int .i64 (((i + 1) : Nat) : Int)) ∧ True))))) ∧ (((((3 : Nat) = 3) ∧ (((.ints x : Dat) = .ints x) ∧ ((9 : Nat) ∈ ([9, 999] : List Nat)))) ∧ True) ∧ ((true = true) ∧ (true = true)))) _ (by kernel_rfl) ⟨⟨rfl, ⟨rfl, ⟨rfl, rfl⟩, tt⟩, ⟨rfl, (by first | rfl | omega | assumption | (symm; assumption) | simp | simp_all), (by decide)⟩, rfl, rfl, tt⟩, ⟨⟨rfl, rfl, (by decide)⟩, tt⟩, rfl, rfl⟩)
  ·intro n13
   have n13' := n13
   simp only [List.length_append, List.length_cons, List.length_nil, List.length_take, List.length_drop, List.length_set, List.length_replicate, List.length_map] at n13'
   refine W.exit (thenQ_exit (thenQ_exit (blockQ_hit ?_)))
   refine thenQ_normal ?_
   refine W.K cok tab60AheadOf hnt [] [4] (⟨[(4, .own 9 o.length)], [(9, ⟨3, .row (.ints o)⟩)], [9, 999]⟩)
    (True ∧ True ∧ True) (by kernel_rfl)
    ⟨tt, tt, tt⟩ ?_
   refine W.subS [] (⟨[(4, .sl (.ints o))], [], [999]⟩) (@cast ((((o.length = o.length) ∧ (((.ints o : Dat) = .ints o) ∧ ((9 : Nat) ∉ ([] : List Nat)))) ∧ True) ∧ (True ∧ ((true = true) ∧ (true = true)))) _ (by kernel_rfl) ⟨⟨⟨rfl, rfl, (by decide)⟩, tt⟩, tt, rfl, rfl⟩) ?_
   refine W.ret ?_
   exact endQ_ret (.sl (.ints o)) (by kernel_rfl) (@cast ((.ints o : Dat) = .ints (rowsOf n.toNat (aheadF h))) _ (by kernel_rfl) (congrArg Dat.ints (by rw [ho, ← partRows_end]; congr 1; omega)))
theorem ent60AheadOf : Entr prog 60 := ⟨_, func60, rfl, by decide⟩
end Go.Proofs.Try

set_option linter.unusedSimpArgs false
set_option linter.unusedVariables false
namespace Go.Proofs.Try
open Go.Ab Go.RowKit
def fs64 : FnS := fnS [.s .calls] [.calls] (fun _ (h, _) => (.sl (.ints (aheadOf h)), [], True))
abbrev T64 : Tab := lk [(12, fs12), (60, fs60AheadOf)]
theorem tab64 : TabOK prog T64 := (TabOK.cons ok12 ent12 (TabOK.cons ok60AheadOf ent60AheadOf TabOK.nil))
set_option maxRecDepth 100000 in
set_option maxHeartbeats 1000000 in
theorem ok64 : FnOK prog 64 fs64 := by
 refine FnOK.mk cok func64 rfl rfl rfl ?_
 rintro fl ⟨(h : List CallD), _⟩ hpre F hnt0 _
 have hnt : F.nt = 10 := hnt0.trans ntmps64
 clear hpre
 refine W.to (⟨[(0, .sl (.calls h))], [], [999]⟩) rfl ?_
 refine W.lenOf 0 (.calls h) (by kernel_rfl) ?_
 intro hl_h; replace hl_h : List.length h ≤ 9223372036854775807 := hl_h
 refine W.K cok tab64 hnt [] [1] (⟨[(1, .ptr 1 0)], [(1, ⟨23, .fix [.sl (.calls h)]⟩)], [1, 999]⟩)
  (True ∧ True ∧ True) (by kernel_rfl)
  ⟨tt, tt, tt⟩ ?_
 refine W.subS [] (⟨[(1, .ep [.sl (.calls h)])], [], [999]⟩) (@cast ((((([.sl (.calls h)] : List AV) = [.sl (.calls h)]) ∧ ((([] : List Nat) = []) ∧ ((1 : Nat) ∉ ([] : List Nat)))) ∧ True) ∧ (True ∧ ((true = true) ∧ (true = true)))) _ (by kernel_rfl) ⟨⟨⟨rfl, rfl, (by decide)⟩, tt⟩, tt, rfl, rfl⟩) ?_
 refine W.seq ?_
 refine W.K cok tab64 hnt [] [1, 5] (⟨[(1, .ep [.sl (.calls h)]), (5, .b (!(validHistory h)))], [], [999]⟩)
  (True ∧ (True ∧ (True ∧ True) ∧ True) ∧ True ∧ True) (by kernel_rfl)
  ⟨tt, ⟨tt, ⟨tt, tt⟩, tt⟩, tt, tt⟩ ?_
 refine W.if' (!(validHistory h)) (.b (!(validHistory h))) (by kernel_rfl) rfl trivial ?_ ?_
 ·intro h5
  refine W.K cok tab64 hnt [] [2] (⟨[(2, .v (.slice none 0 0))], [], [999]⟩)
   (True ∧ True) (by kernel_rfl)
   ⟨tt, tt⟩ ?_
  refine W.ret (thenQ_ret ?_)
  exact endQ_ret (.v (.slice none 0 0)) (by kernel_rfl) (@cast (((Value.slice none 0 0 : Value) = .slice none 0 0) ∧ ((Dat.ints (aheadOf h)).len = 0)) _ (by kernel_rfl) ⟨rfl, (by show List.length (aheadOf h) = 0; unfold aheadOf; rw [not_f h5]; rfl)⟩)
 ·intro n5
  refine W.skip (thenQ_normal ?_)
  refine W.K cok tab64 hnt [] [2] (⟨[(2, .sl (.ints (rowsOf (h.length : Int).toNat (aheadF h))))], [], [999]⟩)
   (True ∧ True ∧ True ∧ (True ∧ (True ∧ True ∧ True) ∧ 0 ≤ (h.length : Int) ∧ (h.length : Int) ≤ 60 ∧ (h.length : Int) = h.length) ∧ True ∧ True) (by kernel_rfl)
   ⟨tt, tt, tt, ⟨tt, ⟨tt, tt, tt⟩, (by have hv := (valid_iff.1 (not_g n5)).1; omega)⟩, tt, tt⟩ ?_
  refine W.ret ?_
  exact endQ_ret (.sl (.ints (rowsOf (h.length : Int).toNat (aheadF h)))) (by kernel_rfl) (@cast ((.ints (rowsOf (h.length : Int).toNat (aheadF h)) : Dat) = .ints (aheadOf h)) _ (by kernel_rfl) (congrArg Dat.ints (by unfold aheadOf; rw [not_g n5]; rfl)))
theorem ent64 : Entr prog 64 := ⟨_, func64, rfl, by decide⟩
end Go.Proofs.Try

set_option linter.unusedSimpArgs false
set_option linter.unusedVariables false
namespace Go.Proofs.Try
open Go.Ab Go.RowKit
def fs34 : FnS := fnS [.o, .s .calls] [.str, .calls] (fun _ (s, h, _) => (.sl (.intss (ordersBy s h (aheadF h))), [], True))
abbrev T34 : Tab := lk [(12, fs12), (39, fs39), (57, fs57), (64, fs64)]
theorem tab34 : TabOK prog T34 := (TabOK.cons ok12 ent12 (TabOK.cons ok39 ent39 (TabOK.cons ok57 ent57 (TabOK.cons ok64 ent64 TabOK.nil))))
set_option maxRecDepth 100000 in
set_option maxHeartbeats 1000000 in
theorem ok34 : FnOK prog 34 fs34 := by
 refine FnOK.mk cok func34 rfl rfl rfl ?_
 rintro fl ⟨(s : ByteArray), (h : List CallD), _⟩ hpre F hnt0 _
 have hnt : F.nt = 18 := hnt0.trans ntmps34
 clear hpre
 refine W.to (⟨[(0, .v (.string s)), (1, .sl (.calls h))], [], [999]⟩) rfl ?_
 refine W.lenOf 1 (.calls h) (by kernel_rfl) ?_
 intro hl_h; replace hl_h : List.length h ≤ 9223372036854775807 := hl_h
 refine W.K cok tab34 hnt [] [0, 1] (⟨[(0, .v (.string s)), (1, .sl (.calls h))], [], [999]⟩)
  (True ∧ True) (by kernel_rfl)
  ⟨tt, tt⟩ ?_
 refine W.seq ?_
 refine W.K cok tab34 hnt [] [0, 1, 12] (⟨[(0, .v (.string s)), (1, .sl (.calls h)), (12, .b ((!(isObject s)) || (!(validHistory h))))], [], [999]⟩)
  (True ∧ (True ∧ (True ∧ True) ∧ True) ∧ True ∧ True ∧ ((!(!(isObject s))) = true → True) ∧ ((!(!(isObject s))) = true → (True ∧ ((((!(!(isObject s))) = true) ∧ True) ∧ True) ∧ True)) ∧ ((!(!(isObject s))) = true → (((!(!(isObject s))) = true) ∧ True)) ∧ (True ∧ ((!(isObject s)) = true → True) ∧ ((!(isObject s)) = false → ((!(!(isObject s))) = true) ∧ True)) ∧ True) (by kernel_rfl)
  ⟨tt, ⟨tt, ⟨tt, tt⟩, tt⟩, tt, tt, (fun _ => trivial), (fun hG => ⟨tt, ⟨⟨hG, tt⟩, tt⟩, tt⟩), (fun hG => ⟨hG, tt⟩), ⟨tt, (fun _ => trivial), (fun hp => ⟨(not_t hp), tt⟩)⟩, tt⟩ ?_
 refine W.if' ((!(isObject s)) || (!(validHistory h))) (.b ((!(isObject s)) || (!(validHistory h)))) (by kernel_rfl) rfl trivial ?_ ?_
 ·intro h12
  refine W.K cok tab34 hnt [] [4] (⟨[(4, .v (.slice none 0 0))], [], [999]⟩)
   (True ∧ True) (by kernel_rfl)
   ⟨tt, tt⟩ ?_
  refine W.ret (thenQ_ret ?_)
  exact endQ_ret (.v (.slice none 0 0)) (by kernel_rfl) (@cast (((Value.slice none 0 0 : Value) = .slice none 0 0) ∧ ((Dat.intss (ordersBy s h (aheadF h))).len = 0)) _ (by kernel_rfl) ⟨rfl, (by show List.length (ordersBy s h (aheadF h)) = 0; first | exact (by_no' h12).symm | (rw [by_no' h12]; rfl))⟩)
 ·intro n12
  refine W.skip (thenQ_normal ?_)
  refine W.K cok tab34 hnt [] [4] (⟨[(4, .sl (.intss (ordersF s h (bitF (aheadOf h)) h.length [])))], [], [999]⟩)
   (True ∧ True ∧ True ∧ (True ∧ (True ∧ True) ∧ True) ∧ (True ∧ (True ∧ True ∧ True ∧ True) ∧ (isObject s = true) ∧ (validHistory h = true) ∧ ((aheadOf h) = rowsOf h.length (bitF (aheadOf h)))) ∧ True ∧ True) (by kernel_rfl)
   ⟨tt, tt, tt, ⟨tt, ⟨tt, tt⟩, tt⟩, ⟨tt, ⟨tt, tt, tt, tt⟩, (by exact and_l (by_yes' n12)), (by exact and_r (by_yes' n12)), (by exact ahead_rows (and_r (by_yes' n12)))⟩, tt, tt⟩ ?_
  refine W.ret ?_
  exact endQ_ret (.sl (.intss (ordersF s h (bitF (aheadOf h)) h.length []))) (by kernel_rfl) (@cast ((.intss (ordersF s h (bitF (aheadOf h)) h.length []) : Dat) = .intss (ordersBy s h (aheadF h))) _ (by kernel_rfl) (congrArg Dat.intss (by exact by_val (by_yes' n12) (ahead_eq (and_r (by_yes' n12))))))
theorem ent34 : Entr prog 34 := ⟨_, func34, rfl, by decide⟩
end Go.Proofs.Try

set_option linter.unusedSimpArgs false
set_option linter.unusedVariables false
namespace Go.Proofs.Try
open Go.Ab Go.RowKit
def fs22 : FnS := fnS [.o, .s .calls] [.str, .calls] (fun _ (s, h, _) => (.b (explains s h (aheadF h)), [], True))
abbrev T22 : Tab := lk [(34, fs34)]
theorem tab22 : TabOK prog T22 := (TabOK.cons ok34 ent34 TabOK.nil)
set_option maxRecDepth 100000 in
set_option maxHeartbeats 1000000 in
theorem ok22 : FnOK prog 22 fs22 := by
 refine FnOK.mk cok func22 rfl rfl rfl ?_
 rintro fl ⟨(s : ByteArray), (h : List CallD), _⟩ hpre F hnt0 _
 have hnt : F.nt = 10 := hnt0.trans ntmps22
 clear hpre
 refine W.to (⟨[(0, .v (.string s)), (1, .sl (.calls h))], [], [999]⟩) rfl ?_
 refine W.lenOf 1 (.calls h) (by kernel_rfl) ?_
 intro hl_h; replace hl_h : List.length h ≤ 9223372036854775807 := hl_h
 refine W.K cok tab22 hnt [] [0, 1] (⟨[(0, .v (.string s)), (1, .sl (.calls h))], [], [999]⟩)
  (True ∧ True) (by kernel_rfl)
  ⟨tt, tt⟩ ?_
 refine W.K cok tab22 hnt [] [4] (⟨[(4, .b (decide ((0 : Int) < (((List.length (ordersBy s h (aheadF h))) : Nat) : Int))))], [], [999]⟩)
  (True ∧ True ∧ (True ∧ (True ∧ True ∧ True) ∧ True) ∧ True ∧ (True ∧ True ∧ True) ∧ True ∧ True) (by kernel_rfl)
  ⟨tt, tt, ⟨tt, ⟨tt, tt, tt⟩, tt⟩, tt, ⟨tt, tt, tt⟩, tt, tt⟩ ?_
 refine W.ret ?_
 exact endQ_ret (.b (decide ((0 : Int) < (((List.length (ordersBy s h (aheadF h))) : Nat) : Int)))) (by kernel_rfl) (@cast ((.bool (decide ((0 : Int) < (((List.length (ordersBy s h (aheadF h))) : Nat) : Int))) : Value) = .bool (explains s h (aheadF h))) _ (by kernel_rfl) (congrArg Value.bool (by rfl)))
theorem ent22 : Entr prog 22 := ⟨_, func22, rfl, by decide⟩
end Go.Proofs.Try

set_option linter.unusedSimpArgs false
set_option linter.unusedVariables false
namespace Go.Proofs.Try
open Go.Ab Go.RowKit
def pre36 : List AV → List AV → Prop := preP [.bytes] [] (fun (code, _) _ => True)
def rel36 : RelS := relP [.bytes] [] (ι := (List UInt8)) (fun (code, _) _ l => True) (fun (code, _) _ l => (.ptr 0 0, [⟨69, .fix [.sl (.bytes l), .i (0 : Int)]⟩], []))
abbrev T36 : Tab := lk []
theorem tab36 : TabOK prog T36 := TabOK.nil
set_option maxRecDepth 100000 in
set_option maxHeartbeats 1000000 in
theorem rok36 : RelOK prog 36 none [.s .bytes] pre36 rel36 := by
 refine RelOK.mk cok func36 rfl rfl rfl ?_
 rintro ⟨(code : List UInt8), _⟩ _ hpre F hnt0
 have hnt : F.nt = 11 := hnt0.trans ntmps36
 clear hpre
 refine W.to (⟨[(0, .sl (.bytes code))], [], [998, 999]⟩) rfl ?_
 refine W.K cok tab36 hnt [] [0] (⟨[(0, .sl (.bytes code))], [], [998, 999]⟩)
  (True ∧ True) (by kernel_rfl)
  ⟨tt, tt⟩ ?_
 refine W.seq ?_
 refine W.K cok tab36 hnt [] [0, 5] (⟨[(0, .sl (.bytes code)), (5, .b (decide ((2000 : Int) < (code.length : Int))))], [], [998, 999]⟩)
  (True ∧ True ∧ (True ∧ True ∧ True) ∧ True) (by kernel_rfl)
  ⟨tt, tt, ⟨tt, tt, tt⟩, tt⟩ ?_
 refine W.ifP ((2000 : Int) < (code.length : Int)) (.b (decide ((2000 : Int) < (code.length : Int)))) (by kernel_rfl) rfl trivial ?_ ?_
 ·intro h5
  refine W.L cok tab36 hnt [] (⟨[(0, .sl (.bytes (List.take 2000 code))), (5, .b (decide ((2000 : Int) < (code.length : Int)))), (6, .sl (.bytes code)), (7, .sl (.bytes (List.take 2000 code)))], [], [998, 999]⟩)
   (True ∧ (True ∧ True ∧ True ∧ (0 ≤ (0 : Int)) ∧ ((0 : Int) ≤ (2000 : Int)) ∧ ((2000 : Int) ≤ (code.length : Int))) ∧ True ∧ True) (by kernel_rfl)
   ⟨tt, ⟨tt, tt, tt, (by omega), (by omega), (by omega)⟩, tt, tt⟩ ?_
  refine thenQ_normal ?_
  refine W.K cok tab36 hnt [] [2] (⟨[(2, .ptr 10 0)], [(10, ⟨69, .fix [.sl (.bytes (List.take 2000 code)), .i (0 : Int)]⟩)], [10, 998, 999]⟩)
   (True ∧ (True ∧ True) ∧ True ∧ True ∧ True) (by kernel_rfl)
   ⟨tt, ⟨tt, tt⟩, tt, tt, tt⟩ ?_
  refine W.ret ?_
  exact endP_ret ((List.take 2000 code)) (show True from trivial) [(0, 10)] (.ptr 10 0) (by kernel_rfl) (@cast ((((10 : Nat) = 10) ∧ (((0 : Nat) = 0) ∧ ((0 : Nat) ∈ ([0] : List Nat)))) ∧ (((((69 : Nat) = 69) ∧ ((((.bytes (List.take 2000 code) : Dat) = .bytes (List.take 2000 code)) ∧ (((.int .i64 (0 : Int) : Value) = .int .i64 (0 : Int)) ∧ True)) ∧ ((0 : Nat) ∈ ([0] : List Nat)))) ∧ True) ∧ ((true = true) ∧ (((([] : List Nat) = []) ∧ True) ∧ (false = true → (10 : Nat) = 998))))) _ (by kernel_rfl) ⟨⟨rfl, rfl, (by decide)⟩, ⟨⟨rfl, ⟨rfl, rfl, tt⟩, (by decide)⟩, tt⟩, rfl, ⟨rfl, tt⟩, (fun h => by cases h)⟩)
 ·intro n5
  refine W.skip (thenQ_normal ?_)
  refine W.K cok tab36 hnt [] [2] (⟨[(2, .ptr 10 0)], [(10, ⟨69, .fix [.sl (.bytes code), .i (0 : Int)]⟩)], [10, 998, 999]⟩)
   (True ∧ (True ∧ True) ∧ True ∧ True ∧ True) (by kernel_rfl)
   ⟨tt, ⟨tt, tt⟩, tt, tt, tt⟩ ?_
  refine W.ret ?_
  exact endP_ret (code) (show True from trivial) [(0, 10)] (.ptr 10 0) (by kernel_rfl) (@cast ((((10 : Nat) = 10) ∧ (((0 : Nat) = 0) ∧ ((0 : Nat) ∈ ([0] : List Nat)))) ∧ (((((69 : Nat) = 69) ∧ ((((.bytes code : Dat) = .bytes code) ∧ (((.int .i64 (0 : Int) : Value) = .int .i64 (0 : Int)) ∧ True)) ∧ ((0 : Nat) ∈ ([0] : List Nat)))) ∧ True) ∧ ((true = true) ∧ (((([] : List Nat) = []) ∧ True) ∧ (false = true → (10 : Nat) = 998))))) _ (by kernel_rfl) ⟨⟨rfl, rfl, (by decide)⟩, ⟨⟨rfl, ⟨rfl, rfl, tt⟩, (by decide)⟩, tt⟩, rfl, ⟨rfl, tt⟩, (fun h => by cases h)⟩)
theorem ent36 : Entr prog 36 := ⟨_, func36, rfl, by decide⟩
end Go.Proofs.Try
