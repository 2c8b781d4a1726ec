import Derived.Test.YtmmndgfkaccgfaaNF4S0
import Derived.Test.YtmmndgfkaccgfaaNF4S1
set_option linter.unusedSimpArgs false
set_option linter.unusedVariables false
namespace Go.Proofs.Try
open Go.Ab Go.RowKit
def fs37 : FnS := fnS [.o,.s .calls] [.str,.calls] (fun _ (s,h,_) => (.b (isObject s && validHistory h),[],True))
abbrev T37 : Tab := lk [(26,fs26),(27,fs27)]
theorem tab37 : TabOK prog T37 := (TabOK.cons ok26 ent26 (TabOK.cons ok27 ent27 TabOK.nil))
set_option maxRecDepth 100000 in
set_option maxHeartbeats 1000000 in
theorem ok37 : FnOK prog 37 fs37 := by
 refine FnOK.mk cok func37 rfl rfl rfl ?_
 rintro fl ⟨(s : ByteArray),(h : List CallD),_⟩ hpre F hnt0 _
 have hnt : F.nt = 11 := hnt0.trans ntmps37
 clear hpre
 refine W.to (⟨[(0,.v (.string s)),(1,.sl (.calls h))],[],[999]⟩) rfl ?_
 refine W.lenOf 1 (.calls h) (by kernel_rfl) ?_
 intro hl_h; replace hl_h : List.length h ≤ 9223372036854775807 := hl_h
 refine W.K cok tab37 hnt [] [0,1] (⟨[(0,.v (.string s)),(1,.sl (.calls h))],[],[999]⟩)
  (True ∧ True) (by kernel_rfl)
  ⟨tt,tt⟩ ?_
 refine W.K cok tab37 hnt [] [4] (⟨[(4,.b ((isObject s) && (validHistory h)))],[],[999]⟩)
  (True ∧ (True ∧ (True ∧ True) ∧ True) ∧ True ∧ ((isObject s) = true → True) ∧ ((isObject s) = true → (True ∧ ((((isObject s) = true) ∧ True) ∧ True) ∧ True)) ∧ (True ∧ ((isObject s) = true → ((isObject s) = true) ∧ True) ∧ ((isObject s) = false → True)) ∧ True ∧ True) (by kernel_rfl)
  ⟨tt,⟨tt,⟨tt,tt⟩,tt⟩,tt,(fun _ => trivial),(fun hG => ⟨tt,⟨⟨hG,tt⟩,tt⟩,tt⟩),⟨tt,(fun hp => ⟨hp,tt⟩),(fun _ => trivial)⟩,tt,tt⟩ ?_
 refine W.ret ?_
 exact endQ_ret (.b ((isObject s) && (validHistory h))) (by kernel_rfl) (@cast ((.bool ((isObject s) && (validHistory h)) : Value) = .bool (isObject s && validHistory h)) _ (by kernel_rfl) (congrArg Value.bool (by rfl)))
theorem ent37 : Entr prog 37 := ⟨_,func37,rfl,by decide⟩
end Go.Proofs.Try

set_option linter.unusedSimpArgs false
set_option linter.unusedVariables false
namespace Go.Proofs.Try
open Go.Ab Go.RowKit
def fs58 : FnS := fnS [.o,.o] [.call,.call] (fun _ (a,b,_) => (.b (isBefore a b),[],True))
abbrev T58 : Tab := lk []
theorem tab58 : TabOK prog T58 := TabOK.nil
set_option maxRecDepth 100000 in
set_option maxHeartbeats 1000000 in
theorem ok58 : FnOK prog 58 fs58 := by
 refine FnOK.mk cok func58 rfl rfl rfl ?_
 rintro fl ⟨(a : CallD),(b : CallD),_⟩ hpre F hnt0 _
 have hnt : F.nt = 10 := hnt0.trans ntmps58
 clear hpre
 refine W.to (⟨[(0,.agg [.i a.proc,.i a.obj,.i a.kind,.i a.arg,.i a.ret,.i a.frm,.i a.to]),(1,.agg [.i b.proc,.i b.obj,.i b.kind,.i b.arg,.i b.ret,.i b.frm,.i b.to])],[],[999]⟩) rfl ?_
 refine W.K cok tab58 hnt [] [2,3] (⟨[(2,.ptr 2 0),(3,.ptr 3 0)],[(2,⟨47,.fix [.i a.proc,.i a.obj,.i a.kind,.i a.arg,.i a.ret,.i a.frm,.i a.to]⟩),(3,⟨47,.fix [.i b.proc,.i b.obj,.i b.kind,.i b.arg,.i b.ret,.i b.frm,.i b.to]⟩)],[3,2,999]⟩)
  (True ∧ True ∧ True ∧ True) (by kernel_rfl)
  ⟨tt,tt,tt,tt⟩ ?_
 refine W.K cok tab58 hnt [] [4] (⟨[(4,.b (decide (a.to < b.frm)))],[(2,⟨47,.fix [.i a.proc,.i a.obj,.i a.kind,.i a.arg,.i a.ret,.i a.frm,.i a.to]⟩),(3,⟨47,.fix [.i b.proc,.i b.obj,.i b.kind,.i b.arg,.i b.ret,.i b.frm,.i b.to]⟩)],[3,2,999]⟩)
  (True ∧ True ∧ True ∧ True ∧ (True ∧ True ∧ True) ∧ True ∧ True) (by kernel_rfl)
  ⟨tt,tt,tt,tt,⟨tt,tt,tt⟩,tt,tt⟩ ?_
 refine W.ret ?_
 exact endQ_ret (.b (decide (a.to < b.frm))) (by kernel_rfl) (@cast ((.bool (decide (a.to < b.frm)) : Value) = .bool (isBefore a b)) _ (by kernel_rfl) (congrArg Value.bool (by first | rfl | simp_all)))
theorem ent58 : Entr prog 58 := ⟨_,func58,rfl,by decide⟩
end Go.Proofs.Try

set_option linter.unusedSimpArgs false
set_option linter.unusedVariables false
namespace Go.Proofs.Try
open Go.Ab Go.RowKit
def fs56 : FnS := fnS [.o] [.int] (fun _ (n,_) => (.i (power n),[],(n ≤ 60)))
abbrev T56 : Tab := lk []
theorem tab56 : TabOK prog T56 := TabOK.nil
set_option maxRecDepth 100000 in
set_option maxHeartbeats 1000000 in
theorem ok56 : FnOK prog 56 fs56 := by
 refine FnOK.mk cok func56 rfl rfl rfl ?_
 rintro fl ⟨(n : Int),_⟩ hpre F hnt0 _
 have hnt : F.nt = 11 := hnt0.trans ntmps56
 replace hpre : (n ≤ 60) := hpre
 have hn := hpre
 refine W.to (⟨[(0,.i n)],[],[999]⟩) rfl ?_
 refine W.K cok tab56 hnt [] [0] (⟨[(0,.i n)],[],[999]⟩)
  (True ∧ True) (by kernel_rfl)
  ⟨tt,tt⟩ ?_
 refine W.K cok tab56 hnt [] [0,3] (⟨[(0,.i n),(3,.i (1 : Int))],[],[999]⟩)
  (True ∧ True) (by kernel_rfl)
  ⟨tt,tt⟩ ?_
 refine W.seq ?_
 refine W.block ?_
 refine W.loop (ι := Int × Int) (fun (x : Int × Int) => match x with | (k,x) => (⟨[(0,.i k),(3,.i x)],[],[999]⟩ : St))
  (fun (x : Int × Int) => match x with | (k,x) => (k ≤ n) ∧ (x * power k = power n) ∧ (1 ≤ x))
  (fun (x : Int × Int) => match x with | (k,x) => (k.toNat : Nat)) (n,(1 : Int)) ?_ ?_ ?_
 ·exact (show (n ≤ n) ∧ ((1 : Int) * power n = power n) ∧ (1 ≤ (1 : Int)) from ⟨(by first | assumption | omega | rfl | (intro _ hjj; omega) | (simp; done) | (simp; omega)),(by exact Int.one_mul _),(by first | assumption | omega | rfl | (intro _ hjj; omega) | (simp; done) | (simp; omega))⟩)
 ·exact Sub.of [] (@cast ((((.int .i64 n : Value) = .int .i64 n) ∧ (((.int .i64 (1 : Int) : Value) = .int .i64 (1 : Int)) ∧ True)) ∧ (True ∧ ((true = true) ∧ (true = true)))) _ (by kernel_rfl) ⟨⟨rfl,rfl,tt⟩,tt,rfl,rfl⟩)
 ·rintro ⟨k,x⟩ hC0
  have hC : (k ≤ n) ∧ (x * power k = power n) ∧ (1 ≤ x) := hC0
  clear hC0
  obtain ⟨hk,hx,hx0⟩ := hC
  refine W.to (⟨[(0,.i k),(3,.i x)],[],[999]⟩) rfl ?_
  have hp := power_le (n := n) hn
  have hxp : x ≤ power n := power_factor hx hx0
  refine W.seq ?_
  refine W.K cok tab56 hnt [] [0,3,5] (⟨[(0,.i k),(3,.i x),(5,.b (decide ((0 : Int) < k)))],[],[999]⟩)
   (True ∧ (True ∧ True ∧ True) ∧ True) (by kernel_rfl)
   ⟨tt,⟨tt,tt,tt⟩,tt⟩ ?_
  refine W.ifP ((0 : Int) < k) (.b (decide ((0 : Int) < k))) (by kernel_rfl) rfl trivial ?_ ?_
  ·intro h5
   refine W.skip (thenQ_normal ?_)
   refine W.seq ?_
   refine W.block ?_
   refine W.L cok tab56 hnt [] (⟨[(0,.i k),(3,.i ((2 : Int) * x)),(5,.b (decide ((0 : Int) < k))),(8,.i x),(9,.i ((2 : Int) * x))],[],[999]⟩)
    (True ∧ (True ∧ True ∧ (Fits .i64 ((2 : Int) * x))) ∧ True ∧ True) (by kernel_rfl)
    ⟨tt,⟨tt,tt,(by exact fits_i64 (by omega) (by omega))⟩,tt,tt⟩ ?_
   refine blockQ_normal (thenQ_normal ?_)
   refine W.L cok tab56 hnt [] (⟨[(0,.i (k - (1 : Int))),(3,.i ((2 : Int) * x)),(5,.b (decide ((0 : Int) < k))),(6,.i k),(7,.i (k - (1 : Int))),(8,.i x),(9,.i ((2 : Int) * x))],[],[999]⟩)
    (True ∧ (True ∧ True ∧ (Fits .i64 (k - (1 : Int)))) ∧ True ∧ True) (by kernel_rfl)
    ⟨tt,⟨tt,tt,(by exact fits_i64 (by omega) (by omega))⟩,tt,tt⟩ ?_
   refine thenQ_normal ?_
   refine ⟨((k - (1 : Int)),((2 : Int) * x)),(show ((k - (1 : Int)) ≤ n) ∧ (((2 : Int) * x) * power (k - (1 : Int)) = power n) ∧ (1 ≤ ((2 : Int) * x)) from ⟨(by first | assumption | omega | rfl | (intro _ hjj; omega) | (simp; done) | (simp; omega)),(by rw [← hx]; exact power_step h5),(by first | assumption | omega | rfl | (intro _ hjj; omega) | (simp; done) | (simp; omega))⟩),(show (k - (1 : Int)).toNat < k.toNat from (by first | omega | (simp_all; omega))),?_⟩
   exact Sub.of [] (@cast ((((.int .i64 (k - (1 : Int)) : Value) = .int .i64 (k - (1 : Int))) ∧ (((.int .i64 ((2 : Int) * x) : Value) = .int .i64 ((2 : Int) * x)) ∧ True)) ∧ (True ∧ ((true = true) ∧ (true = true)))) _ (by kernel_rfl) ⟨⟨rfl,rfl,tt⟩,tt,rfl,rfl⟩)
  ·intro n5
   refine W.exit (thenQ_exit (thenQ_exit (blockQ_hit ?_)))
   refine thenQ_normal ?_
   refine W.K cok tab56 hnt [] [2] (⟨[(2,.i x)],[],[999]⟩)
    (True ∧ True ∧ True) (by kernel_rfl)
    ⟨tt,tt,tt⟩ ?_
   refine W.ret ?_
   exact endQ_ret (.i x) (by kernel_rfl) (@cast ((.int .i64 x : Value) = .int .i64 (power n)) _ (by kernel_rfl) (congrArg (Value.int .i64) (by first | rfl | exact power_done hx n5)))
theorem ent56 : Entr prog 56 := ⟨_,func56,rfl,by decide⟩
end Go.Proofs.Try

set_option linter.unusedSimpArgs false
set_option linter.unusedVariables false
namespace Go.Proofs.Try
open Go.Ab Go.RowKit
def fs44 : FnS := fnS [.s .calls] [.calls] (fun _ (h,_) => (.sl (.ints (rowsOf h.length (aheadF h))),[],(h.length ≤ 60)))
abbrev T44 : Tab := lk [(56,fs56),(58,fs58)]
theorem tab44 : TabOK prog T44 := (TabOK.cons ok56 ent56 (TabOK.cons ok58 ent58 TabOK.nil))
set_option maxRecDepth 100000 in
set_option maxHeartbeats 1000000 in
theorem ok44 : FnOK prog 44 fs44 := by
 refine FnOK.mk cok func44 rfl rfl rfl ?_
 rintro fl ⟨(h : List CallD),_⟩ hpre F hnt0 _
 have hnt : F.nt = 38 := hnt0.trans ntmps44
 replace hpre : (h.length ≤ 60) := hpre
 have hn := hpre
 refine W.to (⟨[(0,.sl (.calls h))],[],[999]⟩) rfl ?_
 refine W.lenOf 0 (.calls h) (by kernel_rfl) ?_
 intro hl_h; replace hl_h : List.length h ≤ 9223372036854775807 := hl_h
 refine W.K cok tab44 hnt [] [0] (⟨[(0,.sl (.calls h))],[],[999]⟩)
  (True ∧ True) (by kernel_rfl)
  ⟨tt,tt⟩ ?_
 refine W.K cok tab44 hnt [7] [0,3] (⟨[(0,.sl (.calls h)),(3,.own 7 (List.length ([] : List Int)))],[(7,⟨3,.row (.ints ([] : List Int))⟩)],[7,999]⟩)
  (True ∧ True ∧ True) (by kernel_rfl)
  ⟨tt,tt,tt⟩ ?_
 refine W.seq ?_
 refine W.K cok tab44 hnt [] [0,3,4] (⟨[(0,.sl (.calls h)),(3,.own 7 (List.length ([] : List Int))),(4,.i (0 : Int))],[(7,⟨3,.row (.ints ([] : List Int))⟩)],[7,999]⟩)
  (True ∧ True) (by kernel_rfl)
  ⟨tt,tt⟩ ?_
 refine W.block ?_
 refine W.loop (ι := (List Int) × Nat) (fun (x : (List Int) × Nat) => match x with | (o,i) => (⟨[(0,.sl (.calls h)),(3,.own 7 o.length),(4,.i ((i : Nat) : Int))],[(7,⟨3,.row (.ints o)⟩)],[7,999]⟩ : St))
  (fun (x : (List Int) × Nat) => match x with | (o,i) => (i ≤ h.length) ∧ (o = (List.range i).map fun j => mask h.length (aheadF h j)))
  (fun (x : (List Int) × Nat) => match x with | (o,i) => (h.length - i : Nat)) (([] : List Int),0) ?_ ?_ ?_
 ·exact (show (0 ≤ h.length) ∧ (([] : List Int) = (List.range 0).map fun j => mask h.length (aheadF h j)) from ⟨(by first | assumption | omega | rfl | (intro _ hjj; omega) | (simp; done) | (simp; omega)),(by rfl)⟩)
 ·exact Sub.of [] (@cast ((((.calls h : Dat) = .calls h) ∧ ((((7 : Nat) = 7) ∧ (((List.length ([] : List Int)) = (List.length ([] : List Int))) ∧ ((7 : Nat) ∈ ([7,999] : List Nat)))) ∧ (((.int .i64 (0 : Int) : Value) = .int .i64 ((0 : Nat) : Int)) ∧ True))) ∧ (((((3 : Nat) = 3) ∧ (((.ints ([] : List Int) : Dat) = .ints ([] : List Int)) ∧ ((7 : Nat) ∈ ([7,999] : List Nat)))) ∧ True) ∧ ((true = true) ∧ (true = true)))) _ (by kernel_rfl) ⟨⟨rfl,⟨rfl,rfl,(by decide)⟩,(congrArg (Value.int .i64) (by first | rfl | omega | assumption | simp | simp_all)),tt⟩,⟨⟨rfl,rfl,(by decide)⟩,tt⟩,rfl,rfl⟩)
 ·rintro ⟨o,i⟩ hC0
  have hC : (i ≤ h.length) ∧ (o = (List.range i).map fun j => mask h.length (aheadF h j)) := hC0
  clear hC0
  obtain ⟨hi,ho⟩ := hC
  refine W.to (⟨[(0,.sl (.calls h)),(3,.own 7 o.length),(4,.i ((i : Nat) : Int))],[(7,⟨3,.row (.ints o)⟩)],[7,999]⟩) rfl ?_
  have hol : o.length = i := by rw [ho]; simp
  refine W.seq ?_
  refine W.K cok tab44 hnt [] [0,3,4,11] (⟨[(0,.sl (.calls h)),(3,.own 7 o.length),(4,.i ((i : Nat) : Int)),(11,.b (decide (((i : Nat) : Int) < (h.length : Int))))],[(7,⟨3,.row (.ints o)⟩)],[7,999]⟩)
   (True ∧ True ∧ True ∧ (True ∧ True ∧ True) ∧ True) (by kernel_rfl)
   ⟨tt,tt,tt,⟨tt,tt,tt⟩,tt⟩ ?_
  refine W.ifP (((i : Nat) : Int) < (h.length : Int)) (.b (decide (((i : Nat) : Int) < (h.length : Int)))) (by kernel_rfl) rfl trivial ?_ ?_
  ·intro h11
   refine W.skip (thenQ_normal ?_)
   refine W.seq ?_
   refine W.block ?_
   refine W.K cok tab44 hnt [] [0,3,4,5] (⟨[(0,.sl (.calls h)),(3,.own 7 o.length),(4,.i ((i : Nat) : Int)),(5,.i (0 : Int))],[(7,⟨3,.row (.ints o)⟩)],[7,999]⟩)
    (True ∧ True) (by kernel_rfl)
    ⟨tt,tt⟩ ?_
   refine W.seq ?_
   refine W.K cok tab44 hnt [] [0,3,4,5,6] (⟨[(0,.sl (.calls h)),(3,.own 7 o.length),(4,.i ((i : Nat) : Int)),(5,.i (0 : Int)),(6,.i (0 : Int))],[(7,⟨3,.row (.ints o)⟩)],[7,999]⟩)
    (True ∧ True) (by kernel_rfl)
    ⟨tt,tt⟩ ?_
   refine W.block ?_
   refine W.loop (ι := Int × Nat) (fun (x : Int × Nat) => match x with | (r,k) => (⟨[(0,.sl (.calls h)),(3,.own 7 o.length),(4,.i ((i : Nat) : Int)),(5,.i r),(6,.i ((k : Nat) : Int))],[(7,⟨3,.row (.ints o)⟩)],[7,999]⟩ : St))
    (fun (x : Int × Nat) => match x with | (r,k) => (k ≤ h.length) ∧ (r = mask k (aheadF h i)))
    (fun (x : Int × Nat) => match x with | (r,k) => (h.length - k : Nat)) ((0 : Int),0) ?_ ?_ ?_
   ·exact (show (0 ≤ h.length) ∧ ((0 : Int) = mask 0 (aheadF h i)) from ⟨(by first | assumption | omega | rfl | (intro _ hjj; omega) | (simp; done) | (simp; omega)),(by rfl)⟩)
   ·exact Sub.of [] (@cast ((((.calls h : Dat) = .calls h) ∧ ((((7 : Nat) = 7) ∧ ((o.length = o.length) ∧ ((7 : Nat) ∈ ([7,999] : List Nat)))) ∧ (((.int .i64 ((i : Nat) : Int) : Value) = .int .i64 ((i : Nat) : Int)) ∧ (((.int .i64 (0 : Int) : Value) = .int .i64 (0 : Int)) ∧ (((.int .i64 (0 : Int) : Value) = .int .i64 ((0 : Nat) : Int)) ∧ True))))) ∧ (((((3 : Nat) = 3) ∧ (((.ints o : Dat) = .ints o) ∧ ((7 : Nat) ∈ ([7,999] : List Nat)))) ∧ True) ∧ ((true = true) ∧ (true = true)))) _ (by kernel_rfl) ⟨⟨rfl,⟨rfl,rfl,(by decide)⟩,rfl,rfl,(congrArg (Value.int .i64) (by first | rfl | omega | assumption | simp | simp_all)),tt⟩,⟨⟨rfl,rfl,(by decide)⟩,tt⟩,rfl,rfl⟩)
   ·rintro ⟨r,k⟩ hC0
    have hC : (k ≤ h.length) ∧ (r = mask k (aheadF h i)) := hC0
    clear hC0
    obtain ⟨hk,hr⟩ := hC
    refine W.to (⟨[(0,.sl (.calls h)),(3,.own 7 o.length),(4,.i ((i : Nat) : Int)),(5,.i r),(6,.i ((k : Nat) : Int))],[(7,⟨3,.row (.ints o)⟩)],[7,999]⟩) rfl ?_
    have hmb := mask_bnd k (aheadF h i) (by omega)
    refine W.seq ?_
    refine W.K cok tab44 hnt [] [0,3,4,5,6,17] (⟨[(0,.sl (.calls h)),(3,.own 7 o.length),(4,.i ((i : Nat) : Int)),(5,.i r),(6,.i ((k : Nat) : Int)),(17,.b (decide (((k : Nat) : Int) < (h.length : Int))))],[(7,⟨3,.row (.ints o)⟩)],[7,999]⟩)
     (True ∧ True ∧ True ∧ (True ∧ True ∧ True) ∧ True) (by kernel_rfl)
     ⟨tt,tt,tt,⟨tt,tt,tt⟩,tt⟩ ?_
    refine W.ifP (((k : Nat) : Int) < (h.length : Int)) (.b (decide (((k : Nat) : Int) < (h.length : Int)))) (by kernel_rfl) rfl trivial ?_ ?_
    ·intro h17
     refine W.skip (thenQ_normal ?_)
     refine W.seq ?_
     refine W.block ?_
     refine W.KA cok tab44 hnt [] [0,3,4,5,6,28] (⟨[(0,.sl (.calls h)),(3,.own 7 o.length),(4,.i ((i : Nat) : Int)),(5,.i r),(6,.i ((k : Nat) : Int)),(28,.b (isBefore (h.getD k default) (h.getD i default)))],[(7,⟨3,.row (.ints o)⟩)],[7,999]⟩)
      (True ∧ True ∧ (True ∧ True ∧ (0 ≤ ((k : Nat) : Int)) ∧ (((k : Nat) : Int) < (h.length : Int))) ∧ True ∧ True ∧ True ∧ (True ∧ True ∧ (0 ≤ ((i : Nat) : Int)) ∧ (((i : Nat) : Int) < (h.length : Int))) ∧ True ∧ (True ∧ (True ∧ True ∧ True) ∧ True) ∧ True) (by kernel_rfl) (by kernel_rfl)
      ⟨tt,tt,⟨tt,tt,(by omega),(by omega)⟩,tt,tt,tt,⟨tt,tt,(by omega),(by omega)⟩,tt,⟨tt,⟨tt,tt,tt⟩,tt⟩,tt⟩ ?_
     refine W.if' (isBefore (h.getD k default) (h.getD i default)) (.b (isBefore (h.getD k default) (h.getD i default))) (by kernel_rfl) rfl trivial ?_ ?_
     ·intro h28
      have hpw := power_le (n := (k : Int)) (by omega)
      have hpw0 := power_pos (k : Int)
      refine W.L cok tab44 hnt [] (⟨[(0,.sl (.calls h)),(3,.own 7 o.length),(4,.i ((i : Nat) : Int)),(5,.i (r + (power ((k : Nat) : Int)))),(6,.i ((k : Nat) : Int)),(28,.b (isBefore (h.getD k default) (h.getD i default))),(29,.i r),(30,.i ((k : Nat) : Int)),(31,.i (power ((k : Nat) : Int))),(32,.i (r + (power ((k : Nat) : Int))))],[(7,⟨3,.row (.ints o)⟩)],[7,999]⟩)
       (True ∧ True ∧ (True ∧ (True ∧ True) ∧ (((k : Nat) : Int) ≤ 60)) ∧ (True ∧ True ∧ (Fits .i64 (r + (power ((k : Nat) : Int))))) ∧ True ∧ True) (by kernel_rfl)
       ⟨tt,tt,⟨tt,⟨tt,tt⟩,(by omega)⟩,⟨tt,tt,(by exact fits_i64 (by omega) (by omega))⟩,tt,tt⟩ ?_
      refine blockQ_normal (thenQ_normal ?_)
      refine W.L cok tab44 hnt [] (⟨[(0,.sl (.calls h)),(3,.own 7 o.length),(4,.i ((i : Nat) : Int)),(5,.i (r + (power ((k : Nat) : Int)))),(6,.i (((k + 1) : Nat) : Int)),(18,.i ((k : Nat) : Int)),(19,.i (((k + 1) : Nat) : Int)),(28,.b (isBefore (h.getD k default) (h.getD i default))),(29,.i r),(30,.i ((k : Nat) : Int)),(31,.i (power ((k : Nat) : Int))),(32,.i (r + (power ((k : Nat) : Int))))],[(7,⟨3,.row (.ints o)⟩)],[7,999]⟩)
       (True ∧ (True ∧ True ∧ (Fits .i64 (((k + 1) : Nat) : Int))) ∧ True ∧ True) (by kernel_rfl)
       ⟨tt,⟨tt,tt,(by exact fits_i64 (by omega) (by omega))⟩,tt,tt⟩ ?_
      refine thenQ_normal ?_
      refine ⟨((r + (power ((k : Nat) : Int))),(k + 1)),(show ((k + 1) ≤ h.length) ∧ ((r + (power ((k : Nat) : Int))) = mask (k + 1) (aheadF h i)) from ⟨(by first | assumption | omega | rfl | (intro _ hjj; omega) | (simp; done) | (simp; omega)),(by first | (rw [hr]; exact (mask_skip (n28)).symm) | (rw [hr,mask_add (h28)]; rfl))⟩),(show h.length - (k + 1) < h.length - k from (by first | omega | (simp_all; omega))),?_⟩
      exact Sub.of [] (@cast ((((.calls h : Dat) = .calls h) ∧ ((((7 : Nat) = 7) ∧ ((o.length = o.length) ∧ ((7 : Nat) ∈ ([7,999] : List Nat)))) ∧ (((.int .i64 ((i : Nat) : Int) : Value) = .int .i64 ((i : Nat) : Int)) ∧ (((.int .i64 (r + (power ((k : Nat) : Int))) : Value) = .int .i64 (r + (power ((k : Nat) : Int)))) ∧ (((.int .i64 (((k + 1) : Nat) : Int) : Value) = .int .i64 (((k + 1) : Nat) : Int)) ∧ True))))) ∧ (((((3 : Nat) = 3) ∧ (((.ints o : Dat) = .ints o) ∧ ((7 : Nat) ∈ ([7,999] : List Nat)))) ∧ True) ∧ ((true = true) ∧ (true = true)))) _ (by kernel_rfl) ⟨⟨rfl,⟨rfl,rfl,(by decide)⟩,rfl,rfl,rfl,tt⟩,⟨⟨rfl,rfl,(by decide)⟩,tt⟩,rfl,rfl⟩)
     ·intro n28
      refine W.skip (blockQ_normal (thenQ_normal ?_))
      refine W.L cok tab44 hnt [] (⟨[(0,.sl (.calls h)),(3,.own 7 o.length),(4,.i ((i : Nat) : Int)),(5,.i r),(6,.i (((k + 1) : Nat) : Int)),(18,.i ((k : Nat) : Int)),(19,.i (((k + 1) : Nat) : Int)),(28,.b (isBefore (h.getD k default) (h.getD i default)))],[(7,⟨3,.row (.ints o)⟩)],[7,999]⟩)
       (True ∧ (True ∧ True ∧ (Fits .i64 (((k + 1) : Nat) : Int))) ∧ True ∧ True) (by kernel_rfl)
       ⟨tt,⟨tt,tt,(by exact fits_i64 (by omega) (by omega))⟩,tt,tt⟩ ?_
      refine thenQ_normal ?_
      refine ⟨(r,(k + 1)),(show ((k + 1) ≤ h.length) ∧ (r = mask (k + 1) (aheadF h i)) from ⟨(by first | assumption | omega | rfl | (intro _ hjj; omega) | (simp; done) | (simp; omega)),(by first | (rw [hr]; exact (mask_skip (n28)).symm) | (rw [hr,mask_add (h28)]; rfl))⟩),(show h.length - (k + 1) < h.length - k from (by first | omega | (simp_all; omega))),?_⟩
      exact Sub.of [] (@cast ((((.calls h : Dat) = .calls h) ∧ ((((7 : Nat) = 7) ∧ ((o.length = o.length) ∧ ((7 : Nat) ∈ ([7,999] : List Nat)))) ∧ (((.int .i64 ((i : Nat) : Int) : Value) = .int .i64 ((i : Nat) : Int)) ∧ (((.int .i64 r : Value) = .int .i64 r) ∧ (((.int .i64 (((k + 1) : Nat) : Int) : Value) = .int .i64 (((k + 1) : Nat) : Int)) ∧ True))))) ∧ (((((3 : Nat) = 3) ∧ (((.ints o : Dat) = .ints o) ∧ ((7 : Nat) ∈ ([7,999] : List Nat)))) ∧ True) ∧ ((true = true) ∧ (true = true)))) _ (by kernel_rfl) ⟨⟨rfl,⟨rfl,rfl,(by decide)⟩,rfl,rfl,rfl,tt⟩,⟨⟨rfl,rfl,(by decide)⟩,tt⟩,rfl,rfl⟩)
    ·intro n17
     refine W.exit (thenQ_exit (thenQ_exit (blockQ_hit ?_)))
     refine thenQ_normal ?_
     refine W.L cok tab44 hnt [36] (⟨[(0,.sl (.calls h)),(3,.own 36 (List.length (o ++ ([r])))),(4,.i ((i : Nat) : Int)),(5,.i r),(6,.i ((k : Nat) : Int)),(17,.b (decide (((k : Nat) : Int) < (h.length : Int)))),(33,.own 7 o.length),(34,.i r),(35,.sl (.ints ([r]))),(36,.own 36 (List.length (o ++ ([r]))))],[(36,⟨3,.row (.ints (o ++ ([r])))⟩)],[36,35,7,999]⟩)
      (True ∧ True ∧ (True ∧ True) ∧ ((True ∧ (o.length = o.length)) ∧ True ∧ ((o.length + (List.length ([r]))) * 8 ≤ 140737488355328)) ∧ True ∧ True) (by kernel_rfl)
      ⟨tt,tt,⟨tt,tt⟩,⟨⟨tt,rfl⟩,tt,(by (first | omega | (simp only [List.length_append,List.length_cons,List.length_nil,List.length_take,List.length_drop,List.length_set,List.length_replicate,List.length_map] at *; omega) | assumption))⟩,tt,tt⟩ ?_
     refine blockQ_normal (thenQ_normal ?_)
     refine W.L cok tab44 hnt [] (⟨[(0,.sl (.calls h)),(3,.own 36 (List.length (o ++ ([r])))),(4,.i (((i + 1) : Nat) : Int)),(5,.i r),(6,.i ((k : Nat) : Int)),(12,.i ((i : Nat) : Int)),(13,.i (((i + 1) : Nat) : Int)),(17,.b (decide (((k : Nat) : Int) < (h.length : Int)))),(33,.own 7 o.length),(34,.i r),(35,.sl (.ints ([r]))),(36,.own 36 (List.length (o ++ ([r]))))],[(36,⟨3,.row (.ints (o ++ ([r])))⟩)],[36,35,7,999]⟩)
      (True ∧ (True ∧ True ∧ (Fits .i64 (((i + 1) : Nat) : Int))) ∧ True ∧ True) (by kernel_rfl)
      ⟨tt,⟨tt,tt,(by exact fits_i64 (by omega) (by omega))⟩,tt,tt⟩ ?_
     refine thenQ_normal ?_
     refine ⟨((o ++ ([r])),(i + 1)),(show ((i + 1) ≤ h.length) ∧ ((o ++ ([r])) = (List.range (i + 1)).map fun j => mask h.length (aheadF h j)) from ⟨(by first | assumption | omega | rfl | (intro _ hjj; omega) | (simp; done) | (simp; omega)),(by rw [ho]; exact rows_snoc _ _ _ _ (by rw [hr,show k = h.length by omega]))⟩),(show h.length - (i + 1) < h.length - i from (by first | omega | (simp_all; omega))),?_⟩
     exact Sub.of [(7,36)] (@cast ((((.calls h : Dat) = .calls h) ∧ ((((36 : Nat) = 36) ∧ (((List.length (o ++ ([r]))) = (List.length (o ++ ([r])))) ∧ ((7 : Nat) ∈ ([7,999] : List Nat)))) ∧ (((.int .i64 (((i + 1) : Nat) : Int) : Value) = .int .i64 (((i + 1) : Nat) : Int)) ∧ True))) ∧ (((((3 : Nat) = 3) ∧ (((.ints (o ++ ([r])) : Dat) = .ints (o ++ ([r]))) ∧ ((7 : Nat) ∈ ([7,999] : List Nat)))) ∧ True) ∧ ((true = true) ∧ (true = true)))) _ (by kernel_rfl) ⟨⟨rfl,⟨rfl,rfl,(by decide)⟩,rfl,tt⟩,⟨⟨rfl,rfl,(by decide)⟩,tt⟩,rfl,rfl⟩)
  ·intro n11
   refine W.exit (thenQ_exit (thenQ_exit (blockQ_hit ?_)))
   refine thenQ_normal ?_
   refine W.K cok tab44 hnt [] [2] (⟨[(2,.own 7 o.length)],[(7,⟨3,.row (.ints o)⟩)],[7,999]⟩)
    (True ∧ True ∧ True) (by kernel_rfl)
    ⟨tt,tt,tt⟩ ?_
   refine W.ret ?_
   exact endQ_ret (.own 7 o.length) (by kernel_rfl) (@cast ((o.length = o.length) ∧ (((.ints o : Dat) = .ints (rowsOf h.length (aheadF h))) ∧ ((7 : Nat) ∉ ([] : List Nat)))) _ (by kernel_rfl) ⟨rfl,⟨(congrArg Dat.ints (by rw [ho,show i = h.length by omega]; rfl)),(by decide)⟩⟩)
theorem ent44 : Entr prog 44 := ⟨_,func44,rfl,by decide⟩
end Go.Proofs.Try

set_option linter.unusedSimpArgs false
set_option linter.unusedVariables false
namespace Go.Proofs.Try
open Go.Ab Go.RowKit
def fs50 : FnS := fnS [.s .ints,.o] [.ints,.int] (fun _ (l,n,_) => (.b (hasInt l n),[],True))
abbrev T50 : Tab := lk []
theorem tab50 : TabOK prog T50 := TabOK.nil
set_option maxRecDepth 100000 in
set_option maxHeartbeats 1000000 in
theorem ok50 : FnOK prog 50 fs50 := by
 refine FnOK.mk cok func50 rfl rfl rfl ?_
 rintro fl ⟨(l : List Int),(n : Int),_⟩ hpre F hnt0 _
 have hnt : F.nt = 18 := hnt0.trans ntmps50
 clear hpre
 refine W.to (⟨[(0,.sl (.ints l)),(1,.i n)],[],[999]⟩) rfl ?_
 refine W.lenOf 0 (.ints l) (by kernel_rfl) ?_
 intro hl_l; replace hl_l : List.length l ≤ 9223372036854775807 := hl_l
 refine W.K cok tab50 hnt [] [0,1] (⟨[(0,.sl (.ints l)),(1,.i n)],[],[999]⟩)
  (True ∧ True) (by kernel_rfl)
  ⟨tt,tt⟩ ?_
 refine W.seq ?_
 refine W.K cok tab50 hnt [] [0,1,5] (⟨[(0,.sl (.ints l)),(1,.i n),(5,.i (0 : Int))],[],[999]⟩)
  (True ∧ True) (by kernel_rfl)
  ⟨tt,tt⟩ ?_
 refine W.block ?_
 refine W.loop (ι := Nat) (fun (i : Nat) => (⟨[(0,.sl (.ints l)),(1,.i n),(5,.i ((i : Nat) : Int))],[],[999]⟩ : St))
  (fun (i : Nat) => (i ≤ l.length) ∧ (∀ j,j < i → decide (l.getD j 0 = n) = false))
  (fun (i : Nat) => (l.length - i : Nat)) (0) ?_ ?_ ?_
 ·exact (show (0 ≤ l.length) ∧ (∀ j,j < 0 → decide (l.getD j 0 = n) = false) from ⟨(by first | assumption | omega | rfl | (intro _ hjj; omega) | (simp; done) | (simp; omega)),(by exact upto_zero)⟩)
 ·exact Sub.of [] (@cast ((((.ints l : Dat) = .ints l) ∧ (((.int .i64 n : Value) = .int .i64 n) ∧ (((.int .i64 (0 : Int) : Value) = .int .i64 ((0 : Nat) : Int)) ∧ True))) ∧ (True ∧ ((true = true) ∧ (true = true)))) _ (by kernel_rfl) ⟨⟨rfl,rfl,(congrArg (Value.int .i64) (by first | rfl | omega | assumption | simp | simp_all)),tt⟩,tt,rfl,rfl⟩)
 ·rintro i hC0
  have hC : (i ≤ l.length) ∧ (∀ j,j < i → decide (l.getD j 0 = n) = false) := hC0
  clear hC0
  obtain ⟨hi,hA⟩ := hC
  refine W.to (⟨[(0,.sl (.ints l)),(1,.i n),(5,.i ((i : Nat) : Int))],[],[999]⟩) rfl ?_
  refine W.seq ?_
  refine W.K cok tab50 hnt [] [0,1,5,9] (⟨[(0,.sl (.ints l)),(1,.i n),(5,.i ((i : Nat) : Int)),(9,.b (decide (((i : Nat) : Int) < (l.length : Int))))],[],[999]⟩)
   (True ∧ True ∧ True ∧ (True ∧ True ∧ True) ∧ True) (by kernel_rfl)
   ⟨tt,tt,tt,⟨tt,tt,tt⟩,tt⟩ ?_
  refine W.ifP (((i : Nat) : Int) < (l.length : Int)) (.b (decide (((i : Nat) : Int) < (l.length : Int)))) (by kernel_rfl) rfl trivial ?_ ?_
  ·intro h9
   refine W.skip (thenQ_normal ?_)
   refine W.seq ?_
   refine W.block ?_
   refine W.K cok tab50 hnt [] [0,1,5,17] (⟨[(0,.sl (.ints l)),(1,.i n),(5,.i ((i : Nat) : Int)),(17,.b (decide ((l.getD i 0) = n)))],[],[999]⟩)
    (True ∧ True ∧ (True ∧ True ∧ (0 ≤ ((i : Nat) : Int)) ∧ (((i : Nat) : Int) < (l.length : Int))) ∧ True ∧ True ∧ (True ∧ True ∧ True) ∧ True) (by kernel_rfl)
    ⟨tt,tt,⟨tt,tt,(by omega),(by omega)⟩,tt,tt,⟨tt,tt,tt⟩,tt⟩ ?_
   refine W.ifP ((l.getD i 0) = n) (.b (decide ((l.getD i 0) = n))) (by kernel_rfl) rfl trivial ?_ ?_
   ·intro h17
    refine W.K cok tab50 hnt [] [4] (⟨[(4,.b true)],[],[999]⟩)
     (True ∧ True) (by kernel_rfl)
     ⟨tt,tt⟩ ?_
    refine W.ret (blockQ_ret (thenQ_ret (thenQ_ret (blockQ_ret (thenQ_ret ?_)))))
    exact endQ_ret (.b true) (by kernel_rfl) (@cast ((.bool true : Value) = .bool (hasInt l n)) _ (by kernel_rfl) (congrArg Value.bool (by unfold hasInt; symm; exact anyN_true (i := i) (by omega) (decide_eq_true h17))))
   ·intro n17
    refine W.skip (blockQ_normal (thenQ_normal ?_))
    refine W.L cok tab50 hnt [] (⟨[(0,.sl (.ints l)),(1,.i n),(5,.i (((i + 1) : Nat) : Int)),(10,.i ((i : Nat) : Int)),(11,.i (((i + 1) : Nat) : Int)),(17,.b (decide ((l.getD i 0) = n)))],[],[999]⟩)
     (True ∧ (True ∧ True ∧ (Fits .i64 (((i + 1) : Nat) : Int))) ∧ True ∧ True) (by kernel_rfl)
     ⟨tt,⟨tt,tt,(by exact fits_i64 (by omega) (by omega))⟩,tt,tt⟩ ?_
    refine thenQ_normal ?_
    refine ⟨((i + 1)),(show ((i + 1) ≤ l.length) ∧ (∀ j,j < (i + 1) → decide (l.getD j 0 = n) = false) from ⟨(by first | assumption | omega | rfl | (intro _ hjj; omega) | (simp; done) | (simp; omega)),(by exact upto_succ hA (decide_eq_false n17))⟩),(show l.length - (i + 1) < l.length - i from (by first | omega | (simp_all; omega))),?_⟩
    exact Sub.of [] (@cast ((((.ints l : Dat) = .ints l) ∧ (((.int .i64 n : Value) = .int .i64 n) ∧ (((.int .i64 (((i + 1) : Nat) : Int) : Value) = .int .i64 (((i + 1) : Nat) : Int)) ∧ True))) ∧ (True ∧ ((true = true) ∧ (true = true)))) _ (by kernel_rfl) ⟨⟨rfl,rfl,rfl,tt⟩,tt,rfl,rfl⟩)
  ·intro n9
   refine W.exit (thenQ_exit (thenQ_exit (blockQ_hit ?_)))
   refine thenQ_normal ?_
   refine W.K cok tab50 hnt [] [4] (⟨[(4,.b false)],[],[999]⟩)
    (True ∧ True) (by kernel_rfl)
    ⟨tt,tt⟩ ?_
   refine W.ret ?_
   exact endQ_ret (.b false) (by kernel_rfl) (@cast ((.bool false : Value) = .bool (hasInt l n)) _ (by kernel_rfl) (congrArg Value.bool (by unfold hasInt; symm; exact anyN_false (fun j hj => hA j (by omega)))))
theorem ent50 : Entr prog 50 := ⟨_,func50,rfl,by decide⟩
end Go.Proofs.Try
