import Derived.Test.YtmmndgfkaccgfaaNF4S0
import Derived.Test.YtmmndgfkaccgfaaNF4S1
import Derived.Test.YtmmndgfkaccgfaaNF4S4
import Derived.Test.YtmmndgfkaccgfaaNF4S8
import Derived.Test.YtmmndgfkaccgfaaNF4S9
set_option linter.unusedSimpArgs false
set_option linter.unusedVariables false
namespace Go.Proofs.Try
open Go.Ab Go.RowKit
def fs16 : FnS := fnS [.s .ints,.o] [.ints,.int] (fun _ (l,k,_) => (.i (heldI l k),[],(l.length ≤ 2000000) ∧ (0 ≤ k ∧ k ≤ 1000000000)))
abbrev T16 : Tab := lk []
theorem tab16 : TabOK prog T16 := TabOK.nil
set_option maxRecDepth 100000 in
set_option maxHeartbeats 1000000 in
theorem ok16 : FnOK prog 16 fs16 := by
 refine FnOK.mk cok func16 rfl rfl rfl ?_
 rintro fl ⟨(l : List Int),(k : Int),_⟩ hpre F hnt0 _
 have hnt : F.nt = 21 := hnt0.trans ntmps16
 replace hpre : (l.length ≤ 2000000) ∧ (0 ≤ k ∧ k ≤ 1000000000) := hpre
 obtain ⟨hn,hk⟩ := hpre
 refine W.to (⟨[(0,.sl (.ints l)),(1,.i k)],[],[999]⟩) rfl ?_
 refine W.lenOf 0 (.ints l) (by kernel_rfl) ?_
 intro hl_l; replace hl_l : List.length l ≤ 9223372036854775807 := hl_l
 refine W.K cok tab16 hnt [] [0,1] (⟨[(0,.sl (.ints l)),(1,.i k)],[],[999]⟩)
  (True ∧ True) (by kernel_rfl)
  ⟨tt,tt⟩ ?_
 refine W.seq ?_
 refine W.K cok tab16 hnt [] [0,1,5] (⟨[(0,.sl (.ints l)),(1,.i k),(5,.i (0 : Int))],[],[999]⟩)
  (True ∧ True) (by kernel_rfl)
  ⟨tt,tt⟩ ?_
 refine W.block ?_
 refine W.loop (ι := Nat × Int) (fun (x : Nat × Int) => match x with | (i,kk) => (⟨[(0,.sl (.ints l)),(1,.i kk),(5,.i ((i : Nat) : Int))],[],[999]⟩ : St))
  (fun (x : Nat × Int) => match x with | (i,kk) => (i ≤ l.length) ∧ (∀ j,j < i → heldAt l k j = true) ∧ (kk = k + ((i : Nat) : Int)))
  (fun (x : Nat × Int) => match x with | (i,kk) => (l.length - i : Nat)) (0,k) ?_ ?_ ?_
 ·exact (show (0 ≤ l.length) ∧ (∀ j,j < 0 → heldAt l k j = true) ∧ (k = k + ((0 : Nat) : Int)) from ⟨(by first | assumption | omega | rfl | (intro _ hjj; omega) | (simp; done) | (simp; omega)),(by exact upto_zero),(by first | assumption | omega | rfl | (intro _ hjj; omega) | (simp; done) | (simp; omega))⟩)
 ·exact Sub.of [] (@cast ((((.ints l : Dat) = .ints l) ∧ (((.int .i64 k : Value) = .int .i64 k) ∧ (((.int .i64 (0 : Int) : Value) = .int .i64 ((0 : Nat) : Int)) ∧ True))) ∧ (True ∧ ((true = true) ∧ (true = true)))) _ (by kernel_rfl) ⟨⟨rfl,rfl,(congrArg (Value.int .i64) (by first | rfl | omega | assumption | simp | simp_all)),tt⟩,tt,rfl,rfl⟩)
 ·rintro ⟨i,kk⟩ hC0
  have hC : (i ≤ l.length) ∧ (∀ j,j < i → heldAt l k j = true) ∧ (kk = k + ((i : Nat) : Int)) := hC0
  clear hC0
  obtain ⟨hi,hA,hk2⟩ := hC
  refine W.to (⟨[(0,.sl (.ints l)),(1,.i kk),(5,.i ((i : Nat) : Int))],[],[999]⟩) rfl ?_
  refine W.seq ?_
  refine W.K cok tab16 hnt [] [0,1,5,9] (⟨[(0,.sl (.ints l)),(1,.i kk),(5,.i ((i : Nat) : Int)),(9,.b (decide (((i : Nat) : Int) < (l.length : Int))))],[],[999]⟩)
   (True ∧ True ∧ True ∧ (True ∧ True ∧ True) ∧ True) (by kernel_rfl)
   ⟨tt,tt,tt,⟨tt,tt,tt⟩,tt⟩ ?_
  refine W.ifP (((i : Nat) : Int) < (l.length : Int)) (.b (decide (((i : Nat) : Int) < (l.length : Int)))) (by kernel_rfl) rfl trivial ?_ ?_
  ·intro h9
   refine W.skip (thenQ_normal ?_)
   refine W.seq ?_
   refine W.block ?_
   refine W.seq ?_
   refine W.K cok tab16 hnt [] [0,1,5,17] (⟨[(0,.sl (.ints l)),(1,.i kk),(5,.i ((i : Nat) : Int)),(17,.b (decide ((l.getD i 0) ≠ kk)))],[],[999]⟩)
    (True ∧ True ∧ (True ∧ True ∧ (0 ≤ ((i : Nat) : Int)) ∧ (((i : Nat) : Int) < (l.length : Int))) ∧ True ∧ True ∧ (True ∧ True ∧ True) ∧ True) (by kernel_rfl)
    ⟨tt,tt,⟨tt,tt,(by omega),(by omega)⟩,tt,tt,⟨tt,tt,tt⟩,tt⟩ ?_
   refine W.ifP ((l.getD i 0) ≠ kk) (.b (decide ((l.getD i 0) ≠ kk))) (by kernel_rfl) rfl trivial ?_ ?_
   ·intro h17
    refine W.K cok tab16 hnt [] [4] (⟨[(4,.i (-1 : Int))],[],[999]⟩)
     (True ∧ True) (by kernel_rfl)
     ⟨tt,tt⟩ ?_
    refine W.ret (thenQ_ret (blockQ_ret (thenQ_ret (thenQ_ret (blockQ_ret (thenQ_ret ?_))))))
    exact endQ_ret (.i (-1 : Int)) (by kernel_rfl) (@cast ((.int .i64 (-1 : Int) : Value) = .int .i64 (heldI l k)) _ (by kernel_rfl) (congrArg (Value.int .i64) (by exact (heldI_no (i := i) (by omega) hk2 h17).symm)))
   ·intro n17
    refine W.skip (thenQ_normal ?_)
    refine W.L cok tab16 hnt [] (⟨[(0,.sl (.ints l)),(1,.i (kk + (1 : Int))),(5,.i ((i : Nat) : Int)),(17,.b (decide ((l.getD i 0) ≠ kk))),(18,.i kk),(19,.i (kk + (1 : Int)))],[],[999]⟩)
     (True ∧ (True ∧ True ∧ (Fits .i64 (kk + (1 : Int)))) ∧ True ∧ True) (by kernel_rfl)
     ⟨tt,⟨tt,tt,(by exact fits_i64 (by omega) (by omega))⟩,tt,tt⟩ ?_
    refine blockQ_normal (thenQ_normal ?_)
    refine W.L cok tab16 hnt [] (⟨[(0,.sl (.ints l)),(1,.i (kk + (1 : Int))),(5,.i (((i + 1) : Nat) : Int)),(10,.i ((i : Nat) : Int)),(11,.i (((i + 1) : Nat) : Int)),(17,.b (decide ((l.getD i 0) ≠ kk))),(18,.i kk),(19,.i (kk + (1 : Int)))],[],[999]⟩)
     (True ∧ (True ∧ True ∧ (Fits .i64 (((i + 1) : Nat) : Int))) ∧ True ∧ True) (by kernel_rfl)
     ⟨tt,⟨tt,tt,(by exact fits_i64 (by omega) (by omega))⟩,tt,tt⟩ ?_
    refine thenQ_normal ?_
    refine ⟨((i + 1),(kk + (1 : Int))),(show ((i + 1) ≤ l.length) ∧ (∀ j,j < (i + 1) → heldAt l k j = true) ∧ ((kk + (1 : Int)) = k + (((i + 1) : Nat) : Int)) from ⟨(by first | assumption | omega | rfl | (intro _ hjj; omega) | (simp; done) | (simp; omega)),(by exact upto_succ hA (decide_eq_true (by rw [← hk2]; exact Decidable.not_not.1 n17))),(by first | assumption | omega | rfl | (intro _ hjj; omega) | (simp; done) | (simp; omega))⟩),(show l.length - (i + 1) < l.length - i from (by first | omega | (simp_all; omega))),?_⟩
    exact Sub.of [] (@cast ((((.ints l : Dat) = .ints l) ∧ (((.int .i64 (kk + (1 : Int)) : Value) = .int .i64 (kk + (1 : Int))) ∧ (((.int .i64 (((i + 1) : Nat) : Int) : Value) = .int .i64 (((i + 1) : Nat) : Int)) ∧ True))) ∧ (True ∧ ((true = true) ∧ (true = true)))) _ (by kernel_rfl) ⟨⟨rfl,rfl,rfl,tt⟩,tt,rfl,rfl⟩)
  ·intro n9
   refine W.exit (thenQ_exit (thenQ_exit (blockQ_hit ?_)))
   refine thenQ_normal ?_
   refine W.K cok tab16 hnt [] [4] (⟨[(4,.i kk)],[],[999]⟩)
    (True ∧ True ∧ True) (by kernel_rfl)
    ⟨tt,tt,tt⟩ ?_
   refine W.ret ?_
   exact endQ_ret (.i kk) (by kernel_rfl) (@cast ((.int .i64 kk : Value) = .int .i64 (heldI l k)) _ (by kernel_rfl) (congrArg (Value.int .i64) (by exact (heldI_yes hA hi hk2 n9).symm)))
theorem ent16 : Entr prog 16 := ⟨_,func16,rfl,by decide⟩
end Go.Proofs.Try

set_option linter.unusedSimpArgs false
set_option linter.unusedVariables false
namespace Go.Proofs.Try
open Go.Ab Go.RowKit
abbrev T15 : Tab := lk []
theorem tab15 : TabOK prog T15 := TabOK.nil
theorem ent15 : Entr prog 15 := ⟨_,func15,rfl,by decide⟩
set_option maxRecDepth 100000 in
set_option maxHeartbeats 1000000 in
theorem hok15 : ∀ (l : List Int) (k : Int),((l.length ≤ 2000000) ∧ (0 ≤ k ∧ k ≤ 1000000000)) → HOK prog 15 [911] [.own 911 l.length,.i k] [(911,⟨3,.row (.ints l)⟩)] [911] (fun r s1 u1 => r = (.i (k + (l.length : Int))) ∧ s1 = ([(911,⟨3,.row (.ints (markI l.length k))⟩)]) ∧ u1 = ([911])) := by
 intro l k hpre
 obtain ⟨hn,hk⟩ := hpre
 refine HOK.of cok func15 rfl rfl rfl ?_
 intro F hnt0
 have hnt : F.nt = 19 := hnt0.trans ntmps15
 refine W.to (⟨[(0,.own 911 l.length),(1,.i k)],[(911,⟨3,.row (.ints l)⟩)],[911]⟩) rfl ?_
 refine W.K cok tab15 hnt [] [0,1] (⟨[(0,.own 911 l.length),(1,.i k)],[(911,⟨3,.row (.ints l)⟩)],[911]⟩)
  (True ∧ True) (by kernel_rfl)
  ⟨tt,tt⟩ ?_
 refine W.seq ?_
 refine W.K cok tab15 hnt [] [0,1,5] (⟨[(0,.own 911 l.length),(1,.i k),(5,.i (0 : Int))],[(911,⟨3,.row (.ints l)⟩)],[911]⟩)
  (True ∧ True) (by kernel_rfl)
  ⟨tt,tt⟩ ?_
 refine W.block ?_
 refine W.loop (ι := Nat × Int × (List Int)) (fun (x : Nat × Int × (List Int)) => match x with | (i,kk,xs) => (⟨[(0,.own 911 l.length),(1,.i kk),(5,.i ((i : Nat) : Int))],[(911,⟨3,.row (.ints xs)⟩)],[911]⟩ : St))
  (fun (x : Nat × Int × (List Int)) => match x with | (i,kk,xs) => (i ≤ l.length) ∧ (xs = markIUp l k i) ∧ (kk = k + ((i : Nat) : Int)))
  (fun (x : Nat × Int × (List Int)) => match x with | (i,kk,xs) => (l.length - i : Nat)) (0,k,l) ?_ ?_ ?_
 ·exact (show (0 ≤ l.length) ∧ (l = markIUp l k 0) ∧ (k = k + ((0 : Nat) : Int)) from ⟨(by first | assumption | omega | rfl | (intro _ hjj; omega) | (simp; done) | (simp; omega)),(by exact markIUp_zero _ _),(by first | assumption | omega | rfl | (intro _ hjj; omega) | (simp; done) | (simp; omega))⟩)
 ·exact Sub.of [] (@cast (((((911 : Nat) = 911) ∧ ((l.length = l.length) ∧ ((911 : Nat) ∈ ([911] : List Nat)))) ∧ (((.int .i64 k : Value) = .int .i64 k) ∧ (((.int .i64 (0 : Int) : Value) = .int .i64 ((0 : Nat) : Int)) ∧ True))) ∧ (((((3 : Nat) = 3) ∧ (((.ints l : Dat) = .ints l) ∧ ((911 : Nat) ∈ ([911] : List Nat)))) ∧ True) ∧ ((true = true) ∧ (true = true)))) _ (by kernel_rfl) ⟨⟨⟨rfl,rfl,(by decide)⟩,rfl,(congrArg (Value.int .i64) (by first | rfl | omega | assumption | simp | simp_all)),tt⟩,⟨⟨rfl,rfl,(by decide)⟩,tt⟩,rfl,rfl⟩)
 ·rintro ⟨i,kk,xs⟩ hC0
  have hC : (i ≤ l.length) ∧ (xs = markIUp l k i) ∧ (kk = k + ((i : Nat) : Int)) := hC0
  clear hC0
  obtain ⟨hi,hx,hk2⟩ := hC
  refine W.to (⟨[(0,.own 911 l.length),(1,.i kk),(5,.i ((i : Nat) : Int))],[(911,⟨3,.row (.ints xs)⟩)],[911]⟩) rfl ?_
  have hxl : xs.length = l.length := by rw [hx]; exact markIUp_len l k hi
  refine W.seq ?_
  refine W.K cok tab15 hnt [] [0,1,5,9] (⟨[(0,.own 911 l.length),(1,.i kk),(5,.i ((i : Nat) : Int)),(9,.b (decide (((i : Nat) : Int) < (l.length : Int))))],[(911,⟨3,.row (.ints xs)⟩)],[911]⟩)
   (True ∧ True ∧ True ∧ (True ∧ True ∧ True) ∧ True) (by kernel_rfl)
   ⟨tt,tt,tt,⟨tt,tt,tt⟩,tt⟩ ?_
  refine W.ifP (((i : Nat) : Int) < (l.length : Int)) (.b (decide (((i : Nat) : Int) < (l.length : Int)))) (by kernel_rfl) rfl trivial ?_ ?_
  ·intro h9
   refine W.skip (thenQ_normal ?_)
   refine W.seq ?_
   refine W.block ?_
   refine W.K cok tab15 hnt [] [0,1,5] (⟨[(0,.own 911 l.length),(1,.i kk),(5,.i ((i : Nat) : Int))],[(911,⟨3,.row (.ints (List.set xs i kk))⟩)],[911]⟩)
    (True ∧ True ∧ True ∧ (True ∧ True ∧ (0 ≤ ((i : Nat) : Int)) ∧ (((i : Nat) : Int) < (l.length : Int))) ∧ (True ∧ True ∧ (i < xs.length)) ∧ True) (by kernel_rfl)
    ⟨tt,tt,tt,⟨tt,tt,(by omega),(by omega)⟩,⟨tt,tt,(by omega)⟩,tt⟩ ?_
   refine W.L cok tab15 hnt [] (⟨[(0,.own 911 l.length),(1,.i (kk + (1 : Int))),(5,.i ((i : Nat) : Int)),(16,.i kk),(17,.i (kk + (1 : Int)))],[(911,⟨3,.row (.ints (List.set xs i kk))⟩)],[911]⟩)
    (True ∧ (True ∧ True ∧ (Fits .i64 (kk + (1 : Int)))) ∧ True ∧ True) (by kernel_rfl)
    ⟨tt,⟨tt,tt,(by exact fits_i64 (by omega) (by omega))⟩,tt,tt⟩ ?_
   refine blockQ_normal (thenQ_normal ?_)
   refine W.L cok tab15 hnt [] (⟨[(0,.own 911 l.length),(1,.i (kk + (1 : Int))),(5,.i (((i + 1) : Nat) : Int)),(10,.i ((i : Nat) : Int)),(11,.i (((i + 1) : Nat) : Int)),(16,.i kk),(17,.i (kk + (1 : Int)))],[(911,⟨3,.row (.ints (List.set xs i kk))⟩)],[911]⟩)
    (True ∧ (True ∧ True ∧ (Fits .i64 (((i + 1) : Nat) : Int))) ∧ True ∧ True) (by kernel_rfl)
    ⟨tt,⟨tt,tt,(by exact fits_i64 (by omega) (by omega))⟩,tt,tt⟩ ?_
   refine thenQ_normal ?_
   refine ⟨((i + 1),(kk + (1 : Int)),(List.set xs i kk)),(show ((i + 1) ≤ l.length) ∧ ((List.set xs i kk) = markIUp l k (i + 1)) ∧ ((kk + (1 : Int)) = k + (((i + 1) : Nat) : Int)) from ⟨(by first | assumption | omega | rfl | (intro _ hjj; omega) | (simp; done) | (simp; omega)),(by exact markIUp_step hx (by omega) hk2),(by first | assumption | omega | rfl | (intro _ hjj; omega) | (simp; done) | (simp; omega))⟩),(show l.length - (i + 1) < l.length - i from (by first | omega | (simp_all; omega))),?_⟩
   exact Sub.of [] (@cast (((((911 : Nat) = 911) ∧ ((l.length = l.length) ∧ ((911 : Nat) ∈ ([911] : List Nat)))) ∧ (((.int .i64 (kk + (1 : Int)) : Value) = .int .i64 (kk + (1 : Int))) ∧ (((.int .i64 (((i + 1) : Nat) : Int) : Value) = .int .i64 (((i + 1) : Nat) : Int)) ∧ True))) ∧ (((((3 : Nat) = 3) ∧ (((.ints (List.set xs i kk) : Dat) = .ints (List.set xs i kk)) ∧ ((911 : Nat) ∈ ([911] : List Nat)))) ∧ True) ∧ ((true = true) ∧ (true = true)))) _ (by kernel_rfl) ⟨⟨⟨rfl,rfl,(by decide)⟩,rfl,rfl,tt⟩,⟨⟨rfl,rfl,(by decide)⟩,tt⟩,rfl,rfl⟩)
  ·intro n9
   refine W.exit (thenQ_exit (thenQ_exit (blockQ_hit ?_)))
   refine thenQ_normal ?_
   refine W.K cok tab15 hnt [] [4] (⟨[(4,.i kk)],[(911,⟨3,.row (.ints xs)⟩)],[911]⟩)
    (True ∧ True ∧ True) (by kernel_rfl)
    ⟨tt,tt,tt⟩ ?_
   refine W.ret ?_
   exact endH_ret (.i (k + (l.length : Int))) [(911,⟨3,.row (.ints (markI l.length k))⟩)] [911] ⟨rfl,rfl,rfl⟩ [(911,911)] (.i kk) (by kernel_rfl) (@cast (((.int .i64 kk : Value) = .int .i64 (k + (l.length : Int))) ∧ (((((3 : Nat) = 3) ∧ (((.ints xs : Dat) = .ints (markI l.length k)) ∧ ((911 : Nat) ∈ ([911] : List Nat)))) ∧ True) ∧ ((true = true) ∧ (true = true)))) _ (by kernel_rfl) ⟨(congrArg (Value.int .i64) (by first | exact markIUp_all hx hi (by assumption) | omega)),⟨⟨rfl,(congrArg Dat.ints (by first | exact markIUp_all hx hi (by assumption) | omega)),(by decide)⟩,tt⟩,rfl,rfl⟩)
end Go.Proofs.Try

set_option linter.unusedSimpArgs false
set_option linter.unusedVariables false
namespace Go.Proofs.Try
open Go.Ab Go.RowKit
def fs4 : FnS := fnS [.o,.s .calls] [.str,.calls] (fun _ (s,h,_) => (.b true,[],True))
abbrev T4 : Tab := lk [(7,fs7),(9,fs9),(12,fs12),(13,fs13),(14,fs14),(16,fs16),(17,fs17),(18,fs18o)]
theorem tab4 : TabOK prog T4 := (TabOK.cons ok7 ent7 (TabOK.cons ok9 ent9 (TabOK.cons ok12 ent12 (TabOK.cons ok13 ent13 (TabOK.cons ok14 ent14 (TabOK.cons ok16 ent16 (TabOK.cons ok17 ent17 (TabOK.cons ok18o ent18o TabOK.nil))))))))
set_option maxRecDepth 100000 in
set_option maxHeartbeats 1000000 in
theorem ok4 : FnOK prog 4 fs4 := by
 refine FnOK.mk cok func4 rfl rfl rfl ?_
 rintro fl ⟨(s : ByteArray),(h : List CallD),_⟩ hpre F hnt0 _
 have hnt : F.nt = 104 := hnt0.trans ntmps4
 clear hpre
 refine W.to (⟨[(0,.v (.string s)),(1,.sl (.calls h))],[],[999]⟩) rfl ?_
 refine W.lenOf 1 (.calls h) (by kernel_rfl) ?_
 intro hl_h; replace hl_h : List.length h ≤ 9223372036854775807 := hl_h
 refine W.K cok tab4 hnt [] [0,1] (⟨[(0,.v (.string s)),(1,.sl (.calls h))],[],[999]⟩)
  (True ∧ True) (by kernel_rfl)
  ⟨tt,tt⟩ ?_
 refine W.seq ?_
 refine W.K cok tab4 hnt [] [0,1,18] (⟨[(0,.v (.string s)),(1,.sl (.calls h)),(18,.b (decide ((1048576 : Int) < ((s.size : Nat) : Int))))],[],[999]⟩)
  (True ∧ True ∧ (True ∧ True ∧ True) ∧ True) (by kernel_rfl)
  ⟨tt,tt,⟨tt,tt,tt⟩,tt⟩ ?_
 refine W.ifP ((1048576 : Int) < ((s.size : Nat) : Int)) (.b (decide ((1048576 : Int) < ((s.size : Nat) : Int)))) (by kernel_rfl) rfl trivial ?_ ?_
 ·intro h18
  refine W.K cok tab4 hnt [] [4] (⟨[(4,.b true)],[],[999]⟩)
   (True ∧ True) (by kernel_rfl)
   ⟨tt,tt⟩ ?_
  refine W.ret (thenQ_ret ?_)
  exact endQ_ret (.b true) (by kernel_rfl) (@cast ((.bool true : Value) = .bool true) _ (by kernel_rfl) rfl)
 ·intro n18
  refine W.skip (thenQ_normal ?_)
  refine W.K cok tab4 hnt [] [0,1,5] (⟨[(0,.v (.string s)),(1,.sl (.calls h)),(5,.i (1048576 : Int))],[],[999]⟩)
   (True ∧ True) (by kernel_rfl)
   ⟨tt,tt⟩ ?_
  refine W.K cok tab4 hnt [] [0,1,5] (⟨[(0,.v (.string s)),(1,.sl (.calls h)),(5,.i (szC h (1048576 : Int)))],[],[999]⟩)
   (True ∧ True ∧ (True ∧ (True ∧ True ∧ True) ∧ ((1048576 : Int) = 1048576)) ∧ True ∧ True) (by kernel_rfl)
   ⟨tt,tt,⟨tt,⟨tt,tt,tt⟩,(by omega)⟩,tt,tt⟩ ?_
  refine W.seq ?_
  refine W.K cok tab4 hnt [] [0,1,23] (⟨[(0,.v (.string s)),(1,.sl (.calls h)),(23,.b (decide ((szC h (1048576 : Int)) < (0 : Int))))],[],[999]⟩)
   (True ∧ (True ∧ True ∧ True) ∧ True) (by kernel_rfl)
   ⟨tt,⟨tt,tt,tt⟩,tt⟩ ?_
  refine W.ifP ((szC h (1048576 : Int)) < (0 : Int)) (.b (decide ((szC h (1048576 : Int)) < (0 : Int)))) (by kernel_rfl) rfl trivial ?_ ?_
  ·intro h23
   refine W.K cok tab4 hnt [] [4] (⟨[(4,.b true)],[],[999]⟩)
    (True ∧ True) (by kernel_rfl)
    ⟨tt,tt⟩ ?_
   refine W.ret (thenQ_ret ?_)
   exact endQ_ret (.b true) (by kernel_rfl) (@cast ((.bool true : Value) = .bool true) _ (by kernel_rfl) rfl)
  ·intro n23
   have hn := sz_ok n23
   have hbl : (blameP s h).1.length ≤ h.length := blame1_len
   refine W.skip (thenQ_normal ?_)
   refine W.K cok tab4 hnt [] [0,1,6,7] (⟨[(0,.v (.string s)),(1,.sl (.calls h)),(6,.sl (.ints ((blameP s h).1))),(7,.b ((blameP s h).2))],[],[27,999]⟩)
    (True ∧ True ∧ ((True ∧ (True ∧ True) ∧ (h.length ≤ 1048576)) ∧ (h.length = h.length)) ∧ (True ∧ (True ∧ True ∧ True) ∧ True) ∧ True ∧ True ∧ True ∧ True ∧ True ∧ True) (by kernel_rfl)
    ⟨tt,tt,⟨⟨tt,⟨tt,tt⟩,(by omega)⟩,rfl⟩,⟨tt,⟨tt,tt,tt⟩,tt⟩,tt,tt,tt,tt,tt,tt⟩ ?_
   refine W.K cok tab4 hnt [32] [0,1,6,7,8] (⟨[(0,.v (.string s)),(1,.sl (.calls h)),(6,.sl (.ints ((blameP s h).1))),(7,.b ((blameP s h).2)),(8,.own 32 h.length)],[(32,⟨47,.row (.calls h)⟩)],[32,27,999]⟩)
    (True ∧ (True ∧ (True ∧ True) ∧ (h.length ≤ 1048576)) ∧ True ∧ True) (by kernel_rfl)
    ⟨tt,⟨tt,⟨tt,tt⟩,(by omega)⟩,tt,tt⟩ ?_
   refine W.K cok tab4 hnt [] [0,1,6,7,8,9,10] (⟨[(0,.v (.string s)),(1,.sl (.calls h)),(6,.sl (.ints ((blameP s h).1))),(7,.b ((blameP s h).2)),(8,.own 32 h.length),(9,.own 36 (List.length ((blameP s h).1))),(10,.b ((blameP s h).2))],[(32,⟨47,.row (.calls h)⟩),(36,⟨3,.row (.ints ((blameP s h).1))⟩)],[36,32,27,999]⟩)
    (True ∧ True ∧ (True ∧ (True ∧ (True ∧ (h.length = h.length)) ∧ True) ∧ True) ∧ True ∧ True ∧ True ∧ True ∧ True ∧ True) (by kernel_rfl)
    ⟨tt,tt,⟨tt,⟨tt,⟨tt,rfl⟩,tt⟩,tt⟩,tt,tt,tt,tt,tt,tt⟩ ?_
   refine W.seq ?_
   refine W.K cok tab4 hnt [] [0,1,6,7,8,9,10,47] (⟨[(0,.v (.string s)),(1,.sl (.calls h)),(6,.sl (.ints ((blameP s h).1))),(7,.b ((blameP s h).2)),(8,.own 32 h.length),(9,.own 36 (List.length ((blameP s h).1))),(10,.b ((blameP s h).2)),(47,.b ((!(decide (((blameP s h).1) = ((blameP s h).1)))) || (((blameP s h).2) != ((blameP s h).2))))],[(32,⟨47,.row (.calls h)⟩),(36,⟨3,.row (.ints ((blameP s h).1))⟩)],[36,32,27,999]⟩)
    (True ∧ True ∧ (True ∧ ((True ∧ ((List.length ((blameP s h).1)) = (List.length ((blameP s h).1)))) ∧ True ∧ True) ∧ True) ∧ True ∧ True ∧ ((!(!(decide (((blameP s h).1) = ((blameP s h).1))))) = true → True) ∧ ((!(!(decide (((blameP s h).1) = ((blameP s h).1))))) = true → True) ∧ ((!(!(decide (((blameP s h).1) = ((blameP s h).1))))) = true → ((((!(!(decide (((blameP s h).1) = ((blameP s h).1))))) = true) ∧ True) ∧ ((!(!(decide (((blameP s h).1) = ((blameP s h).1))))) = true) ∧ True)) ∧ (True ∧ ((!(decide (((blameP s h).1) = ((blameP s h).1)))) = true → True) ∧ ((!(decide (((blameP s h).1) = ((blameP s h).1)))) = false → ((!(!(decide (((blameP s h).1) = ((blameP s h).1))))) = true) ∧ True)) ∧ True) (by kernel_rfl)
    ⟨tt,tt,⟨tt,⟨⟨tt,rfl⟩,tt,tt⟩,tt⟩,tt,tt,(fun _ => trivial),(fun _ => trivial),(fun hG => ⟨⟨hG,tt⟩,hG,tt⟩),⟨tt,(fun _ => trivial),(fun hp => ⟨(not_t hp),tt⟩)⟩,tt⟩ ?_
   refine W.if' ((!(decide (((blameP s h).1) = ((blameP s h).1)))) || (((blameP s h).2) != ((blameP s h).2))) (.b ((!(decide (((blameP s h).1) = ((blameP s h).1)))) || (((blameP s h).2) != ((blameP s h).2)))) (by kernel_rfl) rfl trivial ?_ ?_
   ·intro h47
    refine W.K cok tab4 hnt [] [4] (⟨[(4,.b false)],[(32,⟨47,.row (.calls h)⟩),(36,⟨3,.row (.ints ((blameP s h).1))⟩)],[36,32,27,999]⟩)
     (True ∧ True) (by kernel_rfl)
     ⟨tt,tt⟩ ?_
    refine W.ret (thenQ_ret ?_)
    exact endQ_ret (.b false) (by kernel_rfl) (@cast ((.bool false : Value) = .bool true) _ (by kernel_rfl) (congrArg Value.bool (by exfalso; simp at h47)))
   ·intro n47
    refine W.skip (thenQ_normal ?_)
    refine W.seq ?_
    refine W.K cok tab4 hnt [] [0,1,6,7,8,9,10,52] (⟨[(0,.v (.string s)),(1,.sl (.calls h)),(6,.sl (.ints ((blameP s h).1))),(7,.b ((blameP s h).2)),(8,.own 32 h.length),(9,.own 36 (List.length ((blameP s h).1))),(10,.b ((blameP s h).2)),(52,.b (!(decide (h = h))))],[(32,⟨47,.row (.calls h)⟩),(36,⟨3,.row (.ints ((blameP s h).1))⟩)],[50,36,32,27,999]⟩)
     (True ∧ True ∧ ((True ∧ (True ∧ True) ∧ (h.length ≤ 1048576)) ∧ (h.length = h.length)) ∧ (True ∧ ((True ∧ (h.length = h.length)) ∧ True ∧ True) ∧ True) ∧ True ∧ True) (by kernel_rfl)
     ⟨tt,tt,⟨⟨tt,⟨tt,tt⟩,(by omega)⟩,rfl⟩,⟨tt,⟨⟨tt,rfl⟩,tt,tt⟩,tt⟩,tt,tt⟩ ?_
    refine W.if' (!(decide (h = h))) (.b (!(decide (h = h)))) (by kernel_rfl) rfl trivial ?_ ?_
    ·intro h52
     refine W.K cok tab4 hnt [] [4] (⟨[(4,.b false)],[(32,⟨47,.row (.calls h)⟩),(36,⟨3,.row (.ints ((blameP s h).1))⟩)],[50,36,32,27,999]⟩)
      (True ∧ True) (by kernel_rfl)
      ⟨tt,tt⟩ ?_
     refine W.ret (thenQ_ret ?_)
     exact endQ_ret (.b false) (by kernel_rfl) (@cast ((.bool false : Value) = .bool true) _ (by kernel_rfl) (congrArg Value.bool (by exfalso; simp at h52)))
    ·intro n52
     refine W.skip (thenQ_normal ?_)
     refine W.K cok tab4 hnt [] [0,1,6,7,8,9,10,11] (⟨[(0,.v (.string s)),(1,.sl (.calls h)),(6,.sl (.ints ((blameP s h).1))),(7,.b ((blameP s h).2)),(8,.own 32 h.length),(9,.own 36 (List.length ((blameP s h).1))),(10,.b ((blameP s h).2)),(11,.i (1 : Int))],[(32,⟨47,.row (.calls h)⟩),(36,⟨3,.row (.ints ((blameP s h).1))⟩)],[50,36,32,27,999]⟩)
      (True ∧ True) (by kernel_rfl)
      ⟨tt,tt⟩ ?_
     refine W.K cok tab4 hnt [] [0,1,6,7,9,10,11] (⟨[(0,.v (.string s)),(1,.sl (.calls h)),(6,.sl (.ints ((blameP s h).1))),(7,.b ((blameP s h).2)),(9,.own 36 (List.length ((blameP s h).1))),(10,.b ((blameP s h).2)),(11,.i ((1 : Int) + 7 * (h.length : Int)))],[(36,⟨3,.row (.ints ((blameP s h).1))⟩)],[50,36,32,27,999]⟩)
      (True ∧ True ∧ (True ∧ ((True ∧ (h.length = h.length)) ∧ True ∧ True) ∧ (h.length ≤ 2000000) ∧ 0 ≤ (1 : Int) ∧ (1 : Int) ≤ 1000000000) ∧ True ∧ True) (by kernel_rfl)
      ⟨tt,tt,⟨tt,⟨⟨tt,rfl⟩,tt,tt⟩,(by omega),(by omega)⟩,tt,tt⟩ ?_
     refine W.seq ?_
     refine W.K cok tab4 hnt [] [0,1,6,7,9,68] (⟨[(0,.v (.string s)),(1,.sl (.calls h)),(6,.sl (.ints ((blameP s h).1))),(7,.b ((blameP s h).2)),(9,.own 36 (List.length ((blameP s h).1))),(68,.b (((decide (((1 : Int) + 7 * (h.length : Int)) < (0 : Int))) || (!(decide (((blameP s h).1) = ((blameP s h).1))))) || (((blameP s h).2) != ((blameP s h).2))))],[(36,⟨3,.row (.ints ((blameP s h).1))⟩)],[50,36,32,27,999]⟩)
      (True ∧ (True ∧ True ∧ True) ∧ True ∧ ((!(decide (((1 : Int) + 7 * (h.length : Int)) < (0 : Int)))) = true → True) ∧ ((!(decide (((1 : Int) + 7 * (h.length : Int)) < (0 : Int)))) = true → True) ∧ ((!(decide (((1 : Int) + 7 * (h.length : Int)) < (0 : Int)))) = true → (True ∧ (((((!(decide (((1 : Int) + 7 * (h.length : Int)) < (0 : Int)))) = true) ∧ True) ∧ ((List.length ((blameP s h).1)) = (List.length ((blameP s h).1)))) ∧ (((!(decide (((1 : Int) + 7 * (h.length : Int)) < (0 : Int)))) = true) ∧ True) ∧ True) ∧ True)) ∧ ((!(decide (((1 : Int) + 7 * (h.length : Int)) < (0 : Int)))) = true → (((!(decide (((1 : Int) + 7 * (h.length : Int)) < (0 : Int)))) = true) ∧ True)) ∧ (True ∧ ((decide (((1 : Int) + 7 * (h.length : Int)) < (0 : Int))) = true → True) ∧ ((decide (((1 : Int) + 7 * (h.length : Int)) < (0 : Int))) = false → ((!(decide (((1 : Int) + 7 * (h.length : Int)) < (0 : Int)))) = true) ∧ True)) ∧ True ∧ ((!((decide (((1 : Int) + 7 * (h.length : Int)) < (0 : Int))) || (!(decide (((blameP s h).1) = ((blameP s h).1)))))) = true → True) ∧ ((!((decide (((1 : Int) + 7 * (h.length : Int)) < (0 : Int))) || (!(decide (((blameP s h).1) = ((blameP s h).1)))))) = true → True) ∧ ((!((decide (((1 : Int) + 7 * (h.length : Int)) < (0 : Int))) || (!(decide (((blameP s h).1) = ((blameP s h).1)))))) = true → ((((!((decide (((1 : Int) + 7 * (h.length : Int)) < (0 : Int))) || (!(decide (((blameP s h).1) = ((blameP s h).1)))))) = true) ∧ True) ∧ ((!((decide (((1 : Int) + 7 * (h.length : Int)) < (0 : Int))) || (!(decide (((blameP s h).1) = ((blameP s h).1)))))) = true) ∧ True)) ∧ (True ∧ (((decide (((1 : Int) + 7 * (h.length : Int)) < (0 : Int))) || (!(decide (((blameP s h).1) = ((blameP s h).1))))) = true → True) ∧ (((decide (((1 : Int) + 7 * (h.length : Int)) < (0 : Int))) || (!(decide (((blameP s h).1) = ((blameP s h).1))))) = false → ((!((decide (((1 : Int) + 7 * (h.length : Int)) < (0 : Int))) || (!(decide (((blameP s h).1) = ((blameP s h).1)))))) = true) ∧ True)) ∧ True) (by kernel_rfl)
      ⟨tt,⟨tt,tt,tt⟩,tt,(fun _ => trivial),(fun _ => trivial),(fun hG => ⟨tt,⟨⟨⟨hG,tt⟩,rfl⟩,⟨hG,tt⟩,tt⟩,tt⟩),(fun hG => ⟨hG,tt⟩),⟨tt,(fun _ => trivial),(fun hp => ⟨(not_t hp),tt⟩)⟩,tt,(fun _ => trivial),(fun _ => trivial),(fun hG => ⟨⟨hG,tt⟩,hG,tt⟩),⟨tt,(fun _ => trivial),(fun hp => ⟨(not_t hp),tt⟩)⟩,tt⟩ ?_
     refine W.if' (((decide (((1 : Int) + 7 * (h.length : Int)) < (0 : Int))) || (!(decide (((blameP s h).1) = ((blameP s h).1))))) || (((blameP s h).2) != ((blameP s h).2))) (.b (((decide (((1 : Int) + 7 * (h.length : Int)) < (0 : Int))) || (!(decide (((blameP s h).1) = ((blameP s h).1))))) || (((blameP s h).2) != ((blameP s h).2)))) (by kernel_rfl) rfl trivial ?_ ?_
     ·intro h68
      refine W.K cok tab4 hnt [] [4] (⟨[(4,.b false)],[(36,⟨3,.row (.ints ((blameP s h).1))⟩)],[50,36,32,27,999]⟩)
       (True ∧ True) (by kernel_rfl)
       ⟨tt,tt⟩ ?_
      refine W.ret (thenQ_ret ?_)
      exact endQ_ret (.b false) (by kernel_rfl) (@cast ((.bool false : Value) = .bool true) _ (by kernel_rfl) (congrArg Value.bool (by exfalso; simp at h68; omega)))
     ·intro n68
      have n68_0 : ¬ (((1 : Int) + 7 * (h.length : Int)) < (0 : Int)) := of_decide_eq_false (or_l (or_l n68))
      refine W.skip (thenQ_normal ?_)
      refine W.K cok tab4 hnt [] [0,1,6,7,9,12] (⟨[(0,.v (.string s)),(1,.sl (.calls h)),(6,.sl (.ints ((blameP s h).1))),(7,.b ((blameP s h).2)),(9,.own 36 (List.length ((blameP s h).1))),(12,.i (1 : Int))],[(36,⟨3,.row (.ints ((blameP s h).1))⟩)],[50,36,32,27,999]⟩)
       (True ∧ True) (by kernel_rfl)
       ⟨tt,tt⟩ ?_
      refine W.seq (W.wi ?_)
      refine WI.runT cok tab4 hnt [] 2 2 (⟨[(0,.v (.string s)),(1,.sl (.calls h)),(6,.sl (.ints ((blameP s h).1))),(7,.b ((blameP s h).2)),(9,.own 36 (List.length ((blameP s h).1))),(12,.i (1 : Int)),(69,.own 36 (List.length ((blameP s h).1))),(70,.i (1 : Int))],[(36,⟨3,.row (.ints ((blameP s h).1))⟩)],[50,36,32,27,999]⟩)
       (True ∧ True ∧ True) (by kernel_rfl) rfl
       ⟨tt,tt,tt⟩ ?_
      refine WI.callH _ [.own 36 (List.length ((blameP s h).1)),.i (1 : Int)] [] (.fn 15 []) _ _ [(911,36)] (hok15 ((blameP s h).1) (1 : Int) ⟨(by omega),(by omega)⟩) ent15 hnt rfl rfl (wanted_none rfl) (by kernel_rfl) (by kernel_rfl) trivial (by kernel_rfl) (by kernel_rfl) (by kernel_rfl) (@cast (((some ⟨3,.row (.ints ((blameP s h).1))⟩ : Option LB) = some ⟨3,.row (.ints ((blameP s h).1))⟩) ∧ ((true = true) ∧ (True))) _ (by kernel_rfl) ⟨rfl,rfl,tt⟩) (by kernel_rfl) rfl ?_
      rintro r s1 u1 ⟨rfl,rfl,rfl⟩
      refine ⟨[(911,36)],by kernel_rfl,WI.to (⟨[(0,.v (.string s)),(1,.sl (.calls h)),(6,.sl (.ints ((blameP s h).1))),(7,.b ((blameP s h).2)),(9,.own 36 (List.length ((blameP s h).1))),(12,.i (1 : Int)),(69,.own 36 (List.length ((blameP s h).1))),(70,.i (1 : Int)),(71,.i ((1 : Int) + ((((blameP s h).1).length : Nat) : Int)))],[(36,⟨3,.row (.ints (markI ((blameP s h).1).length (1 : Int)))⟩)],[50,36,32,27,999]⟩) 3 (by kernel_rfl) rfl ?_⟩
      refine WI.runT cok tab4 hnt [] 1 4 (⟨[(0,.v (.string s)),(1,.sl (.calls h)),(6,.sl (.ints ((blameP s h).1))),(7,.b ((blameP s h).2)),(9,.own 36 (List.length ((blameP s h).1))),(12,.i ((1 : Int) + ((((blameP s h).1).length : Nat) : Int))),(69,.own 36 (List.length ((blameP s h).1))),(70,.i (1 : Int)),(71,.i ((1 : Int) + ((((blameP s h).1).length : Nat) : Int)))],[(36,⟨3,.row (.ints (markI ((blameP s h).1).length (1 : Int)))⟩)],[50,36,32,27,999]⟩)
       (True ∧ True) (by kernel_rfl) rfl
       ⟨tt,tt⟩ ?_
      refine WI.nil rfl (thenQ_normal ?_)
      refine W.keepE [0,1,6,7,9,12] [(0,.v (.string s)),(1,.sl (.calls h)),(6,.sl (.ints ((blameP s h).1))),(7,.b ((blameP s h).2)),(9,.own 36 (List.length ((blameP s h).1))),(12,.i ((1 : Int) + ((((blameP s h).1).length : Nat) : Int)))] (by kernel_rfl) ?_
      refine W.to (⟨[(0,.v (.string s)),(1,.sl (.calls h)),(6,.sl (.ints ((blameP s h).1))),(7,.b ((blameP s h).2)),(9,.own 36 (List.length ((blameP s h).1))),(12,.i ((1 : Int) + ((((blameP s h).1).length : Nat) : Int)))],[(36,⟨3,.row (.ints (markI ((blameP s h).1).length (1 : Int)))⟩)],[50,36,32,27,999]⟩) rfl ?_
      refine W.K cok tab4 hnt [] [0,1,6,7,9,12,13] (⟨[(0,.v (.string s)),(1,.sl (.calls h)),(6,.sl (.ints ((blameP s h).1))),(7,.b ((blameP s h).2)),(9,.own 36 (List.length ((blameP s h).1))),(12,.i ((1 : Int) + ((((blameP s h).1).length : Nat) : Int))),(13,.i (1 : Int))],[(36,⟨3,.row (.ints (markI ((blameP s h).1).length (1 : Int)))⟩)],[50,36,32,27,999]⟩)
       (True ∧ True) (by kernel_rfl)
       ⟨tt,tt⟩ ?_
      refine W.K cok tab4 hnt [] [0,1,6,7,9,12,13] (⟨[(0,.v (.string s)),(1,.sl (.calls h)),(6,.sl (.ints ((blameP s h).1))),(7,.b ((blameP s h).2)),(9,.own 36 (List.length ((blameP s h).1))),(12,.i ((1 : Int) + ((((blameP s h).1).length : Nat) : Int))),(13,.i (heldI (markI ((blameP s h).1).length (1 : Int)) (1 : Int)))],[(36,⟨3,.row (.ints (markI ((blameP s h).1).length (1 : Int)))⟩)],[50,36,32,27,999]⟩)
       (True ∧ True ∧ (True ∧ ((True ∧ ((List.length ((blameP s h).1)) = (List.length (markI ((blameP s h).1).length (1 : Int))))) ∧ True ∧ True) ∧ ((markI ((blameP s h).1).length (1 : Int)).length ≤ 2000000) ∧ 0 ≤ (1 : Int) ∧ (1 : Int) ≤ 1000000000) ∧ True ∧ True) (by kernel_rfl)
       ⟨tt,tt,⟨tt,⟨⟨tt,(by rw [markI_len] <;> omega)⟩,tt,tt⟩,(by rw [markI_len] <;> omega),(by omega)⟩,tt,tt⟩ ?_
      refine W.seq ?_
      refine W.K cok tab4 hnt [] [0,1,6,7,9,12,13,76] (⟨[(0,.v (.string s)),(1,.sl (.calls h)),(6,.sl (.ints ((blameP s h).1))),(7,.b ((blameP s h).2)),(9,.own 36 (List.length ((blameP s h).1))),(12,.i ((1 : Int) + ((((blameP s h).1).length : Nat) : Int))),(13,.i (heldI (markI ((blameP s h).1).length (1 : Int)) (1 : Int))),(76,.b (decide ((heldI (markI ((blameP s h).1).length (1 : Int)) (1 : Int)) < (0 : Int))))],[(36,⟨3,.row (.ints (markI ((blameP s h).1).length (1 : Int)))⟩)],[50,36,32,27,999]⟩)
       (True ∧ (True ∧ True ∧ True) ∧ True) (by kernel_rfl)
       ⟨tt,⟨tt,tt,tt⟩,tt⟩ ?_
      refine W.ifP ((heldI (markI ((blameP s h).1).length (1 : Int)) (1 : Int)) < (0 : Int)) (.b (decide ((heldI (markI ((blameP s h).1).length (1 : Int)) (1 : Int)) < (0 : Int)))) (by kernel_rfl) rfl trivial ?_ ?_
      ·intro h76
       refine W.K cok tab4 hnt [] [4] (⟨[(4,.b false)],[(36,⟨3,.row (.ints (markI ((blameP s h).1).length (1 : Int)))⟩)],[50,36,32,27,999]⟩)
        (True ∧ True) (by kernel_rfl)
        ⟨tt,tt⟩ ?_
       refine W.ret (thenQ_ret ?_)
       exact endQ_ret (.b false) (by kernel_rfl) (@cast ((.bool false : Value) = .bool true) _ (by kernel_rfl) (congrArg Value.bool (by exfalso; rw [heldI_mark] at h76; omega)))
      ·intro n76
       refine W.skip (thenQ_normal ?_)
       refine W.seq ?_
       refine W.K cok tab4 hnt [] [0,1,6,7,9,12,79] (⟨[(0,.v (.string s)),(1,.sl (.calls h)),(6,.sl (.ints ((blameP s h).1))),(7,.b ((blameP s h).2)),(9,.own 36 (List.length ((blameP s h).1))),(12,.i ((1 : Int) + ((((blameP s h).1).length : Nat) : Int))),(79,.b (decide ((heldI (markI ((blameP s h).1).length (1 : Int)) (1 : Int)) ≠ ((1 : Int) + ((((blameP s h).1).length : Nat) : Int)))))],[(36,⟨3,.row (.ints (markI ((blameP s h).1).length (1 : Int)))⟩)],[50,36,32,27,999]⟩)
        (True ∧ True ∧ (True ∧ True ∧ True) ∧ True) (by kernel_rfl)
        ⟨tt,tt,⟨tt,tt,tt⟩,tt⟩ ?_
       refine W.ifP ((heldI (markI ((blameP s h).1).length (1 : Int)) (1 : Int)) ≠ ((1 : Int) + ((((blameP s h).1).length : Nat) : Int))) (.b (decide ((heldI (markI ((blameP s h).1).length (1 : Int)) (1 : Int)) ≠ ((1 : Int) + ((((blameP s h).1).length : Nat) : Int))))) (by kernel_rfl) rfl trivial ?_ ?_
       ·intro h79
        refine W.K cok tab4 hnt [] [4] (⟨[(4,.b false)],[(36,⟨3,.row (.ints (markI ((blameP s h).1).length (1 : Int)))⟩)],[50,36,32,27,999]⟩)
         (True ∧ True) (by kernel_rfl)
         ⟨tt,tt⟩ ?_
        refine W.ret (thenQ_ret ?_)
        exact endQ_ret (.b false) (by kernel_rfl) (@cast ((.bool false : Value) = .bool true) _ (by kernel_rfl) (congrArg Value.bool (by exfalso; rw [heldI_mark] at h79; omega)))
       ·intro n79
        refine W.skip (thenQ_normal ?_)
        refine W.K cok tab4 hnt [] [6,7,9,12,14,15] (⟨[(6,.sl (.ints ((blameP s h).1))),(7,.b ((blameP s h).2)),(9,.own 36 (List.length ((blameP s h).1))),(12,.i ((1 : Int) + ((((blameP s h).1).length : Nat) : Int))),(14,.own 84 (List.length ((blameP s h).1))),(15,.b ((blameP s h).2))],[(36,⟨3,.row (.ints (markI ((blameP s h).1).length (1 : Int)))⟩),(84,⟨3,.row (.ints ((blameP s h).1))⟩)],[84,83,50,36,32,27,999]⟩)
         (True ∧ True ∧ ((True ∧ (True ∧ True) ∧ (h.length ≤ 1048576)) ∧ (h.length = h.length)) ∧ (True ∧ (True ∧ True ∧ True) ∧ True) ∧ True ∧ True ∧ True ∧ True ∧ True ∧ True) (by kernel_rfl)
         ⟨tt,tt,⟨⟨tt,⟨tt,tt⟩,(by omega)⟩,rfl⟩,⟨tt,⟨tt,tt,tt⟩,tt⟩,tt,tt,tt,tt,tt,tt⟩ ?_
        refine W.seq ?_
        refine W.K cok tab4 hnt [] [9,12,95] (⟨[(9,.own 36 (List.length ((blameP s h).1))),(12,.i ((1 : Int) + ((((blameP s h).1).length : Nat) : Int))),(95,.b ((!(decide (((blameP s h).1) = ((blameP s h).1)))) || (((blameP s h).2) != ((blameP s h).2))))],[(36,⟨3,.row (.ints (markI ((blameP s h).1).length (1 : Int)))⟩),(84,⟨3,.row (.ints ((blameP s h).1))⟩)],[84,83,50,36,32,27,999]⟩)
         (True ∧ True ∧ (True ∧ ((True ∧ ((List.length ((blameP s h).1)) = (List.length ((blameP s h).1)))) ∧ True ∧ True) ∧ True) ∧ True ∧ True ∧ ((!(!(decide (((blameP s h).1) = ((blameP s h).1))))) = true → True) ∧ ((!(!(decide (((blameP s h).1) = ((blameP s h).1))))) = true → True) ∧ ((!(!(decide (((blameP s h).1) = ((blameP s h).1))))) = true → ((((!(!(decide (((blameP s h).1) = ((blameP s h).1))))) = true) ∧ True) ∧ ((!(!(decide (((blameP s h).1) = ((blameP s h).1))))) = true) ∧ True)) ∧ (True ∧ ((!(decide (((blameP s h).1) = ((blameP s h).1)))) = true → True) ∧ ((!(decide (((blameP s h).1) = ((blameP s h).1)))) = false → ((!(!(decide (((blameP s h).1) = ((blameP s h).1))))) = true) ∧ True)) ∧ True) (by kernel_rfl)
         ⟨tt,tt,⟨tt,⟨⟨tt,rfl⟩,tt,tt⟩,tt⟩,tt,tt,(fun _ => trivial),(fun _ => trivial),(fun hG => ⟨⟨hG,tt⟩,hG,tt⟩),⟨tt,(fun _ => trivial),(fun hp => ⟨(not_t hp),tt⟩)⟩,tt⟩ ?_
        refine W.if' ((!(decide (((blameP s h).1) = ((blameP s h).1)))) || (((blameP s h).2) != ((blameP s h).2))) (.b ((!(decide (((blameP s h).1) = ((blameP s h).1)))) || (((blameP s h).2) != ((blameP s h).2)))) (by kernel_rfl) rfl trivial ?_ ?_
        ·intro h95
         refine W.K cok tab4 hnt [] [4] (⟨[(4,.b false)],[(36,⟨3,.row (.ints (markI ((blameP s h).1).length (1 : Int)))⟩),(84,⟨3,.row (.ints ((blameP s h).1))⟩)],[84,83,50,36,32,27,999]⟩)
          (True ∧ True) (by kernel_rfl)
          ⟨tt,tt⟩ ?_
         refine W.ret (thenQ_ret ?_)
         exact endQ_ret (.b false) (by kernel_rfl) (@cast ((.bool false : Value) = .bool true) _ (by kernel_rfl) (congrArg Value.bool (by exfalso; simp at h95)))
        ·intro n95
         refine W.skip (thenQ_normal ?_)
         refine W.K cok tab4 hnt [] [9,12,13] (⟨[(9,.own 36 (List.length ((blameP s h).1))),(12,.i ((1 : Int) + ((((blameP s h).1).length : Nat) : Int))),(13,.i (1 : Int))],[(36,⟨3,.row (.ints (markI ((blameP s h).1).length (1 : Int)))⟩),(84,⟨3,.row (.ints ((blameP s h).1))⟩)],[84,83,50,36,32,27,999]⟩)
          (True ∧ True) (by kernel_rfl)
          ⟨tt,tt⟩ ?_
         refine W.K cok tab4 hnt [] [12,13] (⟨[(12,.i ((1 : Int) + ((((blameP s h).1).length : Nat) : Int))),(13,.i (heldI (markI ((blameP s h).1).length (1 : Int)) (1 : Int)))],[(36,⟨3,.row (.ints (markI ((blameP s h).1).length (1 : Int)))⟩),(84,⟨3,.row (.ints ((blameP s h).1))⟩)],[84,83,50,36,32,27,999]⟩)
          (True ∧ True ∧ (True ∧ ((True ∧ ((List.length ((blameP s h).1)) = (List.length (markI ((blameP s h).1).length (1 : Int))))) ∧ True ∧ True) ∧ ((markI ((blameP s h).1).length (1 : Int)).length ≤ 2000000) ∧ 0 ≤ (1 : Int) ∧ (1 : Int) ≤ 1000000000) ∧ True ∧ True) (by kernel_rfl)
          ⟨tt,tt,⟨tt,⟨⟨tt,(by rw [markI_len] <;> omega)⟩,tt,tt⟩,(by rw [markI_len] <;> omega),(by omega)⟩,tt,tt⟩ ?_
         refine W.seq ?_
         refine W.K cok tab4 hnt [] [12,13,100] (⟨[(12,.i ((1 : Int) + ((((blameP s h).1).length : Nat) : Int))),(13,.i (heldI (markI ((blameP s h).1).length (1 : Int)) (1 : Int))),(100,.b (decide ((heldI (markI ((blameP s h).1).length (1 : Int)) (1 : Int)) < (0 : Int))))],[(36,⟨3,.row (.ints (markI ((blameP s h).1).length (1 : Int)))⟩),(84,⟨3,.row (.ints ((blameP s h).1))⟩)],[84,83,50,36,32,27,999]⟩)
          (True ∧ (True ∧ True ∧ True) ∧ True) (by kernel_rfl)
          ⟨tt,⟨tt,tt,tt⟩,tt⟩ ?_
         refine W.ifP ((heldI (markI ((blameP s h).1).length (1 : Int)) (1 : Int)) < (0 : Int)) (.b (decide ((heldI (markI ((blameP s h).1).length (1 : Int)) (1 : Int)) < (0 : Int)))) (by kernel_rfl) rfl trivial ?_ ?_
         ·intro h100
          refine W.K cok tab4 hnt [] [4] (⟨[(4,.b false)],[(36,⟨3,.row (.ints (markI ((blameP s h).1).length (1 : Int)))⟩),(84,⟨3,.row (.ints ((blameP s h).1))⟩)],[84,83,50,36,32,27,999]⟩)
           (True ∧ True) (by kernel_rfl)
           ⟨tt,tt⟩ ?_
          refine W.ret (thenQ_ret ?_)
          exact endQ_ret (.b false) (by kernel_rfl) (@cast ((.bool false : Value) = .bool true) _ (by kernel_rfl) (congrArg Value.bool (by exfalso; rw [heldI_mark] at h100; omega)))
         ·intro n100
          refine W.skip (thenQ_normal ?_)
          refine W.seq ?_
          refine W.K cok tab4 hnt [] [103] (⟨[(103,.b (decide ((heldI (markI ((blameP s h).1).length (1 : Int)) (1 : Int)) ≠ ((1 : Int) + ((((blameP s h).1).length : Nat) : Int)))))],[(36,⟨3,.row (.ints (markI ((blameP s h).1).length (1 : Int)))⟩),(84,⟨3,.row (.ints ((blameP s h).1))⟩)],[84,83,50,36,32,27,999]⟩)
           (True ∧ True ∧ (True ∧ True ∧ True) ∧ True) (by kernel_rfl)
           ⟨tt,tt,⟨tt,tt,tt⟩,tt⟩ ?_
          refine W.ifP ((heldI (markI ((blameP s h).1).length (1 : Int)) (1 : Int)) ≠ ((1 : Int) + ((((blameP s h).1).length : Nat) : Int))) (.b (decide ((heldI (markI ((blameP s h).1).length (1 : Int)) (1 : Int)) ≠ ((1 : Int) + ((((blameP s h).1).length : Nat) : Int))))) (by kernel_rfl) rfl trivial ?_ ?_
          ·intro h103
           refine W.K cok tab4 hnt [] [4] (⟨[(4,.b false)],[(36,⟨3,.row (.ints (markI ((blameP s h).1).length (1 : Int)))⟩),(84,⟨3,.row (.ints ((blameP s h).1))⟩)],[84,83,50,36,32,27,999]⟩)
            (True ∧ True) (by kernel_rfl)
            ⟨tt,tt⟩ ?_
           refine W.ret (thenQ_ret ?_)
           exact endQ_ret (.b false) (by kernel_rfl) (@cast ((.bool false : Value) = .bool true) _ (by kernel_rfl) (congrArg Value.bool (by exfalso; rw [heldI_mark] at h103; omega)))
          ·intro n103
           refine W.skip (thenQ_normal ?_)
           refine W.K cok tab4 hnt [] [4] (⟨[(4,.b true)],[(36,⟨3,.row (.ints (markI ((blameP s h).1).length (1 : Int)))⟩),(84,⟨3,.row (.ints ((blameP s h).1))⟩)],[84,83,50,36,32,27,999]⟩)
            (True ∧ True) (by kernel_rfl)
            ⟨tt,tt⟩ ?_
           refine W.ret ?_
           exact endQ_ret (.b true) (by kernel_rfl) (@cast ((.bool true : Value) = .bool true) _ (by kernel_rfl) rfl)
end Go.Proofs.Try
