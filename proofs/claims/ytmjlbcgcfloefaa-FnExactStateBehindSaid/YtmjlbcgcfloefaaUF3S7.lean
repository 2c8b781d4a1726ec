import Derived.Test.YtmjlbcgcfloefaaUF3S0
import Derived.Test.YtmjlbcgcfloefaaUF3S1
import Derived.Test.YtmjlbcgcfloefaaUF3S3
import Derived.Test.YtmjlbcgcfloefaaUF3S5
import Derived.Test.YtmjlbcgcfloefaaUF3S6
set_option linter.unusedSimpArgs false
set_option linter.unusedVariables false
namespace Go.Proofs.Try
open Go.Ab Go.RowKit
def fs15 : FnS := fnS [.s .ints,.o] [.ints,.int] (fun _ (l,k,_) => (.i (heldI l k),[],(l.length ≤ 2000000) ∧ (0 ≤ k ∧ k ≤ 1000000000)))
abbrev T15 : Tab := lk []
theorem tab15 : TabOK prog T15 := TabOK.nil
set_option maxRecDepth 100000 in
set_option maxHeartbeats 1000000 in
theorem ok15 : FnOK prog 15 fs15 := by
 refine FnOK.mk cok func15 rfl rfl rfl ?_
 rintro fl ⟨(l : List Int),(k : Int),_⟩ hpre F hnt0 _
 have hnt : F.nt = 21 := hnt0.trans ntmps15
 replace hpre : (l.length ≤ 2000000) ∧ (0 ≤ k ∧ k ≤ 1000000000) := hpre
 obtain ⟨hn,hk⟩ := hpre
 refine W.to (⟨[(0,.sl (.ints l)),(1,.i k)],[],[999]⟩) rfl ?_
 refine W.lenOf 0 (.ints l) (by kernel_rfl) ?_
 intro hl_l; replace hl_l : List.length l ≤ 9223372036854775807 := hl_l
 refine Kk cok tab15 hnt [] [0,1] (⟨[(0,.sl (.ints l)),(1,.i k)],[],[999]⟩)
  (True ∧ True)
  ⟨tt,tt⟩ ?_
 refine W.seq ?_
 refine Kk cok tab15 hnt [] [0,1,5] (⟨[(0,.sl (.ints l)),(1,.i k),(5,.i (0 : Int))],[],[999]⟩)
  (True ∧ True)
  ⟨tt,tt⟩ ?_
 refine W.block ?_
 refine W.loop (ι := Nat × Int) (fun (x : Nat × Int) => match x with | (i,kk) => (⟨[(0,.sl (.ints l)),(1,.i kk),(5,.i ((i : Nat) : Int))],[],[999]⟩ : St))
  (fun (x : Nat × Int) => match x with | (i,kk) => (i ≤ l.length) ∧ (∀ j,j < i → heldAt l k j = true) ∧ (kk = k + ((i : Nat) : Int)))
  (fun (x : Nat × Int) => match x with | (i,kk) => (l.length - i : Nat)) (0,k) ?_ ?_ ?_
 ·exact (show (0 ≤ l.length) ∧ (∀ j,j < 0 → heldAt l k j = true) ∧ (k = k + ((0 : Nat) : Int)) from ⟨(by first | assumption | omega | rfl | (intro _ hjj; omega) | (simp; done) | (simp; omega)),(by exact upto_zero),(by first | assumption | omega | rfl | (intro _ hjj; omega) | (simp; done) | (simp; omega))⟩)
 ·exact Sub.of [] (@cast (((Sd (.ints l)) ∧ (Si k) ∧ ((.int .i64 (0 : Int) : Value) = .int .i64 ((0 : Nat) : Int)) ∧ True) ∧ True ∧ (true = true) ∧ (true = true)) _ (by kernel_rfl) ⟨⟨rfl,rfl,(congrArg (Value.int .i64) (by first | rfl | omega | assumption | simp | simp_all)),tt⟩,tt,rfl,rfl⟩)
 ·rintro ⟨i,kk⟩ hC0
  have hC : (i ≤ l.length) ∧ (∀ j,j < i → heldAt l k j = true) ∧ (kk = k + ((i : Nat) : Int)) := hC0
  clear hC0
  obtain ⟨hi,hA,hk2⟩ := hC
  refine W.to (⟨[(0,.sl (.ints l)),(1,.i kk),(5,.i ((i : Nat) : Int))],[],[999]⟩) rfl ?_
  refine W.seq ?_
  refine Kk cok tab15 hnt [] [0,1,5,9] (⟨[(0,.sl (.ints l)),(1,.i kk),(5,.i ((i : Nat) : Int)),(9,.b (decide (((i : Nat) : Int) < (l.length : Int))))],[],[999]⟩)
   (True ∧ True ∧ True ∧ (True ∧ True ∧ True) ∧ True)
   ⟨tt,tt,tt,⟨tt,tt,tt⟩,tt⟩ ?_
  refine W.ifP (((i : Nat) : Int) < (l.length : Int)) (.b (decide (((i : Nat) : Int) < (l.length : Int)))) (by kernel_rfl) rfl trivial ?_ ?_
  ·intro h9
   refine W.skip (thenQ_normal ?_)
   refine W.seq ?_
   refine W.block ?_
   refine W.seq ?_
   refine Kk cok tab15 hnt [] [0,1,5,17] (⟨[(0,.sl (.ints l)),(1,.i kk),(5,.i ((i : Nat) : Int)),(17,.b (decide ((l.getD i 0) ≠ kk)))],[],[999]⟩)
    (True ∧ True ∧ (True ∧ True ∧ (0 ≤ ((i : Nat) : Int)) ∧ (((i : Nat) : Int) < (l.length : Int))) ∧ True ∧ True ∧ (True ∧ True ∧ True) ∧ True)
    ⟨tt,tt,⟨tt,tt,(by omega),(by omega)⟩,tt,tt,⟨tt,tt,tt⟩,tt⟩ ?_
   refine W.ifP ((l.getD i 0) ≠ kk) (.b (decide ((l.getD i 0) ≠ kk))) (by kernel_rfl) rfl trivial ?_ ?_
   ·intro h17
    refine Kk cok tab15 hnt [] [4] (⟨[(4,.i (-1 : Int))],[],[999]⟩)
     (True ∧ True)
     ⟨tt,tt⟩ ?_
    refine W.ret (thenQ_ret (blockQ_ret (thenQ_ret (thenQ_ret (blockQ_ret (thenQ_ret ?_))))))
    exact endQ_ret (.i (-1 : Int)) (by kernel_rfl) (@cast ((.int .i64 (-1 : Int) : Value) = .int .i64 (heldI l k)) _ (by kernel_rfl) (congrArg (Value.int .i64) (by exact (heldI_no (i := i) (by omega) hk2 h17).symm)))
   ·intro n17
    refine W.skip (thenQ_normal ?_)
    refine Lk cok tab15 hnt [] (⟨[(0,.sl (.ints l)),(1,.i (kk + (1 : Int))),(5,.i ((i : Nat) : Int)),(17,.b (decide ((l.getD i 0) ≠ kk))),(18,.i kk),(19,.i (kk + (1 : Int)))],[],[999]⟩)
     (True ∧ (True ∧ True ∧ (Fits .i64 (kk + (1 : Int)))) ∧ True ∧ True)
     ⟨tt,⟨tt,tt,(by exact fits_i64 (by omega) (by omega))⟩,tt,tt⟩ ?_
    refine blockQ_normal (thenQ_normal ?_)
    refine Lk cok tab15 hnt [] (⟨[(0,.sl (.ints l)),(1,.i (kk + (1 : Int))),(5,.i (((i + 1) : Nat) : Int)),(10,.i ((i : Nat) : Int)),(11,.i (((i + 1) : Nat) : Int)),(17,.b (decide ((l.getD i 0) ≠ kk))),(18,.i kk),(19,.i (kk + (1 : Int)))],[],[999]⟩)
     (True ∧ (True ∧ True ∧ (Fits .i64 (((i + 1) : Nat) : Int))) ∧ True ∧ True)
     ⟨tt,⟨tt,tt,(by exact fits_i64 (by omega) (by omega))⟩,tt,tt⟩ ?_
    refine thenQ_normal ?_
    refine ⟨((i + 1),(kk + (1 : Int))),(show ((i + 1) ≤ l.length) ∧ (∀ j,j < (i + 1) → heldAt l k j = true) ∧ ((kk + (1 : Int)) = k + (((i + 1) : Nat) : Int)) from ⟨(by first | assumption | omega | rfl | (intro _ hjj; omega) | (simp; done) | (simp; omega)),(by exact upto_succ hA (decide_eq_true (by rw [← hk2]; exact Decidable.not_not.1 n17))),(by first | assumption | omega | rfl | (intro _ hjj; omega) | (simp; done) | (simp; omega))⟩),(show l.length - (i + 1) < l.length - i from (by first | omega | (simp_all; omega))),?_⟩
    exact Sub.of [] (@cast (((Sd (.ints l)) ∧ (Si (kk + (1 : Int))) ∧ (Si (((i + 1) : Nat) : Int)) ∧ True) ∧ True ∧ (true = true) ∧ (true = true)) _ (by kernel_rfl) ⟨⟨rfl,rfl,rfl,tt⟩,tt,rfl,rfl⟩)
  ·intro n9
   refine W.exit (thenQ_exit (thenQ_exit (blockQ_hit ?_)))
   refine thenQ_normal ?_
   refine Kk cok tab15 hnt [] [4] (⟨[(4,.i kk)],[],[999]⟩)
    (True ∧ True ∧ True)
    ⟨tt,tt,tt⟩ ?_
   refine W.ret ?_
   exact endQ_ret (.i kk) (by kernel_rfl) (@cast ((.int .i64 kk : Value) = .int .i64 (heldI l k)) _ (by kernel_rfl) (congrArg (Value.int .i64) (by exact (heldI_yes hA hi hk2 n9).symm)))
theorem ent15 : Entr prog 15 := ⟨_,func15,rfl,by decide⟩
end Go.Proofs.Try

set_option linter.unusedSimpArgs false
set_option linter.unusedVariables false
namespace Go.Proofs.Try
open Go.Ab Go.RowKit
abbrev T14 : Tab := lk []
theorem tab14 : TabOK prog T14 := TabOK.nil
theorem ent14 : Entr prog 14 := ⟨_,func14,rfl,by decide⟩
set_option maxRecDepth 100000 in
set_option maxHeartbeats 1000000 in
theorem hok14 : ∀ (l : List Int) (k : Int),((l.length ≤ 2000000) ∧ (0 ≤ k ∧ k ≤ 1000000000)) → HOK prog 14 [911] [.own 911 l.length,.i k] [(911,⟨3,.row (.ints l)⟩)] [911] (fun r s1 u1 => r = (.i (k + (l.length : Int))) ∧ s1 = ([(911,⟨3,.row (.ints (markI l.length k))⟩)]) ∧ u1 = ([911])) := by
 intro l k hpre
 obtain ⟨hn,hk⟩ := hpre
 refine HOK.of cok func14 rfl rfl rfl ?_
 intro F hnt0
 have hnt : F.nt = 19 := hnt0.trans ntmps14
 refine W.to (⟨[(0,.own 911 l.length),(1,.i k)],[(911,⟨3,.row (.ints l)⟩)],[911]⟩) rfl ?_
 refine Kk cok tab14 hnt [] [0,1] (⟨[(0,.own 911 l.length),(1,.i k)],[(911,⟨3,.row (.ints l)⟩)],[911]⟩)
  (True ∧ True)
  ⟨tt,tt⟩ ?_
 refine W.seq ?_
 refine Kk cok tab14 hnt [] [0,1,5] (⟨[(0,.own 911 l.length),(1,.i k),(5,.i (0 : Int))],[(911,⟨3,.row (.ints l)⟩)],[911]⟩)
  (True ∧ True)
  ⟨tt,tt⟩ ?_
 refine W.block ?_
 refine W.loop (ι := Nat × Int × (List Int)) (fun (x : Nat × Int × (List Int)) => match x with | (i,kk,xs) => (⟨[(0,.own 911 l.length),(1,.i kk),(5,.i ((i : Nat) : Int))],[(911,⟨3,.row (.ints xs)⟩)],[911]⟩ : St))
  (fun (x : Nat × Int × (List Int)) => match x with | (i,kk,xs) => (i ≤ l.length) ∧ (xs = markIUp l k i) ∧ (kk = k + ((i : Nat) : Int)))
  (fun (x : Nat × Int × (List Int)) => match x with | (i,kk,xs) => (l.length - i : Nat)) (0,k,l) ?_ ?_ ?_
 ·exact (show (0 ≤ l.length) ∧ (l = markIUp l k 0) ∧ (k = k + ((0 : Nat) : Int)) from ⟨(by first | assumption | omega | rfl | (intro _ hjj; omega) | (simp; done) | (simp; omega)),(by exact markIUp_zero _ _),(by first | assumption | omega | rfl | (intro _ hjj; omega) | (simp; done) | (simp; omega))⟩)
 ·exact Sub.of [] (@cast (((((911 : Nat) = 911) ∧ (l.length = l.length) ∧ ((911 : Nat) ∈ ([911] : List Nat))) ∧ (Si k) ∧ ((.int .i64 (0 : Int) : Value) = .int .i64 ((0 : Nat) : Int)) ∧ True) ∧ ((((3 : Nat) = 3) ∧ (Sd (.ints l)) ∧ ((911 : Nat) ∈ ([911] : List Nat))) ∧ True) ∧ (true = true) ∧ (true = true)) _ (by kernel_rfl) ⟨⟨⟨rfl,rfl,(by decide)⟩,rfl,(congrArg (Value.int .i64) (by first | rfl | omega | assumption | simp | simp_all)),tt⟩,⟨⟨rfl,rfl,(by decide)⟩,tt⟩,rfl,rfl⟩)
 ·rintro ⟨i,kk,xs⟩ hC0
  have hC : (i ≤ l.length) ∧ (xs = markIUp l k i) ∧ (kk = k + ((i : Nat) : Int)) := hC0
  clear hC0
  obtain ⟨hi,hx,hk2⟩ := hC
  refine W.to (⟨[(0,.own 911 l.length),(1,.i kk),(5,.i ((i : Nat) : Int))],[(911,⟨3,.row (.ints xs)⟩)],[911]⟩) rfl ?_
  have hxl : xs.length = l.length := by rw [hx]; exact markIUp_len l k hi
  refine W.seq ?_
  refine Kk cok tab14 hnt [] [0,1,5,9] (⟨[(0,.own 911 l.length),(1,.i kk),(5,.i ((i : Nat) : Int)),(9,.b (decide (((i : Nat) : Int) < (l.length : Int))))],[(911,⟨3,.row (.ints xs)⟩)],[911]⟩)
   (True ∧ True ∧ True ∧ (True ∧ True ∧ True) ∧ True)
   ⟨tt,tt,tt,⟨tt,tt,tt⟩,tt⟩ ?_
  refine W.ifP (((i : Nat) : Int) < (l.length : Int)) (.b (decide (((i : Nat) : Int) < (l.length : Int)))) (by kernel_rfl) rfl trivial ?_ ?_
  ·intro h9
   refine W.skip (thenQ_normal ?_)
   refine W.seq ?_
   refine W.block ?_
   refine Kk cok tab14 hnt [] [0,1,5] (⟨[(0,.own 911 l.length),(1,.i kk),(5,.i ((i : Nat) : Int))],[(911,⟨3,.row (.ints (List.set xs i kk))⟩)],[911]⟩)
    (True ∧ True ∧ True ∧ (True ∧ True ∧ (0 ≤ ((i : Nat) : Int)) ∧ (((i : Nat) : Int) < (l.length : Int))) ∧ (True ∧ True ∧ (i < xs.length)) ∧ True)
    ⟨tt,tt,tt,⟨tt,tt,(by omega),(by omega)⟩,⟨tt,tt,(by omega)⟩,tt⟩ ?_
   refine Lk cok tab14 hnt [] (⟨[(0,.own 911 l.length),(1,.i (kk + (1 : Int))),(5,.i ((i : Nat) : Int)),(16,.i kk),(17,.i (kk + (1 : Int)))],[(911,⟨3,.row (.ints (List.set xs i kk))⟩)],[911]⟩)
    (True ∧ (True ∧ True ∧ (Fits .i64 (kk + (1 : Int)))) ∧ True ∧ True)
    ⟨tt,⟨tt,tt,(by exact fits_i64 (by omega) (by omega))⟩,tt,tt⟩ ?_
   refine blockQ_normal (thenQ_normal ?_)
   refine Lk cok tab14 hnt [] (⟨[(0,.own 911 l.length),(1,.i (kk + (1 : Int))),(5,.i (((i + 1) : Nat) : Int)),(10,.i ((i : Nat) : Int)),(11,.i (((i + 1) : Nat) : Int)),(16,.i kk),(17,.i (kk + (1 : Int)))],[(911,⟨3,.row (.ints (List.set xs i kk))⟩)],[911]⟩)
    (True ∧ (True ∧ True ∧ (Fits .i64 (((i + 1) : Nat) : Int))) ∧ True ∧ True)
    ⟨tt,⟨tt,tt,(by exact fits_i64 (by omega) (by omega))⟩,tt,tt⟩ ?_
   refine thenQ_normal ?_
   refine ⟨((i + 1),(kk + (1 : Int)),(List.set xs i kk)),(show ((i + 1) ≤ l.length) ∧ ((List.set xs i kk) = markIUp l k (i + 1)) ∧ ((kk + (1 : Int)) = k + (((i + 1) : Nat) : Int)) from ⟨(by first | assumption | omega | rfl | (intro _ hjj; omega) | (simp; done) | (simp; omega)),(by exact markIUp_step hx (by omega) hk2),(by first | assumption | omega | rfl | (intro _ hjj; omega) | (simp; done) | (simp; omega))⟩),(show l.length - (i + 1) < l.length - i from (by first | omega | (simp_all; omega))),?_⟩
   exact Sub.of [] (@cast (((((911 : Nat) = 911) ∧ (l.length = l.length) ∧ ((911 : Nat) ∈ ([911] : List Nat))) ∧ (Si (kk + (1 : Int))) ∧ (Si (((i + 1) : Nat) : Int)) ∧ True) ∧ ((((3 : Nat) = 3) ∧ (Sd (.ints (List.set xs i kk))) ∧ ((911 : Nat) ∈ ([911] : List Nat))) ∧ True) ∧ (true = true) ∧ (true = true)) _ (by kernel_rfl) ⟨⟨⟨rfl,rfl,(by decide)⟩,rfl,rfl,tt⟩,⟨⟨rfl,rfl,(by decide)⟩,tt⟩,rfl,rfl⟩)
  ·intro n9
   refine W.exit (thenQ_exit (thenQ_exit (blockQ_hit ?_)))
   refine thenQ_normal ?_
   refine Kk cok tab14 hnt [] [4] (⟨[(4,.i kk)],[(911,⟨3,.row (.ints xs)⟩)],[911]⟩)
    (True ∧ True ∧ True)
    ⟨tt,tt,tt⟩ ?_
   refine W.ret ?_
   exact endH_ret (.i (k + (l.length : Int))) [(911,⟨3,.row (.ints (markI l.length k))⟩)] [911] ⟨rfl,rfl,rfl⟩ [(911,911)] (.i kk) (by kernel_rfl) (@cast (((.int .i64 kk : Value) = .int .i64 (k + (l.length : Int))) ∧ ((((3 : Nat) = 3) ∧ ((.ints xs : Dat) = .ints (markI l.length k)) ∧ ((911 : Nat) ∈ ([911] : List Nat))) ∧ True) ∧ (true = true) ∧ (true = true)) _ (by kernel_rfl) ⟨(congrArg (Value.int .i64) (by first | exact markIUp_all hx hi (by assumption) | omega)),⟨⟨rfl,(congrArg Dat.ints (by first | exact markIUp_all hx hi (by assumption) | omega)),(by decide)⟩,tt⟩,rfl,rfl⟩)
end Go.Proofs.Try

set_option linter.unusedSimpArgs false
set_option linter.unusedVariables false
namespace Go.Proofs.Try
open Go.Ab Go.RowKit
def fs3 : FnS := fnS [.o,.s .calls,.s .ints,.o] [.str,.calls,.ints,.int] (fun _ (s,h,o,z,_) => (.b true,[],True))
abbrev T3 : Tab := lk [(6,fs6),(7,fs7),(8,fs8),(9,fs9),(10,fs10o),(11,fs11),(12,fs12),(13,fs13),(15,fs15)]
theorem tab3 : TabOK prog T3 := (TabOK.cons ok6 ent6 (TabOK.cons ok7 ent7 (TabOK.cons ok8 ent8 (TabOK.cons ok9 ent9 (TabOK.cons ok10o ent10o (TabOK.cons ok11 ent11 (TabOK.cons ok12 ent12 (TabOK.cons ok13 ent13 (TabOK.cons ok15 ent15 TabOK.nil)))))))))
set_option maxRecDepth 100000 in
set_option maxHeartbeats 1000000 in
theorem ok3 : FnOK prog 3 fs3 := by
 refine FnOK.mk cok func3 rfl rfl rfl ?_
 rintro fl ⟨(s : ByteArray),(h : List CallD),(o : List Int),(z : Int),_⟩ hpre F hnt0 _
 have hnt : F.nt = 130 := hnt0.trans ntmps3
 clear hpre
 refine W.to (⟨[(0,.v (.string s)),(1,.sl (.calls h)),(2,.sl (.ints o)),(3,.i z)],[],[999]⟩) rfl ?_
 refine W.lenOf 1 (.calls h) (by kernel_rfl) ?_
 intro hl_h; replace hl_h : List.length h ≤ 9223372036854775807 := hl_h
 refine W.lenOf 2 (.ints o) (by kernel_rfl) ?_
 intro hl_o; replace hl_o : List.length o ≤ 9223372036854775807 := hl_o
 refine Kk cok tab3 hnt [] [0,1,2,3] (⟨[(0,.v (.string s)),(1,.sl (.calls h)),(2,.sl (.ints o)),(3,.i z)],[],[999]⟩)
  (True ∧ True)
  ⟨tt,tt⟩ ?_
 refine W.seq ?_
 refine Kk cok tab3 hnt [] [0,1,2,3,23] (⟨[(0,.v (.string s)),(1,.sl (.calls h)),(2,.sl (.ints o)),(3,.i z),(23,.b (decide ((1048576 : Int) < ((s.size : Nat) : Int))))],[],[999]⟩)
  (True ∧ True ∧ (True ∧ True ∧ True) ∧ True)
  ⟨tt,tt,⟨tt,tt,tt⟩,tt⟩ ?_
 refine W.ifP ((1048576 : Int) < ((s.size : Nat) : Int)) (.b (decide ((1048576 : Int) < ((s.size : Nat) : Int)))) (by kernel_rfl) rfl trivial ?_ ?_
 ·intro h23
  refine Kk cok tab3 hnt [] [8] (⟨[(8,.b true)],[],[999]⟩)
   (True ∧ True)
   ⟨tt,tt⟩ ?_
  refine W.ret (thenQ_ret ?_)
  exact endQ_ret (.b true) (by kernel_rfl) (@cast (Sv (.bool true)) _ (by kernel_rfl) rfl)
 ·intro n23
  refine W.skip (thenQ_normal ?_)
  refine W.seq ?_
  refine Kk cok tab3 hnt [] [0,1,2,3,26] (⟨[(0,.v (.string s)),(1,.sl (.calls h)),(2,.sl (.ints o)),(3,.i z),(26,.b (decide ((1048576 : Int) < (o.length : Int))))],[],[999]⟩)
   (True ∧ True ∧ (True ∧ True ∧ True) ∧ True)
   ⟨tt,tt,⟨tt,tt,tt⟩,tt⟩ ?_
  refine W.ifP ((1048576 : Int) < (o.length : Int)) (.b (decide ((1048576 : Int) < (o.length : Int)))) (by kernel_rfl) rfl trivial ?_ ?_
  ·intro h26
   refine Kk cok tab3 hnt [] [8] (⟨[(8,.b true)],[],[999]⟩)
    (True ∧ True)
    ⟨tt,tt⟩ ?_
   refine W.ret (thenQ_ret ?_)
   exact endQ_ret (.b true) (by kernel_rfl) (@cast (Sv (.bool true)) _ (by kernel_rfl) rfl)
  ·intro n26
   refine W.skip (thenQ_normal ?_)
   refine Kk cok tab3 hnt [] [0,1,2,3,9] (⟨[(0,.v (.string s)),(1,.sl (.calls h)),(2,.sl (.ints o)),(3,.i z),(9,.i (1048576 : Int))],[],[999]⟩)
    (True ∧ True)
    ⟨tt,tt⟩ ?_
   refine Kk cok tab3 hnt [] [0,1,2,3,9] (⟨[(0,.v (.string s)),(1,.sl (.calls h)),(2,.sl (.ints o)),(3,.i z),(9,.i (szC h (1048576 : Int)))],[],[999]⟩)
    (True ∧ True ∧ (True ∧ (True ∧ True ∧ True) ∧ ((1048576 : Int) = 1048576)) ∧ True ∧ True)
    ⟨tt,tt,⟨tt,⟨tt,tt,tt⟩,(by omega)⟩,tt,tt⟩ ?_
   refine W.seq ?_
   refine Kk cok tab3 hnt [] [0,1,2,3,31] (⟨[(0,.v (.string s)),(1,.sl (.calls h)),(2,.sl (.ints o)),(3,.i z),(31,.b (decide ((szC h (1048576 : Int)) < (0 : Int))))],[],[999]⟩)
    (True ∧ (True ∧ True ∧ True) ∧ True)
    ⟨tt,⟨tt,tt,tt⟩,tt⟩ ?_
   refine W.ifP ((szC h (1048576 : Int)) < (0 : Int)) (.b (decide ((szC h (1048576 : Int)) < (0 : Int)))) (by kernel_rfl) rfl trivial ?_ ?_
   ·intro h31
    refine Kk cok tab3 hnt [] [8] (⟨[(8,.b true)],[],[999]⟩)
     (True ∧ True)
     ⟨tt,tt⟩ ?_
    refine W.ret (thenQ_ret ?_)
    exact endQ_ret (.b true) (by kernel_rfl) (@cast (Sv (.bool true)) _ (by kernel_rfl) rfl)
   ·intro n31
    have hn := sz_ok n31
    have hbl : (behind s h o z).1.length ≤ 20 := behind_len
    refine W.skip (thenQ_normal ?_)
    refine Kk cok tab3 hnt [] [0,1,2,3,10,11] (⟨[(0,.v (.string s)),(1,.sl (.calls h)),(2,.sl (.ints o)),(3,.i z),(10,.sl (.ints ((behind s h o z).1))),(11,.b ((behind s h o z).2))],[],[37,35,999]⟩)
     (True ∧ True ∧ ((True ∧ (True ∧ True) ∧ (h.length ≤ 1048576)) ∧ (h.length = h.length)) ∧ True ∧ ((True ∧ (True ∧ True) ∧ (o.length ≤ 1048576)) ∧ (o.length = o.length)) ∧ True ∧ (True ∧ (True ∧ True ∧ True ∧ True ∧ True) ∧ True) ∧ True ∧ True ∧ True ∧ True ∧ True ∧ True)
     ⟨tt,tt,⟨⟨tt,⟨tt,tt⟩,(by omega)⟩,rfl⟩,tt,⟨⟨tt,⟨tt,tt⟩,(by omega)⟩,rfl⟩,tt,⟨tt,⟨tt,tt,tt,tt,tt⟩,tt⟩,tt,tt,tt,tt,tt,tt⟩ ?_
    refine Kk cok tab3 hnt [43] [0,1,2,3,10,11,12] (⟨[(0,.v (.string s)),(1,.sl (.calls h)),(2,.sl (.ints o)),(3,.i z),(10,.sl (.ints ((behind s h o z).1))),(11,.b ((behind s h o z).2)),(12,.own 43 h.length)],[(43,⟨46,.row (.calls h)⟩)],[43,37,35,999]⟩)
     (True ∧ (True ∧ (True ∧ True) ∧ (h.length ≤ 1048576)) ∧ True ∧ True)
     ⟨tt,⟨tt,⟨tt,tt⟩,(by omega)⟩,tt,tt⟩ ?_
    refine Kk cok tab3 hnt [45] [0,1,2,3,10,11,12,13] (⟨[(0,.v (.string s)),(1,.sl (.calls h)),(2,.sl (.ints o)),(3,.i z),(10,.sl (.ints ((behind s h o z).1))),(11,.b ((behind s h o z).2)),(12,.own 43 h.length),(13,.own 45 o.length)],[(43,⟨46,.row (.calls h)⟩),(45,⟨3,.row (.ints o)⟩)],[45,43,37,35,999]⟩)
     (True ∧ (True ∧ (True ∧ True) ∧ (o.length ≤ 1048576)) ∧ True ∧ True)
     ⟨tt,⟨tt,⟨tt,tt⟩,(by omega)⟩,tt,tt⟩ ?_
    refine Kk cok tab3 hnt [] [0,1,2,3,10,11,12,13,14,15] (⟨[(0,.v (.string s)),(1,.sl (.calls h)),(2,.sl (.ints o)),(3,.i z),(10,.sl (.ints ((behind s h o z).1))),(11,.b ((behind s h o z).2)),(12,.own 43 h.length),(13,.own 45 o.length),(14,.own 51 (List.length ((behind s h o z).1))),(15,.b ((behind s h o z).2))],[(43,⟨46,.row (.calls h)⟩),(45,⟨3,.row (.ints o)⟩),(51,⟨3,.row (.ints ((behind s h o z).1))⟩)],[51,45,43,37,35,999]⟩)
     (True ∧ True ∧ True ∧ True ∧ (True ∧ (True ∧ (True ∧ (h.length = h.length)) ∧ (True ∧ (o.length = o.length)) ∧ True ∧ True) ∧ True) ∧ True ∧ True ∧ True ∧ True ∧ True ∧ True)
     ⟨tt,tt,tt,tt,⟨tt,⟨tt,⟨tt,rfl⟩,⟨tt,rfl⟩,tt,tt⟩,tt⟩,tt,tt,tt,tt,tt,tt⟩ ?_
    refine W.seq ?_
    refine Kk cok tab3 hnt [] [0,1,2,3,10,11,12,13,14,15,62] ((fun (Z1:Bool)=>(⟨[(0,.v (.string s)),(1,.sl (.calls h)),(2,.sl (.ints o)),(3,.i z),(10,.sl (.ints ((behind s h o z).1))),(11,.b Z1),(12,.own 43 h.length),(13,.own 45 o.length),(14,.own 51 (List.length ((behind s h o z).1))),(15,.b Z1),(62,.b ((!(decide (((behind s h o z).1) = ((behind s h o z).1)))) || (Z1 != Z1)))],[(43,⟨46,.row (.calls h)⟩),(45,⟨3,.row (.ints o)⟩),(51,⟨3,.row (.ints ((behind s h o z).1))⟩)],[51,45,43,37,35,999]⟩:St)) ((behind s h o z).2))
     ((fun (Z1:Bool)=>(True ∧ (True ∧ ((True ∧ (((True ∧ ((List.length ((behind s h o z).1)) = (List.length ((behind s h o z).1)))) ∧ (True ∧ True)) ∧ True)) ∧ (True ∧ (True ∧ (((!Z1) = true → True) ∧ (((!Z1) = true → True) ∧ (((!Z1) = true → ((((!Z1) = true) ∧ True) ∧ (((!Z1) = true) ∧ True))) ∧ ((True ∧ ((Z1 = true → True) ∧ (Z1 = false → ((!Z1) = true) ∧ True))) ∧ True)))))))))) (!(decide (((behind s h o z).1) = ((behind s h o z).1)))))
     ⟨tt,tt,⟨tt,⟨⟨tt,rfl⟩,tt,tt⟩,tt⟩,tt,tt,(fun _ => trivial),(fun _ => trivial),(fun hG => ⟨⟨hG,tt⟩,hG,tt⟩),⟨tt,(fun _ => trivial),(fun hp => ⟨(not_t hp),tt⟩)⟩,tt⟩ ?_
    refine W.if' ((!(decide (((behind s h o z).1) = ((behind s h o z).1)))) || (((behind s h o z).2) != ((behind s h o z).2))) (.b ((!(decide (((behind s h o z).1) = ((behind s h o z).1)))) || (((behind s h o z).2) != ((behind s h o z).2)))) (by kernel_rfl) rfl trivial ?_ ?_
    ·intro h62
     refine Kk cok tab3 hnt [] [8] (⟨[(8,.b false)],[(43,⟨46,.row (.calls h)⟩),(45,⟨3,.row (.ints o)⟩),(51,⟨3,.row (.ints ((behind s h o z).1))⟩)],[51,45,43,37,35,999]⟩)
      (True ∧ True)
      ⟨tt,tt⟩ ?_
     refine W.ret (thenQ_ret ?_)
     exact endQ_ret (.b false) (by kernel_rfl) (@cast ((.bool false : Value) = .bool true) _ (by kernel_rfl) (congrArg Value.bool (by exfalso; simp at h62)))
    ·intro n62
     refine W.skip (thenQ_normal ?_)
     refine W.seq ?_
     refine Kk cok tab3 hnt [] [0,1,2,3,10,11,12,13,14,15,67] (⟨[(0,.v (.string s)),(1,.sl (.calls h)),(2,.sl (.ints o)),(3,.i z),(10,.sl (.ints ((behind s h o z).1))),(11,.b ((behind s h o z).2)),(12,.own 43 h.length),(13,.own 45 o.length),(14,.own 51 (List.length ((behind s h o z).1))),(15,.b ((behind s h o z).2)),(67,.b (!(decide (h = h))))],[(43,⟨46,.row (.calls h)⟩),(45,⟨3,.row (.ints o)⟩),(51,⟨3,.row (.ints ((behind s h o z).1))⟩)],[65,51,45,43,37,35,999]⟩)
      (True ∧ True ∧ ((True ∧ (True ∧ True) ∧ (h.length ≤ 1048576)) ∧ (h.length = h.length)) ∧ (True ∧ ((True ∧ (h.length = h.length)) ∧ True ∧ True) ∧ True) ∧ True ∧ True)
      ⟨tt,tt,⟨⟨tt,⟨tt,tt⟩,(by omega)⟩,rfl⟩,⟨tt,⟨⟨tt,rfl⟩,tt,tt⟩,tt⟩,tt,tt⟩ ?_
     refine W.if' (!(decide (h = h))) (.b (!(decide (h = h)))) (by kernel_rfl) rfl trivial ?_ ?_
     ·intro h67
      refine Kk cok tab3 hnt [] [8] (⟨[(8,.b false)],[(43,⟨46,.row (.calls h)⟩),(45,⟨3,.row (.ints o)⟩),(51,⟨3,.row (.ints ((behind s h o z).1))⟩)],[65,51,45,43,37,35,999]⟩)
       (True ∧ True)
       ⟨tt,tt⟩ ?_
      refine W.ret (thenQ_ret ?_)
      exact endQ_ret (.b false) (by kernel_rfl) (@cast ((.bool false : Value) = .bool true) _ (by kernel_rfl) (congrArg Value.bool (by exfalso; simp at h67)))
     ·intro n67
      refine W.skip (thenQ_normal ?_)
      refine W.seq ?_
      refine Kk cok tab3 hnt [] [0,1,2,3,10,11,12,13,14,15,72] (⟨[(0,.v (.string s)),(1,.sl (.calls h)),(2,.sl (.ints o)),(3,.i z),(10,.sl (.ints ((behind s h o z).1))),(11,.b ((behind s h o z).2)),(12,.own 43 h.length),(13,.own 45 o.length),(14,.own 51 (List.length ((behind s h o z).1))),(15,.b ((behind s h o z).2)),(72,.b (!(decide (o = o))))],[(43,⟨46,.row (.calls h)⟩),(45,⟨3,.row (.ints o)⟩),(51,⟨3,.row (.ints ((behind s h o z).1))⟩)],[70,65,51,45,43,37,35,999]⟩)
       (True ∧ True ∧ ((True ∧ (True ∧ True) ∧ (o.length ≤ 1048576)) ∧ (o.length = o.length)) ∧ (True ∧ ((True ∧ (o.length = o.length)) ∧ True ∧ True) ∧ True) ∧ True ∧ True)
       ⟨tt,tt,⟨⟨tt,⟨tt,tt⟩,(by omega)⟩,rfl⟩,⟨tt,⟨⟨tt,rfl⟩,tt,tt⟩,tt⟩,tt,tt⟩ ?_
      refine W.if' (!(decide (o = o))) (.b (!(decide (o = o)))) (by kernel_rfl) rfl trivial ?_ ?_
      ·intro h72
       refine Kk cok tab3 hnt [] [8] (⟨[(8,.b false)],[(43,⟨46,.row (.calls h)⟩),(45,⟨3,.row (.ints o)⟩),(51,⟨3,.row (.ints ((behind s h o z).1))⟩)],[70,65,51,45,43,37,35,999]⟩)
        (True ∧ True)
        ⟨tt,tt⟩ ?_
       refine W.ret (thenQ_ret ?_)
       exact endQ_ret (.b false) (by kernel_rfl) (@cast ((.bool false : Value) = .bool true) _ (by kernel_rfl) (congrArg Value.bool (by exfalso; simp at h72)))
      ·intro n72
       refine W.skip (thenQ_normal ?_)
       refine Kk cok tab3 hnt [] [0,1,2,3,10,11,12,13,14,15,16] (⟨[(0,.v (.string s)),(1,.sl (.calls h)),(2,.sl (.ints o)),(3,.i z),(10,.sl (.ints ((behind s h o z).1))),(11,.b ((behind s h o z).2)),(12,.own 43 h.length),(13,.own 45 o.length),(14,.own 51 (List.length ((behind s h o z).1))),(15,.b ((behind s h o z).2)),(16,.i (1 : Int))],[(43,⟨46,.row (.calls h)⟩),(45,⟨3,.row (.ints o)⟩),(51,⟨3,.row (.ints ((behind s h o z).1))⟩)],[70,65,51,45,43,37,35,999]⟩)
        (True ∧ True)
        ⟨tt,tt⟩ ?_
       refine Kk cok tab3 hnt [] [0,1,2,3,10,11,13,14,15,16] (⟨[(0,.v (.string s)),(1,.sl (.calls h)),(2,.sl (.ints o)),(3,.i z),(10,.sl (.ints ((behind s h o z).1))),(11,.b ((behind s h o z).2)),(13,.own 45 o.length),(14,.own 51 (List.length ((behind s h o z).1))),(15,.b ((behind s h o z).2)),(16,.i ((1 : Int) + 7 * (h.length : Int)))],[(45,⟨3,.row (.ints o)⟩),(51,⟨3,.row (.ints ((behind s h o z).1))⟩)],[70,65,51,45,43,37,35,999]⟩)
        (True ∧ True ∧ (True ∧ ((True ∧ (h.length = h.length)) ∧ True ∧ True) ∧ (h.length ≤ 2000000) ∧ 0 ≤ (1 : Int) ∧ (1 : Int) ≤ 1000000000) ∧ True ∧ True)
        ⟨tt,tt,⟨tt,⟨⟨tt,rfl⟩,tt,tt⟩,(by omega),(by omega)⟩,tt,tt⟩ ?_
       refine W.seq (W.wi ?_)
       refine WI.runT cok tab3 hnt [] 2 2 (⟨[(0,.v (.string s)),(1,.sl (.calls h)),(2,.sl (.ints o)),(3,.i z),(10,.sl (.ints ((behind s h o z).1))),(11,.b ((behind s h o z).2)),(13,.own 45 o.length),(14,.own 51 (List.length ((behind s h o z).1))),(15,.b ((behind s h o z).2)),(16,.i ((1 : Int) + 7 * (h.length : Int))),(76,.own 45 o.length),(77,.i ((1 : Int) + 7 * (h.length : Int)))],[(45,⟨3,.row (.ints o)⟩),(51,⟨3,.row (.ints ((behind s h o z).1))⟩)],[70,65,51,45,43,37,35,999]⟩)
        (True ∧ True ∧ True) (by kernel_rfl) rfl
        ⟨tt,tt,tt⟩ ?_
       refine WI.callH _ [.own 45 o.length,.i ((1 : Int) + 7 * (h.length : Int))] [] (.fn 14 []) _ _ [(911,45)] (hok14 o ((1 : Int) + 7 * (h.length : Int)) ⟨(by omega),(by omega)⟩) ent14 hnt rfl rfl (wanted_none rfl) (by kernel_rfl) (by kernel_rfl) trivial (by kernel_rfl) (by kernel_rfl) (by kernel_rfl) (@cast (((some ⟨3,.row (.ints o)⟩ : Option LB) = some ⟨3,.row (.ints o)⟩) ∧ (true = true) ∧ (True)) _ (by kernel_rfl) ⟨rfl,rfl,tt⟩) (by kernel_rfl) rfl ?_
       rintro r s1 u1 ⟨rfl,rfl,rfl⟩
       refine ⟨[(911,45)],by kernel_rfl,WI.to (⟨[(0,.v (.string s)),(1,.sl (.calls h)),(2,.sl (.ints o)),(3,.i z),(10,.sl (.ints ((behind s h o z).1))),(11,.b ((behind s h o z).2)),(13,.own 45 o.length),(14,.own 51 (List.length ((behind s h o z).1))),(15,.b ((behind s h o z).2)),(16,.i ((1 : Int) + 7 * (h.length : Int))),(76,.own 45 o.length),(77,.i ((1 : Int) + 7 * (h.length : Int))),(78,.i (((1 : Int) + 7 * (h.length : Int)) + (o.length : Int)))],[(45,⟨3,.row (.ints (markI o.length ((1 : Int) + 7 * (h.length : Int))))⟩),(51,⟨3,.row (.ints ((behind s h o z).1))⟩)],[70,65,51,45,43,37,35,999]⟩) 3 (by kernel_rfl) rfl ?_⟩
       refine WI.runT cok tab3 hnt [] 1 4 (⟨[(0,.v (.string s)),(1,.sl (.calls h)),(2,.sl (.ints o)),(3,.i z),(10,.sl (.ints ((behind s h o z).1))),(11,.b ((behind s h o z).2)),(13,.own 45 o.length),(14,.own 51 (List.length ((behind s h o z).1))),(15,.b ((behind s h o z).2)),(16,.i (((1 : Int) + 7 * (h.length : Int)) + (o.length : Int))),(76,.own 45 o.length),(77,.i ((1 : Int) + 7 * (h.length : Int))),(78,.i (((1 : Int) + 7 * (h.length : Int)) + (o.length : Int)))],[(45,⟨3,.row (.ints (markI o.length ((1 : Int) + 7 * (h.length : Int))))⟩),(51,⟨3,.row (.ints ((behind s h o z).1))⟩)],[70,65,51,45,43,37,35,999]⟩)
        (True ∧ True) (by kernel_rfl) rfl
        ⟨tt,tt⟩ ?_
       refine WI.nil rfl (thenQ_normal ?_)
       refine W.keepE [0,1,2,3,10,11,14,15,16] [(0,.v (.string s)),(1,.sl (.calls h)),(2,.sl (.ints o)),(3,.i z),(10,.sl (.ints ((behind s h o z).1))),(11,.b ((behind s h o z).2)),(14,.own 51 (List.length ((behind s h o z).1))),(15,.b ((behind s h o z).2)),(16,.i (((1 : Int) + 7 * (h.length : Int)) + (o.length : Int)))] (by kernel_rfl) ?_
       refine W.to (⟨[(0,.v (.string s)),(1,.sl (.calls h)),(2,.sl (.ints o)),(3,.i z),(10,.sl (.ints ((behind s h o z).1))),(11,.b ((behind s h o z).2)),(14,.own 51 (List.length ((behind s h o z).1))),(15,.b ((behind s h o z).2)),(16,.i (((1 : Int) + 7 * (h.length : Int)) + (o.length : Int)))],[(45,⟨3,.row (.ints (markI o.length ((1 : Int) + 7 * (h.length : Int))))⟩),(51,⟨3,.row (.ints ((behind s h o z).1))⟩)],[70,65,51,45,43,37,35,999]⟩) rfl ?_
       refine W.seq ?_
       refine Kk cok tab3 hnt [] [0,1,2,3,10,11,14,91] ((fun (Z1:Bool)=>(⟨[(0,.v (.string s)),(1,.sl (.calls h)),(2,.sl (.ints o)),(3,.i z),(10,.sl (.ints ((behind s h o z).1))),(11,.b Z1),(14,.own 51 (List.length ((behind s h o z).1))),(91,.b (((decide ((((1 : Int) + 7 * (h.length : Int)) + (o.length : Int)) < (0 : Int))) || (!(decide (((behind s h o z).1) = ((behind s h o z).1))))) || (Z1 != Z1)))],[(45,⟨3,.row (.ints (markI o.length ((1 : Int) + 7 * (h.length : Int))))⟩),(51,⟨3,.row (.ints ((behind s h o z).1))⟩)],[70,65,51,45,43,37,35,999]⟩:St)) ((behind s h o z).2))
        ((fun (Z1:Bool)=>((fun (Z2:Bool)=>(True ∧ ((True ∧ (True ∧ True)) ∧ (True ∧ (((!Z1) = true → True) ∧ (((!Z1) = true → True) ∧ (((!Z1) = true → (True ∧ ((((((!Z1) = true) ∧ True) ∧ ((List.length ((behind s h o z).1)) = (List.length ((behind s h o z).1)))) ∧ ((((!Z1) = true) ∧ True) ∧ True)) ∧ True))) ∧ (((!Z1) = true → (((!Z1) = true) ∧ True)) ∧ ((True ∧ ((Z1 = true → True) ∧ (Z1 = false → ((!Z1) = true) ∧ True))) ∧ (True ∧ (((!Z2) = true → True) ∧ (((!Z2) = true → True) ∧ (((!Z2) = true → ((((!Z2) = true) ∧ True) ∧ (((!Z2) = true) ∧ True))) ∧ ((True ∧ ((Z2 = true → True) ∧ (Z2 = false → ((!Z2) = true) ∧ True))) ∧ True)))))))))))))) (Z1 || (!(decide (((behind s h o z).1) = ((behind s h o z).1))))))) (decide ((((1 : Int) + 7 * (h.length : Int)) + (o.length : Int)) < (0 : Int))))
        ⟨tt,⟨tt,tt,tt⟩,tt,(fun _ => trivial),(fun _ => trivial),(fun hG => ⟨tt,⟨⟨⟨hG,tt⟩,rfl⟩,⟨hG,tt⟩,tt⟩,tt⟩),(fun hG => ⟨hG,tt⟩),⟨tt,(fun _ => trivial),(fun hp => ⟨(not_t hp),tt⟩)⟩,tt,(fun _ => trivial),(fun _ => trivial),(fun hG => ⟨⟨hG,tt⟩,hG,tt⟩),⟨tt,(fun _ => trivial),(fun hp => ⟨(not_t hp),tt⟩)⟩,tt⟩ ?_
       refine W.if' (((decide ((((1 : Int) + 7 * (h.length : Int)) + (o.length : Int)) < (0 : Int))) || (!(decide (((behind s h o z).1) = ((behind s h o z).1))))) || (((behind s h o z).2) != ((behind s h o z).2))) (.b (((decide ((((1 : Int) + 7 * (h.length : Int)) + (o.length : Int)) < (0 : Int))) || (!(decide (((behind s h o z).1) = ((behind s h o z).1))))) || (((behind s h o z).2) != ((behind s h o z).2)))) (by kernel_rfl) rfl trivial ?_ ?_
       ·intro h91
        refine Kk cok tab3 hnt [] [8] (⟨[(8,.b false)],[(45,⟨3,.row (.ints (markI o.length ((1 : Int) + 7 * (h.length : Int))))⟩),(51,⟨3,.row (.ints ((behind s h o z).1))⟩)],[70,65,51,45,43,37,35,999]⟩)
         (True ∧ True)
         ⟨tt,tt⟩ ?_
        refine W.ret (thenQ_ret ?_)
        exact endQ_ret (.b false) (by kernel_rfl) (@cast ((.bool false : Value) = .bool true) _ (by kernel_rfl) (congrArg Value.bool (by exfalso; simp at h91; omega)))
       ·intro n91
        have n91_0 : ¬ ((((1 : Int) + 7 * (h.length : Int)) + (o.length : Int)) < (0 : Int)) := of_decide_eq_false (or_l (or_l n91))
        refine W.skip (thenQ_normal ?_)
        refine Kk cok tab3 hnt [] [0,1,2,3,10,11,14,17] (⟨[(0,.v (.string s)),(1,.sl (.calls h)),(2,.sl (.ints o)),(3,.i z),(10,.sl (.ints ((behind s h o z).1))),(11,.b ((behind s h o z).2)),(14,.own 51 (List.length ((behind s h o z).1))),(17,.i (1 : Int))],[(45,⟨3,.row (.ints (markI o.length ((1 : Int) + 7 * (h.length : Int))))⟩),(51,⟨3,.row (.ints ((behind s h o z).1))⟩)],[70,65,51,45,43,37,35,999]⟩)
         (True ∧ True)
         ⟨tt,tt⟩ ?_
        refine W.seq (W.wi ?_)
        refine WI.runT cok tab3 hnt [] 2 2 (⟨[(0,.v (.string s)),(1,.sl (.calls h)),(2,.sl (.ints o)),(3,.i z),(10,.sl (.ints ((behind s h o z).1))),(11,.b ((behind s h o z).2)),(14,.own 51 (List.length ((behind s h o z).1))),(17,.i (1 : Int)),(92,.own 51 (List.length ((behind s h o z).1))),(93,.i (1 : Int))],[(45,⟨3,.row (.ints (markI o.length ((1 : Int) + 7 * (h.length : Int))))⟩),(51,⟨3,.row (.ints ((behind s h o z).1))⟩)],[70,65,51,45,43,37,35,999]⟩)
         (True ∧ True ∧ True) (by kernel_rfl) rfl
         ⟨tt,tt,tt⟩ ?_
        refine WI.callH _ [.own 51 (List.length ((behind s h o z).1)),.i (1 : Int)] [] (.fn 14 []) _ _ [(911,51)] (hok14 ((behind s h o z).1) (1 : Int) ⟨(by omega),(by omega)⟩) ent14 hnt rfl rfl (wanted_none rfl) (by kernel_rfl) (by kernel_rfl) trivial (by kernel_rfl) (by kernel_rfl) (by kernel_rfl) (@cast (((some ⟨3,.row (.ints ((behind s h o z).1))⟩ : Option LB) = some ⟨3,.row (.ints ((behind s h o z).1))⟩) ∧ (true = true) ∧ (True)) _ (by kernel_rfl) ⟨rfl,rfl,tt⟩) (by kernel_rfl) rfl ?_
        rintro r s1 u1 ⟨rfl,rfl,rfl⟩
        refine ⟨[(911,51)],by kernel_rfl,WI.to (⟨[(0,.v (.string s)),(1,.sl (.calls h)),(2,.sl (.ints o)),(3,.i z),(10,.sl (.ints ((behind s h o z).1))),(11,.b ((behind s h o z).2)),(14,.own 51 (List.length ((behind s h o z).1))),(17,.i (1 : Int)),(92,.own 51 (List.length ((behind s h o z).1))),(93,.i (1 : Int)),(94,.i ((1 : Int) + ((((behind s h o z).1).length : Nat) : Int)))],[(45,⟨3,.row (.ints (markI o.length ((1 : Int) + 7 * (h.length : Int))))⟩),(51,⟨3,.row (.ints (markI ((behind s h o z).1).length (1 : Int)))⟩)],[70,65,51,45,43,37,35,999]⟩) 3 (by kernel_rfl) rfl ?_⟩
        refine WI.runT cok tab3 hnt [] 1 4 (⟨[(0,.v (.string s)),(1,.sl (.calls h)),(2,.sl (.ints o)),(3,.i z),(10,.sl (.ints ((behind s h o z).1))),(11,.b ((behind s h o z).2)),(14,.own 51 (List.length ((behind s h o z).1))),(17,.i ((1 : Int) + ((((behind s h o z).1).length : Nat) : Int))),(92,.own 51 (List.length ((behind s h o z).1))),(93,.i (1 : Int)),(94,.i ((1 : Int) + ((((behind s h o z).1).length : Nat) : Int)))],[(45,⟨3,.row (.ints (markI o.length ((1 : Int) + 7 * (h.length : Int))))⟩),(51,⟨3,.row (.ints (markI ((behind s h o z).1).length (1 : Int)))⟩)],[70,65,51,45,43,37,35,999]⟩)
         (True ∧ True) (by kernel_rfl) rfl
         ⟨tt,tt⟩ ?_
        refine WI.nil rfl (thenQ_normal ?_)
        refine W.keepE [0,1,2,3,10,11,14,17] [(0,.v (.string s)),(1,.sl (.calls h)),(2,.sl (.ints o)),(3,.i z),(10,.sl (.ints ((behind s h o z).1))),(11,.b ((behind s h o z).2)),(14,.own 51 (List.length ((behind s h o z).1))),(17,.i ((1 : Int) + ((((behind s h o z).1).length : Nat) : Int)))] (by kernel_rfl) ?_
        refine W.to (⟨[(0,.v (.string s)),(1,.sl (.calls h)),(2,.sl (.ints o)),(3,.i z),(10,.sl (.ints ((behind s h o z).1))),(11,.b ((behind s h o z).2)),(14,.own 51 (List.length ((behind s h o z).1))),(17,.i ((1 : Int) + ((((behind s h o z).1).length : Nat) : Int)))],[(45,⟨3,.row (.ints (markI o.length ((1 : Int) + 7 * (h.length : Int))))⟩),(51,⟨3,.row (.ints (markI ((behind s h o z).1).length (1 : Int)))⟩)],[70,65,51,45,43,37,35,999]⟩) rfl ?_
        refine Kk cok tab3 hnt [] [0,1,2,3,10,11,14,17,18] (⟨[(0,.v (.string s)),(1,.sl (.calls h)),(2,.sl (.ints o)),(3,.i z),(10,.sl (.ints ((behind s h o z).1))),(11,.b ((behind s h o z).2)),(14,.own 51 (List.length ((behind s h o z).1))),(17,.i ((1 : Int) + ((((behind s h o z).1).length : Nat) : Int))),(18,.i (1 : Int))],[(45,⟨3,.row (.ints (markI o.length ((1 : Int) + 7 * (h.length : Int))))⟩),(51,⟨3,.row (.ints (markI ((behind s h o z).1).length (1 : Int)))⟩)],[70,65,51,45,43,37,35,999]⟩)
         (True ∧ True)
         ⟨tt,tt⟩ ?_
        refine Kk cok tab3 hnt [] [0,1,2,3,10,11,14,17,18] (⟨[(0,.v (.string s)),(1,.sl (.calls h)),(2,.sl (.ints o)),(3,.i z),(10,.sl (.ints ((behind s h o z).1))),(11,.b ((behind s h o z).2)),(14,.own 51 (List.length ((behind s h o z).1))),(17,.i ((1 : Int) + ((((behind s h o z).1).length : Nat) : Int))),(18,.i (heldI (markI ((behind s h o z).1).length (1 : Int)) (1 : Int)))],[(45,⟨3,.row (.ints (markI o.length ((1 : Int) + 7 * (h.length : Int))))⟩),(51,⟨3,.row (.ints (markI ((behind s h o z).1).length (1 : Int)))⟩)],[70,65,51,45,43,37,35,999]⟩)
         (True ∧ True ∧ (True ∧ ((True ∧ ((List.length ((behind s h o z).1)) = (List.length (markI ((behind s h o z).1).length (1 : Int))))) ∧ True ∧ True) ∧ ((markI ((behind s h o z).1).length (1 : Int)).length ≤ 2000000) ∧ 0 ≤ (1 : Int) ∧ (1 : Int) ≤ 1000000000) ∧ True ∧ True)
         ⟨tt,tt,⟨tt,⟨⟨tt,(by rw [markI_len] <;> omega)⟩,tt,tt⟩,(by rw [markI_len] <;> omega),(by omega)⟩,tt,tt⟩ ?_
        refine W.seq ?_
        refine Kk cok tab3 hnt [] [0,1,2,3,10,11,14,17,18,99] (⟨[(0,.v (.string s)),(1,.sl (.calls h)),(2,.sl (.ints o)),(3,.i z),(10,.sl (.ints ((behind s h o z).1))),(11,.b ((behind s h o z).2)),(14,.own 51 (List.length ((behind s h o z).1))),(17,.i ((1 : Int) + ((((behind s h o z).1).length : Nat) : Int))),(18,.i (heldI (markI ((behind s h o z).1).length (1 : Int)) (1 : Int))),(99,.b (decide ((heldI (markI ((behind s h o z).1).length (1 : Int)) (1 : Int)) < (0 : Int))))],[(45,⟨3,.row (.ints (markI o.length ((1 : Int) + 7 * (h.length : Int))))⟩),(51,⟨3,.row (.ints (markI ((behind s h o z).1).length (1 : Int)))⟩)],[70,65,51,45,43,37,35,999]⟩)
         (True ∧ (True ∧ True ∧ True) ∧ True)
         ⟨tt,⟨tt,tt,tt⟩,tt⟩ ?_
        refine W.ifP ((heldI (markI ((behind s h o z).1).length (1 : Int)) (1 : Int)) < (0 : Int)) (.b (decide ((heldI (markI ((behind s h o z).1).length (1 : Int)) (1 : Int)) < (0 : Int)))) (by kernel_rfl) rfl trivial ?_ ?_
        ·intro h99
         refine Kk cok tab3 hnt [] [8] (⟨[(8,.b false)],[(45,⟨3,.row (.ints (markI o.length ((1 : Int) + 7 * (h.length : Int))))⟩),(51,⟨3,.row (.ints (markI ((behind s h o z).1).length (1 : Int)))⟩)],[70,65,51,45,43,37,35,999]⟩)
          (True ∧ True)
          ⟨tt,tt⟩ ?_
         refine W.ret (thenQ_ret ?_)
         exact endQ_ret (.b false) (by kernel_rfl) (@cast ((.bool false : Value) = .bool true) _ (by kernel_rfl) (congrArg Value.bool (by exfalso; rw [heldI_mark] at h99; omega)))
        ·intro n99
         refine W.skip (thenQ_normal ?_)
         refine W.seq ?_
         refine Kk cok tab3 hnt [] [0,1,2,3,10,11,14,17,102] (⟨[(0,.v (.string s)),(1,.sl (.calls h)),(2,.sl (.ints o)),(3,.i z),(10,.sl (.ints ((behind s h o z).1))),(11,.b ((behind s h o z).2)),(14,.own 51 (List.length ((behind s h o z).1))),(17,.i ((1 : Int) + ((((behind s h o z).1).length : Nat) : Int))),(102,.b (decide ((heldI (markI ((behind s h o z).1).length (1 : Int)) (1 : Int)) ≠ ((1 : Int) + ((((behind s h o z).1).length : Nat) : Int)))))],[(45,⟨3,.row (.ints (markI o.length ((1 : Int) + 7 * (h.length : Int))))⟩),(51,⟨3,.row (.ints (markI ((behind s h o z).1).length (1 : Int)))⟩)],[70,65,51,45,43,37,35,999]⟩)
          (True ∧ True ∧ (True ∧ True ∧ True) ∧ True)
          ⟨tt,tt,⟨tt,tt,tt⟩,tt⟩ ?_
         refine W.ifP ((heldI (markI ((behind s h o z).1).length (1 : Int)) (1 : Int)) ≠ ((1 : Int) + ((((behind s h o z).1).length : Nat) : Int))) (.b (decide ((heldI (markI ((behind s h o z).1).length (1 : Int)) (1 : Int)) ≠ ((1 : Int) + ((((behind s h o z).1).length : Nat) : Int))))) (by kernel_rfl) rfl trivial ?_ ?_
         ·intro h102
          refine Kk cok tab3 hnt [] [8] (⟨[(8,.b false)],[(45,⟨3,.row (.ints (markI o.length ((1 : Int) + 7 * (h.length : Int))))⟩),(51,⟨3,.row (.ints (markI ((behind s h o z).1).length (1 : Int)))⟩)],[70,65,51,45,43,37,35,999]⟩)
           (True ∧ True)
           ⟨tt,tt⟩ ?_
          refine W.ret (thenQ_ret ?_)
          exact endQ_ret (.b false) (by kernel_rfl) (@cast ((.bool false : Value) = .bool true) _ (by kernel_rfl) (congrArg Value.bool (by exfalso; rw [heldI_mark] at h102; omega)))
         ·intro n102
          refine W.skip (thenQ_normal ?_)
          refine Kk cok tab3 hnt [] [10,11,14,17,19,20] (⟨[(10,.sl (.ints ((behind s h o z).1))),(11,.b ((behind s h o z).2)),(14,.own 51 (List.length ((behind s h o z).1))),(17,.i ((1 : Int) + ((((behind s h o z).1).length : Nat) : Int))),(19,.own 110 (List.length ((behind s h o z).1))),(20,.b ((behind s h o z).2))],[(45,⟨3,.row (.ints (markI o.length ((1 : Int) + 7 * (h.length : Int))))⟩),(51,⟨3,.row (.ints (markI ((behind s h o z).1).length (1 : Int)))⟩),(110,⟨3,.row (.ints ((behind s h o z).1))⟩)],[110,108,106,70,65,51,45,43,37,35,999]⟩)
           (True ∧ True ∧ ((True ∧ (True ∧ True) ∧ (h.length ≤ 1048576)) ∧ (h.length = h.length)) ∧ True ∧ ((True ∧ (True ∧ True) ∧ (o.length ≤ 1048576)) ∧ (o.length = o.length)) ∧ True ∧ (True ∧ (True ∧ True ∧ True ∧ True ∧ True) ∧ True) ∧ True ∧ True ∧ True ∧ True ∧ True ∧ True)
           ⟨tt,tt,⟨⟨tt,⟨tt,tt⟩,(by omega)⟩,rfl⟩,tt,⟨⟨tt,⟨tt,tt⟩,(by omega)⟩,rfl⟩,tt,⟨tt,⟨tt,tt,tt,tt,tt⟩,tt⟩,tt,tt,tt,tt,tt,tt⟩ ?_
          refine W.seq ?_
          refine Kk cok tab3 hnt [] [14,17,121] (⟨[(14,.own 51 (List.length ((behind s h o z).1))),(17,.i ((1 : Int) + ((((behind s h o z).1).length : Nat) : Int))),(121,.b ((!(decide (((behind s h o z).1) = ((behind s h o z).1)))) || (((behind s h o z).2) != ((behind s h o z).2))))],[(45,⟨3,.row (.ints (markI o.length ((1 : Int) + 7 * (h.length : Int))))⟩),(51,⟨3,.row (.ints (markI ((behind s h o z).1).length (1 : Int)))⟩),(110,⟨3,.row (.ints ((behind s h o z).1))⟩)],[110,108,106,70,65,51,45,43,37,35,999]⟩)
           ((fun (Z1:Bool)=>(True ∧ (True ∧ ((True ∧ (((True ∧ ((List.length ((behind s h o z).1)) = (List.length ((behind s h o z).1)))) ∧ (True ∧ True)) ∧ True)) ∧ (True ∧ (True ∧ (((!Z1) = true → True) ∧ (((!Z1) = true → True) ∧ (((!Z1) = true → ((((!Z1) = true) ∧ True) ∧ (((!Z1) = true) ∧ True))) ∧ ((True ∧ ((Z1 = true → True) ∧ (Z1 = false → ((!Z1) = true) ∧ True))) ∧ True)))))))))) (!(decide (((behind s h o z).1) = ((behind s h o z).1)))))
           ⟨tt,tt,⟨tt,⟨⟨tt,rfl⟩,tt,tt⟩,tt⟩,tt,tt,(fun _ => trivial),(fun _ => trivial),(fun hG => ⟨⟨hG,tt⟩,hG,tt⟩),⟨tt,(fun _ => trivial),(fun hp => ⟨(not_t hp),tt⟩)⟩,tt⟩ ?_
          refine W.if' ((!(decide (((behind s h o z).1) = ((behind s h o z).1)))) || (((behind s h o z).2) != ((behind s h o z).2))) (.b ((!(decide (((behind s h o z).1) = ((behind s h o z).1)))) || (((behind s h o z).2) != ((behind s h o z).2)))) (by kernel_rfl) rfl trivial ?_ ?_
          ·intro h121
           refine Kk cok tab3 hnt [] [8] (⟨[(8,.b false)],[(45,⟨3,.row (.ints (markI o.length ((1 : Int) + 7 * (h.length : Int))))⟩),(51,⟨3,.row (.ints (markI ((behind s h o z).1).length (1 : Int)))⟩),(110,⟨3,.row (.ints ((behind s h o z).1))⟩)],[110,108,106,70,65,51,45,43,37,35,999]⟩)
            (True ∧ True)
            ⟨tt,tt⟩ ?_
           refine W.ret (thenQ_ret ?_)
           exact endQ_ret (.b false) (by kernel_rfl) (@cast ((.bool false : Value) = .bool true) _ (by kernel_rfl) (congrArg Value.bool (by exfalso; simp at h121)))
          ·intro n121
           refine W.skip (thenQ_normal ?_)
           refine Kk cok tab3 hnt [] [14,17,18] (⟨[(14,.own 51 (List.length ((behind s h o z).1))),(17,.i ((1 : Int) + ((((behind s h o z).1).length : Nat) : Int))),(18,.i (1 : Int))],[(45,⟨3,.row (.ints (markI o.length ((1 : Int) + 7 * (h.length : Int))))⟩),(51,⟨3,.row (.ints (markI ((behind s h o z).1).length (1 : Int)))⟩),(110,⟨3,.row (.ints ((behind s h o z).1))⟩)],[110,108,106,70,65,51,45,43,37,35,999]⟩)
            (True ∧ True)
            ⟨tt,tt⟩ ?_
           refine Kk cok tab3 hnt [] [17,18] (⟨[(17,.i ((1 : Int) + ((((behind s h o z).1).length : Nat) : Int))),(18,.i (heldI (markI ((behind s h o z).1).length (1 : Int)) (1 : Int)))],[(45,⟨3,.row (.ints (markI o.length ((1 : Int) + 7 * (h.length : Int))))⟩),(51,⟨3,.row (.ints (markI ((behind s h o z).1).length (1 : Int)))⟩),(110,⟨3,.row (.ints ((behind s h o z).1))⟩)],[110,108,106,70,65,51,45,43,37,35,999]⟩)
            (True ∧ True ∧ (True ∧ ((True ∧ ((List.length ((behind s h o z).1)) = (List.length (markI ((behind s h o z).1).length (1 : Int))))) ∧ True ∧ True) ∧ ((markI ((behind s h o z).1).length (1 : Int)).length ≤ 2000000) ∧ 0 ≤ (1 : Int) ∧ (1 : Int) ≤ 1000000000) ∧ True ∧ True)
            ⟨tt,tt,⟨tt,⟨⟨tt,(by rw [markI_len] <;> omega)⟩,tt,tt⟩,(by rw [markI_len] <;> omega),(by omega)⟩,tt,tt⟩ ?_
           refine W.seq ?_
           refine Kk cok tab3 hnt [] [17,18,126] (⟨[(17,.i ((1 : Int) + ((((behind s h o z).1).length : Nat) : Int))),(18,.i (heldI (markI ((behind s h o z).1).length (1 : Int)) (1 : Int))),(126,.b (decide ((heldI (markI ((behind s h o z).1).length (1 : Int)) (1 : Int)) < (0 : Int))))],[(45,⟨3,.row (.ints (markI o.length ((1 : Int) + 7 * (h.length : Int))))⟩),(51,⟨3,.row (.ints (markI ((behind s h o z).1).length (1 : Int)))⟩),(110,⟨3,.row (.ints ((behind s h o z).1))⟩)],[110,108,106,70,65,51,45,43,37,35,999]⟩)
            (True ∧ (True ∧ True ∧ True) ∧ True)
            ⟨tt,⟨tt,tt,tt⟩,tt⟩ ?_
           refine W.ifP ((heldI (markI ((behind s h o z).1).length (1 : Int)) (1 : Int)) < (0 : Int)) (.b (decide ((heldI (markI ((behind s h o z).1).length (1 : Int)) (1 : Int)) < (0 : Int)))) (by kernel_rfl) rfl trivial ?_ ?_
           ·intro h126
            refine Kk cok tab3 hnt [] [8] (⟨[(8,.b false)],[(45,⟨3,.row (.ints (markI o.length ((1 : Int) + 7 * (h.length : Int))))⟩),(51,⟨3,.row (.ints (markI ((behind s h o z).1).length (1 : Int)))⟩),(110,⟨3,.row (.ints ((behind s h o z).1))⟩)],[110,108,106,70,65,51,45,43,37,35,999]⟩)
             (True ∧ True)
             ⟨tt,tt⟩ ?_
            refine W.ret (thenQ_ret ?_)
            exact endQ_ret (.b false) (by kernel_rfl) (@cast ((.bool false : Value) = .bool true) _ (by kernel_rfl) (congrArg Value.bool (by exfalso; rw [heldI_mark] at h126; omega)))
           ·intro n126
            refine W.skip (thenQ_normal ?_)
            refine W.seq ?_
            refine Kk cok tab3 hnt [] [129] (⟨[(129,.b (decide ((heldI (markI ((behind s h o z).1).length (1 : Int)) (1 : Int)) ≠ ((1 : Int) + ((((behind s h o z).1).length : Nat) : Int)))))],[(45,⟨3,.row (.ints (markI o.length ((1 : Int) + 7 * (h.length : Int))))⟩),(51,⟨3,.row (.ints (markI ((behind s h o z).1).length (1 : Int)))⟩),(110,⟨3,.row (.ints ((behind s h o z).1))⟩)],[110,108,106,70,65,51,45,43,37,35,999]⟩)
             (True ∧ True ∧ (True ∧ True ∧ True) ∧ True)
             ⟨tt,tt,⟨tt,tt,tt⟩,tt⟩ ?_
            refine W.ifP ((heldI (markI ((behind s h o z).1).length (1 : Int)) (1 : Int)) ≠ ((1 : Int) + ((((behind s h o z).1).length : Nat) : Int))) (.b (decide ((heldI (markI ((behind s h o z).1).length (1 : Int)) (1 : Int)) ≠ ((1 : Int) + ((((behind s h o z).1).length : Nat) : Int))))) (by kernel_rfl) rfl trivial ?_ ?_
            ·intro h129
             refine Kk cok tab3 hnt [] [8] (⟨[(8,.b false)],[(45,⟨3,.row (.ints (markI o.length ((1 : Int) + 7 * (h.length : Int))))⟩),(51,⟨3,.row (.ints (markI ((behind s h o z).1).length (1 : Int)))⟩),(110,⟨3,.row (.ints ((behind s h o z).1))⟩)],[110,108,106,70,65,51,45,43,37,35,999]⟩)
              (True ∧ True)
              ⟨tt,tt⟩ ?_
             refine W.ret (thenQ_ret ?_)
             exact endQ_ret (.b false) (by kernel_rfl) (@cast ((.bool false : Value) = .bool true) _ (by kernel_rfl) (congrArg Value.bool (by exfalso; rw [heldI_mark] at h129; omega)))
            ·intro n129
             refine W.skip (thenQ_normal ?_)
             refine Kk cok tab3 hnt [] [8] (⟨[(8,.b true)],[(45,⟨3,.row (.ints (markI o.length ((1 : Int) + 7 * (h.length : Int))))⟩),(51,⟨3,.row (.ints (markI ((behind s h o z).1).length (1 : Int)))⟩),(110,⟨3,.row (.ints ((behind s h o z).1))⟩)],[110,108,106,70,65,51,45,43,37,35,999]⟩)
              (True ∧ True)
              ⟨tt,tt⟩ ?_
             refine W.ret ?_
             exact endQ_ret (.b true) (by kernel_rfl) (@cast (Sv (.bool true)) _ (by kernel_rfl) rfl)
end Go.Proofs.Try
