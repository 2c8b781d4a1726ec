import Derived.Test.YtmjlbcgcfloefaaUF5S0
import Derived.Test.YtmjlbcgcfloefaaUF5S1
import Derived.Test.YtmjlbcgcfloefaaFrameB
import Derived.Shelf.Slices.Delete
import Derived.Shelf.Slices.Clone
set_option linter.unusedSimpArgs false
set_option linter.unusedVariables false
namespace Go.Proofs.Try
open Go.Ab Go.RowKit
def fs15 : FnS := fnS [.s .ints,.o] [.ints,.int] (fun _ (l,k,_) => (.i (heldI l k),[],(l.length ≤ 2000000) ∧ (0 ≤ k ∧ k ≤ 1000000000)))
abbrev T15 : Tab := lk []
theorem tab15 : TabOK prog T15 := TabOK.nil
set_option maxRecDepth 100000 in
set_option maxHeartbeats 1000000 in
theorem ok15 : FnOK prog 15 fs15 := by
 refine FnOK.mk cok func15 rfl rfl rfl ?_
 rintro fl ⟨(l : List Int),(k : Int),_⟩ hpre F hnt0 _
 have hnt : F.nt = 21 := hnt0.trans ntmps15
 replace hpre : (l.length ≤ 2000000) ∧ (0 ≤ k ∧ k ≤ 1000000000) := hpre
 obtain ⟨hn,hk⟩ := hpre
 refine W.to (⟨[(0,.sl (.ints l)),(1,.i k)],[],[999]⟩) rfl ?_
 refine W.lenOf 0 (.ints l) (by kernel_rfl) ?_
 intro hl_l; replace hl_l : List.length l ≤ 9223372036854775807 := hl_l
 refine Kk cok tab15 hnt [] [0,1] (⟨[(0,.sl (.ints l)),(1,.i k)],[],[999]⟩)
  (True ∧ True)
  ⟨tt,tt⟩ ?_
 refine W.seq ?_
 refine Kk cok tab15 hnt [] [0,1,5] (⟨[(0,.sl (.ints l)),(1,.i k),(5,.i (0 : Int))],[],[999]⟩)
  (True ∧ True)
  ⟨tt,tt⟩ ?_
 refine W.block ?_
 refine W.loop (ι := Nat × Int) (fun (x : Nat × Int) => match x with | (i,kk) => (⟨[(0,.sl (.ints l)),(1,.i kk),(5,.i ((i : Nat) : Int))],[],[999]⟩ : St))
  (fun (x : Nat × Int) => match x with | (i,kk) => (i ≤ l.length) ∧ (∀ j,j < i → heldAt l k j = true) ∧ (kk = k + ((i : Nat) : Int)))
  (fun (x : Nat × Int) => match x with | (i,kk) => (l.length - i : Nat)) (0,k) ?_ ?_ ?_
 ·exact (show (0 ≤ l.length) ∧ (∀ j,j < 0 → heldAt l k j = true) ∧ (k = k + ((0 : Nat) : Int)) from ⟨(by first | assumption | omega | rfl | (intro _ hjj; omega) | (simp; done) | (simp; omega)),(by exact upto_zero),(by first | assumption | omega | rfl | (intro _ hjj; omega) | (simp; done) | (simp; omega))⟩)
 ·exact Sub.of [] (@cast (((Sd (.ints l)) ∧ (Si k) ∧ ((.int .i64 (0 : Int) : Value) = .int .i64 ((0 : Nat) : Int)) ∧ True) ∧ True ∧ (true = true) ∧ (true = true)) _ (by kernel_rfl) ⟨⟨rfl,rfl,(congrArg (Value.int .i64) (by first | rfl | omega | assumption | simp | simp_all)),tt⟩,tt,rfl,rfl⟩)
 ·rintro ⟨i,kk⟩ hC0
  have hC : (i ≤ l.length) ∧ (∀ j,j < i → heldAt l k j = true) ∧ (kk = k + ((i : Nat) : Int)) := hC0
  clear hC0
  obtain ⟨hi,hA,hk2⟩ := hC
  refine W.to (⟨[(0,.sl (.ints l)),(1,.i kk),(5,.i ((i : Nat) : Int))],[],[999]⟩) rfl ?_
  refine W.seq ?_
  refine Kk cok tab15 hnt [] [0,1,5,9] (⟨[(0,.sl (.ints l)),(1,.i kk),(5,.i ((i : Nat) : Int)),(9,.b (decide (((i : Nat) : Int) < (l.length : Int))))],[],[999]⟩)
   (True ∧ True ∧ True ∧ (True ∧ True ∧ True) ∧ True)
   ⟨tt,tt,tt,⟨tt,tt,tt⟩,tt⟩ ?_
  refine W.ifP (((i : Nat) : Int) < (l.length : Int)) (.b (decide (((i : Nat) : Int) < (l.length : Int)))) (by kernel_rfl) rfl trivial ?_ ?_
  ·intro h9
   refine W.skip (thenQ_normal ?_)
   refine W.seq ?_
   refine W.block ?_
   refine W.seq ?_
   refine Kk cok tab15 hnt [] [0,1,5,17] (⟨[(0,.sl (.ints l)),(1,.i kk),(5,.i ((i : Nat) : Int)),(17,.b (decide ((l.getD i 0) ≠ kk)))],[],[999]⟩)
    (True ∧ True ∧ (True ∧ True ∧ (0 ≤ ((i : Nat) : Int)) ∧ (((i : Nat) : Int) < (l.length : Int))) ∧ True ∧ True ∧ (True ∧ True ∧ True) ∧ True)
    ⟨tt,tt,⟨tt,tt,(by omega),(by omega)⟩,tt,tt,⟨tt,tt,tt⟩,tt⟩ ?_
   refine W.ifP ((l.getD i 0) ≠ kk) (.b (decide ((l.getD i 0) ≠ kk))) (by kernel_rfl) rfl trivial ?_ ?_
   ·intro h17
    refine Kk cok tab15 hnt [] [4] (⟨[(4,.i (-1 : Int))],[],[999]⟩)
     (True ∧ True)
     ⟨tt,tt⟩ ?_
    refine W.ret (thenQ_ret (blockQ_ret (thenQ_ret (thenQ_ret (blockQ_ret (thenQ_ret ?_))))))
    exact endQ_ret (.i (-1 : Int)) (by kernel_rfl) (@cast ((.int .i64 (-1 : Int) : Value) = .int .i64 (heldI l k)) _ (by kernel_rfl) (congrArg (Value.int .i64) (by exact (heldI_no (i := i) (by omega) hk2 h17).symm)))
   ·intro n17
    refine W.skip (thenQ_normal ?_)
    refine Lk cok tab15 hnt [] (⟨[(0,.sl (.ints l)),(1,.i (kk + (1 : Int))),(5,.i ((i : Nat) : Int)),(17,.b (decide ((l.getD i 0) ≠ kk))),(18,.i kk),(19,.i (kk + (1 : Int)))],[],[999]⟩)
     (True ∧ (True ∧ True ∧ (Fits .i64 (kk + (1 : Int)))) ∧ True ∧ True)
     ⟨tt,⟨tt,tt,(by exact fits_i64 (by omega) (by omega))⟩,tt,tt⟩ ?_
    refine blockQ_normal (thenQ_normal ?_)
    refine Lk cok tab15 hnt [] (⟨[(0,.sl (.ints l)),(1,.i (kk + (1 : Int))),(5,.i (((i + 1) : Nat) : Int)),(10,.i ((i : Nat) : Int)),(11,.i (((i + 1) : Nat) : Int)),(17,.b (decide ((l.getD i 0) ≠ kk))),(18,.i kk),(19,.i (kk + (1 : Int)))],[],[999]⟩)
     (True ∧ (True ∧ True ∧ (Fits .i64 (((i + 1) : Nat) : Int))) ∧ True ∧ True)
     ⟨tt,⟨tt,tt,(by exact fits_i64 (by omega) (by omega))⟩,tt,tt⟩ ?_
    refine thenQ_normal ?_
    refine ⟨((i + 1),(kk + (1 : Int))),(show ((i + 1) ≤ l.length) ∧ (∀ j,j < (i + 1) → heldAt l k j = true) ∧ ((kk + (1 : Int)) = k + (((i + 1) : Nat) : Int)) from ⟨(by first | assumption | omega | rfl | (intro _ hjj; omega) | (simp; done) | (simp; omega)),(by exact upto_succ hA (decide_eq_true (by rw [← hk2]; exact Decidable.not_not.1 n17))),(by first | assumption | omega | rfl | (intro _ hjj; omega) | (simp; done) | (simp; omega))⟩),(show l.length - (i + 1) < l.length - i from (by first | omega | (simp_all; omega))),?_⟩
    exact Sub.of [] (@cast (((Sd (.ints l)) ∧ (Si (kk + (1 : Int))) ∧ (Si (((i + 1) : Nat) : Int)) ∧ True) ∧ True ∧ (true = true) ∧ (true = true)) _ (by kernel_rfl) ⟨⟨rfl,rfl,rfl,tt⟩,tt,rfl,rfl⟩)
  ·intro n9
   refine W.exit (thenQ_exit (thenQ_exit (blockQ_hit ?_)))
   refine thenQ_normal ?_
   refine Kk cok tab15 hnt [] [4] (⟨[(4,.i kk)],[],[999]⟩)
    (True ∧ True ∧ True)
    ⟨tt,tt,tt⟩ ?_
   refine W.ret ?_
   exact endQ_ret (.i kk) (by kernel_rfl) (@cast ((.int .i64 kk : Value) = .int .i64 (heldI l k)) _ (by kernel_rfl) (congrArg (Value.int .i64) (by exact (heldI_yes hA hi hk2 n9).symm)))
theorem ent15 : Entr prog 15 := ⟨_,func15,rfl,by decide⟩
end Go.Proofs.Try

set_option linter.unusedSimpArgs false
set_option linter.unusedVariables false
namespace Go.Proofs.Try
open Go.Ab Go.RowKit
def fs20 : FnS := fnS [.s .intss,.o] [.intss,.int] (fun _ (l,k,_) => (.i (heldSS l k),[],(totSS l ≤ 1000000) ∧ (0 ≤ k ∧ k ≤ 1000)))
abbrev T20 : Tab := lk [(15,fs15)]
theorem tab20 : TabOK prog T20 := (TabOK.cons ok15 ent15 TabOK.nil)
set_option maxRecDepth 100000 in
set_option maxHeartbeats 1000000 in
theorem ok20 : FnOK prog 20 fs20 := by
 refine FnOK.mk cok func20 rfl rfl rfl ?_
 rintro fl ⟨(l : List (List Int)),(k : Int),_⟩ hpre F hnt0 _
 have hnt : F.nt = 21 := hnt0.trans ntmps20
 replace hpre : (totSS l ≤ 1000000) ∧ (0 ≤ k ∧ k ≤ 1000) := hpre
 obtain ⟨hn,hk⟩ := hpre
 refine W.to (⟨[(0,.sl (.intss l)),(1,.i k)],[],[999]⟩) rfl ?_
 refine W.lenOf 0 (.intss l) (by kernel_rfl) ?_
 intro hl_l; replace hl_l : List.length l ≤ 9223372036854775807 := hl_l
 refine Kk cok tab20 hnt [] [0,1] (⟨[(0,.sl (.intss l)),(1,.i k)],[],[999]⟩)
  (True ∧ True)
  ⟨tt,tt⟩ ?_
 refine W.seq ?_
 refine Kk cok tab20 hnt [] [0,1,5] (⟨[(0,.sl (.intss l)),(1,.i k),(5,.i (0 : Int))],[],[999]⟩)
  (True ∧ True)
  ⟨tt,tt⟩ ?_
 refine W.block ?_
 refine W.loop (ι := Nat × Int) (fun (x : Nat × Int) => match x with | (i,kk) => (⟨[(0,.sl (.intss l)),(1,.i kk),(5,.i ((i : Nat) : Int))],[],[999]⟩ : St))
  (fun (x : Nat × Int) => match x with | (i,kk) => (i ≤ l.length) ∧ (heldSS l k = heldSS (l.drop i) kk) ∧ (0 ≤ kk ∧ kk ≤ k + ((totSS (l.take i) : Nat) : Int)))
  (fun (x : Nat × Int) => match x with | (i,kk) => (l.length - i : Nat)) (0,k) ?_ ?_ ?_
 ·exact (show (0 ≤ l.length) ∧ (heldSS l k = heldSS (l.drop 0) k) ∧ (0 ≤ k ∧ k ≤ k + ((totSS (l.take 0) : Nat) : Int)) from ⟨(by first | assumption | omega | rfl | (intro _ hjj; omega) | (simp; done) | (simp; omega)),(by simp),(by simp [totSS]; omega)⟩)
 ·exact Sub.of [] (@cast (((Sd (.intss l)) ∧ (Si k) ∧ ((.int .i64 (0 : Int) : Value) = .int .i64 ((0 : Nat) : Int)) ∧ True) ∧ True ∧ (true = true) ∧ (true = true)) _ (by kernel_rfl) ⟨⟨rfl,rfl,(congrArg (Value.int .i64) (by first | rfl | omega | assumption | simp | simp_all)),tt⟩,tt,rfl,rfl⟩)
 ·rintro ⟨i,kk⟩ hC0
  have hC : (i ≤ l.length) ∧ (heldSS l k = heldSS (l.drop i) kk) ∧ (0 ≤ kk ∧ kk ≤ k + ((totSS (l.take i) : Nat) : Int)) := hC0
  clear hC0
  obtain ⟨hi,hE,hk2⟩ := hC
  refine W.to (⟨[(0,.sl (.intss l)),(1,.i kk),(5,.i ((i : Nat) : Int))],[],[999]⟩) rfl ?_
  have htk := totSS_take_le l i
  have hrl := row_le_tot l i
  have hts := fun hi => totSS_take l i hi
  refine W.seq ?_
  refine Kk cok tab20 hnt [] [0,1,5,9] (⟨[(0,.sl (.intss l)),(1,.i kk),(5,.i ((i : Nat) : Int)),(9,.b (decide (((i : Nat) : Int) < (l.length : Int))))],[],[999]⟩)
   (True ∧ True ∧ True ∧ (True ∧ True ∧ True) ∧ True)
   ⟨tt,tt,tt,⟨tt,tt,tt⟩,tt⟩ ?_
  refine W.ifP (((i : Nat) : Int) < (l.length : Int)) (.b (decide (((i : Nat) : Int) < (l.length : Int)))) (by kernel_rfl) rfl trivial ?_ ?_
  ·intro h9
   refine W.skip (thenQ_normal ?_)
   refine W.seq ?_
   refine W.block ?_
   refine Kk cok tab20 hnt [] [0,1,5] (⟨[(0,.sl (.intss l)),(1,.i (heldI (l.getD i []) kk)),(5,.i ((i : Nat) : Int))],[],[999]⟩)
    (True ∧ True ∧ (True ∧ True ∧ (0 ≤ ((i : Nat) : Int)) ∧ (((i : Nat) : Int) < (l.length : Int))) ∧ True ∧ True ∧ (True ∧ (True ∧ True ∧ True) ∧ ((l.getD i []).length ≤ 2000000) ∧ 0 ≤ kk ∧ kk ≤ 1000000000) ∧ True ∧ True)
    ⟨tt,tt,⟨tt,tt,(by omega),(by omega)⟩,tt,tt,⟨tt,⟨tt,tt,tt⟩,(by (first | omega | (simp only [List.length_set]; done) | (simp only [List.length_append,List.length_cons,List.length_nil,List.length_take,List.length_drop,List.length_set,List.length_replicate,List.length_map] at *; omega) | assumption)),(by omega)⟩,tt,tt⟩ ?_
   refine Kk cok tab20 hnt [] [0,1,5,19] (⟨[(0,.sl (.intss l)),(1,.i (heldI (l.getD i []) kk)),(5,.i ((i : Nat) : Int)),(19,.b (decide ((heldI (l.getD i []) kk) < (0 : Int))))],[],[999]⟩)
    (True ∧ (True ∧ True ∧ True) ∧ True)
    ⟨tt,⟨tt,tt,tt⟩,tt⟩ ?_
   refine W.ifP ((heldI (l.getD i []) kk) < (0 : Int)) (.b (decide ((heldI (l.getD i []) kk) < (0 : Int)))) (by kernel_rfl) rfl trivial ?_ ?_
   ·intro h19
    refine Kk cok tab20 hnt [] [4] (⟨[(4,.i (-1 : Int))],[],[999]⟩)
     (True ∧ True)
     ⟨tt,tt⟩ ?_
    refine W.ret (blockQ_ret (thenQ_ret (thenQ_ret (blockQ_ret (thenQ_ret ?_)))))
    exact endQ_ret (.i (-1 : Int)) (by kernel_rfl) (@cast ((.int .i64 (-1 : Int) : Value) = .int .i64 (heldSS l k)) _ (by kernel_rfl) (congrArg (Value.int .i64) (by exact (heldSS_bad hE (by omega) h19).symm)))
   ·intro n19
    refine W.skip (blockQ_normal (thenQ_normal ?_))
    refine Lk cok tab20 hnt [] (⟨[(0,.sl (.intss l)),(1,.i (heldI (l.getD i []) kk)),(5,.i (((i + 1) : Nat) : Int)),(10,.i ((i : Nat) : Int)),(11,.i (((i + 1) : Nat) : Int)),(19,.b (decide ((heldI (l.getD i []) kk) < (0 : Int))))],[],[999]⟩)
     (True ∧ (True ∧ True ∧ (Fits .i64 (((i + 1) : Nat) : Int))) ∧ True ∧ True)
     ⟨tt,⟨tt,tt,(by exact fits_i64 (by omega) (by omega))⟩,tt,tt⟩ ?_
    refine thenQ_normal ?_
    refine ⟨((i + 1),(heldI (l.getD i []) kk)),(show ((i + 1) ≤ l.length) ∧ (heldSS l k = heldSS (l.drop (i + 1)) (heldI (l.getD i []) kk)) ∧ (0 ≤ (heldI (l.getD i []) kk) ∧ (heldI (l.getD i []) kk) ≤ k + ((totSS (l.take (i + 1)) : Nat) : Int)) from ⟨(by first | assumption | omega | rfl | (intro _ hjj; omega) | (simp; done) | (simp; omega)),(by exact heldSS_next hE (by omega) n19),(by have h9 := heldI_pos n19; have h8 := hts (by omega); rw [h9]; omega)⟩),(show l.length - (i + 1) < l.length - i from (by first | omega | (simp_all; omega))),?_⟩
    exact Sub.of [] (@cast (((Sd (.intss l)) ∧ (Si (heldI (l.getD i []) kk)) ∧ (Si (((i + 1) : Nat) : Int)) ∧ True) ∧ True ∧ (true = true) ∧ (true = true)) _ (by kernel_rfl) ⟨⟨rfl,rfl,rfl,tt⟩,tt,rfl,rfl⟩)
  ·intro n9
   refine W.exit (thenQ_exit (thenQ_exit (blockQ_hit ?_)))
   refine thenQ_normal ?_
   refine Kk cok tab20 hnt [] [4] (⟨[(4,.i kk)],[],[999]⟩)
    (True ∧ True ∧ True)
    ⟨tt,tt,tt⟩ ?_
   refine W.ret ?_
   exact endQ_ret (.i kk) (by kernel_rfl) (@cast ((.int .i64 kk : Value) = .int .i64 (heldSS l k)) _ (by kernel_rfl) (congrArg (Value.int .i64) (by exact (heldSS_end hE hi n9).symm)))
theorem ent20 : Entr prog 20 := ⟨_,func20,rfl,by decide⟩
end Go.Proofs.Try

set_option linter.unusedSimpArgs false
set_option linter.unusedVariables false
namespace Go.Proofs.Try
open Go.Ab Go.RowKit
def fs50 : FnS := fnS [.o] [.str] (fun _ (s,_) => (.b (isSingle s),[],True))
abbrev T50 : Tab := lk []
theorem tab50 : TabOK prog T50 := TabOK.nil
set_option maxRecDepth 100000 in
set_option maxHeartbeats 1000000 in
theorem ok50 : FnOK prog 50 fs50 := by
 refine FnOK.mk cok func50 rfl rfl rfl ?_
 rintro fl ⟨(s : ByteArray),_⟩ hpre F hnt0 _
 have hnt : F.nt = 13 := hnt0.trans ntmps50
 clear hpre
 refine W.to (⟨[(0,.v (.string s))],[],[999]⟩) rfl ?_
 refine Kk cok tab50 hnt [] [0] (⟨[(0,.v (.string s))],[],[999]⟩)
  (True ∧ True)
  ⟨tt,tt⟩ ?_
 refine Kk cok tab50 hnt [] [2] (⟨[(2,.b (((eqS s nRegister) || (eqS s nCounter)) || (eqS s nMost)))],[],[999]⟩)
  ((fun (Z1:Bool)=>((fun (Z2:Bool)=>(True ∧ ((True ∧ (True ∧ True)) ∧ (True ∧ (((!Z1) = true → True) ∧ (((!Z1) = true → ((((!Z1) = true) ∧ True) ∧ (True ∧ True))) ∧ ((True ∧ ((Z1 = true → True) ∧ (Z1 = false → ((!Z1) = true) ∧ True))) ∧ (True ∧ (((!Z2) = true → True) ∧ (((!Z2) = true → ((((!Z2) = true) ∧ True) ∧ (True ∧ True))) ∧ ((True ∧ ((Z2 = true → True) ∧ (Z2 = false → ((!Z2) = true) ∧ True))) ∧ (True ∧ True)))))))))))) (Z1 || (eqS s nCounter)))) (eqS s nRegister))
  ⟨tt,⟨tt,tt,tt⟩,tt,(fun _ => trivial),(fun hG => ⟨⟨hG,tt⟩,tt,tt⟩),⟨tt,(fun _ => trivial),(fun hp => ⟨(not_t hp),tt⟩)⟩,tt,(fun _ => trivial),(fun hG => ⟨⟨hG,tt⟩,tt,tt⟩),⟨tt,(fun _ => trivial),(fun hp => ⟨(not_t hp),tt⟩)⟩,tt,tt⟩ ?_
 refine W.ret ?_
 exact endQ_ret (.b (((eqS s nRegister) || (eqS s nCounter)) || (eqS s nMost))) (by kernel_rfl) (@cast ((.bool (((eqS s nRegister) || (eqS s nCounter)) || (eqS s nMost)) : Value) = .bool (isSingle s)) _ (by kernel_rfl) (congrArg Value.bool (by first | rfl | simp_all)))
theorem ent50 : Entr prog 50 := ⟨_,func50,rfl,by decide⟩
end Go.Proofs.Try

set_option linter.unusedSimpArgs false
set_option linter.unusedVariables false
namespace Go.Proofs.Try
open Go.Ab Go.RowKit
def fs37 : FnS := fnS [.o] [.str] (fun _ (s,_) => (.b (isObject s),[],True))
abbrev T37 : Tab := lk [(50,fs50)]
theorem tab37 : TabOK prog T37 := (TabOK.cons ok50 ent50 TabOK.nil)
set_option maxRecDepth 100000 in
set_option maxHeartbeats 1000000 in
theorem ok37 : FnOK prog 37 fs37 := by
 refine FnOK.mk cok func37 rfl rfl rfl ?_
 rintro fl ⟨(s : ByteArray),_⟩ hpre F hnt0 _
 have hnt : F.nt = 17 := hnt0.trans ntmps37
 clear hpre
 refine W.to (⟨[(0,.v (.string s))],[],[999]⟩) rfl ?_
 refine Kk cok tab37 hnt [] [0] (⟨[(0,.v (.string s))],[],[999]⟩)
  (True ∧ True)
  ⟨tt,tt⟩ ?_
 refine Kk cok tab37 hnt [] [2] (⟨[(2,.b ((((isSingle s) || (eqS s nQueue)) || (eqS s nStack)) || (eqS s nSet)))],[],[999]⟩)
  ((fun (Z1:Bool)=>((fun (Z2:Bool)=>((fun (Z3:Bool)=>(True ∧ ((True ∧ ((True ∧ True) ∧ True)) ∧ (True ∧ (((!Z1) = true → True) ∧ (((!Z1) = true → ((((!Z1) = true) ∧ True) ∧ (True ∧ True))) ∧ ((True ∧ ((Z1 = true → True) ∧ (Z1 = false → ((!Z1) = true) ∧ True))) ∧ (True ∧ (((!Z2) = true → True) ∧ (((!Z2) = true → ((((!Z2) = true) ∧ True) ∧ (True ∧ True))) ∧ ((True ∧ ((Z2 = true → True) ∧ (Z2 = false → ((!Z2) = true) ∧ True))) ∧ (True ∧ (((!Z3) = true → True) ∧ (((!Z3) = true → ((((!Z3) = true) ∧ True) ∧ (True ∧ True))) ∧ ((True ∧ ((Z3 = true → True) ∧ (Z3 = false → ((!Z3) = true) ∧ True))) ∧ (True ∧ True)))))))))))))))) (Z2 || (eqS s nStack)))) (Z1 || (eqS s nQueue)))) (isSingle s))
  ⟨tt,⟨tt,⟨tt,tt⟩,tt⟩,tt,(fun _ => trivial),(fun hG => ⟨⟨hG,tt⟩,tt,tt⟩),⟨tt,(fun _ => trivial),(fun hp => ⟨(not_t hp),tt⟩)⟩,tt,(fun _ => trivial),(fun hG => ⟨⟨hG,tt⟩,tt,tt⟩),⟨tt,(fun _ => trivial),(fun hp => ⟨(not_t hp),tt⟩)⟩,tt,(fun _ => trivial),(fun hG => ⟨⟨hG,tt⟩,tt,tt⟩),⟨tt,(fun _ => trivial),(fun hp => ⟨(not_t hp),tt⟩)⟩,tt,tt⟩ ?_
 refine W.ret ?_
 exact endQ_ret (.b ((((isSingle s) || (eqS s nQueue)) || (eqS s nStack)) || (eqS s nSet))) (by kernel_rfl) (@cast ((.bool ((((isSingle s) || (eqS s nQueue)) || (eqS s nStack)) || (eqS s nSet)) : Value) = .bool (isObject s)) _ (by kernel_rfl) (congrArg Value.bool (by exact single_obj s)))
theorem ent37 : Entr prog 37 := ⟨_,func37,rfl,by decide⟩
end Go.Proofs.Try

set_option linter.unusedSimpArgs false
set_option linter.unusedVariables false
namespace Go.Proofs.Try
open Go.Ab Go.RowKit
def fs31 : FnS := fnS [.o,.o,.o] [.int,.int,.int] (fun _ (n,low,high,_) => (.b (within n low high),[],True))
abbrev T31 : Tab := lk []
theorem tab31 : TabOK prog T31 := TabOK.nil
set_option maxRecDepth 100000 in
set_option maxHeartbeats 1000000 in
theorem ok31 : FnOK prog 31 fs31 := by
 refine FnOK.mk cok func31 rfl rfl rfl ?_
 rintro fl ⟨(n : Int),(low : Int),(high : Int),_⟩ hpre F hnt0 _
 have hnt : F.nt = 15 := hnt0.trans ntmps31
 clear hpre
 refine W.to (⟨[(0,.i n),(1,.i low),(2,.i high)],[],[999]⟩) rfl ?_
 refine Kk cok tab31 hnt [] [0,1,2] (⟨[(0,.i n),(1,.i low),(2,.i high)],[],[999]⟩)
  (True ∧ True)
  ⟨tt,tt⟩ ?_
 refine Kk cok tab31 hnt [] [6] (⟨[(6,.b ((decide (low ≤ n)) && (decide (n ≤ high))))],[],[999]⟩)
  ((fun (Z1:Bool)=>(True ∧ (True ∧ ((True ∧ (True ∧ True)) ∧ (True ∧ ((Z1 = true → True) ∧ ((Z1 = true → True) ∧ ((Z1 = true → (((Z1 = true) ∧ True) ∧ (((Z1 = true) ∧ True) ∧ True))) ∧ ((True ∧ ((Z1 = true → (Z1 = true) ∧ True) ∧ (Z1 = false → True))) ∧ (True ∧ True)))))))))) (decide (low ≤ n)))
  ⟨tt,tt,⟨tt,tt,tt⟩,tt,(fun _ => trivial),(fun _ => trivial),(fun hG => ⟨⟨hG,tt⟩,⟨hG,tt⟩,tt⟩),⟨tt,(fun hp => ⟨hp,tt⟩),(fun _ => trivial)⟩,tt,tt⟩ ?_
 refine W.ret ?_
 exact endQ_ret (.b ((decide (low ≤ n)) && (decide (n ≤ high)))) (by kernel_rfl) (@cast ((.bool ((decide (low ≤ n)) && (decide (n ≤ high))) : Value) = .bool (within n low high)) _ (by kernel_rfl) (congrArg Value.bool (by first | rfl | simp_all)))
theorem ent31 : Entr prog 31 := ⟨_,func31,rfl,by decide⟩
end Go.Proofs.Try

set_option linter.unusedSimpArgs false
set_option linter.unusedVariables false
namespace Go.Proofs.Try
open Go.Ab Go.RowKit
def fs51 : FnS := fnS [.o] [.call] (fun _ (c,_) => (.b (isCall c),[],True))
abbrev T51 : Tab := lk [(31,fs31)]
theorem tab51 : TabOK prog T51 := (TabOK.cons ok31 ent31 TabOK.nil)
set_option maxRecDepth 100000 in
set_option maxHeartbeats 1000000 in
theorem ok51 : FnOK prog 51 fs51 := by
 refine FnOK.mk cok func51 rfl rfl rfl ?_
 rintro fl ⟨(c : CallD),_⟩ hpre F hnt0 _
 have hnt : F.nt = 43 := hnt0.trans ntmps51
 clear hpre
 refine W.to (⟨[(0,.agg [.i c.proc,.i c.obj,.i c.kind,.i c.arg,.i c.ret,.i c.frm,.i c.to])],[],[999]⟩) rfl ?_
 refine Kk cok tab51 hnt [] [1] (⟨[(1,.ptr 1 0)],[(1,⟨46,.fix [.i c.proc,.i c.obj,.i c.kind,.i c.arg,.i c.ret,.i c.frm,.i c.to]⟩)],[1,999]⟩)
  (True ∧ True ∧ True)
  ⟨tt,tt,tt⟩ ?_
 refine Kk cok tab51 hnt [] [2] (⟨[(2,.b ((((((((within c.proc (0 : Int) (2 : Int)) && (within c.obj (0 : Int) (1 : Int))) && (within c.kind (0 : Int) (2 : Int))) && (within c.arg (0 : Int) (3 : Int))) && (within c.ret (-1 : Int) (20 : Int))) && (within c.frm (0 : Int) (30 : Int))) && (within c.to (0 : Int) (30 : Int))) && (decide (c.frm < c.to))))],[(1,⟨46,.fix [.i c.proc,.i c.obj,.i c.kind,.i c.arg,.i c.ret,.i c.frm,.i c.to]⟩)],[1,999]⟩)
  ((fun (Z1:Bool)=>((fun (Z2:Bool)=>((fun (Z3:Bool)=>((fun (Z4:Bool)=>((fun (Z5:Bool)=>((fun (Z6:Bool)=>((fun (Z7:Bool)=>(True ∧ (True ∧ ((True ∧ ((True ∧ (True ∧ (True ∧ True))) ∧ True)) ∧ (True ∧ ((Z1 = true → True) ∧ ((Z1 = true → ((Z1 = true) ∧ True)) ∧ ((Z1 = true → (True ∧ ((((Z1 = true) ∧ True) ∧ (True ∧ (True ∧ True))) ∧ True))) ∧ ((True ∧ ((Z1 = true → (Z1 = true) ∧ True) ∧ (Z1 = false → True))) ∧ (True ∧ ((Z2 = true → True) ∧ ((Z2 = true → ((Z2 = true) ∧ True)) ∧ ((Z2 = true → (True ∧ ((((Z2 = true) ∧ True) ∧ (True ∧ (True ∧ True))) ∧ True))) ∧ ((True ∧ ((Z2 = true → (Z2 = true) ∧ True) ∧ (Z2 = false → True))) ∧ (True ∧ ((Z3 = true → True) ∧ ((Z3 = true → ((Z3 = true) ∧ True)) ∧ ((Z3 = true → (True ∧ ((((Z3 = true) ∧ True) ∧ (True ∧ (True ∧ True))) ∧ True))) ∧ ((True ∧ ((Z3 = true → (Z3 = true) ∧ True) ∧ (Z3 = false → True))) ∧ (True ∧ ((Z4 = true → True) ∧ ((Z4 = true → ((Z4 = true) ∧ True)) ∧ ((Z4 = true → (True ∧ ((((Z4 = true) ∧ True) ∧ (True ∧ (True ∧ True))) ∧ True))) ∧ ((True ∧ ((Z4 = true → (Z4 = true) ∧ True) ∧ (Z4 = false → True))) ∧ (True ∧ ((Z5 = true → True) ∧ ((Z5 = true → ((Z5 = true) ∧ True)) ∧ ((Z5 = true → (True ∧ ((((Z5 = true) ∧ True) ∧ (True ∧ (True ∧ True))) ∧ True))) ∧ ((True ∧ ((Z5 = true → (Z5 = true) ∧ True) ∧ (Z5 = false → True))) ∧ (True ∧ ((Z6 = true → True) ∧ ((Z6 = true → ((Z6 = true) ∧ True)) ∧ ((Z6 = true → (True ∧ ((((Z6 = true) ∧ True) ∧ (True ∧ (True ∧ True))) ∧ True))) ∧ ((True ∧ ((Z6 = true → (Z6 = true) ∧ True) ∧ (Z6 = false → True))) ∧ (True ∧ ((Z7 = true → True) ∧ ((Z7 = true → ((Z7 = true) ∧ True)) ∧ ((Z7 = true → True) ∧ ((Z7 = true → ((Z7 = true) ∧ True)) ∧ ((Z7 = true → (((Z7 = true) ∧ True) ∧ (((Z7 = true) ∧ True) ∧ True))) ∧ ((True ∧ ((Z7 = true → (Z7 = true) ∧ True) ∧ (Z7 = false → True))) ∧ (True ∧ True)))))))))))))))))))))))))))))))))))))))))) (Z6 && (within c.to (0 : Int) (30 : Int))))) (Z5 && (within c.frm (0 : Int) (30 : Int))))) (Z4 && (within c.ret (-1 : Int) (20 : Int))))) (Z3 && (within c.arg (0 : Int) (3 : Int))))) (Z2 && (within c.kind (0 : Int) (2 : Int))))) (Z1 && (within c.obj (0 : Int) (1 : Int))))) (within c.proc (0 : Int) (2 : Int)))
  ⟨tt,tt,⟨tt,⟨tt,tt,tt,tt⟩,tt⟩,tt,(fun _ => trivial),(fun hG => ⟨hG,tt⟩),(fun hG => ⟨tt,⟨⟨hG,tt⟩,tt,tt,tt⟩,tt⟩),⟨tt,(fun hp => ⟨hp,tt⟩),(fun _ => trivial)⟩,tt,(fun _ => trivial),(fun hG => ⟨hG,tt⟩),(fun hG => ⟨tt,⟨⟨hG,tt⟩,tt,tt,tt⟩,tt⟩),⟨tt,(fun hp => ⟨hp,tt⟩),(fun _ => trivial)⟩,tt,(fun _ => trivial),(fun hG => ⟨hG,tt⟩),(fun hG => ⟨tt,⟨⟨hG,tt⟩,tt,tt,tt⟩,tt⟩),⟨tt,(fun hp => ⟨hp,tt⟩),(fun _ => trivial)⟩,tt,(fun _ => trivial),(fun hG => ⟨hG,tt⟩),(fun hG => ⟨tt,⟨⟨hG,tt⟩,tt,tt,tt⟩,tt⟩),⟨tt,(fun hp => ⟨hp,tt⟩),(fun _ => trivial)⟩,tt,(fun _ => trivial),(fun hG => ⟨hG,tt⟩),(fun hG => ⟨tt,⟨⟨hG,tt⟩,tt,tt,tt⟩,tt⟩),⟨tt,(fun hp => ⟨hp,tt⟩),(fun _ => trivial)⟩,tt,(fun _ => trivial),(fun hG => ⟨hG,tt⟩),(fun hG => ⟨tt,⟨⟨hG,tt⟩,tt,tt,tt⟩,tt⟩),⟨tt,(fun hp => ⟨hp,tt⟩),(fun _ => trivial)⟩,tt,(fun _ => trivial),(fun hG => ⟨hG,tt⟩),(fun _ => trivial),(fun hG => ⟨hG,tt⟩),(fun hG => ⟨⟨hG,tt⟩,⟨hG,tt⟩,tt⟩),⟨tt,(fun hp => ⟨hp,tt⟩),(fun _ => trivial)⟩,tt,tt⟩ ?_
 refine W.ret ?_
 exact endQ_ret (.b ((((((((within c.proc (0 : Int) (2 : Int)) && (within c.obj (0 : Int) (1 : Int))) && (within c.kind (0 : Int) (2 : Int))) && (within c.arg (0 : Int) (3 : Int))) && (within c.ret (-1 : Int) (20 : Int))) && (within c.frm (0 : Int) (30 : Int))) && (within c.to (0 : Int) (30 : Int))) && (decide (c.frm < c.to)))) (by kernel_rfl) (@cast ((.bool ((((((((within c.proc (0 : Int) (2 : Int)) && (within c.obj (0 : Int) (1 : Int))) && (within c.kind (0 : Int) (2 : Int))) && (within c.arg (0 : Int) (3 : Int))) && (within c.ret (-1 : Int) (20 : Int))) && (within c.frm (0 : Int) (30 : Int))) && (within c.to (0 : Int) (30 : Int))) && (decide (c.frm < c.to))) : Value) = .bool (isCall c)) _ (by kernel_rfl) (congrArg Value.bool (by first | rfl | simp_all)))
theorem ent51 : Entr prog 51 := ⟨_,func51,rfl,by decide⟩
end Go.Proofs.Try

set_option linter.unusedSimpArgs false
set_option linter.unusedVariables false
namespace Go.Proofs.Try
open Go.Ab Go.RowKit
def fs57 : FnS := fnS [.o,.o] [.call,.call] (fun _ (a,b,_) => (.b (isBefore a b),[],True))
abbrev T57 : Tab := lk []
theorem tab57 : TabOK prog T57 := TabOK.nil
set_option maxRecDepth 100000 in
set_option maxHeartbeats 1000000 in
theorem ok57 : FnOK prog 57 fs57 := by
 refine FnOK.mk cok func57 rfl rfl rfl ?_
 rintro fl ⟨(a : CallD),(b : CallD),_⟩ hpre F hnt0 _
 have hnt : F.nt = 10 := hnt0.trans ntmps57
 clear hpre
 refine W.to (⟨[(0,.agg [.i a.proc,.i a.obj,.i a.kind,.i a.arg,.i a.ret,.i a.frm,.i a.to]),(1,.agg [.i b.proc,.i b.obj,.i b.kind,.i b.arg,.i b.ret,.i b.frm,.i b.to])],[],[999]⟩) rfl ?_
 refine Kk cok tab57 hnt [] [2,3] (⟨[(2,.ptr 2 0),(3,.ptr 3 0)],[(2,⟨46,.fix [.i a.proc,.i a.obj,.i a.kind,.i a.arg,.i a.ret,.i a.frm,.i a.to]⟩),(3,⟨46,.fix [.i b.proc,.i b.obj,.i b.kind,.i b.arg,.i b.ret,.i b.frm,.i b.to]⟩)],[3,2,999]⟩)
  (True ∧ True ∧ True ∧ True)
  ⟨tt,tt,tt,tt⟩ ?_
 refine Kk cok tab57 hnt [] [4] (⟨[(4,.b (decide (a.to < b.frm)))],[(2,⟨46,.fix [.i a.proc,.i a.obj,.i a.kind,.i a.arg,.i a.ret,.i a.frm,.i a.to]⟩),(3,⟨46,.fix [.i b.proc,.i b.obj,.i b.kind,.i b.arg,.i b.ret,.i b.frm,.i b.to]⟩)],[3,2,999]⟩)
  (True ∧ True ∧ True ∧ True ∧ (True ∧ True ∧ True) ∧ True ∧ True)
  ⟨tt,tt,tt,tt,⟨tt,tt,tt⟩,tt,tt⟩ ?_
 refine W.ret ?_
 exact endQ_ret (.b (decide (a.to < b.frm))) (by kernel_rfl) (@cast ((.bool (decide (a.to < b.frm)) : Value) = .bool (isBefore a b)) _ (by kernel_rfl) (congrArg Value.bool (by first | rfl | simp_all)))
theorem ent57 : Entr prog 57 := ⟨_,func57,rfl,by decide⟩
end Go.Proofs.Try

set_option linter.unusedSimpArgs false
set_option linter.unusedVariables false
namespace Go.Proofs.Try
open Go.Ab Go.RowKit
def fs52 : FnS := fnS [.o,.o] [.call,.call] (fun _ (a,b,_) => (.b (doOverlap a b),[],True))
abbrev T52 : Tab := lk [(57,fs57)]
theorem tab52 : TabOK prog T52 := (TabOK.cons ok57 ent57 TabOK.nil)
set_option maxRecDepth 100000 in
set_option maxHeartbeats 1000000 in
theorem ok52 : FnOK prog 52 fs52 := by
 refine FnOK.mk cok func52 rfl rfl rfl ?_
 rintro fl ⟨(a : CallD),(b : CallD),_⟩ hpre F hnt0 _
 have hnt : F.nt = 15 := hnt0.trans ntmps52
 clear hpre
 refine W.to (⟨[(0,.agg [.i a.proc,.i a.obj,.i a.kind,.i a.arg,.i a.ret,.i a.frm,.i a.to]),(1,.agg [.i b.proc,.i b.obj,.i b.kind,.i b.arg,.i b.ret,.i b.frm,.i b.to])],[],[999]⟩) rfl ?_
 refine Kk cok tab52 hnt [] [2,3] (⟨[(2,.ptr 2 0),(3,.ptr 3 0)],[(2,⟨46,.fix [.i a.proc,.i a.obj,.i a.kind,.i a.arg,.i a.ret,.i a.frm,.i a.to]⟩),(3,⟨46,.fix [.i b.proc,.i b.obj,.i b.kind,.i b.arg,.i b.ret,.i b.frm,.i b.to]⟩)],[3,2,999]⟩)
  (True ∧ True ∧ True ∧ True)
  ⟨tt,tt,tt,tt⟩ ?_
 refine Kk cok tab52 hnt [] [4] (⟨[(4,.b ((!(isBefore a b)) && (!(isBefore b a))))],[(2,⟨46,.fix [.i a.proc,.i a.obj,.i a.kind,.i a.arg,.i a.ret,.i a.frm,.i a.to]⟩),(3,⟨46,.fix [.i b.proc,.i b.obj,.i b.kind,.i b.arg,.i b.ret,.i b.frm,.i b.to]⟩)],[3,2,999]⟩)
  ((fun (Z1:Bool)=>(True ∧ (True ∧ ((True ∧ ((True ∧ (True ∧ True)) ∧ True)) ∧ (True ∧ (True ∧ ((Z1 = true → True) ∧ ((Z1 = true → True) ∧ ((Z1 = true → (True ∧ ((((Z1 = true) ∧ True) ∧ (((Z1 = true) ∧ True) ∧ True)) ∧ True))) ∧ ((Z1 = true → ((Z1 = true) ∧ True)) ∧ ((True ∧ ((Z1 = true → (Z1 = true) ∧ True) ∧ (Z1 = false → True))) ∧ (True ∧ True)))))))))))) (!(isBefore a b)))
  ⟨tt,tt,⟨tt,⟨tt,tt,tt⟩,tt⟩,tt,tt,(fun _ => trivial),(fun _ => trivial),(fun hG => ⟨tt,⟨⟨hG,tt⟩,⟨hG,tt⟩,tt⟩,tt⟩),(fun hG => ⟨hG,tt⟩),⟨tt,(fun hp => ⟨hp,tt⟩),(fun _ => trivial)⟩,tt,tt⟩ ?_
 refine W.ret ?_
 exact endQ_ret (.b ((!(isBefore a b)) && (!(isBefore b a)))) (by kernel_rfl) (@cast ((.bool ((!(isBefore a b)) && (!(isBefore b a))) : Value) = .bool (doOverlap a b)) _ (by kernel_rfl) (congrArg Value.bool (by first | rfl | simp_all)))
theorem ent52 : Entr prog 52 := ⟨_,func52,rfl,by decide⟩
end Go.Proofs.Try

set_option linter.unusedSimpArgs false
set_option linter.unusedVariables false
namespace Go.Proofs.Try
open Go.Ab Go.RowKit
def fs38 : FnS := fnS [.s .calls] [.calls] (fun _ (h,_) => (.b (validHistory h),[],True))
abbrev T38 : Tab := lk [(51,fs51),(52,fs52)]
theorem tab38 : TabOK prog T38 := (TabOK.cons ok51 ent51 (TabOK.cons ok52 ent52 TabOK.nil))
set_option maxRecDepth 100000 in
set_option maxHeartbeats 1000000 in
theorem ok38 : FnOK prog 38 fs38 := by
 refine FnOK.mk cok func38 rfl rfl rfl ?_
 rintro fl ⟨(h : List CallD),_⟩ hpre F hnt0 _
 have hnt : F.nt = 68 := hnt0.trans ntmps38
 clear hpre
 refine W.to (⟨[(0,.sl (.calls h))],[],[999]⟩) rfl ?_
 refine W.lenOf 0 (.calls h) (by kernel_rfl) ?_
 intro hl_h; replace hl_h : List.length h ≤ 9223372036854775807 := hl_h
 refine Kk cok tab38 hnt [] [0] (⟨[(0,.sl (.calls h))],[],[999]⟩)
  (True ∧ True)
  ⟨tt,tt⟩ ?_
 refine W.seq ?_
 refine Kk cok tab38 hnt [] [0,9] (⟨[(0,.sl (.calls h)),(9,.b (decide ((6 : Int) < (h.length : Int))))],[],[999]⟩)
  (True ∧ True ∧ (True ∧ True ∧ True) ∧ True)
  ⟨tt,tt,⟨tt,tt,tt⟩,tt⟩ ?_
 refine W.ifP ((6 : Int) < (h.length : Int)) (.b (decide ((6 : Int) < (h.length : Int)))) (by kernel_rfl) rfl trivial ?_ ?_
 ·intro h9
  refine Kk cok tab38 hnt [] [2] (⟨[(2,.b false)],[],[999]⟩)
   (True ∧ True)
   ⟨tt,tt⟩ ?_
  refine W.ret (thenQ_ret ?_)
  exact endQ_ret (.b false) (by kernel_rfl) (@cast ((.bool false : Value) = .bool (validHistory h)) _ (by kernel_rfl) (congrArg Value.bool (by unfold validHistory; symm; exact and_fl (decide_eq_false (by omega)))))
 ·intro n9
  refine W.skip (thenQ_normal ?_)
  refine W.seq ?_
  refine Kk cok tab38 hnt [] [0,10,11,12] (⟨[(0,.sl (.calls h)),(10,.sl (.calls h)),(11,.i (h.length : Int)),(12,.i (0 : Int))],[],[999]⟩)
   (True ∧ True ∧ True ∧ True)
   ⟨tt,tt,tt,tt⟩ ?_
  refine W.block ?_
  refine W.loop (ι := Nat) (fun (i : Nat) => (⟨[(0,.sl (.calls h)),(10,.sl (.calls h)),(11,.i (h.length : Int)),(12,.i ((i : Nat) : Int))],[],[999]⟩ : St))
   (fun (i : Nat) => (i ≤ h.length) ∧ (∀ j,j < i → (isCall (callAt h j) && allN j (fun k => !clash (callAt h j) (callAt h k))) = true))
   (fun (i : Nat) => (h.length - i : Nat)) (0) ?_ ?_ ?_
  ·exact (show (0 ≤ h.length) ∧ (∀ j,j < 0 → (isCall (callAt h j) && allN j (fun k => !clash (callAt h j) (callAt h k))) = true) from ⟨(by first | assumption | omega | rfl | (intro _ hjj; omega) | (simp; done) | (simp; omega)),(by exact upto_zero)⟩)
  ·exact Sub.of [] (@cast (((Sd (.calls h)) ∧ (Sd (.calls h)) ∧ (Si (h.length : Int)) ∧ ((.int .i64 (0 : Int) : Value) = .int .i64 ((0 : Nat) : Int)) ∧ True) ∧ True ∧ (true = true) ∧ (true = true)) _ (by kernel_rfl) ⟨⟨rfl,rfl,rfl,(congrArg (Value.int .i64) (by first | rfl | omega | assumption | simp | simp_all)),tt⟩,tt,rfl,rfl⟩)
  ·rintro i hC0
   have hC : (i ≤ h.length) ∧ (∀ j,j < i → (isCall (callAt h j) && allN j (fun k => !clash (callAt h j) (callAt h k))) = true) := hC0
   clear hC0
   obtain ⟨hi,hA⟩ := hC
   refine W.to (⟨[(0,.sl (.calls h)),(10,.sl (.calls h)),(11,.i (h.length : Int)),(12,.i ((i : Nat) : Int))],[],[999]⟩) rfl ?_
   refine Kk cok tab38 hnt [] [0,10,11,12,13] (⟨[(0,.sl (.calls h)),(10,.sl (.calls h)),(11,.i (h.length : Int)),(12,.i ((i : Nat) : Int)),(13,.b (decide (((i : Nat) : Int) < (h.length : Int))))],[],[999]⟩)
    ((True ∧ True ∧ True) ∧ True)
    ⟨⟨tt,tt,tt⟩,tt⟩ ?_
   refine W.seq ?_
   refine W.ifP (((i : Nat) : Int) < (h.length : Int)) (.b (decide (((i : Nat) : Int) < (h.length : Int)))) (by kernel_rfl) rfl trivial ?_ ?_
   ·intro h13
    refine W.skip (thenQ_normal ?_)
    refine W.seq ?_
    refine W.block ?_
    refine Kk cok tab38 hnt [] [0,3,4,10,11,12] (⟨[(0,.sl (.calls h)),(3,.i ((i : Nat) : Int)),(4,.ptr 4 0),(10,.sl (.calls h)),(11,.i (h.length : Int)),(12,.i ((i : Nat) : Int))],[(4,⟨46,.fix [.i ((h.getD i default).proc),.i ((h.getD i default).obj),.i ((h.getD i default).kind),.i ((h.getD i default).arg),.i ((h.getD i default).ret),.i ((h.getD i default).frm),.i ((h.getD i default).to)]⟩)],[4,999]⟩)
     (True ∧ (True ∧ True ∧ (0 ≤ ((i : Nat) : Int)) ∧ (((i : Nat) : Int) < (h.length : Int))) ∧ True ∧ True ∧ True ∧ (True ∧ True) ∧ True)
     ⟨tt,⟨tt,tt,(by omega),(by omega)⟩,tt,tt,tt,⟨tt,tt⟩,tt⟩ ?_
    refine W.seq ?_
    refine Kk cok tab38 hnt [] [0,3,4,10,11,12,19] (⟨[(0,.sl (.calls h)),(3,.i ((i : Nat) : Int)),(4,.ptr 4 0),(10,.sl (.calls h)),(11,.i (h.length : Int)),(12,.i ((i : Nat) : Int)),(19,.b (!(isCall (h.getD i default))))],[(4,⟨46,.fix [.i ((h.getD i default).proc),.i ((h.getD i default).obj),.i ((h.getD i default).kind),.i ((h.getD i default).arg),.i ((h.getD i default).ret),.i ((h.getD i default).frm),.i ((h.getD i default).to)]⟩)],[4,999]⟩)
     (True ∧ (True ∧ (True ∧ True) ∧ True) ∧ True ∧ True)
     ⟨tt,⟨tt,⟨tt,tt⟩,tt⟩,tt,tt⟩ ?_
    refine W.if' (!(isCall (h.getD i default))) (.b (!(isCall (h.getD i default)))) (by kernel_rfl) rfl trivial ?_ ?_
    ·intro h19
     refine Kk cok tab38 hnt [] [2] (⟨[(2,.b false)],[(4,⟨46,.fix [.i ((h.getD i default).proc),.i ((h.getD i default).obj),.i ((h.getD i default).kind),.i ((h.getD i default).arg),.i ((h.getD i default).ret),.i ((h.getD i default).frm),.i ((h.getD i default).to)]⟩)],[4,999]⟩)
      (True ∧ True)
      ⟨tt,tt⟩ ?_
     refine W.ret (thenQ_ret (blockQ_ret (thenQ_ret (thenQ_ret (blockQ_ret (thenQ_ret ?_))))))
     exact endQ_ret (.b false) (by kernel_rfl) (@cast ((.bool false : Value) = .bool (validHistory h)) _ (by kernel_rfl) (congrArg Value.bool (by unfold validHistory; symm; exact and_fr (allN_false (i := i) (by omega) (and_fl (not_f h19))))))
    ·intro n19
     refine W.skip (thenQ_normal ?_)
     refine Kk cok tab38 hnt [] [0,4,10,11,12,22,23,24] (⟨[(0,.sl (.calls h)),(4,.ptr 4 0),(10,.sl (.calls h)),(11,.i (h.length : Int)),(12,.i ((i : Nat) : Int)),(22,.sl (.calls (List.take i h))),(23,.i (((List.length (List.take i h)) : Nat) : Int)),(24,.i (0 : Int))],[(4,⟨46,.fix [.i ((h.getD i default).proc),.i ((h.getD i default).obj),.i ((h.getD i default).kind),.i ((h.getD i default).arg),.i ((h.getD i default).ret),.i ((h.getD i default).frm),.i ((h.getD i default).to)]⟩)],[4,999]⟩)
      (True ∧ True ∧ (True ∧ True ∧ True ∧ (0 ≤ (0 : Int)) ∧ ((0 : Int) ≤ ((i : Nat) : Int)) ∧ (((i : Nat) : Int) ≤ (h.length : Int))) ∧ True ∧ True ∧ True)
      ⟨tt,tt,⟨tt,tt,tt,(by omega),(by omega),(by omega)⟩,tt,tt,tt⟩ ?_
     refine W.block ?_
     refine W.loop (ι := Nat) (fun (k : Nat) => (⟨[(0,.sl (.calls h)),(4,.ptr 4 0),(10,.sl (.calls h)),(11,.i (h.length : Int)),(12,.i ((i : Nat) : Int)),(22,.sl (.calls (List.take i h))),(23,.i (((List.length (List.take i h)) : Nat) : Int)),(24,.i ((k : Nat) : Int))],[(4,⟨46,.fix [.i ((h.getD i default).proc),.i ((h.getD i default).obj),.i ((h.getD i default).kind),.i ((h.getD i default).arg),.i ((h.getD i default).ret),.i ((h.getD i default).frm),.i ((h.getD i default).to)]⟩)],[4,999]⟩ : St))
      (fun (k : Nat) => (k ≤ i) ∧ (∀ j,j < k → (!clash (callAt h i) (callAt h j)) = true))
      (fun (k : Nat) => (i - k : Nat)) (0) ?_ ?_ ?_
     ·exact (show (0 ≤ i) ∧ (∀ j,j < 0 → (!clash (callAt h i) (callAt h j)) = true) from ⟨(by first | assumption | omega | rfl | (intro _ hjj; omega) | (simp; done) | (simp; omega)),(by exact upto_zero)⟩)
     ·exact Sub.of [] (@cast (((Sd (.calls h)) ∧ (((4 : Nat) = 4) ∧ ((0 : Nat) = 0) ∧ ((4 : Nat) ∈ ([4,999] : List Nat))) ∧ (Sd (.calls h)) ∧ (Si (h.length : Int)) ∧ (Si ((i : Nat) : Int)) ∧ (Sd (.calls (List.take i h))) ∧ (Si (((List.length (List.take i h)) : Nat) : Int)) ∧ ((.int .i64 (0 : Int) : Value) = .int .i64 ((0 : Nat) : Int)) ∧ True) ∧ ((((46 : Nat) = 46) ∧ ((Si ((h.getD i default).proc)) ∧ (Si ((h.getD i default).obj)) ∧ (Si ((h.getD i default).kind)) ∧ (Si ((h.getD i default).arg)) ∧ (Si ((h.getD i default).ret)) ∧ (Si ((h.getD i default).frm)) ∧ (Si ((h.getD i default).to)) ∧ True) ∧ ((4 : Nat) ∈ ([4,999] : List Nat))) ∧ True) ∧ (true = true) ∧ (true = true)) _ (by kernel_rfl) ⟨⟨rfl,⟨rfl,rfl,(by decide)⟩,rfl,rfl,rfl,rfl,rfl,(congrArg (Value.int .i64) (by first | rfl | omega | assumption | simp | simp_all)),tt⟩,⟨⟨rfl,⟨rfl,rfl,rfl,rfl,rfl,rfl,rfl,tt⟩,(by decide)⟩,tt⟩,rfl,rfl⟩)
     ·rintro k hC0
      have hC : (k ≤ i) ∧ (∀ j,j < k → (!clash (callAt h i) (callAt h j)) = true) := hC0
      clear hC0
      obtain ⟨hk,hB⟩ := hC
      refine W.to (⟨[(0,.sl (.calls h)),(4,.ptr 4 0),(10,.sl (.calls h)),(11,.i (h.length : Int)),(12,.i ((i : Nat) : Int)),(22,.sl (.calls (List.take i h))),(23,.i (((List.length (List.take i h)) : Nat) : Int)),(24,.i ((k : Nat) : Int))],[(4,⟨46,.fix [.i ((h.getD i default).proc),.i ((h.getD i default).obj),.i ((h.getD i default).kind),.i ((h.getD i default).arg),.i ((h.getD i default).ret),.i ((h.getD i default).frm),.i ((h.getD i default).to)]⟩)],[4,999]⟩) rfl ?_
      refine Kk cok tab38 hnt [] [0,4,10,11,12,22,23,24,25] (⟨[(0,.sl (.calls h)),(4,.ptr 4 0),(10,.sl (.calls h)),(11,.i (h.length : Int)),(12,.i ((i : Nat) : Int)),(22,.sl (.calls (List.take i h))),(23,.i (((List.length (List.take i h)) : Nat) : Int)),(24,.i ((k : Nat) : Int)),(25,.b (decide (((k : Nat) : Int) < (((List.length (List.take i h)) : Nat) : Int))))],[(4,⟨46,.fix [.i ((h.getD i default).proc),.i ((h.getD i default).obj),.i ((h.getD i default).kind),.i ((h.getD i default).arg),.i ((h.getD i default).ret),.i ((h.getD i default).frm),.i ((h.getD i default).to)]⟩)],[4,999]⟩)
       ((True ∧ True ∧ True) ∧ True)
       ⟨⟨tt,tt,tt⟩,tt⟩ ?_
      refine W.seq ?_
      refine W.ifP (((k : Nat) : Int) < (((List.length (List.take i h)) : Nat) : Int)) (.b (decide (((k : Nat) : Int) < (((List.length (List.take i h)) : Nat) : Int)))) (by kernel_rfl) rfl trivial ?_ ?_
      ·intro h25
       have h25' := h25
       simp only [List.length_append,List.length_cons,List.length_nil,List.length_take,List.length_drop,List.length_set,List.length_replicate,List.length_map] at h25'
       refine W.skip (thenQ_normal ?_)
       refine W.seq ?_
       refine W.block ?_
       refine Kk cok tab38 hnt [] [0,4,6,10,11,12,22,23,24] (⟨[(0,.sl (.calls h)),(4,.ptr 4 0),(6,.ptr 6 0),(10,.sl (.calls h)),(11,.i (h.length : Int)),(12,.i ((i : Nat) : Int)),(22,.sl (.calls (List.take i h))),(23,.i (((List.length (List.take i h)) : Nat) : Int)),(24,.i ((k : Nat) : Int))],[(4,⟨46,.fix [.i ((h.getD i default).proc),.i ((h.getD i default).obj),.i ((h.getD i default).kind),.i ((h.getD i default).arg),.i ((h.getD i default).ret),.i ((h.getD i default).frm),.i ((h.getD i default).to)]⟩),(6,⟨46,.fix [.i ((List.getD (List.take i h) k default).proc),.i ((List.getD (List.take i h) k default).obj),.i ((List.getD (List.take i h) k default).kind),.i ((List.getD (List.take i h) k default).arg),.i ((List.getD (List.take i h) k default).ret),.i ((List.getD (List.take i h) k default).frm),.i ((List.getD (List.take i h) k default).to)]⟩)],[6,4,999]⟩)
        ((True ∧ True ∧ (0 ≤ ((k : Nat) : Int)) ∧ (((k : Nat) : Int) < (((List.length (List.take i h)) : Nat) : Int))) ∧ True ∧ True ∧ (True ∧ True) ∧ True)
        ⟨⟨tt,tt,(by omega),(by (first | omega | (simp only [List.length_set]; done) | (simp only [List.length_append,List.length_cons,List.length_nil,List.length_take,List.length_drop,List.length_set,List.length_replicate,List.length_map] at *; omega) | assumption))⟩,tt,tt,⟨tt,tt⟩,tt⟩ ?_
       refine Kk cok tab38 hnt [] [0,4,10,11,12,22,23,24,65] (⟨[(0,.sl (.calls h)),(4,.ptr 4 0),(10,.sl (.calls h)),(11,.i (h.length : Int)),(12,.i ((i : Nat) : Int)),(22,.sl (.calls (List.take i h))),(23,.i (((List.length (List.take i h)) : Nat) : Int)),(24,.i ((k : Nat) : Int)),(65,.b (((((decide (((h.getD i default).frm) = ((List.getD (List.take i h) k default).frm))) || (decide (((h.getD i default).frm) = ((List.getD (List.take i h) k default).to)))) || (decide (((h.getD i default).to) = ((List.getD (List.take i h) k default).frm)))) || (decide (((h.getD i default).to) = ((List.getD (List.take i h) k default).to)))) || ((decide (((h.getD i default).proc) = ((List.getD (List.take i h) k default).proc))) && (doOverlap (h.getD i default) (List.getD (List.take i h) k default)))))],[(4,⟨46,.fix [.i ((h.getD i default).proc),.i ((h.getD i default).obj),.i ((h.getD i default).kind),.i ((h.getD i default).arg),.i ((h.getD i default).ret),.i ((h.getD i default).frm),.i ((h.getD i default).to)]⟩),(6,⟨46,.fix [.i ((List.getD (List.take i h) k default).proc),.i ((List.getD (List.take i h) k default).obj),.i ((List.getD (List.take i h) k default).kind),.i ((List.getD (List.take i h) k default).arg),.i ((List.getD (List.take i h) k default).ret),.i ((List.getD (List.take i h) k default).frm),.i ((List.getD (List.take i h) k default).to)]⟩)],[6,4,999]⟩)
        ((fun (Z1:Bool)=>((fun (Z2:Bool)=>((fun (Z3:Bool)=>((fun (Z4:Bool)=>((fun (Z5:Bool)=>((fun (Z6:Bool)=>(True ∧ (True ∧ (True ∧ (True ∧ ((True ∧ (True ∧ True)) ∧ (True ∧ (((!Z1) = true → True) ∧ (((!Z1) = true → (((!Z1) = true) ∧ True)) ∧ (((!Z1) = true → True) ∧ (((!Z1) = true → (((!Z1) = true) ∧ True)) ∧ (((!Z1) = true → ((((!Z1) = true) ∧ True) ∧ ((((!Z1) = true) ∧ True) ∧ True))) ∧ ((True ∧ ((Z1 = true → True) ∧ (Z1 = false → ((!Z1) = true) ∧ True))) ∧ (True ∧ (((!Z3) = true → True) ∧ (((!Z3) = true → (((!Z3) = true) ∧ True)) ∧ (((!Z3) = true → True) ∧ (((!Z3) = true → (((!Z3) = true) ∧ True)) ∧ (((!Z3) = true → ((((!Z3) = true) ∧ True) ∧ ((((!Z3) = true) ∧ True) ∧ True))) ∧ ((True ∧ ((Z3 = true → True) ∧ (Z3 = false → ((!Z3) = true) ∧ True))) ∧ (True ∧ (((!Z4) = true → True) ∧ (((!Z4) = true → (((!Z4) = true) ∧ True)) ∧ (((!Z4) = true → True) ∧ (((!Z4) = true → (((!Z4) = true) ∧ True)) ∧ (((!Z4) = true → ((((!Z4) = true) ∧ True) ∧ ((((!Z4) = true) ∧ True) ∧ True))) ∧ ((True ∧ ((Z4 = true → True) ∧ (Z4 = false → ((!Z4) = true) ∧ True))) ∧ (True ∧ (((!Z5) = true → True) ∧ (((!Z5) = true → (((!Z5) = true) ∧ True)) ∧ (((!Z5) = true → True) ∧ (((!Z5) = true → (((!Z5) = true) ∧ True)) ∧ (((!Z5) = true → ((((!Z5) = true) ∧ True) ∧ ((((!Z5) = true) ∧ True) ∧ True))) ∧ (((!Z5) = true → True) ∧ ((Z6 = true → True) ∧ ((Z6 = true → True) ∧ ((Z6 = true → (True ∧ ((((Z6 = true) ∧ True) ∧ (((Z6 = true) ∧ True) ∧ True)) ∧ True))) ∧ (((!Z5) = true → ((((!Z5) = true) ∧ (((!Z5) = true) ∧ True)) ∧ ((Z2 = true → (Z6 = true) ∧ True) ∧ (Z2 = false → True)))) ∧ ((True ∧ ((Z5 = true → True) ∧ (Z5 = false → ((!Z5) = true) ∧ True))) ∧ True))))))))))))))))))))))))))))))))))))))) ((!Z5) && ((!Z5) && Z2)))) (Z4 || (decide (((h.getD i default).to) = ((List.getD (List.take i h) k default).to)))))) (Z3 || (decide (((h.getD i default).to) = ((List.getD (List.take i h) k default).frm)))))) (Z1 || (decide (((h.getD i default).frm) = ((List.getD (List.take i h) k default).to)))))) (decide (((h.getD i default).proc) = ((List.getD (List.take i h) k default).proc))))) (decide (((h.getD i default).frm) = ((List.getD (List.take i h) k default).frm))))
        ⟨tt,tt,tt,tt,⟨tt,tt,tt⟩,tt,(fun _ => trivial),(fun hG => ⟨hG,tt⟩),(fun _ => trivial),(fun hG => ⟨hG,tt⟩),(fun hG => ⟨⟨hG,tt⟩,⟨hG,tt⟩,tt⟩),⟨tt,(fun _ => trivial),(fun hp => ⟨(not_t hp),tt⟩)⟩,tt,(fun _ => trivial),(fun hG => ⟨hG,tt⟩),(fun _ => trivial),(fun hG => ⟨hG,tt⟩),(fun hG => ⟨⟨hG,tt⟩,⟨hG,tt⟩,tt⟩),⟨tt,(fun _ => trivial),(fun hp => ⟨(not_t hp),tt⟩)⟩,tt,(fun _ => trivial),(fun hG => ⟨hG,tt⟩),(fun _ => trivial),(fun hG => ⟨hG,tt⟩),(fun hG => ⟨⟨hG,tt⟩,⟨hG,tt⟩,tt⟩),⟨tt,(fun _ => trivial),(fun hp => ⟨(not_t hp),tt⟩)⟩,tt,(fun _ => trivial),(fun hG => ⟨hG,tt⟩),(fun _ => trivial),(fun hG => ⟨hG,tt⟩),(fun hG => ⟨⟨hG,tt⟩,⟨hG,tt⟩,tt⟩),(fun _ => trivial),(fun _ => trivial),(fun _ => trivial),(fun hG => ⟨tt,⟨⟨hG,tt⟩,⟨hG,tt⟩,tt⟩,tt⟩),(fun hG => ⟨⟨hG,hG,tt⟩,(fun hp => ⟨(and_t hG (and_t hG hp)),tt⟩),(fun _ => trivial)⟩),⟨tt,(fun _ => trivial),(fun hp => ⟨(not_t hp),tt⟩)⟩,tt⟩ ?_
       refine W.if' (((((decide (((h.getD i default).frm) = ((List.getD (List.take i h) k default).frm))) || (decide (((h.getD i default).frm) = ((List.getD (List.take i h) k default).to)))) || (decide (((h.getD i default).to) = ((List.getD (List.take i h) k default).frm)))) || (decide (((h.getD i default).to) = ((List.getD (List.take i h) k default).to)))) || ((decide (((h.getD i default).proc) = ((List.getD (List.take i h) k default).proc))) && (doOverlap (h.getD i default) (List.getD (List.take i h) k default)))) (.b (((((decide (((h.getD i default).frm) = ((List.getD (List.take i h) k default).frm))) || (decide (((h.getD i default).frm) = ((List.getD (List.take i h) k default).to)))) || (decide (((h.getD i default).to) = ((List.getD (List.take i h) k default).frm)))) || (decide (((h.getD i default).to) = ((List.getD (List.take i h) k default).to)))) || ((decide (((h.getD i default).proc) = ((List.getD (List.take i h) k default).proc))) && (doOverlap (h.getD i default) (List.getD (List.take i h) k default))))) (by kernel_rfl) rfl trivial ?_ ?_
       ·intro h65
        refine Kk cok tab38 hnt [] [2] (⟨[(2,.b false)],[(4,⟨46,.fix [.i ((h.getD i default).proc),.i ((h.getD i default).obj),.i ((h.getD i default).kind),.i ((h.getD i default).arg),.i ((h.getD i default).ret),.i ((h.getD i default).frm),.i ((h.getD i default).to)]⟩),(6,⟨46,.fix [.i ((List.getD (List.take i h) k default).proc),.i ((List.getD (List.take i h) k default).obj),.i ((List.getD (List.take i h) k default).kind),.i ((List.getD (List.take i h) k default).arg),.i ((List.getD (List.take i h) k default).ret),.i ((List.getD (List.take i h) k default).frm),.i ((List.getD (List.take i h) k default).to)]⟩)],[6,4,999]⟩)
         (True ∧ True)
         ⟨tt,tt⟩ ?_
        refine W.ret (blockQ_ret (thenQ_ret (thenQ_ret (blockQ_ret (blockQ_ret (thenQ_ret (thenQ_ret (blockQ_ret (thenQ_ret ?_)))))))))
        exact endQ_ret (.b false) (by kernel_rfl) (@cast ((.bool false : Value) = .bool (validHistory h)) _ (by kernel_rfl) (congrArg Value.bool (by unfold validHistory; symm; exact and_fr (allN_false (i := i) (by omega) (and_fr (allN_false (i := k) (by omega) (not_h (by rw [← h65,getD_take h (default : CallD) (show k < i by omega)]; rfl))))))))
       ·intro n65
        have n65_0 : ¬ (((h.getD i default).frm) = ((List.getD (List.take i h) k default).frm)) := of_decide_eq_false (or_l (or_l (or_l (or_l n65))))
        have n65_1 : ¬ (((h.getD i default).frm) = ((List.getD (List.take i h) k default).to)) := of_decide_eq_false (or_r (or_l (or_l (or_l n65))))
        have n65_2 : ¬ (((h.getD i default).to) = ((List.getD (List.take i h) k default).frm)) := of_decide_eq_false (or_r (or_l (or_l n65)))
        have n65_3 : ¬ (((h.getD i default).to) = ((List.getD (List.take i h) k default).to)) := of_decide_eq_false (or_r (or_l n65))
        refine W.skip (blockQ_normal (thenQ_normal ?_))
        refine Lk cok tab38 hnt [] (⟨[(0,.sl (.calls h)),(4,.ptr 4 0),(10,.sl (.calls h)),(11,.i (h.length : Int)),(12,.i ((i : Nat) : Int)),(22,.sl (.calls (List.take i h))),(23,.i (((List.length (List.take i h)) : Nat) : Int)),(24,.i (((k + 1) : Nat) : Int)),(65,.b (((((decide (((h.getD i default).frm) = ((List.getD (List.take i h) k default).frm))) || (decide (((h.getD i default).frm) = ((List.getD (List.take i h) k default).to)))) || (decide (((h.getD i default).to) = ((List.getD (List.take i h) k default).frm)))) || (decide (((h.getD i default).to) = ((List.getD (List.take i h) k default).to)))) || ((decide (((h.getD i default).proc) = ((List.getD (List.take i h) k default).proc))) && (doOverlap (h.getD i default) (List.getD (List.take i h) k default))))),(66,.i (((k + 1) : Nat) : Int))],[(4,⟨46,.fix [.i ((h.getD i default).proc),.i ((h.getD i default).obj),.i ((h.getD i default).kind),.i ((h.getD i default).arg),.i ((h.getD i default).ret),.i ((h.getD i default).frm),.i ((h.getD i default).to)]⟩),(6,⟨46,.fix [.i ((List.getD (List.take i h) k default).proc),.i ((List.getD (List.take i h) k default).obj),.i ((List.getD (List.take i h) k default).kind),.i ((List.getD (List.take i h) k default).arg),.i ((List.getD (List.take i h) k default).ret),.i ((List.getD (List.take i h) k default).frm),.i ((List.getD (List.take i h) k default).to)]⟩)],[6,4,999]⟩)
         ((True ∧ True ∧ (Fits .i64 (((k + 1) : Nat) : Int))) ∧ True ∧ True)
         ⟨⟨tt,tt,(by exact fits_i64 (by omega) (by omega))⟩,tt,tt⟩ ?_
        refine thenQ_normal ?_
        refine ⟨((k + 1)),(show ((k + 1) ≤ i) ∧ (∀ j,j < (k + 1) → (!clash (callAt h i) (callAt h j)) = true) from ⟨(by first | assumption | omega | rfl | (intro _ hjj; omega) | (simp; done) | (simp; omega)),(by exact upto_succ hB (not_t (by rw [← n65,getD_take h (default : CallD) (show k < i by omega)]; rfl)))⟩),(show i - (k + 1) < i - k from (by first | omega | (simp_all; omega))),?_⟩
        exact Sub.of [] (@cast (((Sd (.calls h)) ∧ (((4 : Nat) = 4) ∧ ((0 : Nat) = 0) ∧ ((4 : Nat) ∈ ([4,999] : List Nat))) ∧ (Sd (.calls h)) ∧ (Si (h.length : Int)) ∧ (Si ((i : Nat) : Int)) ∧ (Sd (.calls (List.take i h))) ∧ (Si (((List.length (List.take i h)) : Nat) : Int)) ∧ (Si (((k + 1) : Nat) : Int)) ∧ True) ∧ ((((46 : Nat) = 46) ∧ ((Si ((h.getD i default).proc)) ∧ (Si ((h.getD i default).obj)) ∧ (Si ((h.getD i default).kind)) ∧ (Si ((h.getD i default).arg)) ∧ (Si ((h.getD i default).ret)) ∧ (Si ((h.getD i default).frm)) ∧ (Si ((h.getD i default).to)) ∧ True) ∧ ((4 : Nat) ∈ ([4,999] : List Nat))) ∧ True) ∧ (true = true) ∧ (true = true)) _ (by kernel_rfl) ⟨⟨rfl,⟨rfl,rfl,(by decide)⟩,rfl,rfl,rfl,rfl,rfl,rfl,tt⟩,⟨⟨rfl,⟨rfl,rfl,rfl,rfl,rfl,rfl,rfl,tt⟩,(by decide)⟩,tt⟩,rfl,rfl⟩)
      ·intro n25
       have n25' := n25
       simp only [List.length_append,List.length_cons,List.length_nil,List.length_take,List.length_drop,List.length_set,List.length_replicate,List.length_map] at n25'
       refine W.exit (thenQ_exit (thenQ_exit (blockQ_hit ?_)))
       refine blockQ_normal (thenQ_normal ?_)
       refine Lk cok tab38 hnt [] (⟨[(0,.sl (.calls h)),(4,.ptr 4 0),(10,.sl (.calls h)),(11,.i (h.length : Int)),(12,.i (((i + 1) : Nat) : Int)),(22,.sl (.calls (List.take i h))),(23,.i (((List.length (List.take i h)) : Nat) : Int)),(24,.i ((k : Nat) : Int)),(25,.b (decide (((k : Nat) : Int) < (((List.length (List.take i h)) : Nat) : Int)))),(67,.i (((i + 1) : Nat) : Int))],[(4,⟨46,.fix [.i ((h.getD i default).proc),.i ((h.getD i default).obj),.i ((h.getD i default).kind),.i ((h.getD i default).arg),.i ((h.getD i default).ret),.i ((h.getD i default).frm),.i ((h.getD i default).to)]⟩)],[4,999]⟩)
        ((True ∧ True ∧ (Fits .i64 (((i + 1) : Nat) : Int))) ∧ True ∧ True)
        ⟨⟨tt,tt,(by exact fits_i64 (by omega) (by omega))⟩,tt,tt⟩ ?_
       refine thenQ_normal ?_
       refine ⟨((i + 1)),(show ((i + 1) ≤ h.length) ∧ (∀ j,j < (i + 1) → (isCall (callAt h j) && allN j (fun k => !clash (callAt h j) (callAt h k))) = true) from ⟨(by first | assumption | omega | rfl | (intro _ hjj; omega) | (simp; done) | (simp; omega)),(by exact upto_succ hA (and_t (not_g n19) (allN_true (fun j hj => hB j (by omega)))))⟩),(show h.length - (i + 1) < h.length - i from (by first | omega | (simp_all; omega))),?_⟩
       exact Sub.of [] (@cast (((Sd (.calls h)) ∧ (Sd (.calls h)) ∧ (Si (h.length : Int)) ∧ (Si (((i + 1) : Nat) : Int)) ∧ True) ∧ True ∧ (true = true) ∧ (true = true)) _ (by kernel_rfl) ⟨⟨rfl,rfl,rfl,rfl,tt⟩,tt,rfl,rfl⟩)
   ·intro n13
    refine W.exit (thenQ_exit (thenQ_exit (blockQ_hit ?_)))
    refine thenQ_normal ?_
    refine Kk cok tab38 hnt [] [2] (⟨[(2,.b true)],[],[999]⟩)
     (True ∧ True)
     ⟨tt,tt⟩ ?_
    refine W.ret ?_
    exact endQ_ret (.b true) (by kernel_rfl) (@cast ((.bool true : Value) = .bool (validHistory h)) _ (by kernel_rfl) (congrArg Value.bool (by unfold validHistory; symm; exact and_t (decide_eq_true (by omega)) (allN_true (fun j hj => hA j (by omega))))))
theorem ent38 : Entr prog 38 := ⟨_,func38,rfl,by decide⟩
end Go.Proofs.Try

set_option linter.unusedSimpArgs false
set_option linter.unusedVariables false
namespace Go.Proofs.Try
open Go.Ab Go.RowKit
def fs58 : FnS := fnS [.o,.o,.o] [.int,.int,(.ep .calls)] (fun _ (i,k,h,_) => (.b (ownF h i.toNat k.toNat),[],(0 ≤ i ∧ i < h.length) ∧ (0 ≤ k ∧ k < h.length)))
abbrev T58 : Tab := lk [(57,fs57)]
theorem tab58 : TabOK prog T58 := (TabOK.cons ok57 ent57 TabOK.nil)
set_option maxRecDepth 100000 in
set_option maxHeartbeats 1000000 in
theorem ok58 : FnOK prog 58 fs58 := by
 refine FnOK.mk cok func58 rfl rfl rfl ?_
 rintro fl ⟨(i : Int),(k : Int),(h : List CallD),_⟩ hpre F hnt0 _
 have hnt : F.nt = 28 := hnt0.trans ntmps58
 replace hpre : (0 ≤ i ∧ i < h.length) ∧ (0 ≤ k ∧ k < h.length) := hpre
 obtain ⟨hi,hk⟩ := hpre
 refine W.to (⟨[(0,.i i),(1,.i k),(2,.ep [.sl (.calls h)])],[],[999]⟩) rfl ?_
 refine Kk cok tab58 hnt [] [0,1,2] (⟨[(0,.i i),(1,.i k),(2,.ep [.sl (.calls h)])],[],[999]⟩)
  (True ∧ True)
  ⟨tt,tt⟩ ?_
 refine W.KA cok tab58 hnt [] [5] (⟨[(5,.b ((decide (((h.getD (Int.toNat i) default).proc) = ((h.getD (Int.toNat k) default).proc))) && (isBefore (h.getD (Int.toNat k) default) (h.getD (Int.toNat i) default))))],[],[999]⟩)
  ((fun (Z1:Bool)=>(True ∧ (True ∧ ((True ∧ (True ∧ ((0 ≤ i) ∧ (i < (h.length : Int))))) ∧ (True ∧ (True ∧ (True ∧ (True ∧ ((True ∧ (True ∧ ((0 ≤ k) ∧ (k < (h.length : Int))))) ∧ (True ∧ (True ∧ ((True ∧ (True ∧ True)) ∧ (True ∧ ((Z1 = true → True) ∧ ((Z1 = true → True) ∧ ((Z1 = true → (((Z1 = true) ∧ True) ∧ (((Z1 = true) ∧ True) ∧ ((0 ≤ k) ∧ (k < (h.length : Int)))))) ∧ ((Z1 = true → ((Z1 = true) ∧ True)) ∧ ((Z1 = true → True) ∧ ((Z1 = true → True) ∧ ((Z1 = true → (((Z1 = true) ∧ True) ∧ (((Z1 = true) ∧ True) ∧ ((0 ≤ i) ∧ (i < (h.length : Int)))))) ∧ ((Z1 = true → ((Z1 = true) ∧ True)) ∧ ((Z1 = true → (True ∧ ((((Z1 = true) ∧ True) ∧ (((Z1 = true) ∧ True) ∧ True)) ∧ True))) ∧ ((True ∧ ((Z1 = true → (Z1 = true) ∧ True) ∧ (Z1 = false → True))) ∧ (True ∧ True)))))))))))))))))))))))) (decide (((h.getD (Int.toNat i) default).proc) = ((h.getD (Int.toNat k) default).proc)))) (by kernel_rfl) (by kernel_rfl)
  ⟨tt,tt,⟨tt,tt,(by omega),(by omega)⟩,tt,tt,tt,tt,⟨tt,tt,(by omega),(by omega)⟩,tt,tt,⟨tt,tt,tt⟩,tt,(fun _ => trivial),(fun _ => trivial),(fun hG => ⟨⟨hG,tt⟩,⟨hG,tt⟩,(by have hg0 : ((h.getD (Int.toNat i) default).proc) = ((h.getD (Int.toNat k) default).proc) := of_decide_eq_true hG; omega),(by have hg0 : ((h.getD (Int.toNat i) default).proc) = ((h.getD (Int.toNat k) default).proc) := of_decide_eq_true hG; omega)⟩),(fun hG => ⟨hG,tt⟩),(fun _ => trivial),(fun _ => trivial),(fun hG => ⟨⟨hG,tt⟩,⟨hG,tt⟩,(by have hg0 : ((h.getD (Int.toNat i) default).proc) = ((h.getD (Int.toNat k) default).proc) := of_decide_eq_true hG; omega),(by have hg0 : ((h.getD (Int.toNat i) default).proc) = ((h.getD (Int.toNat k) default).proc) := of_decide_eq_true hG; omega)⟩),(fun hG => ⟨hG,tt⟩),(fun hG => ⟨tt,⟨⟨hG,tt⟩,⟨hG,tt⟩,tt⟩,tt⟩),⟨tt,(fun hp => ⟨hp,tt⟩),(fun _ => trivial)⟩,tt,tt⟩ ?_
 refine W.ret ?_
 exact endQ_ret (.b ((decide (((h.getD (Int.toNat i) default).proc) = ((h.getD (Int.toNat k) default).proc))) && (isBefore (h.getD (Int.toNat k) default) (h.getD (Int.toNat i) default)))) (by kernel_rfl) (@cast ((.bool ((decide (((h.getD (Int.toNat i) default).proc) = ((h.getD (Int.toNat k) default).proc))) && (isBefore (h.getD (Int.toNat k) default) (h.getD (Int.toNat i) default))) : Value) = .bool (ownF h i.toNat k.toNat)) _ (by kernel_rfl) (congrArg Value.bool (by first | rfl | simp_all)))
theorem ent58 : Entr prog 58 := ⟨_,func58,rfl,by decide⟩
end Go.Proofs.Try

set_option linter.unusedSimpArgs false
set_option linter.unusedVariables false
namespace Go.Proofs.Try
open Go.Ab Go.RowKit
def fs55OwnAhead : FnS := fnS [.o,.o] [.int,(.fn1 58 (.ep .calls))] (fun _ (n,h,_) => (.sl (.ints (rowsOf n.toNat (ownF h))),[],(0 ≤ n ∧ n ≤ 60 ∧ n = h.length)))
abbrev T55OwnAhead : Tab := lk [(58,fs58)]
theorem tab55OwnAhead : TabOK prog T55OwnAhead := (TabOK.cons ok58 ent58 TabOK.nil)
set_option maxRecDepth 100000 in
set_option maxHeartbeats 1000000 in
theorem ok55OwnAhead : FnOK prog 55 fs55OwnAhead := by
 refine FnOK.mk cok func55 rfl rfl rfl ?_
 rintro fl ⟨(n : Int),(h : List CallD),_⟩ hpre F hnt0 _
 have hnt : F.nt = 35 := hnt0.trans ntmps55
 replace hpre : (0 ≤ n ∧ n ≤ 60 ∧ n = h.length) := hpre
 have hn := hpre
 refine W.to (⟨[(0,.i n),(1,.fn 58 [.ep [.sl (.calls h)]])],[],[999]⟩) rfl ?_
 refine Kk cok tab55OwnAhead hnt [] [0,1] (⟨[(0,.i n),(1,.fn 58 [.ep [.sl (.calls h)]])],[],[999]⟩)
  (True ∧ True)
  ⟨tt,tt⟩ ?_
 refine Kk cok tab55OwnAhead hnt [9] [0,1,5] (⟨[(0,.i n),(1,.fn 58 [.ep [.sl (.calls h)]]),(5,.own 9 (List.length (List.replicate (Int.toNat n) (0 : Int))))],[(9,⟨3,.row (.ints (List.replicate (Int.toNat n) (0 : Int)))⟩)],[9,999]⟩)
  (True ∧ (True ∧ True ∧ (n = n) ∧ (0 ≤ n) ∧ (n * 8 ≤ 281474976710656)) ∧ True ∧ True)
  ⟨tt,⟨tt,tt,rfl,(by omega),(by omega)⟩,tt,tt⟩ ?_
 refine W.seq ?_
 refine Kk cok tab55OwnAhead hnt [] [0,1,5,11,12] (⟨[(0,.i n),(1,.fn 58 [.ep [.sl (.calls h)]]),(5,.own 9 (List.length (List.replicate (Int.toNat n) (0 : Int)))),(11,.i (((List.length (List.replicate (Int.toNat n) (0 : Int))) : Nat) : Int)),(12,.i (0 : Int))],[(9,⟨3,.row (.ints (List.replicate (Int.toNat n) (0 : Int)))⟩)],[9,999]⟩)
  (True ∧ True ∧ True ∧ True)
  ⟨tt,tt,tt,tt⟩ ?_
 refine W.block ?_
 refine W.loop (ι := Nat × (List Int)) (fun (x : Nat × (List Int)) => match x with | (i,o) => (⟨[(0,.i n),(1,.fn 58 [.ep [.sl (.calls h)]]),(5,.own 9 o.length),(11,.i (((List.length (List.replicate (Int.toNat n) (0 : Int))) : Nat) : Int)),(12,.i ((i : Nat) : Int))],[(9,⟨3,.row (.ints o)⟩)],[9,999]⟩ : St))
  (fun (x : Nat × (List Int)) => match x with | (i,o) => (i ≤ n.toNat) ∧ (o = partRows n.toNat (ownF h) i 0))
  (fun (x : Nat × (List Int)) => match x with | (i,o) => (n.toNat - i : Nat)) (0,(List.replicate (Int.toNat n) (0 : Int))) ?_ ?_ ?_
 ·exact (show (0 ≤ n.toNat) ∧ ((List.replicate (Int.toNat n) (0 : Int)) = partRows n.toNat (ownF h) 0 0) from ⟨(by first | assumption | omega | rfl | (intro _ hjj; omega) | (simp; done) | (simp; omega)),(by exact partRows_zero _ _)⟩)
 ·exact Sub.of [] (@cast (((Si n) ∧ (((58 : Nat) = 58) ∧ (((.ep [.sl (.calls h)] : AV) = .ep [.sl (.calls h)]) ∧ (([] : List Nat) = [])) ∧ True) ∧ (((9 : Nat) = 9) ∧ ((List.length (List.replicate (Int.toNat n) (0 : Int))) = (List.length (List.replicate (Int.toNat n) (0 : Int)))) ∧ ((9 : Nat) ∈ ([9,999] : List Nat))) ∧ (Si (((List.length (List.replicate (Int.toNat n) (0 : Int))) : Nat) : Int)) ∧ ((.int .i64 (0 : Int) : Value) = .int .i64 ((0 : Nat) : Int)) ∧ True) ∧ ((((3 : Nat) = 3) ∧ (Sd (.ints (List.replicate (Int.toNat n) (0 : Int)))) ∧ ((9 : Nat) ∈ ([9,999] : List Nat))) ∧ True) ∧ (true = true) ∧ (true = true)) _ (by kernel_rfl) ⟨⟨rfl,⟨rfl,⟨rfl,rfl⟩,tt⟩,⟨rfl,rfl,(by decide)⟩,rfl,(congrArg (Value.int .i64) (by first | rfl | omega | assumption | simp | simp_all)),tt⟩,⟨⟨rfl,rfl,(by decide)⟩,tt⟩,rfl,rfl⟩)
 ·rintro ⟨i,o⟩ hC0
  have hC : (i ≤ n.toNat) ∧ (o = partRows n.toNat (ownF h) i 0) := hC0
  clear hC0
  obtain ⟨hi,ho⟩ := hC
  refine W.to (⟨[(0,.i n),(1,.fn 58 [.ep [.sl (.calls h)]]),(5,.own 9 o.length),(11,.i (((List.length (List.replicate (Int.toNat n) (0 : Int))) : Nat) : Int)),(12,.i ((i : Nat) : Int))],[(9,⟨3,.row (.ints o)⟩)],[9,999]⟩) rfl ?_
  have hol : o.length = n.toNat := by rw [ho]; exact partRows_len _ _ _ _
  refine Kk cok tab55OwnAhead hnt [] [0,1,5,11,12,13] (⟨[(0,.i n),(1,.fn 58 [.ep [.sl (.calls h)]]),(5,.own 9 o.length),(11,.i (((List.length (List.replicate (Int.toNat n) (0 : Int))) : Nat) : Int)),(12,.i ((i : Nat) : Int)),(13,.b (decide (((i : Nat) : Int) < (((List.length (List.replicate (Int.toNat n) (0 : Int))) : Nat) : Int))))],[(9,⟨3,.row (.ints o)⟩)],[9,999]⟩)
   ((True ∧ True ∧ True) ∧ True)
   ⟨⟨tt,tt,tt⟩,tt⟩ ?_
  refine W.seq ?_
  refine W.ifP (((i : Nat) : Int) < (((List.length (List.replicate (Int.toNat n) (0 : Int))) : Nat) : Int)) (.b (decide (((i : Nat) : Int) < (((List.length (List.replicate (Int.toNat n) (0 : Int))) : Nat) : Int)))) (by kernel_rfl) rfl trivial ?_ ?_
  ·intro h13
   have h13' := h13
   simp only [List.length_append,List.length_cons,List.length_nil,List.length_take,List.length_drop,List.length_set,List.length_replicate,List.length_map] at h13'
   refine W.skip (thenQ_normal ?_)
   refine W.seq ?_
   refine W.block ?_
   refine Kk cok tab55OwnAhead hnt [] [0,1,5,6,11,12] (⟨[(0,.i n),(1,.fn 58 [.ep [.sl (.calls h)]]),(5,.own 9 o.length),(6,.i ((i : Nat) : Int)),(11,.i (((List.length (List.replicate (Int.toNat n) (0 : Int))) : Nat) : Int)),(12,.i ((i : Nat) : Int))],[(9,⟨3,.row (.ints o)⟩)],[9,999]⟩)
    (True ∧ True ∧ True)
    ⟨tt,tt,tt⟩ ?_
   refine Kk cok tab55OwnAhead hnt [] [0,1,5,6,11,12,15,16] (⟨[(0,.i n),(1,.fn 58 [.ep [.sl (.calls h)]]),(5,.own 9 o.length),(6,.i ((i : Nat) : Int)),(11,.i (((List.length (List.replicate (Int.toNat n) (0 : Int))) : Nat) : Int)),(12,.i ((i : Nat) : Int)),(15,.i n),(16,.i (0 : Int))],[(9,⟨3,.row (.ints o)⟩)],[9,999]⟩)
    (True ∧ True ∧ True)
    ⟨tt,tt,tt⟩ ?_
   refine W.block ?_
   refine W.loop (ι := Nat × (List Int)) (fun (x : Nat × (List Int)) => match x with | (k,x) => (⟨[(0,.i n),(1,.fn 58 [.ep [.sl (.calls h)]]),(5,.own 9 o.length),(6,.i ((i : Nat) : Int)),(11,.i (((List.length (List.replicate (Int.toNat n) (0 : Int))) : Nat) : Int)),(12,.i ((i : Nat) : Int)),(15,.i n),(16,.i ((k : Nat) : Int))],[(9,⟨3,.row (.ints x)⟩)],[9,999]⟩ : St))
    (fun (x : Nat × (List Int)) => match x with | (k,x) => (k ≤ n.toNat) ∧ (x = partRows n.toNat (ownF h) i k))
    (fun (x : Nat × (List Int)) => match x with | (k,x) => (n.toNat - k : Nat)) (0,o) ?_ ?_ ?_
   ·exact (show (0 ≤ n.toNat) ∧ (o = partRows n.toNat (ownF h) i 0) from ⟨(by first | assumption | omega | rfl | (intro _ hjj; omega) | (simp; done) | (simp; omega)),(by exact ho)⟩)
   ·exact Sub.of [] (@cast (((Si n) ∧ (((58 : Nat) = 58) ∧ (((.ep [.sl (.calls h)] : AV) = .ep [.sl (.calls h)]) ∧ (([] : List Nat) = [])) ∧ True) ∧ (((9 : Nat) = 9) ∧ (o.length = o.length) ∧ ((9 : Nat) ∈ ([9,999] : List Nat))) ∧ (Si ((i : Nat) : Int)) ∧ (Si (((List.length (List.replicate (Int.toNat n) (0 : Int))) : Nat) : Int)) ∧ (Si ((i : Nat) : Int)) ∧ (Si n) ∧ ((.int .i64 (0 : Int) : Value) = .int .i64 ((0 : Nat) : Int)) ∧ True) ∧ ((((3 : Nat) = 3) ∧ (Sd (.ints o)) ∧ ((9 : Nat) ∈ ([9,999] : List Nat))) ∧ True) ∧ (true = true) ∧ (true = true)) _ (by kernel_rfl) ⟨⟨rfl,⟨rfl,⟨rfl,rfl⟩,tt⟩,⟨rfl,rfl,(by decide)⟩,rfl,rfl,rfl,rfl,(congrArg (Value.int .i64) (by first | rfl | omega | assumption | simp | simp_all)),tt⟩,⟨⟨rfl,rfl,(by decide)⟩,tt⟩,rfl,rfl⟩)
   ·rintro ⟨k,x⟩ hC0
    have hC : (k ≤ n.toNat) ∧ (x = partRows n.toNat (ownF h) i k) := hC0
    clear hC0
    obtain ⟨hk,hx⟩ := hC
    refine W.to (⟨[(0,.i n),(1,.fn 58 [.ep [.sl (.calls h)]]),(5,.own 9 o.length),(6,.i ((i : Nat) : Int)),(11,.i (((List.length (List.replicate (Int.toNat n) (0 : Int))) : Nat) : Int)),(12,.i ((i : Nat) : Int)),(15,.i n),(16,.i ((k : Nat) : Int))],[(9,⟨3,.row (.ints x)⟩)],[9,999]⟩) rfl ?_
    have hxl : x.length = n.toNat := by rw [hx]; exact partRows_len _ _ _ _
    refine Kk cok tab55OwnAhead hnt [] [0,1,5,6,11,12,15,16,17] (⟨[(0,.i n),(1,.fn 58 [.ep [.sl (.calls h)]]),(5,.own 9 o.length),(6,.i ((i : Nat) : Int)),(11,.i (((List.length (List.replicate (Int.toNat n) (0 : Int))) : Nat) : Int)),(12,.i ((i : Nat) : Int)),(15,.i n),(16,.i ((k : Nat) : Int)),(17,.b (decide (((k : Nat) : Int) < n)))],[(9,⟨3,.row (.ints x)⟩)],[9,999]⟩)
     ((True ∧ True ∧ True) ∧ True)
     ⟨⟨tt,tt,tt⟩,tt⟩ ?_
    refine W.seq ?_
    refine W.ifP (((k : Nat) : Int) < n) (.b (decide (((k : Nat) : Int) < n))) (by kernel_rfl) rfl trivial ?_ ?_
    ·intro h17
     refine W.skip (thenQ_normal ?_)
     refine W.seq ?_
     refine W.block ?_
     refine Kk cok tab55OwnAhead hnt [] [0,1,5,6,7,11,12,15,16] (⟨[(0,.i n),(1,.fn 58 [.ep [.sl (.calls h)]]),(5,.own 9 o.length),(6,.i ((i : Nat) : Int)),(7,.i ((k : Nat) : Int)),(11,.i (((List.length (List.replicate (Int.toNat n) (0 : Int))) : Nat) : Int)),(12,.i ((i : Nat) : Int)),(15,.i n),(16,.i ((k : Nat) : Int))],[(9,⟨3,.row (.ints x)⟩)],[9,999]⟩)
      (True ∧ True ∧ True)
      ⟨tt,tt,tt⟩ ?_
     refine Kk cok tab55OwnAhead hnt [] [0,1,5,6,7,11,12,15,16,22] (⟨[(0,.i n),(1,.fn 58 [.ep [.sl (.calls h)]]),(5,.own 9 o.length),(6,.i ((i : Nat) : Int)),(7,.i ((k : Nat) : Int)),(11,.i (((List.length (List.replicate (Int.toNat n) (0 : Int))) : Nat) : Int)),(12,.i ((i : Nat) : Int)),(15,.i n),(16,.i ((k : Nat) : Int)),(22,.b (ownF h ((i : Nat) : Int).toNat ((k : Nat) : Int).toNat))],[(9,⟨3,.row (.ints x)⟩)],[9,999]⟩)
      (True ∧ True ∧ True ∧ (True ∧ (True ∧ True ∧ True ∧ True) ∧ (0 ≤ ((i : Nat) : Int) ∧ ((i : Nat) : Int) < h.length) ∧ 0 ≤ ((k : Nat) : Int) ∧ ((k : Nat) : Int) < h.length) ∧ True)
      ⟨tt,tt,tt,⟨tt,⟨tt,tt,tt,tt⟩,(by omega),(by omega)⟩,tt⟩ ?_
     refine W.if' (ownF h ((i : Nat) : Int).toNat ((k : Nat) : Int).toNat) (.b (ownF h ((i : Nat) : Int).toNat ((k : Nat) : Int).toNat)) (by kernel_rfl) rfl trivial ?_ ?_
     ·intro h22
      refine Lk cok tab55OwnAhead hnt [] (⟨[(0,.i n),(1,.fn 58 [.ep [.sl (.calls h)]]),(5,.own 9 o.length),(6,.i ((i : Nat) : Int)),(7,.i ((k : Nat) : Int)),(11,.i (((List.length (List.replicate (Int.toNat n) (0 : Int))) : Nat) : Int)),(12,.i ((i : Nat) : Int)),(15,.i n),(16,.i ((k : Nat) : Int)),(22,.b (ownF h ((i : Nat) : Int).toNat ((k : Nat) : Int).toNat)),(23,.own 9 o.length),(24,.i ((i : Nat) : Int)),(25,.pel 9 1 i 0),(26,.i (x.getD i 0)),(27,.i ((k : Nat) : Int)),(28,.v (.int .u64 ((k : Nat) : Int))),(29,.i (shlI .i64 (1 : Int) ((k : Nat) : Int))),(30,.i (bitsI .or .i64 (x.getD i 0) (shlI .i64 (1 : Int) ((k : Nat) : Int)))),(31,.pel 9 1 i 0)],[(9,⟨3,.row (.ints (List.set x i (bitsI .or .i64 (x.getD i 0) (shlI .i64 (1 : Int) ((k : Nat) : Int)))))⟩)],[9,999]⟩)
       (True ∧ True ∧ (True ∧ True ∧ (0 ≤ ((i : Nat) : Int)) ∧ (((i : Nat) : Int) < (o.length : Int))) ∧ (True ∧ (i < x.length)) ∧ True ∧ (True ∧ (Fits .u64 ((k : Nat) : Int))) ∧ (True ∧ True ∧ (0 ≤ ((k : Nat) : Int)) ∧ (Fits .i64 (shlI .i64 (1 : Int) ((k : Nat) : Int)))) ∧ (True ∧ True ∧ True) ∧ (True ∧ True ∧ (0 ≤ ((i : Nat) : Int)) ∧ (((i : Nat) : Int) < (o.length : Int))) ∧ (True ∧ True ∧ (i < x.length)) ∧ True)
       ⟨tt,tt,⟨tt,tt,(by omega),(by omega)⟩,⟨tt,(by omega)⟩,tt,⟨tt,(by exact fits_u64 (by omega) (by omega))⟩,⟨tt,tt,(by omega),(by exact fits_shl (by omega))⟩,⟨tt,tt,tt⟩,⟨tt,tt,(by omega),(by omega)⟩,⟨tt,tt,(by omega)⟩,tt⟩ ?_
      refine blockQ_normal (thenQ_normal ?_)
      refine Lk cok tab55OwnAhead hnt [] (⟨[(0,.i n),(1,.fn 58 [.ep [.sl (.calls h)]]),(5,.own 9 o.length),(6,.i ((i : Nat) : Int)),(7,.i ((k : Nat) : Int)),(11,.i (((List.length (List.replicate (Int.toNat n) (0 : Int))) : Nat) : Int)),(12,.i ((i : Nat) : Int)),(15,.i n),(16,.i (((k + 1) : Nat) : Int)),(22,.b (ownF h ((i : Nat) : Int).toNat ((k : Nat) : Int).toNat)),(23,.own 9 o.length),(24,.i ((i : Nat) : Int)),(25,.pel 9 1 i 0),(26,.i (x.getD i 0)),(27,.i ((k : Nat) : Int)),(28,.v (.int .u64 ((k : Nat) : Int))),(29,.i (shlI .i64 (1 : Int) ((k : Nat) : Int))),(30,.i (bitsI .or .i64 (x.getD i 0) (shlI .i64 (1 : Int) ((k : Nat) : Int)))),(31,.pel 9 1 i 0),(32,.i (((k + 1) : Nat) : Int))],[(9,⟨3,.row (.ints (List.set x i (bitsI .or .i64 (x.getD i 0) (shlI .i64 (1 : Int) ((k : Nat) : Int)))))⟩)],[9,999]⟩)
       ((True ∧ True ∧ (Fits .i64 (((k + 1) : Nat) : Int))) ∧ True ∧ True)
       ⟨⟨tt,tt,(by exact fits_i64 (by omega) (by omega))⟩,tt,tt⟩ ?_
      refine thenQ_normal ?_
      refine ⟨((k + 1),(List.set x i (bitsI .or .i64 (x.getD i 0) (shlI .i64 (1 : Int) ((k : Nat) : Int))))),(show ((k + 1) ≤ n.toNat) ∧ ((List.set x i (bitsI .or .i64 (x.getD i 0) (shlI .i64 (1 : Int) ((k : Nat) : Int)))) = partRows n.toNat (ownF h) i (k + 1)) from ⟨(by first | assumption | omega | rfl | (intro _ hjj; omega) | (simp; done) | (simp; omega)),(by first | (rw [hx]; exact partRows_skip n22) | (rw [hx]; exact partRows_set (by omega) (by rw [partRows_get _ (by omega)]; exact mask_or _ (by omega) h22)))⟩),(show n.toNat - (k + 1) < n.toNat - k from (by first | omega | (simp_all; omega))),?_⟩
      exact Sub.of [] (@cast (((Si n) ∧ (((58 : Nat) = 58) ∧ (((.ep [.sl (.calls h)] : AV) = .ep [.sl (.calls h)]) ∧ (([] : List Nat) = [])) ∧ True) ∧ (((9 : Nat) = 9) ∧ (o.length = o.length) ∧ ((9 : Nat) ∈ ([9,999] : List Nat))) ∧ (Si ((i : Nat) : Int)) ∧ (Si (((List.length (List.replicate (Int.toNat n) (0 : Int))) : Nat) : Int)) ∧ (Si ((i : Nat) : Int)) ∧ (Si n) ∧ (Si (((k + 1) : Nat) : Int)) ∧ True) ∧ ((((3 : Nat) = 3) ∧ (Sd (.ints (List.set x i (bitsI .or .i64 (x.getD i 0) (shlI .i64 (1 : Int) ((k : Nat) : Int)))))) ∧ ((9 : Nat) ∈ ([9,999] : List Nat))) ∧ True) ∧ (true = true) ∧ (true = true)) _ (by kernel_rfl) ⟨⟨rfl,⟨rfl,⟨rfl,rfl⟩,tt⟩,⟨rfl,rfl,(by decide)⟩,rfl,rfl,rfl,rfl,rfl,tt⟩,⟨⟨rfl,rfl,(by decide)⟩,tt⟩,rfl,rfl⟩)
     ·intro n22
      refine W.skip (blockQ_normal (thenQ_normal ?_))
      refine Lk cok tab55OwnAhead hnt [] (⟨[(0,.i n),(1,.fn 58 [.ep [.sl (.calls h)]]),(5,.own 9 o.length),(6,.i ((i : Nat) : Int)),(7,.i ((k : Nat) : Int)),(11,.i (((List.length (List.replicate (Int.toNat n) (0 : Int))) : Nat) : Int)),(12,.i ((i : Nat) : Int)),(15,.i n),(16,.i (((k + 1) : Nat) : Int)),(22,.b (ownF h ((i : Nat) : Int).toNat ((k : Nat) : Int).toNat)),(32,.i (((k + 1) : Nat) : Int))],[(9,⟨3,.row (.ints x)⟩)],[9,999]⟩)
       ((True ∧ True ∧ (Fits .i64 (((k + 1) : Nat) : Int))) ∧ True ∧ True)
       ⟨⟨tt,tt,(by exact fits_i64 (by omega) (by omega))⟩,tt,tt⟩ ?_
      refine thenQ_normal ?_
      refine ⟨((k + 1),x),(show ((k + 1) ≤ n.toNat) ∧ (x = partRows n.toNat (ownF h) i (k + 1)) from ⟨(by first | assumption | omega | rfl | (intro _ hjj; omega) | (simp; done) | (simp; omega)),(by first | (rw [hx]; exact partRows_skip n22) | (rw [hx]; exact partRows_set (by omega) (by rw [partRows_get _ (by omega)]; exact mask_or _ (by omega) h22)))⟩),(show n.toNat - (k + 1) < n.toNat - k from (by first | omega | (simp_all; omega))),?_⟩
      exact Sub.of [] (@cast (((Si n) ∧ (((58 : Nat) = 58) ∧ (((.ep [.sl (.calls h)] : AV) = .ep [.sl (.calls h)]) ∧ (([] : List Nat) = [])) ∧ True) ∧ (((9 : Nat) = 9) ∧ (o.length = o.length) ∧ ((9 : Nat) ∈ ([9,999] : List Nat))) ∧ (Si ((i : Nat) : Int)) ∧ (Si (((List.length (List.replicate (Int.toNat n) (0 : Int))) : Nat) : Int)) ∧ (Si ((i : Nat) : Int)) ∧ (Si n) ∧ (Si (((k + 1) : Nat) : Int)) ∧ True) ∧ ((((3 : Nat) = 3) ∧ (Sd (.ints x)) ∧ ((9 : Nat) ∈ ([9,999] : List Nat))) ∧ True) ∧ (true = true) ∧ (true = true)) _ (by kernel_rfl) ⟨⟨rfl,⟨rfl,⟨rfl,rfl⟩,tt⟩,⟨rfl,rfl,(by decide)⟩,rfl,rfl,rfl,rfl,rfl,tt⟩,⟨⟨rfl,rfl,(by decide)⟩,tt⟩,rfl,rfl⟩)
    ·intro n17
     refine W.exit (thenQ_exit (thenQ_exit (blockQ_hit ?_)))
     refine blockQ_normal (thenQ_normal ?_)
     refine Lk cok tab55OwnAhead hnt [] (⟨[(0,.i n),(1,.fn 58 [.ep [.sl (.calls h)]]),(5,.own 9 o.length),(6,.i ((i : Nat) : Int)),(11,.i (((List.length (List.replicate (Int.toNat n) (0 : Int))) : Nat) : Int)),(12,.i (((i + 1) : Nat) : Int)),(15,.i n),(16,.i ((k : Nat) : Int)),(17,.b (decide (((k : Nat) : Int) < n))),(33,.i (((i + 1) : Nat) : Int))],[(9,⟨3,.row (.ints x)⟩)],[9,999]⟩)
      ((True ∧ True ∧ (Fits .i64 (((i + 1) : Nat) : Int))) ∧ True ∧ True)
      ⟨⟨tt,tt,(by exact fits_i64 (by omega) (by omega))⟩,tt,tt⟩ ?_
     refine thenQ_normal ?_
     refine ⟨((i + 1),x),(show ((i + 1) ≤ n.toNat) ∧ (x = partRows n.toNat (ownF h) (i + 1) 0) from ⟨(by first | assumption | omega | rfl | (intro _ hjj; omega) | (simp; done) | (simp; omega)),(by rw [hx,← partRows_next]; congr 1; omega)⟩),(show n.toNat - (i + 1) < n.toNat - i from (by first | omega | (simp_all; omega))),?_⟩
     exact Sub.of [] (@cast (((Si n) ∧ (((58 : Nat) = 58) ∧ (((.ep [.sl (.calls h)] : AV) = .ep [.sl (.calls h)]) ∧ (([] : List Nat) = [])) ∧ True) ∧ (((9 : Nat) = 9) ∧ (o.length = x.length) ∧ ((9 : Nat) ∈ ([9,999] : List Nat))) ∧ (Si (((List.length (List.replicate (Int.toNat n) (0 : Int))) : Nat) : Int)) ∧ (Si (((i + 1) : Nat) : Int)) ∧ True) ∧ ((((3 : Nat) = 3) ∧ (Sd (.ints x)) ∧ ((9 : Nat) ∈ ([9,999] : List Nat))) ∧ True) ∧ (true = true) ∧ (true = true)) _ (by kernel_rfl) ⟨⟨rfl,⟨rfl,⟨rfl,rfl⟩,tt⟩,⟨rfl,(by first | rfl | omega | assumption | (symm; assumption) | simp | simp_all),(by decide)⟩,rfl,rfl,tt⟩,⟨⟨rfl,rfl,(by decide)⟩,tt⟩,rfl,rfl⟩)
  ·intro n13
   have n13' := n13
   simp only [List.length_append,List.length_cons,List.length_nil,List.length_take,List.length_drop,List.length_set,List.length_replicate,List.length_map] at n13'
   refine W.exit (thenQ_exit (thenQ_exit (blockQ_hit ?_)))
   refine thenQ_normal ?_
   refine Kk cok tab55OwnAhead hnt [] [4] (⟨[(4,.own 9 o.length)],[(9,⟨3,.row (.ints o)⟩)],[9,999]⟩)
    (True ∧ True ∧ True)
    ⟨tt,tt,tt⟩ ?_
   refine W.subS [] (⟨[(4,.sl (.ints o))],[],[999]⟩) (@cast ((((o.length = o.length) ∧ (Sd (.ints o)) ∧ ((9 : Nat) ∉ ([] : List Nat))) ∧ True) ∧ True ∧ (true = true) ∧ (true = true)) _ (by kernel_rfl) ⟨⟨⟨rfl,rfl,(by decide)⟩,tt⟩,tt,rfl,rfl⟩) ?_
   refine W.ret ?_
   exact endQ_ret (.sl (.ints o)) (by kernel_rfl) (@cast ((.ints o : Dat) = .ints (rowsOf n.toNat (ownF h))) _ (by kernel_rfl) (congrArg Dat.ints (by rw [ho,← partRows_end]; congr 1; omega)))
theorem ent55OwnAhead : Entr prog 55 := ⟨_,func55,rfl,by decide⟩
end Go.Proofs.Try

set_option linter.unusedSimpArgs false
set_option linter.unusedVariables false
namespace Go.Proofs.Try
open Go.Ab Go.RowKit
def fs42 : FnS := fnS [.s .calls] [.calls] (fun _ (h,_) => (.sl (.ints (ownAhead h)),[],True))
abbrev T42 : Tab := lk [(38,fs38),(55,fs55OwnAhead)]
theorem tab42 : TabOK prog T42 := (TabOK.cons ok38 ent38 (TabOK.cons ok55OwnAhead ent55OwnAhead TabOK.nil))
set_option maxRecDepth 100000 in
set_option maxHeartbeats 1000000 in
theorem ok42 : FnOK prog 42 fs42 := by
 refine FnOK.mk cok func42 rfl rfl rfl ?_
 rintro fl ⟨(h : List CallD),_⟩ hpre F hnt0 _
 have hnt : F.nt = 10 := hnt0.trans ntmps42
 clear hpre
 refine W.to (⟨[(0,.sl (.calls h))],[],[999]⟩) rfl ?_
 refine W.lenOf 0 (.calls h) (by kernel_rfl) ?_
 intro hl_h; replace hl_h : List.length h ≤ 9223372036854775807 := hl_h
 refine Kk cok tab42 hnt [] [1] (⟨[(1,.ptr 1 0)],[(1,⟨27,.fix [.sl (.calls h)]⟩)],[1,999]⟩)
  (True ∧ True ∧ True)
  ⟨tt,tt,tt⟩ ?_
 refine W.subS [] (⟨[(1,.ep [.sl (.calls h)])],[],[999]⟩) (@cast ((((([.sl (.calls h)] : List AV) = [.sl (.calls h)]) ∧ (([] : List Nat) = []) ∧ ((1 : Nat) ∉ ([] : List Nat))) ∧ True) ∧ True ∧ (true = true) ∧ (true = true)) _ (by kernel_rfl) ⟨⟨⟨rfl,rfl,(by decide)⟩,tt⟩,tt,rfl,rfl⟩) ?_
 refine W.seq ?_
 refine Kk cok tab42 hnt [] [1,5] (⟨[(1,.ep [.sl (.calls h)]),(5,.b (!(validHistory h)))],[],[999]⟩)
  (True ∧ (True ∧ (True ∧ True) ∧ True) ∧ True ∧ True)
  ⟨tt,⟨tt,⟨tt,tt⟩,tt⟩,tt,tt⟩ ?_
 refine W.if' (!(validHistory h)) (.b (!(validHistory h))) (by kernel_rfl) rfl trivial ?_ ?_
 ·intro h5
  refine Kk cok tab42 hnt [] [2] (⟨[(2,.v (.slice none 0 0))],[],[999]⟩)
   (True ∧ True)
   ⟨tt,tt⟩ ?_
  refine W.ret (thenQ_ret ?_)
  exact endQ_ret (.v (.slice none 0 0)) (by kernel_rfl) (@cast (((Value.slice none 0 0 : Value) = .slice none 0 0) ∧ ((Dat.ints (ownAhead h)).len = 0)) _ (by kernel_rfl) ⟨rfl,(by show List.length (ownAhead h) = 0; unfold ownAhead; rw [not_f h5]; rfl)⟩)
 ·intro n5
  refine W.skip (thenQ_normal ?_)
  refine Kk cok tab42 hnt [] [2] (⟨[(2,.sl (.ints (rowsOf (h.length : Int).toNat (ownF h))))],[],[999]⟩)
   (True ∧ True ∧ True ∧ (True ∧ (True ∧ True ∧ True) ∧ 0 ≤ (h.length : Int) ∧ (h.length : Int) ≤ 60 ∧ (h.length : Int) = h.length) ∧ True ∧ True)
   ⟨tt,tt,tt,⟨tt,⟨tt,tt,tt⟩,(by have hv := (valid_iff.1 (not_g n5)).1; omega)⟩,tt,tt⟩ ?_
  refine W.ret ?_
  exact endQ_ret (.sl (.ints (rowsOf (h.length : Int).toNat (ownF h)))) (by kernel_rfl) (@cast ((.ints (rowsOf (h.length : Int).toNat (ownF h)) : Dat) = .ints (ownAhead h)) _ (by kernel_rfl) (congrArg Dat.ints (by unfold ownAhead; rw [not_g n5]; rfl)))
theorem ent42 : Entr prog 42 := ⟨_,func42,rfl,by decide⟩
end Go.Proofs.Try

namespace Go.Ab
open Go.RowKit Go.Shelf Go.Proofs
theorem elem_ints (l : List Int) (k : Nat) : (Dat.ints l).elem k = [.v (.int .i64 (l.getD k 0))] := rfl
theorem delete_core {P : Program} {ρ : Ren} (L : Lays2.n23 P ρ) {t : TypeId} (l : List Int) (i j : Int) (hi0 : 0 ≤ i) (hij : i < j) (hjl : j ≤ ((l.length : Nat) : Int)) (w : World) (T : Nat → Prop) (vals : List Value) (bC : Option Nat)
  (hargs' : ArgsRep w T [.c .ints t,.o,.o] [.sl (.ints l),.v (.int .i64 i),.v (.int .i64 j)] vals bC) :
  Calls P (ρ.f 23) vals.toArray w fun en w' => ∃ y β',en = .returned y ∧ PostF w T bC w' β' (.own 0 (List.length (l.take i.toNat ++ l.drop j.toNat))) [(t,.ints (l.take i.toNat ++ l.drop j.toNat))] y := by
  match vals,hargs' with
  | [y0,y1,y2],h =>
   simp only [ArgsRep] at h
   obtain ⟨⟨d,hd,_,hc⟩,h1,h2,_⟩ := h
   cases hd
   simp only [Rep] at h1 h2
   subst h1
   subst h2
   rcases hc with ⟨_,hz,_⟩ | ⟨g,cap,cur,rfl,rfl,hgw,hTg,hcell,hlen,hcap,hsz,hrow⟩
   ·simp only [Dat.len] at hz; omega
   ·have hm : maxLen = 9223372036854775807 := by decide
    have hsz' : cur.size = cap := by simpa [Dat.esz] using hsz
    have hlen' : l.length ≤ cap := hlen
    have hH : Sort.Holds (Value.int .i64) w g 0 l.toArray := by
     intro k hk
     have hk' : k < l.length := by simpa using hk
     obtain ⟨y,hy1,hy2⟩ := hrow k 0 _ hk' (by rw [elem_ints]; rfl)
     simp only [Rep] at hy2
     subst hy2
     have e1 : cur[k]? = some (.int .i64 (l.getD k 0)) := by simpa [Dat.esz] using hy1
     constructor
     ·unfold World.cell?
      simp only [hcell,Nat.zero_add]
      rw [if_neg (by simp),e1]
      simp [List.getD_eq_getElem?_getD,hk']
     ·unfold World.frozen?
      simp only [hcell]
      simp
    have hcall := Any.slices_Delete_int L g 0 cap i.toNat j.toNat l w hH hlen' (by omega) (by omega) (by omega)
    rw [show ((i.toNat : Nat) : Int) = i by omega,show ((j.toNat : Nat) : Int) = j by omega] at hcall
    refine hcall.mono ?_
    rintro e w' ⟨rfl,q,rfl⟩
    let res := l.take i.toNat ++ l.drop j.toNat
    have hrl : res.length = l.length - (j.toNat - i.toNat) := by
     simp only [res,List.length_append,List.length_take,List.length_drop]; omega
    let all := (l.take i.toNat ++ l.drop j.toNat ++ List.replicate (j.toNat - i.toNat) 0)
    have hal : all.length = l.length := by
     simp only [all,List.length_append,List.length_take,List.length_drop,List.length_replicate]; omega
    have hcell' : (Sort.putRow (Value.int .i64) (Sort.ahead w q) g 0 all.toArray).heap[g]? = some (.cells (Sort.putCells (Value.int .i64) 0 all.toArray cur) t (0,0)) := by
     show (w.heap.modify g _)[g]? = _
     rw [Array.getElem?_modify,if_pos rfl,hcell]
     rfl
    refine ⟨_,fun k => if k = 0 then some (.blk g cap) else none,rfl,?_⟩
    refine ⟨rfl,rfl,rfl,?_,?_,?_,?_,?_,?_,?_⟩
    ·simp [Sort.ahead]
    ·intro b hb hne
     show (w.heap.modify g _)[b]? = _
     rw [Array.getElem?_modify,if_neg (fun hh => hne (by rw [hh]))]
    ·simp only [Rep,OwnRep]
     exact .inr ⟨g,cap,rfl,(show res.length ≤ cap by omega),by rw [← hrl]⟩
    ·intro k c hk
     cases k with
     | succ k => simp [rowsHeap] at hk
     | zero =>
      simp only [rowsHeap,List.getElem?_cons_zero,Option.map_some,Option.some.injEq] at hk
      subst hk
      simp only [LocOK,CellsOK]
      refine .inr ⟨g,cap,_,rfl,hcell',?_,hcap,?_,?_⟩
      ·show res.length ≤ cap
       omega
      ·simp [Sort.putCells,hsz',Dat.esz]
      ·intro k jj x hk hx
       have hk' : k < res.length := hk
       rw [elem_ints] at hx
       cases jj with
       | succ jj => simp at hx
       | zero =>
        simp only [List.getElem?_cons_zero,Option.some.injEq] at hx
        subst hx
        refine ⟨.int .i64 (res.getD k 0),?_,by simp only [Rep]; rfl⟩
        have hkc : k < cur.size := by omega
        have hka : k < all.length := by omega
        simp only [Dat.esz,Nat.mul_one,Nat.add_zero,Sort.putCells,Array.getElem?_mapIdx]
        rw [Array.getElem?_eq_getElem hkc,Option.map_some,if_pos (by constructor <;> simp <;> omega)]
        have e2 : all.getD k 0 = res.getD k 0 := by
         simp only [List.getD_eq_getElem?_getD]
         show (res ++ _)[k]?.getD 0 = _
         rw [List.getElem?_append_left hk']
        rw [← e2]
        simp [List.getD_eq_getElem?_getD,hka]
    ·intro k k' c c' p1 p2 g1 e1 e2 _ _ _ _
     cases k with
     | succ k => simp [rowsHeap] at e1
     | zero =>
      cases k' with
      | succ k' => simp [rowsHeap] at e2
      | zero => rfl
    ·intro k c p1 g1 _ hb hq
     by_cases hk : k = 0
     ·subst hk
      simp only [if_true,Option.some.injEq] at hb
      subst hb
      have hq : g1 = g := hq
      left; rw [hq]
     ·rw [if_neg hk] at hb; cases hb
    ·intro k p hp
     by_cases hk : k = 0
     ·subst hk; simp
     ·rw [if_neg hk] at hp; cases hp
theorem delete_ok {P : Program} {ρ : Ren} (L : Lays2.n23 P ρ) {t : TypeId} :
  FnOK P (ρ.f 23) (fnS [.c .ints t,.o,.o] [.ints,.int,.int] (fun _ (l,i,j,_) => (.own 0 (List.length (l.take i.toNat ++ l.drop j.toNat)),[(t,.ints (l.take i.toNat ++ l.drop j.toNat))],0 ≤ i ∧ i < j ∧ j ≤ ((List.length l : Nat) : Int)))) := by
 intro fl args r rows φ hg hφ w T vals bC hT hargs
 simp only [fnS] at hg
 split at hg
 ·rename_i a ha
  simp only [Option.some.injEq] at hg
  have hx := decL_encL ha
  subst hx
  obtain ⟨l,i,j,u⟩ := a
  simp only [Prod.mk.injEq] at hg
  obtain ⟨rfl,rfl,rfl⟩ := hg
  exact delete_core L l i j hφ.1 hφ.2.1 hφ.2.2 w T vals bC hargs
 ·cases hg
end Go.Ab

namespace Go.Ab
open Go.RowKit Go.Shelf Go.Proofs
theorem clone_post {w w' : World} {T : Nat → Prop} {t : TypeId} {l : List Int} {v' : Value} (hown : w'.ownsRow w.heap.size t 1 v' l.length (l.map (Value.int .i64))) (hb : Below w.heap.size w w') :
  ∃ β',PostF w T none w' β' (.own 0 l.length) [(t,.ints l)] v' := by
 obtain ⟨_,h⟩ := hown
 rcases h with ⟨rfl,hn⟩ | ⟨g,cap,cur,rfl,hg,hcell,hlen,hcap,hsz,htake⟩
 ·refine ⟨fun k => if k = 0 then some .nil else none,hb.os,hb.tape,hb.output,hb.size,fun b hb' _ => hb.block b hb',?_,?_,?_,?_,?_⟩
  ·simp only [Rep]; exact Or.inl ⟨rfl,hn,rfl⟩
  ·intro k c hk
   cases k with
   | succ k => simp [rowsHeap] at hk
   | zero =>
    simp only [rowsHeap,List.getElem?_cons_zero,Option.map_some,Option.some.injEq] at hk
    subst hk
    simp only [LocOK,CellsOK]
    exact .inl ⟨rfl,hn⟩
  ·intro k k' c c' p1 p2 g1 e1 e2 hb1 _ hq _
   by_cases hk : k = 0
   ·rw [hk] at hb1; simp at hb1; subst hb1; exact hq.elim
   ·rw [if_neg hk] at hb1; cases hb1
  ·intro k c p1 g1 _ hb1 hq
   by_cases hk : k = 0
   ·rw [hk] at hb1; simp at hb1; subst hb1; exact hq.elim
   ·rw [if_neg hk] at hb1; cases hb1
  ·intro k p hp
   by_cases hk : k = 0
   ·subst hk; simp
   ·rw [if_neg hk] at hp; cases hp
 ·refine ⟨fun k => if k = 0 then some (.blk g cap) else none,hb.os,hb.tape,hb.output,hb.size,fun b hb' _ => hb.block b hb',?_,?_,?_,?_,?_⟩
  ·simp only [Rep,OwnRep]; exact .inr ⟨g,cap,rfl,hlen,rfl⟩
  ·intro k c hk
   cases k with
   | succ k => simp [rowsHeap] at hk
   | zero =>
    simp only [rowsHeap,List.getElem?_cons_zero,Option.map_some,Option.some.injEq] at hk
    subst hk
    simp only [LocOK,CellsOK]
    refine .inr ⟨g,cap,cur,rfl,hcell,hlen,hcap,hsz,?_⟩
    intro k jj x hk hx
    have hk' : k < l.length := hk
    rw [elem_ints] at hx
    cases jj with
    | succ jj => simp at hx
    | zero =>
     simp only [List.getElem?_cons_zero,Option.some.injEq] at hx
     subst hx
     refine ⟨.int .i64 (l.getD k 0),?_,by simp only [Rep]⟩
     have e1 : (cur.toList.take (l.length * 1))[k]? = some (.int .i64 (l.getD k 0)) := by
      rw [htake,List.getElem?_map,List.getElem?_eq_getElem hk']
      simp [List.getD_eq_getElem?_getD,hk']
     rw [List.getElem?_take,if_pos (by omega)] at e1
     simpa [Dat.esz] using e1
  ·intro k k' c c' p1 p2 g1 e1 e2 _ _ _ _
   cases k with
   | succ k => simp [rowsHeap] at e1
   | zero =>
    cases k' with
    | succ k' => simp [rowsHeap] at e2
    | zero => rfl
  ·intro k c p1 g1 _ hb1 hq
   by_cases hk : k = 0
   ·subst hk
    simp only [if_true,Option.some.injEq] at hb1
    subst hb1
    have hq : g1 = g := hq
    right; omega
   ·rw [if_neg hk] at hb1; cases hb1
  ·intro k p hp
   by_cases hk : k = 0
   ·subst hk; simp
   ·rw [if_neg hk] at hp; cases hp
theorem clone_core {P : Program} {ρ : Ren} (L : Lays2.n15 P ρ) (l : List Int) (hbig : l.length * 8 ≤ 140737488355328) (w : World) (T : Nat → Prop) (vals : List Value) (bC : Option Nat)
  (hargs : ArgsRep w T [.s .ints] [.sl (.ints l)] vals bC) :
  Calls P (ρ.f 15) vals.toArray w fun en w' => ∃ y β',en = .returned y ∧ PostF w T bC w' β' (.own 0 (List.length l)) [(ρ.t 3,.ints l)] y := by
 match vals,hargs with
 | [y0],h =>
  simp only [ArgsRep] at h
  obtain ⟨h1,rfl⟩ := h
  simp only [Rep,SlRep,FlatRep] at h1
  obtain ⟨a,c,rfl,hlc,hcm,hd⟩ := h1
  cases l with
  | nil =>
   cases a with
   | none =>
    refine (Any.slices_Clone_int_nil L 0 c w).mono ?_
    rintro e w' ⟨rfl,rfl⟩
    obtain ⟨β',h⟩ := clone_post (T := T) (t := ρ.t 3) (l := []) (World.ownsRow_nil w' w'.heap.size (ρ.t 3) 1) (Below.refl w'.heap.size w')
    exact ⟨_,β',rfl,h⟩
   | some ad =>
    refine (Any.slices_Clone_int_zero L ad c w).mono ?_
    rintro e w' ⟨v',rfl,hown,_,hb⟩
    obtain ⟨β',h⟩ := clone_post (T := T) (t := ρ.t 3) (l := []) hown hb
    exact ⟨_,β',rfl,h⟩
  | cons x0 l0 =>
   rcases hd with hd | ⟨ad,rfl,hT,hc⟩
   ·simp at hd
   ·have hcc : ∀ k,k < (x0 :: l0).length → w.cell? (ad.add k) = some (.int .i64 ((x0 :: l0).getD k 0)) := fun k hk => by
     have := hc k 0 _ hk (show ((Dat.ints (x0 :: l0)).flat k)[0]? = some (.int .i64 ((x0 :: l0).getD k 0)) from rfl)
     simpa using this
    obtain ⟨b,off,sp⟩ := ad
    cases sp with
    | some s0 =>
     have := hcc 0 (by simp)
     rw [Addr.add_zero'] at this
     unfold World.cell? at this
     simp at this
     split at this <;> cases this
    | none =>
     refine (Any.slices_Clone_int L b off (x0 :: l0).length c (x0 :: l0) w (Nat.le_refl _) hbig (fun j hj => by
      have := hcc j hj
      rwa [Addr.add_lit] at this)).mono ?_
     rintro e w' ⟨v',rfl,hown,_,hb⟩
     rw [List.take_length] at hown
     obtain ⟨β',h⟩ := clone_post (T := T) (t := ρ.t 3) (l := x0 :: l0) hown hb
     exact ⟨_,β',rfl,h⟩
theorem clone_ok {P : Program} {ρ : Ren} (L : Lays2.n15 P ρ) :
  FnOK P (ρ.f 15) (fnS [.s .ints] [.ints] (fun _ (l,_) => (.own 0 (List.length l),[(ρ.t 3,.ints l)],List.length l * 8 ≤ 140737488355328))) := by
 intro fl args r rows φ hg hφ w T vals bC hT hargs
 simp only [fnS] at hg
 split at hg
 ·rename_i a ha
  simp only [Option.some.injEq] at hg
  have hx := decL_encL ha
  subst hx
  obtain ⟨l,u⟩ := a
  simp only [Prod.mk.injEq] at hg
  obtain ⟨rfl,rfl,rfl⟩ := hg
  exact clone_core L l hφ w T vals bC hargs
 ·cases hg
end Go.Ab
