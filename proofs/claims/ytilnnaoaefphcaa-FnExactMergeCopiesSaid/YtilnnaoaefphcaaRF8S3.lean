import Derived.Test.YtilnnaoaefphcaaRF8S0
import Derived.Test.YtilnnaoaefphcaaRF8S2
import Derived.Test.YtilnnaoaefphcaaFrameB
import Derived.Shelf.Slices.Delete
import Derived.Shelf.Slices.Clone
set_option linter.unusedSimpArgs false
set_option linter.unusedVariables false
namespace Go.Proofs.Try
open Go.Ab Go.RowKit
def fs89counts : FnS := fnS [.s .ints,.o] [.ints,(.fn0 75)] (fun _ (l,(),_) => (.i (firstI l.length (fun jj => !within (l.getD jj 0) 0 20)),[],True))
abbrev T89counts : Tab := lk [(75,fs75)]
theorem tab89counts : TabOK prog T89counts := (TabOK.cons ok75 ent75 TabOK.nil)
set_option maxRecDepth 100000 in
set_option maxHeartbeats 1000000 in
theorem ok89counts : FnOK prog 89 fs89counts := by
 refine FnOK.mk cok func89 rfl rfl rfl ?_
 rintro fl ⟨(l : List Int),⟨⟩,_⟩ hpre F hnt0 _
 have hnt : F.nt = 19 := hnt0.trans ntmps89
 clear hpre
 refine W.to (⟨[(0,.sl (.ints l)),(1,.fn 75 [])],[],[999]⟩) rfl ?_
 refine W.lenOf 0 (.ints l) (by kernel_rfl) ?_
 intro hl_l; replace hl_l : List.length l ≤ 9223372036854775807 := hl_l
 refine Kk cok tab89counts hnt [] [0,1] (⟨[(0,.sl (.ints l)),(1,.fn 75 [])],[],[999]⟩)
  (True ∧ True)
  ⟨tt,tt⟩ ?_
 refine W.seq ?_
 refine Kk cok tab89counts hnt [] [0,1,7,8] (⟨[(0,.sl (.ints l)),(1,.fn 75 []),(7,.i (l.length : Int)),(8,.i (0 : Int))],[],[999]⟩)
  (True ∧ True ∧ True ∧ True)
  ⟨tt,tt,tt,tt⟩ ?_
 refine W.block ?_
 refine W.loop (ι := Nat) (fun (i : Nat) => (⟨[(0,.sl (.ints l)),(1,.fn 75 []),(7,.i (l.length : Int)),(8,.i ((i : Nat) : Int))],[],[999]⟩ : St))
  (fun (i : Nat) => (i ≤ l.length) ∧ (∀ jj,jj < i → (!within (l.getD jj 0) 0 20) = false))
  (fun (i : Nat) => (l.length - i : Nat)) (0) ?_ ?_ ?_
 ·exact (show (0 ≤ l.length) ∧ (∀ jj,jj < 0 → (!within (l.getD jj 0) 0 20) = false) from ⟨(by first | assumption | omega | rfl | (intro _ hjj; omega) | (simp; done) | (simp; omega)),(by exact upto_zero)⟩)
 ·exact Sub.of [] (@cast (((Sd (.ints l)) ∧ (((75 : Nat) = 75) ∧ True) ∧ (Si (l.length : Int)) ∧ ((.int .i64 (0 : Int) : Value) = .int .i64 ((0 : Nat) : Int)) ∧ True) ∧ True ∧ (true = true) ∧ (true = true)) _ (by kernel_rfl) ⟨⟨rfl,⟨rfl,tt⟩,rfl,(congrArg (Value.int .i64) (by first | rfl | omega | assumption | simp | simp_all)),tt⟩,tt,rfl,rfl⟩)
 ·rintro i hC0
  have hC : (i ≤ l.length) ∧ (∀ jj,jj < i → (!within (l.getD jj 0) 0 20) = false) := hC0
  clear hC0
  obtain ⟨hi,hA⟩ := hC
  refine W.to (⟨[(0,.sl (.ints l)),(1,.fn 75 []),(7,.i (l.length : Int)),(8,.i ((i : Nat) : Int))],[],[999]⟩) rfl ?_
  refine Kk cok tab89counts hnt [] [0,1,7,8,9] (⟨[(0,.sl (.ints l)),(1,.fn 75 []),(7,.i (l.length : Int)),(8,.i ((i : Nat) : Int)),(9,.b (decide (((i : Nat) : Int) < (l.length : Int))))],[],[999]⟩)
   ((True ∧ True ∧ True) ∧ True)
   ⟨⟨tt,tt,tt⟩,tt⟩ ?_
  refine W.seq ?_
  refine W.ifP (((i : Nat) : Int) < (l.length : Int)) (.b (decide (((i : Nat) : Int) < (l.length : Int)))) (by kernel_rfl) rfl trivial ?_ ?_
  ·intro h9
   refine W.skip (thenQ_normal ?_)
   refine W.seq ?_
   refine W.block ?_
   refine Kk cok tab89counts hnt [] [0,1,5,7,8] (⟨[(0,.sl (.ints l)),(1,.fn 75 []),(5,.i ((i : Nat) : Int)),(7,.i (l.length : Int)),(8,.i ((i : Nat) : Int))],[],[999]⟩)
    (True ∧ True ∧ True)
    ⟨tt,tt,tt⟩ ?_
   refine Kk cok tab89counts hnt [] [0,1,5,7,8,16] (⟨[(0,.sl (.ints l)),(1,.fn 75 []),(5,.i ((i : Nat) : Int)),(7,.i (l.length : Int)),(8,.i ((i : Nat) : Int)),(16,.b (!within (l.getD i 0) 0 20))],[],[999]⟩)
    (True ∧ True ∧ True ∧ (True ∧ True ∧ (0 ≤ ((i : Nat) : Int)) ∧ (((i : Nat) : Int) < (l.length : Int))) ∧ True ∧ (True ∧ (True ∧ True) ∧ True) ∧ True)
    ⟨tt,tt,tt,⟨tt,tt,(by omega),(by omega)⟩,tt,⟨tt,⟨tt,tt⟩,tt⟩,tt⟩ ?_
   refine W.if' (!within (l.getD i 0) 0 20) (.b (!within (l.getD i 0) 0 20)) (by kernel_rfl) rfl trivial ?_ ?_
   ·intro h16
    refine Kk cok tab89counts hnt [] [4] (⟨[(4,.i ((i : Nat) : Int))],[],[999]⟩)
     (True ∧ True ∧ True)
     ⟨tt,tt,tt⟩ ?_
    refine W.ret (blockQ_ret (thenQ_ret (thenQ_ret (blockQ_ret (thenQ_ret ?_)))))
    exact endQ_ret (.i ((i : Nat) : Int)) (by kernel_rfl) (@cast ((.int .i64 ((i : Nat) : Int) : Value) = .int .i64 (firstI l.length (fun jj => !within (l.getD jj 0) 0 20))) _ (by kernel_rfl) (congrArg (Value.int .i64) (by exact (firstI_yes (by omega) h16 hA).symm)))
   ·intro n16
    refine W.skip (blockQ_normal (thenQ_normal ?_))
    refine Lk cok tab89counts hnt [] (⟨[(0,.sl (.ints l)),(1,.fn 75 []),(5,.i ((i : Nat) : Int)),(7,.i (l.length : Int)),(8,.i (((i + 1) : Nat) : Int)),(16,.b (!within (l.getD i 0) 0 20)),(18,.i (((i + 1) : Nat) : Int))],[],[999]⟩)
     ((True ∧ True ∧ (Fits .i64 (((i + 1) : Nat) : Int))) ∧ True ∧ True)
     ⟨⟨tt,tt,(by exact fits_i64 (by omega) (by omega))⟩,tt,tt⟩ ?_
    refine thenQ_normal ?_
    refine ⟨((i + 1)),(show ((i + 1) ≤ l.length) ∧ (∀ jj,jj < (i + 1) → (!within (l.getD jj 0) 0 20) = false) from ⟨(by first | assumption | omega | rfl | (intro _ hjj; omega) | (simp; done) | (simp; omega)),(by exact upto_succ hA n16)⟩),(show l.length - (i + 1) < l.length - i from (by first | omega | (simp_all; omega))),?_⟩
    exact Sub.of [] (@cast (((Sd (.ints l)) ∧ (((75 : Nat) = 75) ∧ True) ∧ (Si (l.length : Int)) ∧ (Si (((i + 1) : Nat) : Int)) ∧ True) ∧ True ∧ (true = true) ∧ (true = true)) _ (by kernel_rfl) ⟨⟨rfl,⟨rfl,tt⟩,rfl,rfl,tt⟩,tt,rfl,rfl⟩)
  ·intro n9
   refine W.exit (thenQ_exit (thenQ_exit (blockQ_hit ?_)))
   refine thenQ_normal ?_
   refine Kk cok tab89counts hnt [] [4] (⟨[(4,.i (-1 : Int))],[],[999]⟩)
    (True ∧ True)
    ⟨tt,tt⟩ ?_
   refine W.ret ?_
   exact endQ_ret (.i (-1 : Int)) (by kernel_rfl) (@cast ((.int .i64 (-1 : Int) : Value) = .int .i64 (firstI l.length (fun jj => !within (l.getD jj 0) 0 20))) _ (by kernel_rfl) (congrArg (Value.int .i64) (by exact (firstI_no (fun j hj => hA j (by omega))).symm)))
theorem ent89counts : Entr prog 89 := ⟨_,func89,rfl,by decide⟩
end Go.Proofs.Try

set_option linter.unusedSimpArgs false
set_option linter.unusedVariables false
namespace Go.Proofs.Try
open Go.Ab Go.RowKit
def fs74counts : FnS := fnS [.s .ints,.o] [.ints,(.fn0 75)] (fun _ (l,(),_) => (.b (anyN l.length (fun jj => !within (l.getD jj 0) 0 20)),[],True))
abbrev T74counts : Tab := lk [(89,fs89counts)]
theorem tab74counts : TabOK prog T74counts := (TabOK.cons ok89counts ent89counts TabOK.nil)
set_option maxRecDepth 100000 in
set_option maxHeartbeats 1000000 in
theorem ok74counts : FnOK prog 74 fs74counts := by
 refine FnOK.mk cok func74 rfl rfl rfl ?_
 rintro fl ⟨(l : List Int),⟨⟩,_⟩ hpre F hnt0 _
 have hnt : F.nt = 9 := hnt0.trans ntmps74
 clear hpre
 refine W.to (⟨[(0,.sl (.ints l)),(1,.fn 75 [])],[],[999]⟩) rfl ?_
 refine W.lenOf 0 (.ints l) (by kernel_rfl) ?_
 intro hl_l; replace hl_l : List.length l ≤ 9223372036854775807 := hl_l
 refine Kk cok tab74counts hnt [] [0,1] (⟨[(0,.sl (.ints l)),(1,.fn 75 [])],[],[999]⟩)
  (True ∧ True)
  ⟨tt,tt⟩ ?_
 refine Kk cok tab74counts hnt [] [4] (⟨[(4,.b (decide ((0 : Int) ≤ (firstI l.length (fun jj => !within (l.getD jj 0) 0 20)))))],[],[999]⟩)
  (True ∧ True ∧ (True ∧ (True ∧ True ∧ True) ∧ True) ∧ (True ∧ True ∧ True) ∧ True ∧ True)
  ⟨tt,tt,⟨tt,⟨tt,tt,tt⟩,tt⟩,⟨tt,tt,tt⟩,tt,tt⟩ ?_
 refine W.ret ?_
 exact endQ_ret (.b (decide ((0 : Int) ≤ (firstI l.length (fun jj => !within (l.getD jj 0) 0 20))))) (by kernel_rfl) (@cast ((.bool (decide ((0 : Int) ≤ (firstI l.length (fun jj => !within (l.getD jj 0) 0 20)))) : Value) = .bool (anyN l.length (fun jj => !within (l.getD jj 0) 0 20))) _ (by kernel_rfl) (congrArg Value.bool (by exact firstI_has _ _)))
theorem ent74counts : Entr prog 74 := ⟨_,func74,rfl,by decide⟩
end Go.Proofs.Try

set_option linter.unusedSimpArgs false
set_option linter.unusedVariables false
namespace Go.Proofs.Try
open Go.Ab Go.RowKit
def fs62 : FnS := fnS [.s .ints] [.ints] (fun _ (l,_) => (.b (countsOK l),[],True))
abbrev T62 : Tab := lk [(74,fs74counts)]
theorem tab62 : TabOK prog T62 := (TabOK.cons ok74counts ent74counts TabOK.nil)
set_option maxRecDepth 100000 in
set_option maxHeartbeats 1000000 in
theorem ok62 : FnOK prog 62 fs62 := by
 refine FnOK.mk cok func62 rfl rfl rfl ?_
 rintro fl ⟨(l : List Int),_⟩ hpre F hnt0 _
 have hnt : F.nt = 11 := hnt0.trans ntmps62
 clear hpre
 refine W.to (⟨[(0,.sl (.ints l))],[],[999]⟩) rfl ?_
 refine W.lenOf 0 (.ints l) (by kernel_rfl) ?_
 intro hl_l; replace hl_l : List.length l ≤ 9223372036854775807 := hl_l
 refine Kk cok tab62 hnt [] [0] (⟨[(0,.sl (.ints l))],[],[999]⟩)
  (True ∧ True)
  ⟨tt,tt⟩ ?_
 refine Kk cok tab62 hnt [] [2] (⟨[(2,.b ((decide ((l.length : Int) = (3 : Int))) && (!(anyN l.length (fun jj => !within (l.getD jj 0) 0 20)))))],[],[999]⟩)
  ((fun (Z1:Bool)=>(True ∧ (True ∧ ((True ∧ (True ∧ True)) ∧ (True ∧ ((Z1 = true → True) ∧ ((Z1 = true → (True ∧ ((((Z1 = true) ∧ True) ∧ (True ∧ True)) ∧ True))) ∧ ((Z1 = true → ((Z1 = true) ∧ True)) ∧ ((True ∧ ((Z1 = true → (Z1 = true) ∧ True) ∧ (Z1 = false → True))) ∧ (True ∧ True)))))))))) (decide ((l.length : Int) = (3 : Int))))
  ⟨tt,tt,⟨tt,tt,tt⟩,tt,(fun _ => trivial),(fun hG => ⟨tt,⟨⟨hG,tt⟩,tt,tt⟩,tt⟩),(fun hG => ⟨hG,tt⟩),⟨tt,(fun hp => ⟨hp,tt⟩),(fun _ => trivial)⟩,tt,tt⟩ ?_
 refine W.ret ?_
 exact endQ_ret (.b ((decide ((l.length : Int) = (3 : Int))) && (!(anyN l.length (fun jj => !within (l.getD jj 0) 0 20))))) (by kernel_rfl) (@cast ((.bool ((decide ((l.length : Int) = (3 : Int))) && (!(anyN l.length (fun jj => !within (l.getD jj 0) 0 20)))) : Value) = .bool (countsOK l)) _ (by kernel_rfl) (congrArg Value.bool (by exact counts_impl l)))
theorem ent62 : Entr prog 62 := ⟨_,func62,rfl,by decide⟩
end Go.Proofs.Try

set_option linter.unusedSimpArgs false
set_option linter.unusedVariables false
namespace Go.Proofs.Try
open Go.Ab Go.RowKit
def fs38 : FnS := fnS [.a [some .ints,some .ints,none,none,none,some .marks]] [.copy] (fun _ (c,_) => (.b (validCopy c),[],True))
abbrev T38 : Tab := lk [(44,fs44),(56,fs56),(61,fs61),(62,fs62)]
theorem tab38 : TabOK prog T38 := (TabOK.cons ok44 ent44 (TabOK.cons ok56 ent56 (TabOK.cons ok61 ent61 (TabOK.cons ok62 ent62 TabOK.nil))))
set_option maxRecDepth 100000 in
set_option maxHeartbeats 1000000 in
theorem ok38 : FnOK prog 38 fs38 := by
 refine FnOK.mk cok func38 rfl rfl rfl ?_
 rintro fl ⟨(c : CopyD),_⟩ hpre F hnt0 _
 have hnt : F.nt = 78 := hnt0.trans ntmps38
 clear hpre
 refine W.to (⟨[(0,.agg (cC c))],[],[999]⟩) rfl ?_
 refine W.lenA 0 0 (cC c) (.ints c.up) (by kernel_rfl) (by kernel_rfl) ?_
 intro hl_c_up; replace hl_c_up : List.length c.up ≤ 9223372036854775807 := hl_c_up
 refine W.lenA 0 1 (cC c) (.ints c.down) (by kernel_rfl) (by kernel_rfl) ?_
 intro hl_c_down; replace hl_c_down : List.length c.down ≤ 9223372036854775807 := hl_c_down
 refine W.lenA 0 5 (cC c) (.marks c.marks) (by kernel_rfl) (by kernel_rfl) ?_
 intro hl_c_marks; replace hl_c_marks : List.length c.marks ≤ 9223372036854775807 := hl_c_marks
 refine Kk cok tab38 hnt [] [1] (⟨[(1,.ptr 1 0)],[(1,⟨29,.fix (cC c)⟩)],[1,999]⟩)
  (True ∧ True ∧ True)
  ⟨tt,tt,tt⟩ ?_
 refine W.seq ?_
 refine Kk cok tab38 hnt [] [1,7,8,9] (⟨[(1,.ptr 1 0),(7,.sl (.marks c.marks)),(8,.i (((List.length c.marks) : Nat) : Int)),(9,.i (0 : Int))],[(1,⟨29,.fix (cC c)⟩)],[1,999]⟩)
  (True ∧ True ∧ True ∧ True ∧ True)
  ⟨tt,tt,tt,tt,tt⟩ ?_
 refine W.block ?_
 refine W.loop (ι := Nat) (fun (i : Nat) => (⟨[(1,.ptr 1 0),(7,.sl (.marks c.marks)),(8,.i (((List.length c.marks) : Nat) : Int)),(9,.i ((i : Nat) : Int))],[(1,⟨29,.fix (cC c)⟩)],[1,999]⟩ : St))
  (fun (i : Nat) => (i ≤ c.marks.length) ∧ (∀ j,j < i → markOK c.marks j = true))
  (fun (i : Nat) => (c.marks.length - i : Nat)) (0) ?_ ?_ ?_
 ·exact (show (0 ≤ c.marks.length) ∧ (∀ j,j < 0 → markOK c.marks j = true) from ⟨(by first | assumption | omega | rfl | (intro _ hjj; omega) | (simp; done) | (simp; omega)),(by exact upto_zero)⟩)
 ·exact Sub.of [] (@cast (((((1 : Nat) = 1) ∧ ((0 : Nat) = 0) ∧ ((1 : Nat) ∈ ([1,999] : List Nat))) ∧ (Sd (.marks c.marks)) ∧ (Si (((List.length c.marks) : Nat) : Int)) ∧ ((.int .i64 (0 : Int) : Value) = .int .i64 ((0 : Nat) : Int)) ∧ True) ∧ ((((29 : Nat) = 29) ∧ (Sc c) ∧ ((1 : Nat) ∈ ([1,999] : List Nat))) ∧ True) ∧ (true = true) ∧ (true = true)) _ (by kernel_rfl) ⟨⟨⟨rfl,rfl,(by decide)⟩,rfl,rfl,(congrArg (Value.int .i64) (by first | rfl | omega | assumption | simp | simp_all)),tt⟩,⟨⟨rfl,⟨rfl,rfl,rfl,rfl,rfl,rfl,tt⟩,(by decide)⟩,tt⟩,rfl,rfl⟩)
 ·rintro i hC0
  have hC : (i ≤ c.marks.length) ∧ (∀ j,j < i → markOK c.marks j = true) := hC0
  clear hC0
  obtain ⟨hi,hA⟩ := hC
  refine W.to (⟨[(1,.ptr 1 0),(7,.sl (.marks c.marks)),(8,.i (((List.length c.marks) : Nat) : Int)),(9,.i ((i : Nat) : Int))],[(1,⟨29,.fix (cC c)⟩)],[1,999]⟩) rfl ?_
  refine Kk cok tab38 hnt [] [1,7,8,9,10] (⟨[(1,.ptr 1 0),(7,.sl (.marks c.marks)),(8,.i (((List.length c.marks) : Nat) : Int)),(9,.i ((i : Nat) : Int)),(10,.b (decide (((i : Nat) : Int) < (((List.length c.marks) : Nat) : Int))))],[(1,⟨29,.fix (cC c)⟩)],[1,999]⟩)
   ((True ∧ True ∧ True) ∧ True)
   ⟨⟨tt,tt,tt⟩,tt⟩ ?_
  refine W.seq ?_
  refine W.ifP (((i : Nat) : Int) < (((List.length c.marks) : Nat) : Int)) (.b (decide (((i : Nat) : Int) < (((List.length c.marks) : Nat) : Int)))) (by kernel_rfl) rfl trivial ?_ ?_
  ·intro h10
   refine W.skip (thenQ_normal ?_)
   refine W.seq ?_
   refine W.block ?_
   refine Kk cok tab38 hnt [] [1,3,4,7,8,9] (⟨[(1,.ptr 1 0),(3,.i ((i : Nat) : Int)),(4,.ptr 4 0),(7,.sl (.marks c.marks)),(8,.i (((List.length c.marks) : Nat) : Int)),(9,.i ((i : Nat) : Int))],[(1,⟨29,.fix (cC c)⟩),(4,⟨50,.fix [.i ((List.getD c.marks i default).value),.i ((List.getD c.marks i default).proc),.i ((List.getD c.marks i default).number),.b ((List.getD c.marks i default).gone)]⟩)],[4,1,999]⟩)
    (True ∧ (True ∧ True ∧ (0 ≤ ((i : Nat) : Int)) ∧ (((i : Nat) : Int) < (((List.length c.marks) : Nat) : Int))) ∧ True ∧ True ∧ True ∧ (True ∧ True) ∧ True)
    ⟨tt,⟨tt,tt,(by omega),(by omega)⟩,tt,tt,tt,⟨tt,tt⟩,tt⟩ ?_
   refine W.KA cok tab38 hnt [] [1,7,8,9,31] (⟨[(1,.ptr 1 0),(7,.sl (.marks c.marks)),(8,.i (((List.length c.marks) : Nat) : Int)),(9,.i ((i : Nat) : Int)),(31,.b ((!(isMark (List.getD c.marks i default))) || ((decide ((0 : Int) < ((i : Nat) : Int))) && (decide ((0 : Int) ≤ (cmpM (List.getD c.marks (Int.toNat (((i : Nat) : Int) - (1 : Int))) default) (List.getD c.marks i default)))))))],[(1,⟨29,.fix (cC c)⟩),(4,⟨50,.fix [.i ((List.getD c.marks i default).value),.i ((List.getD c.marks i default).proc),.i ((List.getD c.marks i default).number),.b ((List.getD c.marks i default).gone)]⟩)],[4,1,999]⟩)
    ((fun (Z1:Bool)=>((fun (Z2:Bool)=>((fun (Z3:Bool)=>((fun (Z4:Bool)=>(True ∧ ((True ∧ ((True ∧ True) ∧ True)) ∧ (True ∧ (True ∧ ((Z3 = true → True) ∧ ((Z3 = true → (((Z3 = true) ∧ True) ∧ (True ∧ True))) ∧ ((Z3 = true → True) ∧ ((Z4 = true → True) ∧ ((Z4 = true → ((Z4 = true) ∧ True)) ∧ ((Z4 = true → True) ∧ ((Z4 = true → (((Z4 = true) ∧ True) ∧ (True ∧ (Fits .i64 (((i : Nat) : Int) - (1 : Int)))))) ∧ ((Z4 = true → (((Z4 = true) ∧ True) ∧ (((Z4 = true) ∧ True) ∧ ((0 ≤ (((i : Nat) : Int) - (1 : Int))) ∧ ((((i : Nat) : Int) - (1 : Int)) < (((List.length c.marks) : Nat) : Int)))))) ∧ ((Z4 = true → ((Z4 = true) ∧ True)) ∧ ((Z4 = true → True) ∧ ((Z4 = true → (True ∧ ((((Z4 = true) ∧ True) ∧ (((Z4 = true) ∧ True) ∧ True)) ∧ True))) ∧ ((Z4 = true → (((Z4 = true) ∧ True) ∧ (True ∧ True))) ∧ ((Z3 = true → (((Z3 = true) ∧ ((Z3 = true) ∧ True)) ∧ ((Z1 = true → (Z4 = true) ∧ True) ∧ (Z1 = false → True)))) ∧ ((True ∧ ((Z2 = true → True) ∧ (Z2 = false → (Z3 = true) ∧ True))) ∧ True))))))))))))))))))) (Z3 && (Z3 && Z1)))) (!Z2))) (!(isMark (List.getD c.marks i default))))) (decide ((0 : Int) < ((i : Nat) : Int)))) (by kernel_rfl) (by kernel_rfl)
    ⟨tt,⟨tt,⟨tt,tt⟩,tt⟩,tt,tt,(fun _ => trivial),(fun hG => ⟨⟨hG,tt⟩,tt,tt⟩),(fun _ => trivial),(fun _ => trivial),(fun hG => ⟨hG,tt⟩),(fun _ => trivial),(fun hG => ⟨⟨hG,tt⟩,tt,(by have hg0 : (0 : Int) < ((i : Nat) : Int) := of_decide_eq_true (and_r (and_r hG)); exact fits_i64 (by omega) (by omega))⟩),(fun hG => ⟨⟨hG,tt⟩,⟨hG,tt⟩,(by have hg0 : (0 : Int) < ((i : Nat) : Int) := of_decide_eq_true (and_r (and_r hG)); omega),(by have hg0 : (0 : Int) < ((i : Nat) : Int) := of_decide_eq_true (and_r (and_r hG)); omega)⟩),(fun hG => ⟨hG,tt⟩),(fun _ => trivial),(fun hG => ⟨tt,⟨⟨hG,tt⟩,⟨hG,tt⟩,tt⟩,tt⟩),(fun hG => ⟨⟨hG,tt⟩,tt,tt⟩),(fun hG => ⟨⟨hG,hG,tt⟩,(fun hp => ⟨(and_t hG (and_t hG hp)),tt⟩),(fun _ => trivial)⟩),⟨tt,(fun _ => trivial),(fun hp => ⟨(not_t hp),tt⟩)⟩,tt⟩ ?_
   refine W.if' ((!(isMark (List.getD c.marks i default))) || ((decide ((0 : Int) < ((i : Nat) : Int))) && (decide ((0 : Int) ≤ (cmpM (List.getD c.marks (Int.toNat (((i : Nat) : Int) - (1 : Int))) default) (List.getD c.marks i default)))))) (.b ((!(isMark (List.getD c.marks i default))) || ((decide ((0 : Int) < ((i : Nat) : Int))) && (decide ((0 : Int) ≤ (cmpM (List.getD c.marks (Int.toNat (((i : Nat) : Int) - (1 : Int))) default) (List.getD c.marks i default))))))) (by kernel_rfl) rfl trivial ?_ ?_
   ·intro h31
    refine Kk cok tab38 hnt [] [2] (⟨[(2,.b false)],[(1,⟨29,.fix (cC c)⟩),(4,⟨50,.fix [.i ((List.getD c.marks i default).value),.i ((List.getD c.marks i default).proc),.i ((List.getD c.marks i default).number),.b ((List.getD c.marks i default).gone)]⟩)],[4,1,999]⟩)
     (True ∧ True)
     ⟨tt,tt⟩ ?_
    refine W.ret (blockQ_ret (thenQ_ret (thenQ_ret (blockQ_ret (thenQ_ret ?_)))))
    exact endQ_ret (.b false) (by kernel_rfl) (@cast ((.bool false : Value) = .bool (validCopy c)) _ (by kernel_rfl) (congrArg Value.bool (by rw [show ((i : Int) - 1).toNat = i - 1 by omega,cmpM_less] at h31; exact (valid_marks (mark_bad (i := i) (by omega) (markI_no h31))).symm)))
   ·intro n31
    refine W.skip (blockQ_normal (thenQ_normal ?_))
    refine Lk cok tab38 hnt [] (⟨[(1,.ptr 1 0),(7,.sl (.marks c.marks)),(8,.i (((List.length c.marks) : Nat) : Int)),(9,.i (((i + 1) : Nat) : Int)),(31,.b ((!(isMark (List.getD c.marks i default))) || ((decide ((0 : Int) < ((i : Nat) : Int))) && (decide ((0 : Int) ≤ (cmpM (List.getD c.marks (Int.toNat (((i : Nat) : Int) - (1 : Int))) default) (List.getD c.marks i default))))))),(32,.i (((i + 1) : Nat) : Int))],[(1,⟨29,.fix (cC c)⟩),(4,⟨50,.fix [.i ((List.getD c.marks i default).value),.i ((List.getD c.marks i default).proc),.i ((List.getD c.marks i default).number),.b ((List.getD c.marks i default).gone)]⟩)],[4,1,999]⟩)
     ((True ∧ True ∧ (Fits .i64 (((i + 1) : Nat) : Int))) ∧ True ∧ True)
     ⟨⟨tt,tt,(by exact fits_i64 (by omega) (by omega))⟩,tt,tt⟩ ?_
    refine thenQ_normal ?_
    refine ⟨((i + 1)),(show ((i + 1) ≤ c.marks.length) ∧ (∀ j,j < (i + 1) → markOK c.marks j = true) from ⟨(by first | assumption | omega | rfl | (intro _ hjj; omega) | (simp; done) | (simp; omega)),(by rw [show ((i : Int) - 1).toNat = i - 1 by omega,cmpM_less] at n31; exact upto_succ hA (markI_ok n31))⟩),(show c.marks.length - (i + 1) < c.marks.length - i from (by first | omega | (simp_all; omega))),?_⟩
    exact Sub.of [] (@cast (((((1 : Nat) = 1) ∧ ((0 : Nat) = 0) ∧ ((1 : Nat) ∈ ([1,999] : List Nat))) ∧ (Sd (.marks c.marks)) ∧ (Si (((List.length c.marks) : Nat) : Int)) ∧ (Si (((i + 1) : Nat) : Int)) ∧ True) ∧ ((((29 : Nat) = 29) ∧ (Sc c) ∧ ((1 : Nat) ∈ ([1,999] : List Nat))) ∧ True) ∧ (true = true) ∧ (true = true)) _ (by kernel_rfl) ⟨⟨⟨rfl,rfl,(by decide)⟩,rfl,rfl,rfl,tt⟩,⟨⟨rfl,⟨rfl,rfl,rfl,rfl,rfl,rfl,tt⟩,(by decide)⟩,tt⟩,rfl,rfl⟩)
  ·intro n10
   refine W.exit (thenQ_exit (thenQ_exit (blockQ_hit ?_)))
   refine thenQ_normal ?_
   refine Kk cok tab38 hnt [] [1,5] (⟨[(1,.ptr 1 0),(5,.b ((((within c.value (0 : Int) (3 : Int)) && (within c.time (0 : Int) (30 : Int))) && (within c.proc (0 : Int) (2 : Int))) && ((decide ((0 : Int) < c.time)) || ((decide (c.value = (0 : Int))) && (decide (c.proc = (0 : Int)))))))],[(1,⟨29,.fix (cC c)⟩)],[1,999]⟩)
    ((fun (Z1:Bool)=>((fun (Z2:Bool)=>((fun (Z3:Bool)=>((fun (Z4:Bool)=>((fun (Z5:Bool)=>((fun (Z6:Bool)=>((fun (Z7:Bool)=>(True ∧ (True ∧ ((True ∧ ((True ∧ (True ∧ (True ∧ True))) ∧ True)) ∧ (True ∧ ((Z3 = true → True) ∧ ((Z3 = true → ((Z3 = true) ∧ True)) ∧ ((Z3 = true → (True ∧ ((((Z3 = true) ∧ True) ∧ (True ∧ (True ∧ True))) ∧ True))) ∧ ((True ∧ ((Z3 = true → (Z3 = true) ∧ True) ∧ (Z3 = false → True))) ∧ (True ∧ ((Z4 = true → True) ∧ ((Z4 = true → ((Z4 = true) ∧ True)) ∧ ((Z4 = true → (True ∧ ((((Z4 = true) ∧ True) ∧ (True ∧ (True ∧ True))) ∧ True))) ∧ ((True ∧ ((Z4 = true → (Z4 = true) ∧ True) ∧ (Z4 = false → True))) ∧ (True ∧ ((Z5 = true → True) ∧ ((Z5 = true → ((Z5 = true) ∧ True)) ∧ ((Z5 = true → (((Z5 = true) ∧ True) ∧ (True ∧ True))) ∧ ((Z5 = true → True) ∧ ((Z6 = true → True) ∧ ((Z6 = true → ((Z6 = true) ∧ True)) ∧ ((Z6 = true → (((Z6 = true) ∧ True) ∧ (True ∧ True))) ∧ ((Z6 = true → True) ∧ ((Z7 = true → True) ∧ ((Z7 = true → ((Z7 = true) ∧ True)) ∧ ((Z7 = true → (((Z7 = true) ∧ True) ∧ (True ∧ True))) ∧ ((Z6 = true → (((Z6 = true) ∧ ((Z6 = true) ∧ True)) ∧ ((Z2 = true → (Z7 = true) ∧ True) ∧ (Z2 = false → True)))) ∧ ((Z5 = true → (((Z5 = true) ∧ ((Z5 = true) ∧ True)) ∧ ((Z1 = true → True) ∧ (Z1 = false → (Z6 = true) ∧ True)))) ∧ ((True ∧ ((Z5 = true → (Z5 = true) ∧ True) ∧ (Z5 = false → True))) ∧ (True ∧ True)))))))))))))))))))))))))))))) (Z6 && (Z6 && Z2)))) (Z5 && (Z5 && (!Z1))))) (Z4 && (within c.proc (0 : Int) (2 : Int))))) (Z3 && (within c.time (0 : Int) (30 : Int))))) (within c.value (0 : Int) (3 : Int)))) (decide (c.value = (0 : Int))))) (decide ((0 : Int) < c.time)))
    ⟨tt,tt,⟨tt,⟨tt,tt,tt,tt⟩,tt⟩,tt,(fun _ => trivial),(fun hG => ⟨hG,tt⟩),(fun hG => ⟨tt,⟨⟨hG,tt⟩,tt,tt,tt⟩,tt⟩),⟨tt,(fun hp => ⟨hp,tt⟩),(fun _ => trivial)⟩,tt,(fun _ => trivial),(fun hG => ⟨hG,tt⟩),(fun hG => ⟨tt,⟨⟨hG,tt⟩,tt,tt,tt⟩,tt⟩),⟨tt,(fun hp => ⟨hp,tt⟩),(fun _ => trivial)⟩,tt,(fun _ => trivial),(fun hG => ⟨hG,tt⟩),(fun hG => ⟨⟨hG,tt⟩,tt,tt⟩),(fun _ => trivial),(fun _ => trivial),(fun hG => ⟨hG,tt⟩),(fun hG => ⟨⟨hG,tt⟩,tt,tt⟩),(fun _ => trivial),(fun _ => trivial),(fun hG => ⟨hG,tt⟩),(fun hG => ⟨⟨hG,tt⟩,tt,tt⟩),(fun hG => ⟨⟨hG,hG,tt⟩,(fun hp => ⟨(and_t hG (and_t hG hp)),tt⟩),(fun _ => trivial)⟩),(fun hG => ⟨⟨hG,hG,tt⟩,(fun _ => trivial),(fun hp => ⟨(and_t hG (and_t hG (not_t hp))),tt⟩)⟩),⟨tt,(fun hp => ⟨hp,tt⟩),(fun _ => trivial)⟩,tt,tt⟩ ?_
   refine Kk cok tab38 hnt [] [2] (⟨[(2,.b ((((countsOK c.up) && (countsOK c.down)) && ((((within c.value (0 : Int) (3 : Int)) && (within c.time (0 : Int) (30 : Int))) && (within c.proc (0 : Int) (2 : Int))) && ((decide ((0 : Int) < c.time)) || ((decide (c.value = (0 : Int))) && (decide (c.proc = (0 : Int))))))) && (decide ((((List.length c.marks) : Nat) : Int) ≤ (20 : Int)))))],[(1,⟨29,.fix (cC c)⟩)],[1,999]⟩)
    ((fun (Z1:Bool)=>((fun (Z2:Bool)=>((fun (Z3:Bool)=>(True ∧ (True ∧ ((True ∧ ((True ∧ True) ∧ True)) ∧ (True ∧ ((Z1 = true → True) ∧ ((Z1 = true → ((Z1 = true) ∧ True)) ∧ ((Z1 = true → (True ∧ ((((Z1 = true) ∧ True) ∧ True) ∧ True))) ∧ ((True ∧ ((Z1 = true → (Z1 = true) ∧ True) ∧ (Z1 = false → True))) ∧ (True ∧ ((Z2 = true → True) ∧ ((True ∧ ((Z2 = true → (Z2 = true) ∧ True) ∧ (Z2 = false → True))) ∧ (True ∧ ((Z3 = true → True) ∧ ((Z3 = true → ((Z3 = true) ∧ True)) ∧ ((Z3 = true → ((Z3 = true) ∧ True)) ∧ ((Z3 = true → (((Z3 = true) ∧ True) ∧ (True ∧ True))) ∧ ((True ∧ ((Z3 = true → (Z3 = true) ∧ True) ∧ (Z3 = false → True))) ∧ (True ∧ True))))))))))))))))))) (Z2 && ((((within c.value (0 : Int) (3 : Int)) && (within c.time (0 : Int) (30 : Int))) && (within c.proc (0 : Int) (2 : Int))) && ((decide ((0 : Int) < c.time)) || ((decide (c.value = (0 : Int))) && (decide (c.proc = (0 : Int))))))))) (Z1 && (countsOK c.down)))) (countsOK c.up))
    ⟨tt,tt,⟨tt,⟨tt,tt⟩,tt⟩,tt,(fun _ => trivial),(fun hG => ⟨hG,tt⟩),(fun hG => ⟨tt,⟨⟨hG,tt⟩,tt⟩,tt⟩),⟨tt,(fun hp => ⟨hp,tt⟩),(fun _ => trivial)⟩,tt,(fun _ => trivial),⟨tt,(fun hp => ⟨hp,tt⟩),(fun _ => trivial)⟩,tt,(fun _ => trivial),(fun hG => ⟨hG,tt⟩),(fun hG => ⟨hG,tt⟩),(fun hG => ⟨⟨hG,tt⟩,tt,tt⟩),⟨tt,(fun hp => ⟨hp,tt⟩),(fun _ => trivial)⟩,tt,tt⟩ ?_
   refine W.ret ?_
   exact endQ_ret (.b ((((countsOK c.up) && (countsOK c.down)) && ((((within c.value (0 : Int) (3 : Int)) && (within c.time (0 : Int) (30 : Int))) && (within c.proc (0 : Int) (2 : Int))) && ((decide ((0 : Int) < c.time)) || ((decide (c.value = (0 : Int))) && (decide (c.proc = (0 : Int))))))) && (decide ((((List.length c.marks) : Nat) : Int) ≤ (20 : Int))))) (by kernel_rfl) (@cast ((.bool ((((countsOK c.up) && (countsOK c.down)) && ((((within c.value (0 : Int) (3 : Int)) && (within c.time (0 : Int) (30 : Int))) && (within c.proc (0 : Int) (2 : Int))) && ((decide ((0 : Int) < c.time)) || ((decide (c.value = (0 : Int))) && (decide (c.proc = (0 : Int))))))) && (decide ((((List.length c.marks) : Nat) : Int) ≤ (20 : Int)))) : Value) = .bool (validCopy c)) _ (by kernel_rfl) (congrArg Value.bool (by exact valid_impl (allN_true (fun j hj => hA j (by omega))))))
theorem ent38 : Entr prog 38 := ⟨_,func38,rfl,by decide⟩
end Go.Proofs.Try

namespace Go.Ab
open Go.RowKit Go.Shelf Go.Proofs
theorem elem_ints (l : List Int) (k : Nat) : (Dat.ints l).elem k = [.v (.int .i64 (l.getD k 0))] := rfl
end Go.Ab

namespace Go.Ab
open Go.RowKit Go.Shelf Go.Proofs
theorem clone_post {w w' : World} {T : Nat → Prop} {t : TypeId} {l : List Int} {v' : Value} (hown : w'.ownsRow w.heap.size t 1 v' l.length (l.map (Value.int .i64))) (hb : Below w.heap.size w w') :
  ∃ β', PostF w T none w' β' (.own 0 l.length) [(t, .ints l)] v' := by
 obtain ⟨_, h⟩ := hown
 rcases h with ⟨rfl, hn⟩ | ⟨g, cap, cur, rfl, hg, hcell, hlen, hcap, hsz, htake⟩
 ·refine ⟨fun k => if k = 0 then some .nil else none, hb.os, hb.tape, hb.output, hb.size, fun b hb' _ => hb.block b hb', ?_, ?_, ?_, ?_, ?_⟩
  ·simp only [Rep]; exact Or.inl ⟨rfl, hn, rfl⟩
  ·intro k c hk
   cases k with
   | succ k => simp [rowsHeap] at hk
   | zero =>
    simp only [rowsHeap, List.getElem?_cons_zero, Option.map_some, Option.some.injEq] at hk
    subst hk
    simp only [LocOK, CellsOK]
    exact .inl ⟨rfl, hn⟩
  ·intro k k' c c' g1 cap1 cap2 e1 e2 hb1 _
   by_cases hk : k = 0
   ·rw [hk] at hb1; simp at hb1
   ·rw [if_neg hk] at hb1; cases hb1
  ·intro k c g1 cap1 _ hb1
   by_cases hk : k = 0
   ·rw [hk] at hb1; simp at hb1
   ·rw [if_neg hk] at hb1; cases hb1
  ·intro k p hp
   by_cases hk : k = 0
   ·subst hk; simp
   ·rw [if_neg hk] at hp; cases hp
 ·refine ⟨fun k => if k = 0 then some (.blk g cap) else none, hb.os, hb.tape, hb.output, hb.size, fun b hb' _ => hb.block b hb', ?_, ?_, ?_, ?_, ?_⟩
  ·simp only [Rep, OwnRep]; exact .inr ⟨g, cap, rfl, hlen, rfl⟩
  ·intro k c hk
   cases k with
   | succ k => simp [rowsHeap] at hk
   | zero =>
    simp only [rowsHeap, List.getElem?_cons_zero, Option.map_some, Option.some.injEq] at hk
    subst hk
    simp only [LocOK, CellsOK]
    refine .inr ⟨g, cap, cur, rfl, hcell, hlen, hcap, hsz, ?_⟩
    intro k jj x hk hx
    have hk' : k < l.length := hk
    rw [elem_ints] at hx
    cases jj with
    | succ jj => simp at hx
    | zero =>
     simp only [List.getElem?_cons_zero, Option.some.injEq] at hx
     subst hx
     refine ⟨.int .i64 (l.getD k 0), ?_, by simp only [Rep]⟩
     have e1 : (cur.toList.take (l.length * 1))[k]? = some (.int .i64 (l.getD k 0)) := by
      rw [htake, List.getElem?_map, List.getElem?_eq_getElem hk']
      simp [List.getD_eq_getElem?_getD, hk']
     rw [List.getElem?_take, if_pos (by omega)] at e1
     simpa [Dat.esz] using e1
  ·intro k k' c c' g1 cap1 cap2 e1 e2 _ _
   cases k with
   | succ k => simp [rowsHeap] at e1
   | zero =>
    cases k' with
    | succ k' => simp [rowsHeap] at e2
    | zero => rfl
  ·intro k c g1 cap1 _ hb1
   by_cases hk : k = 0
   ·subst hk
    simp only [if_true, Option.some.injEq, Bl.blk.injEq] at hb1
    right; omega
   ·rw [if_neg hk] at hb1; cases hb1
  ·intro k p hp
   by_cases hk : k = 0
   ·subst hk; simp
   ·rw [if_neg hk] at hp; cases hp
theorem clone_core {P : Program} {ρ : Ren} (L : Lays2.n15 P ρ) (l : List Int) (hbig : l.length * 8 ≤ 140737488355328) (w : World) (T : Nat → Prop) (vals : List Value) (bC : Option Nat)
  (hargs : ArgsRep w T [.s .ints] [.sl (.ints l)] vals bC) :
  Calls P (ρ.f 15) vals.toArray w fun en w' => ∃ y β', en = .returned y ∧ PostF w T bC w' β' (.own 0 (List.length l)) [(ρ.t 3, .ints l)] y := by
 match vals, hargs with
 | [y0], h =>
  simp only [ArgsRep] at h
  obtain ⟨h1, rfl⟩ := h
  simp only [Rep, SlRep, FlatRep] at h1
  obtain ⟨a, c, rfl, hlc, hcm, hd⟩ := h1
  cases l with
  | nil =>
   cases a with
   | none =>
    refine (Any.slices_Clone_int_nil L 0 c w).mono ?_
    rintro e w' ⟨rfl, rfl⟩
    obtain ⟨β', h⟩ := clone_post (T := T) (t := ρ.t 3) (l := []) (World.ownsRow_nil w' w'.heap.size (ρ.t 3) 1) (Below.refl w'.heap.size w')
    exact ⟨_, β', rfl, h⟩
   | some ad =>
    refine (Any.slices_Clone_int_zero L ad c w).mono ?_
    rintro e w' ⟨v', rfl, hown, _, hb⟩
    obtain ⟨β', h⟩ := clone_post (T := T) (t := ρ.t 3) (l := []) hown hb
    exact ⟨_, β', rfl, h⟩
  | cons x0 l0 =>
   rcases hd with hd | ⟨ad, rfl, hT, hc⟩
   ·simp at hd
   ·have hcc : ∀ k, k < (x0 :: l0).length → w.cell? (ad.add k) = some (.int .i64 ((x0 :: l0).getD k 0)) := fun k hk => by
     have := hc k 0 _ hk (show ((Dat.ints (x0 :: l0)).flat k)[0]? = some (.int .i64 ((x0 :: l0).getD k 0)) from rfl)
     simpa using this
    obtain ⟨b, off, sp⟩ := ad
    cases sp with
    | some s0 =>
     have := hcc 0 (by simp)
     rw [Addr.add_zero'] at this
     unfold World.cell? at this
     simp at this
     split at this <;> cases this
    | none =>
     refine (Any.slices_Clone_int L b off (x0 :: l0).length c (x0 :: l0) w (Nat.le_refl _) hbig (fun j hj => by
      have := hcc j hj
      rwa [Addr.add_lit] at this)).mono ?_
     rintro e w' ⟨v', rfl, hown, _, hb⟩
     rw [List.take_length] at hown
     obtain ⟨β', h⟩ := clone_post (T := T) (t := ρ.t 3) (l := x0 :: l0) hown hb
     exact ⟨_, β', rfl, h⟩
theorem clone_ok {P : Program} {ρ : Ren} (L : Lays2.n15 P ρ) :
  FnOK P (ρ.f 15) (fnS [.s .ints] [.ints] (fun _ (l, _) => (.own 0 (List.length l), [(ρ.t 3, .ints l)], List.length l * 8 ≤ 140737488355328))) := by
 intro fl args r rows φ hg hφ w T vals bC hT hargs
 simp only [fnS] at hg
 split at hg
 ·rename_i a ha
  simp only [Option.some.injEq] at hg
  have hx := decL_encL ha
  subst hx
  obtain ⟨l, u⟩ := a
  simp only [Prod.mk.injEq] at hg
  obtain ⟨rfl, rfl, rfl⟩ := hg
  exact clone_core L l hφ w T vals bC hargs
 ·cases hg
end Go.Ab

set_option linter.unusedSimpArgs false
set_option linter.unusedVariables false
namespace Go.Proofs.Try
open Go.Ab Go.RowKit Go.Shelf Go.Proofs
def fs63 : FnS := fnS [.s .ints] [.ints] (fun _ (l,_) => (.own 0 l.length,[(3,.ints l)],(l.length * 8 ≤ 140737488355328)))
def ren15 : Go.Shelf.Ren := ⟨fun _ => 63,fun k => bif Nat.beq k 22 then 22 else bif Nat.beq k 3 then 3 else bif Nat.beq k 4 then 4 else k,fun k => k⟩
set_option maxRecDepth 100000 in
theorem lays15 : Lays2.n15 prog ren15 where
 mixed := by kernel_rfl
 f15 := by kernel_rfl
 t3 := underlying3
 a3 := isAgg3
 z3 := sizeOf3
 v3 := zeroValue3
 t4 := underlying4
 a4 := isAgg4
 z4 := sizeOf4
 v4 := zeroValue4
 t22 := underlying22
 a22 := isAgg22
 z22 := sizeOf22
 v22 := zeroValue22
 i3 := by kernel_rfl
theorem ok63 : FnOK prog 63 fs63 := clone_ok lays15
theorem ent63 : Entr prog 63 := ⟨_,func63,rfl,by decide⟩
end Go.Proofs.Try

set_option linter.unusedSimpArgs false
set_option linter.unusedVariables false
namespace Go.Proofs.Try
open Go.Ab Go.RowKit
def fs64 : FnS := fnS [.s .marks] [.marks] (fun _ (l,_) => (.own 0 l.length,[(50,.marks l)],(l.length ≤ 1000)))
abbrev T64 : Tab := lk []
theorem tab64 : TabOK prog T64 := TabOK.nil
set_option maxRecDepth 100000 in
set_option maxHeartbeats 1000000 in
theorem ok64 : FnOK prog 64 fs64 := by
 refine FnOK.mk cok func64 rfl rfl rfl ?_
 rintro fl ⟨(l : List MarkD),_⟩ hpre F hnt0 _
 have hnt : F.nt = 8 := hnt0.trans ntmps64
 replace hpre : (l.length ≤ 1000) := hpre
 have hl := hpre
 refine W.to (⟨[(0,.sl (.marks l))],[],[999]⟩) rfl ?_
 refine W.lenOf 0 (.marks l) (by kernel_rfl) ?_
 intro hl_l; replace hl_l : List.length l ≤ 9223372036854775807 := hl_l
 refine Kk cok tab64 hnt [] [0] (⟨[(0,.sl (.marks l))],[],[999]⟩)
  (True ∧ True)
  ⟨tt,tt⟩ ?_
 refine W.seq ?_
 refine W.seq (W.wi ?_)
 refine WI.runT cok tab64 hnt [] 1 1 (⟨[(0,.sl (.marks l)),(3,.sl (.marks l))],[],[999]⟩)
  (True ∧ True) (by kernel_rfl) rfl
  ⟨tt,tt⟩ ?_
 refine WI.nilEq 27 27 (.marks l) cok rfl hnt (wanted_none rfl) rfl (by kernel_rfl) (.inr (.inl rfl)) rfl rfl ?_
 intro b4 hb4
 replace hb4 : b4 = true → List.length l = 0 := hb4
 refine WI.to (⟨[(0,.sl (.marks l)),(3,.sl (.marks l)),(4,.b b4)],[],[999]⟩) 2 (by kernel_rfl) rfl ?_
 refine WI.nil rfl (thenQ_normal ?_)
 refine W.keepE [0,4] [(0,.sl (.marks l)),(4,.b b4)] (by kernel_rfl) ?_
 refine W.to (⟨[(0,.sl (.marks l)),(4,.b b4)],[],[999]⟩) rfl ?_
 refine W.if' b4 (.b b4) (by kernel_rfl) rfl trivial ?_ ?_
 ·intro h4
  refine Kk cok tab64 hnt [] [2] (⟨[(2,.v (.slice none 0 0))],[],[999]⟩)
   (True ∧ True)
   ⟨tt,tt⟩ ?_
  refine W.nilOwn 2 815 none 50 (.marks ([] : List MarkD)) (.v (.slice none 0 0)) (.own 815 0) (⟨[(2,.own 815 0)],[(815,⟨50,.row (.marks ([] : List MarkD))⟩)],[815,999]⟩) (by kernel_rfl) (by kernel_rfl) (by kernel_rfl) (by kernel_rfl) (by kernel_rfl) ?_
  refine W.ret (thenQ_ret ?_)
  exact endQ_rows [(0,815)] (.own 815 0) (by kernel_rfl) (@cast (((815 : Nat) = 815) ∧ (0 = l.length) ∧ ((0 : Nat) ∈ ([0] : List Nat))) _ (by kernel_rfl) ⟨rfl,(by first | rfl | omega | assumption | (symm; assumption) | (exact congrArg List.length (by exact (List.length_eq_zero_iff.1 (hb4 h4)).symm)) | (exact (List.length_eq_zero_iff.1 (hb4 h4)).symm; done) | simp | simp_all),(by decide)⟩) (@cast ((((50 : Nat) = 50) ∧ ((.marks ([] : List MarkD) : Dat) = .marks l) ∧ ((0 : Nat) ∈ ([0] : List Nat))) ∧ True) _ (by kernel_rfl) ⟨⟨rfl,(congrArg Dat.marks (by exact (List.length_eq_zero_iff.1 (hb4 h4)).symm)),(by decide)⟩,tt⟩) (by kernel_rfl)
 ·intro n4
  refine W.skip (thenQ_normal ?_)
  refine Kk cok tab64 hnt [5,7] [2] (⟨[(2,.own 7 l.length)],[(7,⟨50,.row (.marks l)⟩)],[7,5,999]⟩)
   (True ∧ True ∧ ((True ∧ ((List.length ([] : List MarkD)) = (List.length ([] : List MarkD)))) ∧ True ∧ (((List.length ([] : List MarkD)) + l.length) * 32 ≤ 140737488355328)) ∧ True ∧ True)
   ⟨tt,tt,⟨⟨tt,rfl⟩,tt,(by (try simp only [List.length_append,List.length_cons,List.length_nil,List.length_set]); omega)⟩,tt,tt⟩ ?_
  refine W.ret ?_
  exact endQ_rows [(0,7)] (.own 7 l.length) (by kernel_rfl) (@cast (((7 : Nat) = 7) ∧ (l.length = l.length) ∧ ((0 : Nat) ∈ ([0] : List Nat))) _ (by kernel_rfl) ⟨rfl,rfl,(by decide)⟩) (@cast ((((50 : Nat) = 50) ∧ (Sd (.marks l)) ∧ ((0 : Nat) ∈ ([0] : List Nat))) ∧ True) _ (by kernel_rfl) ⟨⟨rfl,rfl,(by decide)⟩,tt⟩) (by kernel_rfl)
theorem ent64 : Entr prog 64 := ⟨_,func64,rfl,by decide⟩
end Go.Proofs.Try

set_option linter.unusedSimpArgs false
set_option linter.unusedVariables false
namespace Go.Proofs.Try
open Go.Ab Go.RowKit
def fs39 : FnS := fnS [.a [some .ints,some .ints,none,none,none,some .marks]] [.copy] (fun _ (c,_) => (.agg [.own 0 (List.length c.up),.own 1 (List.length c.down),.i c.value,.i c.time,.i c.proc,.own 2 (List.length c.marks)],[(3,.ints c.up),(3,.ints c.down),(50,.marks c.marks)],(c.up.length ≤ 1000 ∧ c.down.length ≤ 1000 ∧ c.marks.length ≤ 1000)))
abbrev T39 : Tab := lk [(63,fs63),(64,fs64)]
theorem tab39 : TabOK prog T39 := (TabOK.cons ok63 ent63 (TabOK.cons ok64 ent64 TabOK.nil))
set_option maxRecDepth 100000 in
set_option maxHeartbeats 1000000 in
theorem ok39 : FnOK prog 39 fs39 := by
 refine FnOK.mk cok func39 rfl rfl rfl ?_
 rintro fl ⟨(c : CopyD),_⟩ hpre F hnt0 _
 have hnt : F.nt = 16 := hnt0.trans ntmps39
 replace hpre : (c.up.length ≤ 1000 ∧ c.down.length ≤ 1000 ∧ c.marks.length ≤ 1000) := hpre
 have hs := hpre
 refine W.to (⟨[(0,.agg (cC c))],[],[999]⟩) rfl ?_
 refine W.lenA 0 0 (cC c) (.ints c.up) (by kernel_rfl) (by kernel_rfl) ?_
 intro hl_c_up; replace hl_c_up : List.length c.up ≤ 9223372036854775807 := hl_c_up
 refine W.lenA 0 1 (cC c) (.ints c.down) (by kernel_rfl) (by kernel_rfl) ?_
 intro hl_c_down; replace hl_c_down : List.length c.down ≤ 9223372036854775807 := hl_c_down
 refine W.lenA 0 5 (cC c) (.marks c.marks) (by kernel_rfl) (by kernel_rfl) ?_
 intro hl_c_marks; replace hl_c_marks : List.length c.marks ≤ 9223372036854775807 := hl_c_marks
 refine Kk cok tab39 hnt [] [1,2] (⟨[(1,.ptr 1 0),(2,.ptr 2 0)],[(1,⟨29,.fix (cC c)⟩),(2,⟨29,.fix [.v (.slice none 0 0),.v (.slice none 0 0),.i (0 : Int),.i (0 : Int),.i (0 : Int),.v (.slice none 0 0)]⟩)],[2,1,999]⟩)
  (True ∧ True ∧ True)
  ⟨tt,tt,tt⟩ ?_
 refine W.KA cok tab39 hnt [5,8,11] [1,2] (⟨[(1,.ptr 1 0),(2,.ptr 2 0)],[(1,⟨29,.fix [.own 5 (List.length c.up),.own 8 (List.length c.down),.i c.value,.i c.time,.i c.proc,.own 11 (List.length c.marks)]⟩),(2,⟨29,.fix [.v (.slice none 0 0),.v (.slice none 0 0),.i (0 : Int),.i (0 : Int),.i (0 : Int),.v (.slice none 0 0)]⟩),(5,⟨3,.row (.ints c.up)⟩),(8,⟨3,.row (.ints c.down)⟩),(11,⟨50,.row (.marks c.marks)⟩)],[11,8,5,2,1,999]⟩)
  (True ∧ True ∧ (True ∧ (True ∧ True) ∧ (c.up.length * 8 ≤ 140737488355328)) ∧ True ∧ True ∧ (True ∧ (True ∧ True) ∧ (c.down.length * 8 ≤ 140737488355328)) ∧ True ∧ True ∧ (True ∧ (True ∧ True) ∧ (c.marks.length ≤ 1000)) ∧ True ∧ (True ∧ True) ∧ True ∧ (True ∧ True) ∧ True ∧ (True ∧ True) ∧ True) (by kernel_rfl) (by kernel_rfl)
  ⟨tt,tt,⟨tt,⟨tt,tt⟩,(by omega)⟩,tt,tt,⟨tt,⟨tt,tt⟩,(by omega)⟩,tt,tt,⟨tt,⟨tt,tt⟩,(by omega)⟩,tt,⟨tt,tt⟩,tt,⟨tt,tt⟩,tt,⟨tt,tt⟩,tt⟩ ?_
 refine Kk cok tab39 hnt [] [2] (⟨[(2,.ptr 2 0)],[(1,⟨29,.fix [.own 5 (List.length c.up),.own 8 (List.length c.down),.i c.value,.i c.time,.i c.proc,.own 11 (List.length c.marks)]⟩),(2,⟨29,.fix [.own 5 (List.length c.up),.own 8 (List.length c.down),.i c.value,.i c.time,.i c.proc,.own 11 (List.length c.marks)]⟩),(5,⟨3,.row (.ints c.up)⟩),(8,⟨3,.row (.ints c.down)⟩),(11,⟨50,.row (.marks c.marks)⟩)],[11,8,5,2,1,999]⟩)
  (True ∧ (True ∧ True) ∧ True)
  ⟨tt,⟨tt,tt⟩,tt⟩ ?_
 refine W.ret ?_
 exact endQ_rows [(0,5),(1,8),(2,11)] (.agg [.own 5 (List.length c.up),.own 8 (List.length c.down),.i c.value,.i c.time,.i c.proc,.own 11 (List.length c.marks)]) (by kernel_rfl) (@cast ((((5 : Nat) = 5) ∧ ((List.length c.up) = (List.length c.up)) ∧ ((0 : Nat) ∈ ([0,1,2] : List Nat))) ∧ (((8 : Nat) = 8) ∧ ((List.length c.down) = (List.length c.down)) ∧ ((1 : Nat) ∈ ([0,1,2] : List Nat))) ∧ (Si c.value) ∧ (Si c.time) ∧ (Si c.proc) ∧ (((11 : Nat) = 11) ∧ ((List.length c.marks) = (List.length c.marks)) ∧ ((2 : Nat) ∈ ([0,1,2] : List Nat))) ∧ True) _ (by kernel_rfl) ⟨⟨rfl,rfl,(by decide)⟩,⟨rfl,rfl,(by decide)⟩,rfl,rfl,rfl,⟨rfl,rfl,(by decide)⟩,tt⟩) (@cast ((((3 : Nat) = 3) ∧ (Sd (.ints c.up)) ∧ ((0 : Nat) ∈ ([0,1,2] : List Nat))) ∧ (((3 : Nat) = 3) ∧ (Sd (.ints c.down)) ∧ ((1 : Nat) ∈ ([0,1,2] : List Nat))) ∧ (((50 : Nat) = 50) ∧ (Sd (.marks c.marks)) ∧ ((2 : Nat) ∈ ([0,1,2] : List Nat))) ∧ True) _ (by kernel_rfl) ⟨⟨rfl,rfl,(by decide)⟩,⟨rfl,rfl,(by decide)⟩,⟨rfl,rfl,(by decide)⟩,tt⟩) (by kernel_rfl)
theorem ent39 : Entr prog 39 := ⟨_,func39,rfl,by decide⟩
end Go.Proofs.Try

set_option linter.unusedSimpArgs false
set_option linter.unusedVariables false
namespace Go.Proofs.Try
open Go.Ab Go.RowKit
def fs55 : FnS := fnS [.s .marks,.o,.o] [.marks,.mark,(.fn0 56)] (fun _ (l,mm,(),_) => (.tup [.i ((bsPos l mm : Nat) : Int),.b (bsFound l mm)],[],(sortedM l) ∧ (l.length ≤ 1000)))
abbrev T55 : Tab := lk [(56,fs56)]
theorem tab55 : TabOK prog T55 := (TabOK.cons ok56 ent56 TabOK.nil)
set_option maxRecDepth 100000 in
set_option maxHeartbeats 1000000 in
theorem ok55 : FnOK prog 55 fs55 := by
 refine FnOK.mk cok func55 rfl rfl rfl ?_
 rintro fl ⟨(l : List MarkD),(mm : MarkD),⟨⟩,_⟩ hpre F hnt0 _
 have hnt : F.nt = 49 := hnt0.trans ntmps55
 replace hpre : (sortedM l) ∧ (l.length ≤ 1000) := hpre
 obtain ⟨hs,hl⟩ := hpre
 refine W.to (⟨[(0,.sl (.marks l)),(1,.agg [.i mm.value,.i mm.proc,.i mm.number,.b mm.gone]),(2,.fn 56 [])],[],[999]⟩) rfl ?_
 refine W.lenOf 0 (.marks l) (by kernel_rfl) ?_
 intro hl_l; replace hl_l : List.length l ≤ 9223372036854775807 := hl_l
 refine Kk cok tab55 hnt [] [0,2,4] (⟨[(0,.sl (.marks l)),(2,.fn 56 []),(4,.ptr 4 0)],[(4,⟨50,.fix [.i mm.value,.i mm.proc,.i mm.number,.b mm.gone]⟩)],[4,999]⟩)
  (True ∧ True ∧ True ∧ True)
  ⟨tt,tt,tt,tt⟩ ?_
 refine Kk cok tab55 hnt [] [0,2,4,8] (⟨[(0,.sl (.marks l)),(2,.fn 56 []),(4,.ptr 4 0),(8,.i (l.length : Int))],[(4,⟨50,.fix [.i mm.value,.i mm.proc,.i mm.number,.b mm.gone]⟩)],[4,999]⟩)
  (True ∧ True ∧ True ∧ True)
  ⟨tt,tt,tt,tt⟩ ?_
 refine Kk cok tab55 hnt [] [0,2,4,8,9,10] (⟨[(0,.sl (.marks l)),(2,.fn 56 []),(4,.ptr 4 0),(8,.i (l.length : Int)),(9,.i (0 : Int)),(10,.i (l.length : Int))],[(4,⟨50,.fix [.i mm.value,.i mm.proc,.i mm.number,.b mm.gone]⟩)],[4,999]⟩)
  (True ∧ True ∧ True ∧ True)
  ⟨tt,tt,tt,tt⟩ ?_
 refine W.seq ?_
 refine W.block ?_
 refine W.loop (ι := Int × Int) (fun (x : Int × Int) => match x with | (i,j) => (⟨[(0,.sl (.marks l)),(2,.fn 56 []),(4,.ptr 4 0),(8,.i (l.length : Int)),(9,.i i),(10,.i j)],[(4,⟨50,.fix [.i mm.value,.i mm.proc,.i mm.number,.b mm.gone]⟩)],[4,999]⟩ : St))
  (fun (x : Int × Int) => match x with | (i,j) => (0 ≤ i ∧ i ≤ j ∧ j ≤ (l.length : Int)) ∧ (∀ q : Nat,((q : Nat) : Int) < i → lessM (l.getD q default) mm = true) ∧ (∀ q : Nat,j ≤ ((q : Nat) : Int) → q < l.length → lessM (l.getD q default) mm = false))
  (fun (x : Int × Int) => match x with | (i,j) => ((j - i).toNat : Nat)) ((0 : Int),(l.length : Int)) ?_ ?_ ?_
 ·exact (show (0 ≤ (0 : Int) ∧ (0 : Int) ≤ (l.length : Int) ∧ (l.length : Int) ≤ (l.length : Int)) ∧ (∀ q : Nat,((q : Nat) : Int) < (0 : Int) → lessM (l.getD q default) mm = true) ∧ (∀ q : Nat,(l.length : Int) ≤ ((q : Nat) : Int) → q < l.length → lessM (l.getD q default) mm = false) from ⟨(by first | assumption | omega | rfl | (intro _ hjj; omega) | (simp; done) | (simp; omega)),(by intro q hq; omega),(by intro q hq hl; omega)⟩)
 ·exact Sub.of [] (@cast (((Sd (.marks l)) ∧ (((56 : Nat) = 56) ∧ True) ∧ (((4 : Nat) = 4) ∧ ((0 : Nat) = 0) ∧ ((4 : Nat) ∈ ([4,999] : List Nat))) ∧ (Si (l.length : Int)) ∧ (Si (0 : Int)) ∧ (Si (l.length : Int)) ∧ True) ∧ ((((50 : Nat) = 50) ∧ ((Si mm.value) ∧ (Si mm.proc) ∧ (Si mm.number) ∧ (Sv (.bool mm.gone)) ∧ True) ∧ ((4 : Nat) ∈ ([4,999] : List Nat))) ∧ True) ∧ (true = true) ∧ (true = true)) _ (by kernel_rfl) ⟨⟨rfl,⟨rfl,tt⟩,⟨rfl,rfl,(by decide)⟩,rfl,rfl,rfl,tt⟩,⟨⟨rfl,⟨rfl,rfl,rfl,rfl,tt⟩,(by decide)⟩,tt⟩,rfl,rfl⟩)
 ·rintro ⟨i,j⟩ hC0
  have hC : (0 ≤ i ∧ i ≤ j ∧ j ≤ (l.length : Int)) ∧ (∀ q : Nat,((q : Nat) : Int) < i → lessM (l.getD q default) mm = true) ∧ (∀ q : Nat,j ≤ ((q : Nat) : Int) → q < l.length → lessM (l.getD q default) mm = false) := hC0
  clear hC0
  obtain ⟨hij,hA,hB⟩ := hC
  refine W.to (⟨[(0,.sl (.marks l)),(2,.fn 56 []),(4,.ptr 4 0),(8,.i (l.length : Int)),(9,.i i),(10,.i j)],[(4,⟨50,.fix [.i mm.value,.i mm.proc,.i mm.number,.b mm.gone]⟩)],[4,999]⟩) rfl ?_
  have hmid := shr_half (x := i + j) (by omega) (by omega)
  refine W.seq ?_
  refine Kk cok tab55 hnt [] [0,2,4,8,9,10,17] (⟨[(0,.sl (.marks l)),(2,.fn 56 []),(4,.ptr 4 0),(8,.i (l.length : Int)),(9,.i i),(10,.i j),(17,.b (decide (i < j)))],[(4,⟨50,.fix [.i mm.value,.i mm.proc,.i mm.number,.b mm.gone]⟩)],[4,999]⟩)
   (True ∧ True ∧ (True ∧ True ∧ True) ∧ True)
   ⟨tt,tt,⟨tt,tt,tt⟩,tt⟩ ?_
  refine W.ifP (i < j) (.b (decide (i < j))) (by kernel_rfl) rfl trivial ?_ ?_
  ·intro h17
   refine W.skip (thenQ_normal ?_)
   refine W.block ?_
   refine Kk cok tab55 hnt [] [0,2,4,8,9,10,11] (⟨[(0,.sl (.marks l)),(2,.fn 56 []),(4,.ptr 4 0),(8,.i (l.length : Int)),(9,.i i),(10,.i j),(11,.i (shrI .u64 (i + j) (1 : Int)))],[(4,⟨50,.fix [.i mm.value,.i mm.proc,.i mm.number,.b mm.gone]⟩)],[4,999]⟩)
    (True ∧ True ∧ (True ∧ True ∧ (Fits .i64 (i + j))) ∧ (True ∧ (Fits .u64 (i + j))) ∧ (True ∧ True ∧ (0 ≤ (1 : Int))) ∧ (True ∧ (Fits .i64 (shrI .u64 (i + j) (1 : Int)))) ∧ True ∧ True)
    ⟨tt,tt,⟨tt,tt,(by exact fits_i64 (by omega) (by omega))⟩,⟨tt,(by exact fits_u64 (by omega) (by omega))⟩,⟨tt,tt,(by omega)⟩,⟨tt,(by exact fits_i64 (by omega) (by omega))⟩,tt,tt⟩ ?_
   refine W.KA cok tab55 hnt [] [0,2,4,8,9,10,11,31] (⟨[(0,.sl (.marks l)),(2,.fn 56 []),(4,.ptr 4 0),(8,.i (l.length : Int)),(9,.i i),(10,.i j),(11,.i (shrI .u64 (i + j) (1 : Int))),(31,.b (decide ((cmpM (l.getD (Int.toNat (shrI .u64 (i + j) (1 : Int))) default) mm) < (0 : Int))))],[(4,⟨50,.fix [.i mm.value,.i mm.proc,.i mm.number,.b mm.gone]⟩)],[4,999]⟩)
    (True ∧ True ∧ True ∧ (True ∧ True ∧ (0 ≤ (shrI .u64 (i + j) (1 : Int))) ∧ ((shrI .u64 (i + j) (1 : Int)) < (l.length : Int))) ∧ True ∧ True ∧ (True ∧ (True ∧ True ∧ True) ∧ True) ∧ (True ∧ True ∧ True) ∧ True) (by kernel_rfl) (by kernel_rfl)
    ⟨tt,tt,tt,⟨tt,tt,(by omega),(by omega)⟩,tt,tt,⟨tt,⟨tt,tt,tt⟩,tt⟩,⟨tt,tt,tt⟩,tt⟩ ?_
   refine W.ifP ((cmpM (l.getD (Int.toNat (shrI .u64 (i + j) (1 : Int))) default) mm) < (0 : Int)) (.b (decide ((cmpM (l.getD (Int.toNat (shrI .u64 (i + j) (1 : Int))) default) mm) < (0 : Int)))) (by kernel_rfl) rfl trivial ?_ ?_
   ·intro h31
    refine Lk cok tab55 hnt [] (⟨[(0,.sl (.marks l)),(2,.fn 56 []),(4,.ptr 4 0),(8,.i (l.length : Int)),(9,.i ((shrI .u64 (i + j) (1 : Int)) + (1 : Int))),(10,.i j),(11,.i (shrI .u64 (i + j) (1 : Int))),(31,.b (decide ((cmpM (l.getD (Int.toNat (shrI .u64 (i + j) (1 : Int))) default) mm) < (0 : Int)))),(32,.i (shrI .u64 (i + j) (1 : Int))),(33,.i ((shrI .u64 (i + j) (1 : Int)) + (1 : Int)))],[(4,⟨50,.fix [.i mm.value,.i mm.proc,.i mm.number,.b mm.gone]⟩)],[4,999]⟩)
     (True ∧ (True ∧ True ∧ (Fits .i64 ((shrI .u64 (i + j) (1 : Int)) + (1 : Int)))) ∧ True ∧ True)
     ⟨tt,⟨tt,tt,(by exact fits_i64 (by omega) (by omega))⟩,tt,tt⟩ ?_
    refine blockQ_normal (thenQ_normal ?_)
    refine ⟨(((shrI .u64 (i + j) (1 : Int)) + (1 : Int)),j),(show (0 ≤ ((shrI .u64 (i + j) (1 : Int)) + (1 : Int)) ∧ ((shrI .u64 (i + j) (1 : Int)) + (1 : Int)) ≤ j ∧ j ≤ (l.length : Int)) ∧ (∀ q : Nat,((q : Nat) : Int) < ((shrI .u64 (i + j) (1 : Int)) + (1 : Int)) → lessM (l.getD q default) mm = true) ∧ (∀ q : Nat,j ≤ ((q : Nat) : Int) → q < l.length → lessM (l.getD q default) mm = false) from ⟨(by first | assumption | omega | rfl | (intro _ hjj; omega) | (simp; done) | (simp; omega)),(by first | assumption | exact bs_stepA hs (by omega) (by omega) h31),(by first | assumption | exact bs_stepB hs (by omega) n31)⟩),(show (j - ((shrI .u64 (i + j) (1 : Int)) + (1 : Int))).toNat < (j - i).toNat from (by omega)),?_⟩
    exact Sub.of [] (@cast (((Sd (.marks l)) ∧ (((56 : Nat) = 56) ∧ True) ∧ (((4 : Nat) = 4) ∧ ((0 : Nat) = 0) ∧ ((4 : Nat) ∈ ([4,999] : List Nat))) ∧ (Si (l.length : Int)) ∧ (Si ((shrI .u64 (i + j) (1 : Int)) + (1 : Int))) ∧ (Si j) ∧ True) ∧ ((((50 : Nat) = 50) ∧ ((Si mm.value) ∧ (Si mm.proc) ∧ (Si mm.number) ∧ (Sv (.bool mm.gone)) ∧ True) ∧ ((4 : Nat) ∈ ([4,999] : List Nat))) ∧ True) ∧ (true = true) ∧ (true = true)) _ (by kernel_rfl) ⟨⟨rfl,⟨rfl,tt⟩,⟨rfl,rfl,(by decide)⟩,rfl,rfl,rfl,tt⟩,⟨⟨rfl,⟨rfl,rfl,rfl,rfl,tt⟩,(by decide)⟩,tt⟩,rfl,rfl⟩)
   ·intro n31
    refine Lk cok tab55 hnt [] (⟨[(0,.sl (.marks l)),(2,.fn 56 []),(4,.ptr 4 0),(8,.i (l.length : Int)),(9,.i i),(10,.i (shrI .u64 (i + j) (1 : Int))),(11,.i (shrI .u64 (i + j) (1 : Int))),(31,.b (decide ((cmpM (l.getD (Int.toNat (shrI .u64 (i + j) (1 : Int))) default) mm) < (0 : Int)))),(34,.i (shrI .u64 (i + j) (1 : Int)))],[(4,⟨50,.fix [.i mm.value,.i mm.proc,.i mm.number,.b mm.gone]⟩)],[4,999]⟩)
     (True ∧ True ∧ True)
     ⟨tt,tt,tt⟩ ?_
    refine blockQ_normal (thenQ_normal ?_)
    refine ⟨(i,(shrI .u64 (i + j) (1 : Int))),(show (0 ≤ i ∧ i ≤ (shrI .u64 (i + j) (1 : Int)) ∧ (shrI .u64 (i + j) (1 : Int)) ≤ (l.length : Int)) ∧ (∀ q : Nat,((q : Nat) : Int) < i → lessM (l.getD q default) mm = true) ∧ (∀ q : Nat,(shrI .u64 (i + j) (1 : Int)) ≤ ((q : Nat) : Int) → q < l.length → lessM (l.getD q default) mm = false) from ⟨(by first | assumption | omega | rfl | (intro _ hjj; omega) | (simp; done) | (simp; omega)),(by first | assumption | exact bs_stepA hs (by omega) (by omega) h31),(by first | assumption | exact bs_stepB hs (by omega) n31)⟩),(show ((shrI .u64 (i + j) (1 : Int)) - i).toNat < (j - i).toNat from (by omega)),?_⟩
    exact Sub.of [] (@cast (((Sd (.marks l)) ∧ (((56 : Nat) = 56) ∧ True) ∧ (((4 : Nat) = 4) ∧ ((0 : Nat) = 0) ∧ ((4 : Nat) ∈ ([4,999] : List Nat))) ∧ (Si (l.length : Int)) ∧ (Si i) ∧ (Si (shrI .u64 (i + j) (1 : Int))) ∧ True) ∧ ((((50 : Nat) = 50) ∧ ((Si mm.value) ∧ (Si mm.proc) ∧ (Si mm.number) ∧ (Sv (.bool mm.gone)) ∧ True) ∧ ((4 : Nat) ∈ ([4,999] : List Nat))) ∧ True) ∧ (true = true) ∧ (true = true)) _ (by kernel_rfl) ⟨⟨rfl,⟨rfl,tt⟩,⟨rfl,rfl,(by decide)⟩,rfl,rfl,rfl,tt⟩,⟨⟨rfl,⟨rfl,rfl,rfl,rfl,tt⟩,(by decide)⟩,tt⟩,rfl,rfl⟩)
  ·intro n17
   refine W.exit (thenQ_exit (thenQ_exit (blockQ_hit ?_)))
   refine thenQ_normal ?_
   refine W.KA cok tab55 hnt [] [6,7] (⟨[(6,.i i),(7,.b ((decide (i < (l.length : Int))) && (decide ((cmpM (l.getD (Int.toNat i) default) mm) = (0 : Int)))))],[(4,⟨50,.fix [.i mm.value,.i mm.proc,.i mm.number,.b mm.gone]⟩)],[4,999]⟩)
    ((fun (Z1:Bool)=>(True ∧ (True ∧ (True ∧ ((True ∧ (True ∧ True)) ∧ (True ∧ ((Z1 = true → True) ∧ ((Z1 = true → True) ∧ ((Z1 = true → True) ∧ ((Z1 = true → (((Z1 = true) ∧ True) ∧ (((Z1 = true) ∧ True) ∧ ((0 ≤ i) ∧ (i < (l.length : Int)))))) ∧ ((Z1 = true → ((Z1 = true) ∧ True)) ∧ ((Z1 = true → True) ∧ ((Z1 = true → (((Z1 = true) ∧ True) ∧ ((((Z1 = true) ∧ True) ∧ (((Z1 = true) ∧ True) ∧ True)) ∧ True))) ∧ ((Z1 = true → (((Z1 = true) ∧ True) ∧ (True ∧ True))) ∧ ((True ∧ ((Z1 = true → (Z1 = true) ∧ True) ∧ (Z1 = false → True))) ∧ (True ∧ (True ∧ True))))))))))))))))) (decide (i < (l.length : Int)))) (by kernel_rfl) (by kernel_rfl)
    ⟨tt,tt,tt,⟨tt,tt,tt⟩,tt,(fun _ => trivial),(fun _ => trivial),(fun _ => trivial),(fun hG => ⟨⟨hG,tt⟩,⟨hG,tt⟩,(by have hg0 : i < (l.length : Int) := of_decide_eq_true hG; omega),(by have hg0 : i < (l.length : Int) := of_decide_eq_true hG; omega)⟩),(fun hG => ⟨hG,tt⟩),(fun _ => trivial),(fun hG => ⟨⟨hG,tt⟩,⟨⟨hG,tt⟩,⟨hG,tt⟩,tt⟩,tt⟩),(fun hG => ⟨⟨hG,tt⟩,tt,tt⟩),⟨tt,(fun hp => ⟨hp,tt⟩),(fun _ => trivial)⟩,tt,tt,tt⟩ ?_
   refine W.ret ?_
   exact endQ_ret (.tup [.i i,.b ((decide (i < (l.length : Int))) && (decide ((cmpM (l.getD (Int.toNat i) default) mm) = (0 : Int))))]) (by kernel_rfl) (@cast (((.int .i64 i : Value) = .int .i64 ((bsPos l mm : Nat) : Int)) ∧ ((.bool ((decide (i < (l.length : Int))) && (decide ((cmpM (l.getD (Int.toNat i) default) mm) = (0 : Int)))) : Value) = .bool (bsFound l mm)) ∧ True) _ (by kernel_rfl) ⟨(congrArg (Value.int .i64) (by first | exact (bs_end hij.1 (by omega) (by omega) hA hB).1 | exact (bs_end hij.1 (by omega) (by omega) hA hB).2)),(congrArg Value.bool (by first | exact (bs_end hij.1 (by omega) (by omega) hA hB).1 | exact (bs_end hij.1 (by omega) (by omega) hA hB).2)),tt⟩)
theorem ent55 : Entr prog 55 := ⟨_,func55,rfl,of_decide_eq_true (by kernel_rfl)⟩
end Go.Proofs.Try

set_option linter.unusedSimpArgs false
set_option linter.unusedVariables false
namespace Go.Proofs.Try
open Go.Ab Go.RowKit
abbrev T48 : Tab := lk [(66,fs66),(67,fs67)]
theorem tab48 : TabOK prog T48 := (TabOK.cons ok66 ent66 (TabOK.cons ok67 ent67 TabOK.nil))
theorem ent48 : Entr prog 48 := ⟨_,func48,rfl,by decide⟩
set_option maxRecDepth 100000 in
set_option maxHeartbeats 1000000 in
theorem hok48 : ∀ (cu : List Int) (cd : List Int) (cv : Int) (ct : Int) (cp : Int) (cm : List MarkD) (value : Int) (time : Int) (pp : Int),(True) → HOK prog 48 [910,911,912,913] [.ptr 910 0,.i value,.i time,.i pp] [(910,⟨29,.fix [.own 911 cu.length,.own 912 cd.length,.i cv,.i ct,.i cp,.own 913 cm.length]⟩),(911,⟨3,.row (.ints cu)⟩),(912,⟨3,.row (.ints cd)⟩),(913,⟨50,.row (.marks cm)⟩)] [910,911,912,913] (fun r s1 u1 => r = (.tup []) ∧ s1 = ([(910,⟨29,.fix [.own 911 cu.length,.own 912 cd.length,.i (bif newerC (⟨cu,cd,value,time,pp,cm⟩ : CopyD) (⟨cu,cd,cv,ct,cp,cm⟩ : CopyD) then value else cv),.i (bif newerC (⟨cu,cd,value,time,pp,cm⟩ : CopyD) (⟨cu,cd,cv,ct,cp,cm⟩ : CopyD) then time else ct),.i (bif newerC (⟨cu,cd,value,time,pp,cm⟩ : CopyD) (⟨cu,cd,cv,ct,cp,cm⟩ : CopyD) then pp else cp),.own 913 cm.length]⟩),(911,⟨3,.row (.ints cu)⟩),(912,⟨3,.row (.ints cd)⟩),(913,⟨50,.row (.marks cm)⟩)]) ∧ u1 = ([910,911,912,913])) := by
 intro cu cd cv ct cp cm value time pp hpre
 refine HOK.of cok func48 rfl rfl rfl ?_
 intro F hnt0
 have hnt : F.nt = 41 := hnt0.trans ntmps48
 refine W.to (⟨[(0,.ptr 910 0),(1,.i value),(2,.i time),(3,.i pp)],[(910,⟨29,.fix [.own 911 cu.length,.own 912 cd.length,.i cv,.i ct,.i cp,.own 913 cm.length]⟩),(911,⟨3,.row (.ints cu)⟩),(912,⟨3,.row (.ints cd)⟩),(913,⟨50,.row (.marks cm)⟩)],[910,911,912,913]⟩) rfl ?_
 refine W.KA cok tab48 hnt [] [0,1,2,3,28] (⟨[(0,.ptr 910 0),(1,.i value),(2,.i time),(3,.i pp),(28,.b (decide ((0 : Int) < (orI ([(cmpI time ct),(cmpI pp cp),(cmpI value cv)])))))],[(910,⟨29,.fix [.own 911 cu.length,.own 912 cd.length,.i cv,.i ct,.i cp,.own 913 cm.length]⟩),(911,⟨3,.row (.ints cu)⟩),(912,⟨3,.row (.ints cd)⟩),(913,⟨50,.row (.marks cm)⟩)],[26,910,911,912,913]⟩)
  (True ∧ True ∧ True ∧ True ∧ True ∧ (True ∧ (True ∧ True ∧ True) ∧ True) ∧ True ∧ True ∧ True ∧ True ∧ True ∧ (True ∧ (True ∧ True ∧ True) ∧ True) ∧ True ∧ True ∧ True ∧ True ∧ True ∧ (True ∧ (True ∧ True ∧ True) ∧ True) ∧ (True ∧ True ∧ True ∧ True) ∧ (True ∧ (True ∧ True) ∧ True) ∧ (True ∧ True ∧ True) ∧ True) (by kernel_rfl) (by kernel_rfl)
  ⟨tt,tt,tt,tt,tt,⟨tt,⟨tt,tt,tt⟩,tt⟩,tt,tt,tt,tt,tt,⟨tt,⟨tt,tt,tt⟩,tt⟩,tt,tt,tt,tt,tt,⟨tt,⟨tt,tt,tt⟩,tt⟩,⟨tt,tt,tt,tt⟩,⟨tt,⟨tt,tt⟩,tt⟩,⟨tt,tt,tt⟩,tt⟩ ?_
 refine W.ifP ((0 : Int) < (orI ([(cmpI time ct),(cmpI pp cp),(cmpI value cv)]))) (.b (decide ((0 : Int) < (orI ([(cmpI time ct),(cmpI pp cp),(cmpI value cv)]))))) (by kernel_rfl) rfl trivial ?_ ?_
 ·intro h28
  refine Lk cok tab48 hnt [] (⟨[(0,.ptr 910 0),(1,.i value),(2,.i time),(3,.i pp),(28,.b (decide ((0 : Int) < (orI ([(cmpI time ct),(cmpI pp cp),(cmpI value cv)]))))),(29,.ptr 910 0),(30,.ptr 910 0),(31,.ptr 910 0),(32,.i value),(33,.i time),(34,.i pp),(35,.ptr 910 0),(36,.ptr 910 2),(37,.ptr 910 0),(38,.ptr 910 3),(39,.ptr 910 0),(40,.ptr 910 4)],[(910,⟨29,.fix [.own 911 cu.length,.own 912 cd.length,.i value,.i time,.i pp,.own 913 cm.length]⟩),(911,⟨3,.row (.ints cu)⟩),(912,⟨3,.row (.ints cd)⟩),(913,⟨50,.row (.marks cm)⟩)],[26,910,911,912,913]⟩)
   (True ∧ True ∧ True ∧ True ∧ True ∧ True ∧ True ∧ True ∧ (True ∧ True) ∧ True ∧ True ∧ (True ∧ True) ∧ True ∧ True ∧ (True ∧ True) ∧ True)
   ⟨tt,tt,tt,tt,tt,tt,tt,tt,⟨tt,tt⟩,tt,tt,⟨tt,tt⟩,tt,tt,⟨tt,tt⟩,tt⟩ ?_
  exact endH_norm (.tup []) [(910,⟨29,.fix [.own 911 cu.length,.own 912 cd.length,.i (bif newerC (⟨cu,cd,value,time,pp,cm⟩ : CopyD) (⟨cu,cd,cv,ct,cp,cm⟩ : CopyD) then value else cv),.i (bif newerC (⟨cu,cd,value,time,pp,cm⟩ : CopyD) (⟨cu,cd,cv,ct,cp,cm⟩ : CopyD) then time else ct),.i (bif newerC (⟨cu,cd,value,time,pp,cm⟩ : CopyD) (⟨cu,cd,cv,ct,cp,cm⟩ : CopyD) then pp else cp),.own 913 cm.length]⟩),(911,⟨3,.row (.ints cu)⟩),(912,⟨3,.row (.ints cd)⟩),(913,⟨50,.row (.marks cm)⟩)] [910,911,912,913] ⟨rfl,rfl,rfl⟩ [(910,910),(911,911),(912,912),(913,913)] (.tup []) (by kernel_rfl) (@cast (True ∧ ((((29 : Nat) = 29) ∧ ((((911 : Nat) = 911) ∧ (cu.length = cu.length) ∧ ((911 : Nat) ∈ ([910,911,912,913] : List Nat))) ∧ (((912 : Nat) = 912) ∧ (cd.length = cd.length) ∧ ((912 : Nat) ∈ ([910,911,912,913] : List Nat))) ∧ ((.int .i64 value : Value) = .int .i64 (bif newerC (⟨cu,cd,value,time,pp,cm⟩ : CopyD) (⟨cu,cd,cv,ct,cp,cm⟩ : CopyD) then value else cv)) ∧ ((.int .i64 time : Value) = .int .i64 (bif newerC (⟨cu,cd,value,time,pp,cm⟩ : CopyD) (⟨cu,cd,cv,ct,cp,cm⟩ : CopyD) then time else ct)) ∧ ((.int .i64 pp : Value) = .int .i64 (bif newerC (⟨cu,cd,value,time,pp,cm⟩ : CopyD) (⟨cu,cd,cv,ct,cp,cm⟩ : CopyD) then pp else cp)) ∧ (((913 : Nat) = 913) ∧ (cm.length = cm.length) ∧ ((913 : Nat) ∈ ([910,911,912,913] : List Nat))) ∧ True) ∧ ((910 : Nat) ∈ ([910,911,912,913] : List Nat))) ∧ (((3 : Nat) = 3) ∧ (Sd (.ints cu)) ∧ ((911 : Nat) ∈ ([910,911,912,913] : List Nat))) ∧ (((3 : Nat) = 3) ∧ (Sd (.ints cd)) ∧ ((912 : Nat) ∈ ([910,911,912,913] : List Nat))) ∧ (((50 : Nat) = 50) ∧ (Sd (.marks cm)) ∧ ((913 : Nat) ∈ ([910,911,912,913] : List Nat))) ∧ True) ∧ (true = true) ∧ (true = true)) _ (by kernel_rfl) ⟨tt,⟨⟨rfl,⟨⟨rfl,rfl,(by decide)⟩,⟨rfl,rfl,(by decide)⟩,(congrArg (Value.int .i64) (by first | rfl | omega | assumption | (first | rfl | (have h9 := nw_yes (u := cu) (d := cd) (m := cm) h28; simp only [h9,cond_true]); done) | simp | simp_all)),(congrArg (Value.int .i64) (by first | rfl | omega | assumption | (first | rfl | (have h9 := nw_yes (u := cu) (d := cd) (m := cm) h28; simp only [h9,cond_true]); done) | simp | simp_all)),(congrArg (Value.int .i64) (by first | rfl | omega | assumption | (first | rfl | (have h9 := nw_yes (u := cu) (d := cd) (m := cm) h28; simp only [h9,cond_true]); done) | simp | simp_all)),⟨rfl,rfl,(by decide)⟩,tt⟩,(by decide)⟩,⟨rfl,rfl,(by decide)⟩,⟨rfl,rfl,(by decide)⟩,⟨rfl,rfl,(by decide)⟩,tt⟩,rfl,rfl⟩)
 ·intro n28
  refine W.skip ?_
  exact endH_norm (.tup []) [(910,⟨29,.fix [.own 911 cu.length,.own 912 cd.length,.i (bif newerC (⟨cu,cd,value,time,pp,cm⟩ : CopyD) (⟨cu,cd,cv,ct,cp,cm⟩ : CopyD) then value else cv),.i (bif newerC (⟨cu,cd,value,time,pp,cm⟩ : CopyD) (⟨cu,cd,cv,ct,cp,cm⟩ : CopyD) then time else ct),.i (bif newerC (⟨cu,cd,value,time,pp,cm⟩ : CopyD) (⟨cu,cd,cv,ct,cp,cm⟩ : CopyD) then pp else cp),.own 913 cm.length]⟩),(911,⟨3,.row (.ints cu)⟩),(912,⟨3,.row (.ints cd)⟩),(913,⟨50,.row (.marks cm)⟩)] [910,911,912,913] ⟨rfl,rfl,rfl⟩ [(910,910),(911,911),(912,912),(913,913)] (.tup []) (by kernel_rfl) (@cast (True ∧ ((((29 : Nat) = 29) ∧ ((((911 : Nat) = 911) ∧ (cu.length = cu.length) ∧ ((911 : Nat) ∈ ([910,911,912,913] : List Nat))) ∧ (((912 : Nat) = 912) ∧ (cd.length = cd.length) ∧ ((912 : Nat) ∈ ([910,911,912,913] : List Nat))) ∧ ((.int .i64 cv : Value) = .int .i64 (bif newerC (⟨cu,cd,value,time,pp,cm⟩ : CopyD) (⟨cu,cd,cv,ct,cp,cm⟩ : CopyD) then value else cv)) ∧ ((.int .i64 ct : Value) = .int .i64 (bif newerC (⟨cu,cd,value,time,pp,cm⟩ : CopyD) (⟨cu,cd,cv,ct,cp,cm⟩ : CopyD) then time else ct)) ∧ ((.int .i64 cp : Value) = .int .i64 (bif newerC (⟨cu,cd,value,time,pp,cm⟩ : CopyD) (⟨cu,cd,cv,ct,cp,cm⟩ : CopyD) then pp else cp)) ∧ (((913 : Nat) = 913) ∧ (cm.length = cm.length) ∧ ((913 : Nat) ∈ ([910,911,912,913] : List Nat))) ∧ True) ∧ ((910 : Nat) ∈ ([910,911,912,913] : List Nat))) ∧ (((3 : Nat) = 3) ∧ (Sd (.ints cu)) ∧ ((911 : Nat) ∈ ([910,911,912,913] : List Nat))) ∧ (((3 : Nat) = 3) ∧ (Sd (.ints cd)) ∧ ((912 : Nat) ∈ ([910,911,912,913] : List Nat))) ∧ (((50 : Nat) = 50) ∧ (Sd (.marks cm)) ∧ ((913 : Nat) ∈ ([910,911,912,913] : List Nat))) ∧ True) ∧ (true = true) ∧ (true = true)) _ (by kernel_rfl) ⟨tt,⟨⟨rfl,⟨⟨rfl,rfl,(by decide)⟩,⟨rfl,rfl,(by decide)⟩,(congrArg (Value.int .i64) (by first | rfl | omega | assumption | (first | rfl | (have h9 := nw_no (u := cu) (d := cd) (m := cm) n28; simp only [h9,cond_false]); done) | simp | simp_all)),(congrArg (Value.int .i64) (by first | rfl | omega | assumption | (first | rfl | (have h9 := nw_no (u := cu) (d := cd) (m := cm) n28; simp only [h9,cond_false]); done) | simp | simp_all)),(congrArg (Value.int .i64) (by first | rfl | omega | assumption | (first | rfl | (have h9 := nw_no (u := cu) (d := cd) (m := cm) n28; simp only [h9,cond_false]); done) | simp | simp_all)),⟨rfl,rfl,(by decide)⟩,tt⟩,(by decide)⟩,⟨rfl,rfl,(by decide)⟩,⟨rfl,rfl,(by decide)⟩,⟨rfl,rfl,(by decide)⟩,tt⟩,rfl,rfl⟩)
end Go.Proofs.Try
