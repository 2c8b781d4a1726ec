import Derived.Test.YtpgppbgbmhlacaaOF3S0
set_option linter.unusedSimpArgs false
set_option linter.unusedVariables false
namespace Go.Proofs.Try
open Go.Ab Go.RowKit
def fs38 : FnS := fnS [.o,.o] [.mark,.mark] (fun _ (a,b,_) => (.i (cmpM a b),[],True))
abbrev T38 : Tab := lk [(62,fs62),(63,fs63)]
theorem tab38 : TabOK prog T38 := (TabOK.cons ok62 ent62 (TabOK.cons ok63 ent63 TabOK.nil))
set_option maxRecDepth 100000 in
set_option maxHeartbeats 1000000 in
theorem ok38 : FnOK prog 38 fs38 := by
 refine FnOK.mk cok func38 rfl rfl rfl ?_
 rintro fl ⟨(a : MarkD),(b : MarkD),_⟩ hpre F hnt0 _
 have hnt : F.nt = 17 := hnt0.trans ntmps38
 clear hpre
 refine W.to (⟨[(0,.agg [.i a.value,.i a.proc,.i a.number,.b a.gone]),(1,.agg [.i b.value,.i b.proc,.i b.number,.b b.gone])],[],[999]⟩) rfl ?_
 refine W.K cok tab38 hnt [] [2,3] (⟨[(2,.ptr 2 0),(3,.ptr 3 0)],[(2,⟨52,.fix [.i a.value,.i a.proc,.i a.number,.b a.gone]⟩),(3,⟨52,.fix [.i b.value,.i b.proc,.i b.number,.b b.gone]⟩)],[3,2,999]⟩)
  (True ∧ True ∧ True ∧ True) (by kernel_rfl)
  ⟨tt,tt,tt,tt⟩ ?_
 refine W.KA cok tab38 hnt [] [4] (⟨[(4,.i (orI ([(cmpI a.proc b.proc),(cmpI a.number b.number)])))],[(2,⟨52,.fix [.i a.value,.i a.proc,.i a.number,.b a.gone]⟩),(3,⟨52,.fix [.i b.value,.i b.proc,.i b.number,.b b.gone]⟩)],[15,3,2,999]⟩)
  (True ∧ True ∧ True ∧ True ∧ (True ∧ (True ∧ True ∧ True) ∧ True) ∧ True ∧ True ∧ True ∧ True ∧ (True ∧ (True ∧ True ∧ True) ∧ True) ∧ (True ∧ True ∧ True) ∧ (True ∧ (True ∧ True) ∧ True) ∧ True ∧ True) (by kernel_rfl) (by kernel_rfl)
  ⟨tt,tt,tt,tt,⟨tt,⟨tt,tt,tt⟩,tt⟩,tt,tt,tt,tt,⟨tt,⟨tt,tt,tt⟩,tt⟩,⟨tt,tt,tt⟩,⟨tt,⟨tt,tt⟩,tt⟩,tt,tt⟩ ?_
 refine W.ret ?_
 exact endQ_ret (.i (orI ([(cmpI a.proc b.proc),(cmpI a.number b.number)]))) (by kernel_rfl) (@cast ((.int .i64 (orI ([(cmpI a.proc b.proc),(cmpI a.number b.number)])) : Value) = .int .i64 (cmpM a b)) _ (by kernel_rfl) (congrArg (Value.int .i64) (by first | rfl | simp_all)))
theorem ent38 : Entr prog 38 := ⟨_,func38,rfl,by decide⟩
end Go.Proofs.Try

set_option linter.unusedSimpArgs false
set_option linter.unusedVariables false
namespace Go.Proofs.Try
open Go.Ab Go.RowKit
def fs65 : FnS := fnS [.o] [.int] (fun _ (n,_) => (.b (!within n 0 20),[],True))
abbrev T65 : Tab := lk [(39,fs39)]
theorem tab65 : TabOK prog T65 := (TabOK.cons ok39 ent39 TabOK.nil)
set_option maxRecDepth 100000 in
set_option maxHeartbeats 1000000 in
theorem ok65 : FnOK prog 65 fs65 := by
 refine FnOK.mk cok func65 rfl rfl rfl ?_
 rintro fl ⟨(n : Int),_⟩ hpre F hnt0 _
 have hnt : F.nt = 6 := hnt0.trans ntmps65
 clear hpre
 refine W.to (⟨[(0,.i n)],[],[999]⟩) rfl ?_
 refine W.K cok tab65 hnt [] [0] (⟨[(0,.i n)],[],[999]⟩)
  (True ∧ True) (by kernel_rfl)
  ⟨tt,tt⟩ ?_
 refine W.K cok tab65 hnt [] [2] (⟨[(2,.b (!(within n (0 : Int) (20 : Int))))],[],[999]⟩)
  (True ∧ (True ∧ (True ∧ True ∧ True ∧ True) ∧ True) ∧ True ∧ True ∧ True) (by kernel_rfl)
  ⟨tt,⟨tt,⟨tt,tt,tt,tt⟩,tt⟩,tt,tt,tt⟩ ?_
 refine W.ret ?_
 exact endQ_ret (.b (!(within n (0 : Int) (20 : Int)))) (by kernel_rfl) (@cast ((.bool (!(within n (0 : Int) (20 : Int))) : Value) = .bool (!within n 0 20)) _ (by kernel_rfl) (congrArg Value.bool (by first | rfl | simp_all)))
theorem ent65 : Entr prog 65 := ⟨_,func65,rfl,by decide⟩
end Go.Proofs.Try

set_option linter.unusedSimpArgs false
set_option linter.unusedVariables false
namespace Go.Proofs.Try
open Go.Ab Go.RowKit
def fs78counts : FnS := fnS [.s .ints,.o] [.ints,(.fn0 65)] (fun _ (l,(),_) => (.i (firstI l.length (fun jj => !within (l.getD jj 0) 0 20)),[],True))
abbrev T78counts : Tab := lk [(65,fs65)]
theorem tab78counts : TabOK prog T78counts := (TabOK.cons ok65 ent65 TabOK.nil)
set_option maxRecDepth 100000 in
set_option maxHeartbeats 1000000 in
theorem ok78counts : FnOK prog 78 fs78counts := by
 refine FnOK.mk cok func78 rfl rfl rfl ?_
 rintro fl ⟨(l : List Int),⟨⟩,_⟩ hpre F hnt0 _
 have hnt : F.nt = 19 := hnt0.trans ntmps78
 clear hpre
 refine W.to (⟨[(0,.sl (.ints l)),(1,.fn 65 [])],[],[999]⟩) rfl ?_
 refine W.lenOf 0 (.ints l) (by kernel_rfl) ?_
 intro hl_l; replace hl_l : List.length l ≤ 9223372036854775807 := hl_l
 refine W.K cok tab78counts hnt [] [0,1] (⟨[(0,.sl (.ints l)),(1,.fn 65 [])],[],[999]⟩)
  (True ∧ True) (by kernel_rfl)
  ⟨tt,tt⟩ ?_
 refine W.seq ?_
 refine W.K cok tab78counts hnt [] [0,1,7,8] (⟨[(0,.sl (.ints l)),(1,.fn 65 []),(7,.i (l.length : Int)),(8,.i (0 : Int))],[],[999]⟩)
  (True ∧ True ∧ True ∧ True) (by kernel_rfl)
  ⟨tt,tt,tt,tt⟩ ?_
 refine W.block ?_
 refine W.loop (ι := Nat) (fun (i : Nat) => (⟨[(0,.sl (.ints l)),(1,.fn 65 []),(7,.i (l.length : Int)),(8,.i ((i : Nat) : Int))],[],[999]⟩ : St))
  (fun (i : Nat) => (i ≤ l.length) ∧ (∀ jj,jj < i → (!within (l.getD jj 0) 0 20) = false))
  (fun (i : Nat) => (l.length - i : Nat)) (0) ?_ ?_ ?_
 ·exact (show (0 ≤ l.length) ∧ (∀ jj,jj < 0 → (!within (l.getD jj 0) 0 20) = false) from ⟨(by first | assumption | omega | rfl | (intro _ hjj; omega) | (simp; done) | (simp; omega)),(by exact upto_zero)⟩)
 ·exact Sub.of [] (@cast ((((.ints l : Dat) = .ints l) ∧ ((((65 : Nat) = 65) ∧ True) ∧ (((.int .i64 (l.length : Int) : Value) = .int .i64 (l.length : Int)) ∧ (((.int .i64 (0 : Int) : Value) = .int .i64 ((0 : Nat) : Int)) ∧ True)))) ∧ (True ∧ ((true = true) ∧ (true = true)))) _ (by kernel_rfl) ⟨⟨rfl,⟨rfl,tt⟩,rfl,(congrArg (Value.int .i64) (by first | rfl | omega | assumption | simp | simp_all)),tt⟩,tt,rfl,rfl⟩)
 ·rintro i hC0
  have hC : (i ≤ l.length) ∧ (∀ jj,jj < i → (!within (l.getD jj 0) 0 20) = false) := hC0
  clear hC0
  obtain ⟨hi,hA⟩ := hC
  refine W.to (⟨[(0,.sl (.ints l)),(1,.fn 65 []),(7,.i (l.length : Int)),(8,.i ((i : Nat) : Int))],[],[999]⟩) rfl ?_
  refine W.K cok tab78counts hnt [] [0,1,7,8,9] (⟨[(0,.sl (.ints l)),(1,.fn 65 []),(7,.i (l.length : Int)),(8,.i ((i : Nat) : Int)),(9,.b (decide (((i : Nat) : Int) < (l.length : Int))))],[],[999]⟩)
   ((True ∧ True ∧ True) ∧ True) (by kernel_rfl)
   ⟨⟨tt,tt,tt⟩,tt⟩ ?_
  refine W.seq ?_
  refine W.ifP (((i : Nat) : Int) < (l.length : Int)) (.b (decide (((i : Nat) : Int) < (l.length : Int)))) (by kernel_rfl) rfl trivial ?_ ?_
  ·intro h9
   refine W.skip (thenQ_normal ?_)
   refine W.seq ?_
   refine W.block ?_
   refine W.K cok tab78counts hnt [] [0,1,5,7,8] (⟨[(0,.sl (.ints l)),(1,.fn 65 []),(5,.i ((i : Nat) : Int)),(7,.i (l.length : Int)),(8,.i ((i : Nat) : Int))],[],[999]⟩)
    (True ∧ True ∧ True) (by kernel_rfl)
    ⟨tt,tt,tt⟩ ?_
   refine W.K cok tab78counts hnt [] [0,1,5,7,8,16] (⟨[(0,.sl (.ints l)),(1,.fn 65 []),(5,.i ((i : Nat) : Int)),(7,.i (l.length : Int)),(8,.i ((i : Nat) : Int)),(16,.b (!within (l.getD i 0) 0 20))],[],[999]⟩)
    (True ∧ True ∧ True ∧ (True ∧ True ∧ (0 ≤ ((i : Nat) : Int)) ∧ (((i : Nat) : Int) < (l.length : Int))) ∧ True ∧ (True ∧ (True ∧ True) ∧ True) ∧ True) (by kernel_rfl)
    ⟨tt,tt,tt,⟨tt,tt,(by omega),(by omega)⟩,tt,⟨tt,⟨tt,tt⟩,tt⟩,tt⟩ ?_
   refine W.if' (!within (l.getD i 0) 0 20) (.b (!within (l.getD i 0) 0 20)) (by kernel_rfl) rfl trivial ?_ ?_
   ·intro h16
    refine W.K cok tab78counts hnt [] [4] (⟨[(4,.i ((i : Nat) : Int))],[],[999]⟩)
     (True ∧ True ∧ True) (by kernel_rfl)
     ⟨tt,tt,tt⟩ ?_
    refine W.ret (blockQ_ret (thenQ_ret (thenQ_ret (blockQ_ret (thenQ_ret ?_)))))
    exact endQ_ret (.i ((i : Nat) : Int)) (by kernel_rfl) (@cast ((.int .i64 ((i : Nat) : Int) : Value) = .int .i64 (firstI l.length (fun jj => !within (l.getD jj 0) 0 20))) _ (by kernel_rfl) (congrArg (Value.int .i64) (by exact (firstI_yes (by omega) h16 hA).symm)))
   ·intro n16
    refine W.skip (blockQ_normal (thenQ_normal ?_))
    refine W.L cok tab78counts hnt [] (⟨[(0,.sl (.ints l)),(1,.fn 65 []),(5,.i ((i : Nat) : Int)),(7,.i (l.length : Int)),(8,.i (((i + 1) : Nat) : Int)),(16,.b (!within (l.getD i 0) 0 20)),(18,.i (((i + 1) : Nat) : Int))],[],[999]⟩)
     ((True ∧ True ∧ (Fits .i64 (((i + 1) : Nat) : Int))) ∧ True ∧ True) (by kernel_rfl)
     ⟨⟨tt,tt,(by exact fits_i64 (by omega) (by omega))⟩,tt,tt⟩ ?_
    refine thenQ_normal ?_
    refine ⟨((i + 1)),(show ((i + 1) ≤ l.length) ∧ (∀ jj,jj < (i + 1) → (!within (l.getD jj 0) 0 20) = false) from ⟨(by first | assumption | omega | rfl | (intro _ hjj; omega) | (simp; done) | (simp; omega)),(by exact upto_succ hA n16)⟩),(show l.length - (i + 1) < l.length - i from (by first | omega | (simp_all; omega))),?_⟩
    exact Sub.of [] (@cast ((((.ints l : Dat) = .ints l) ∧ ((((65 : Nat) = 65) ∧ True) ∧ (((.int .i64 (l.length : Int) : Value) = .int .i64 (l.length : Int)) ∧ (((.int .i64 (((i + 1) : Nat) : Int) : Value) = .int .i64 (((i + 1) : Nat) : Int)) ∧ True)))) ∧ (True ∧ ((true = true) ∧ (true = true)))) _ (by kernel_rfl) ⟨⟨rfl,⟨rfl,tt⟩,rfl,rfl,tt⟩,tt,rfl,rfl⟩)
  ·intro n9
   refine W.exit (thenQ_exit (thenQ_exit (blockQ_hit ?_)))
   refine thenQ_normal ?_
   refine W.K cok tab78counts hnt [] [4] (⟨[(4,.i (-1 : Int))],[],[999]⟩)
    (True ∧ True) (by kernel_rfl)
    ⟨tt,tt⟩ ?_
   refine W.ret ?_
   exact endQ_ret (.i (-1 : Int)) (by kernel_rfl) (@cast ((.int .i64 (-1 : Int) : Value) = .int .i64 (firstI l.length (fun jj => !within (l.getD jj 0) 0 20))) _ (by kernel_rfl) (congrArg (Value.int .i64) (by exact (firstI_no (fun j hj => hA j (by omega))).symm)))
theorem ent78counts : Entr prog 78 := ⟨_,func78,rfl,by decide⟩
end Go.Proofs.Try

set_option linter.unusedSimpArgs false
set_option linter.unusedVariables false
namespace Go.Proofs.Try
open Go.Ab Go.RowKit
def fs64counts : FnS := fnS [.s .ints,.o] [.ints,(.fn0 65)] (fun _ (l,(),_) => (.b (anyN l.length (fun jj => !within (l.getD jj 0) 0 20)),[],True))
abbrev T64counts : Tab := lk [(78,fs78counts)]
theorem tab64counts : TabOK prog T64counts := (TabOK.cons ok78counts ent78counts TabOK.nil)
set_option maxRecDepth 100000 in
set_option maxHeartbeats 1000000 in
theorem ok64counts : FnOK prog 64 fs64counts := by
 refine FnOK.mk cok func64 rfl rfl rfl ?_
 rintro fl ⟨(l : List Int),⟨⟩,_⟩ hpre F hnt0 _
 have hnt : F.nt = 9 := hnt0.trans ntmps64
 clear hpre
 refine W.to (⟨[(0,.sl (.ints l)),(1,.fn 65 [])],[],[999]⟩) rfl ?_
 refine W.lenOf 0 (.ints l) (by kernel_rfl) ?_
 intro hl_l; replace hl_l : List.length l ≤ 9223372036854775807 := hl_l
 refine W.K cok tab64counts hnt [] [0,1] (⟨[(0,.sl (.ints l)),(1,.fn 65 [])],[],[999]⟩)
  (True ∧ True) (by kernel_rfl)
  ⟨tt,tt⟩ ?_
 refine W.K cok tab64counts hnt [] [4] (⟨[(4,.b (decide ((0 : Int) ≤ (firstI l.length (fun jj => !within (l.getD jj 0) 0 20)))))],[],[999]⟩)
  (True ∧ True ∧ (True ∧ (True ∧ True ∧ True) ∧ True) ∧ (True ∧ True ∧ True) ∧ True ∧ True) (by kernel_rfl)
  ⟨tt,tt,⟨tt,⟨tt,tt,tt⟩,tt⟩,⟨tt,tt,tt⟩,tt,tt⟩ ?_
 refine W.ret ?_
 exact endQ_ret (.b (decide ((0 : Int) ≤ (firstI l.length (fun jj => !within (l.getD jj 0) 0 20))))) (by kernel_rfl) (@cast ((.bool (decide ((0 : Int) ≤ (firstI l.length (fun jj => !within (l.getD jj 0) 0 20)))) : Value) = .bool (anyN l.length (fun jj => !within (l.getD jj 0) 0 20))) _ (by kernel_rfl) (congrArg Value.bool (by exact firstI_has _ _)))
theorem ent64counts : Entr prog 64 := ⟨_,func64,rfl,by decide⟩
end Go.Proofs.Try

set_option linter.unusedSimpArgs false
set_option linter.unusedVariables false
namespace Go.Proofs.Try
open Go.Ab Go.RowKit
def fs40 : FnS := fnS [.s .ints] [.ints] (fun _ (l,_) => (.b (countsOK l),[],True))
abbrev T40 : Tab := lk [(64,fs64counts)]
theorem tab40 : TabOK prog T40 := (TabOK.cons ok64counts ent64counts TabOK.nil)
set_option maxRecDepth 100000 in
set_option maxHeartbeats 1000000 in
theorem ok40 : FnOK prog 40 fs40 := by
 refine FnOK.mk cok func40 rfl rfl rfl ?_
 rintro fl ⟨(l : List Int),_⟩ hpre F hnt0 _
 have hnt : F.nt = 11 := hnt0.trans ntmps40
 clear hpre
 refine W.to (⟨[(0,.sl (.ints l))],[],[999]⟩) rfl ?_
 refine W.lenOf 0 (.ints l) (by kernel_rfl) ?_
 intro hl_l; replace hl_l : List.length l ≤ 9223372036854775807 := hl_l
 refine W.K cok tab40 hnt [] [0] (⟨[(0,.sl (.ints l))],[],[999]⟩)
  (True ∧ True) (by kernel_rfl)
  ⟨tt,tt⟩ ?_
 refine W.K cok tab40 hnt [] [2] (⟨[(2,.b ((decide ((l.length : Int) = (3 : Int))) && (!(anyN l.length (fun jj => !within (l.getD jj 0) 0 20)))))],[],[999]⟩)
  (True ∧ True ∧ (True ∧ True ∧ True) ∧ True ∧ ((decide ((l.length : Int) = (3 : Int))) = true → True) ∧ ((decide ((l.length : Int) = (3 : Int))) = true → (True ∧ ((((decide ((l.length : Int) = (3 : Int))) = true) ∧ True) ∧ True ∧ True) ∧ True)) ∧ ((decide ((l.length : Int) = (3 : Int))) = true → (((decide ((l.length : Int) = (3 : Int))) = true) ∧ True)) ∧ (True ∧ ((decide ((l.length : Int) = (3 : Int))) = true → ((decide ((l.length : Int) = (3 : Int))) = true) ∧ True) ∧ ((decide ((l.length : Int) = (3 : Int))) = false → True)) ∧ True ∧ True) (by kernel_rfl)
  ⟨tt,tt,⟨tt,tt,tt⟩,tt,(fun _ => trivial),(fun hG => ⟨tt,⟨⟨hG,tt⟩,tt,tt⟩,tt⟩),(fun hG => ⟨hG,tt⟩),⟨tt,(fun hp => ⟨hp,tt⟩),(fun _ => trivial)⟩,tt,tt⟩ ?_
 refine W.ret ?_
 exact endQ_ret (.b ((decide ((l.length : Int) = (3 : Int))) && (!(anyN l.length (fun jj => !within (l.getD jj 0) 0 20))))) (by kernel_rfl) (@cast ((.bool ((decide ((l.length : Int) = (3 : Int))) && (!(anyN l.length (fun jj => !within (l.getD jj 0) 0 20)))) : Value) = .bool (countsOK l)) _ (by kernel_rfl) (congrArg Value.bool (by exact counts_impl l)))
theorem ent40 : Entr prog 40 := ⟨_,func40,rfl,by decide⟩
end Go.Proofs.Try

set_option linter.unusedSimpArgs false
set_option linter.unusedVariables false
namespace Go.Proofs.Try
open Go.Ab Go.RowKit
def fs12 : FnS := fnS [.a [some .ints,some .ints,none,none,none,some .marks]] [.copy] (fun _ (c,_) => (.b (validCopy c),[],True))
abbrev T12 : Tab := lk [(37,fs37),(38,fs38),(39,fs39),(40,fs40)]
theorem tab12 : TabOK prog T12 := (TabOK.cons ok37 ent37 (TabOK.cons ok38 ent38 (TabOK.cons ok39 ent39 (TabOK.cons ok40 ent40 TabOK.nil))))
set_option maxRecDepth 100000 in
set_option maxHeartbeats 1000000 in
theorem ok12 : FnOK prog 12 fs12 := by
 refine FnOK.mk cok func12 rfl rfl rfl ?_
 rintro fl ⟨(c : CopyD),_⟩ hpre F hnt0 _
 have hnt : F.nt = 78 := hnt0.trans ntmps12
 clear hpre
 refine W.to (⟨[(0,.agg [.sl (.ints c.up),.sl (.ints c.down),.i c.value,.i c.time,.i c.proc,.sl (.marks c.marks)])],[],[999]⟩) rfl ?_
 refine W.lenA 0 0 [.sl (.ints c.up),.sl (.ints c.down),.i c.value,.i c.time,.i c.proc,.sl (.marks c.marks)] (.ints c.up) (by kernel_rfl) (by kernel_rfl) ?_
 intro hl_c_up; replace hl_c_up : List.length c.up ≤ 9223372036854775807 := hl_c_up
 refine W.lenA 0 1 [.sl (.ints c.up),.sl (.ints c.down),.i c.value,.i c.time,.i c.proc,.sl (.marks c.marks)] (.ints c.down) (by kernel_rfl) (by kernel_rfl) ?_
 intro hl_c_down; replace hl_c_down : List.length c.down ≤ 9223372036854775807 := hl_c_down
 refine W.lenA 0 5 [.sl (.ints c.up),.sl (.ints c.down),.i c.value,.i c.time,.i c.proc,.sl (.marks c.marks)] (.marks c.marks) (by kernel_rfl) (by kernel_rfl) ?_
 intro hl_c_marks; replace hl_c_marks : List.length c.marks ≤ 9223372036854775807 := hl_c_marks
 refine W.K cok tab12 hnt [] [1] (⟨[(1,.ptr 1 0)],[(1,⟨26,.fix [.sl (.ints c.up),.sl (.ints c.down),.i c.value,.i c.time,.i c.proc,.sl (.marks c.marks)]⟩)],[1,999]⟩)
  (True ∧ True ∧ True) (by kernel_rfl)
  ⟨tt,tt,tt⟩ ?_
 refine W.seq ?_
 refine W.K cok tab12 hnt [] [1,7,8,9] (⟨[(1,.ptr 1 0),(7,.sl (.marks c.marks)),(8,.i (((List.length c.marks) : Nat) : Int)),(9,.i (0 : Int))],[(1,⟨26,.fix [.sl (.ints c.up),.sl (.ints c.down),.i c.value,.i c.time,.i c.proc,.sl (.marks c.marks)]⟩)],[1,999]⟩)
  (True ∧ True ∧ True ∧ True ∧ True) (by kernel_rfl)
  ⟨tt,tt,tt,tt,tt⟩ ?_
 refine W.block ?_
 refine W.loop (ι := Nat) (fun (i : Nat) => (⟨[(1,.ptr 1 0),(7,.sl (.marks c.marks)),(8,.i (((List.length c.marks) : Nat) : Int)),(9,.i ((i : Nat) : Int))],[(1,⟨26,.fix [.sl (.ints c.up),.sl (.ints c.down),.i c.value,.i c.time,.i c.proc,.sl (.marks c.marks)]⟩)],[1,999]⟩ : St))
  (fun (i : Nat) => (i ≤ c.marks.length) ∧ (∀ j,j < i → markOK c.marks j = true))
  (fun (i : Nat) => (c.marks.length - i : Nat)) (0) ?_ ?_ ?_
 ·exact (show (0 ≤ c.marks.length) ∧ (∀ j,j < 0 → markOK c.marks j = true) from ⟨(by first | assumption | omega | rfl | (intro _ hjj; omega) | (simp; done) | (simp; omega)),(by exact upto_zero)⟩)
 ·exact Sub.of [] (@cast (((((1 : Nat) = 1) ∧ (((0 : Nat) = 0) ∧ ((1 : Nat) ∈ ([1,999] : List Nat)))) ∧ (((.marks c.marks : Dat) = .marks c.marks) ∧ (((.int .i64 (((List.length c.marks) : Nat) : Int) : Value) = .int .i64 (((List.length c.marks) : Nat) : Int)) ∧ (((.int .i64 (0 : Int) : Value) = .int .i64 ((0 : Nat) : Int)) ∧ True)))) ∧ (((((26 : Nat) = 26) ∧ ((((.ints c.up : Dat) = .ints c.up) ∧ (((.ints c.down : Dat) = .ints c.down) ∧ (((.int .i64 c.value : Value) = .int .i64 c.value) ∧ (((.int .i64 c.time : Value) = .int .i64 c.time) ∧ (((.int .i64 c.proc : Value) = .int .i64 c.proc) ∧ (((.marks c.marks : Dat) = .marks c.marks) ∧ True)))))) ∧ ((1 : Nat) ∈ ([1,999] : List Nat)))) ∧ True) ∧ ((true = true) ∧ (true = true)))) _ (by kernel_rfl) ⟨⟨⟨rfl,rfl,(by decide)⟩,rfl,rfl,(congrArg (Value.int .i64) (by first | rfl | omega | assumption | simp | simp_all)),tt⟩,⟨⟨rfl,⟨rfl,rfl,rfl,rfl,rfl,rfl,tt⟩,(by decide)⟩,tt⟩,rfl,rfl⟩)
 ·rintro i hC0
  have hC : (i ≤ c.marks.length) ∧ (∀ j,j < i → markOK c.marks j = true) := hC0
  clear hC0
  obtain ⟨hi,hA⟩ := hC
  refine W.to (⟨[(1,.ptr 1 0),(7,.sl (.marks c.marks)),(8,.i (((List.length c.marks) : Nat) : Int)),(9,.i ((i : Nat) : Int))],[(1,⟨26,.fix [.sl (.ints c.up),.sl (.ints c.down),.i c.value,.i c.time,.i c.proc,.sl (.marks c.marks)]⟩)],[1,999]⟩) rfl ?_
  refine W.K cok tab12 hnt [] [1,7,8,9,10] (⟨[(1,.ptr 1 0),(7,.sl (.marks c.marks)),(8,.i (((List.length c.marks) : Nat) : Int)),(9,.i ((i : Nat) : Int)),(10,.b (decide (((i : Nat) : Int) < (((List.length c.marks) : Nat) : Int))))],[(1,⟨26,.fix [.sl (.ints c.up),.sl (.ints c.down),.i c.value,.i c.time,.i c.proc,.sl (.marks c.marks)]⟩)],[1,999]⟩)
   ((True ∧ True ∧ True) ∧ True) (by kernel_rfl)
   ⟨⟨tt,tt,tt⟩,tt⟩ ?_
  refine W.seq ?_
  refine W.ifP (((i : Nat) : Int) < (((List.length c.marks) : Nat) : Int)) (.b (decide (((i : Nat) : Int) < (((List.length c.marks) : Nat) : Int)))) (by kernel_rfl) rfl trivial ?_ ?_
  ·intro h10
   refine W.skip (thenQ_normal ?_)
   refine W.seq ?_
   refine W.block ?_
   refine W.K cok tab12 hnt [] [1,3,4,7,8,9] (⟨[(1,.ptr 1 0),(3,.i ((i : Nat) : Int)),(4,.ptr 4 0),(7,.sl (.marks c.marks)),(8,.i (((List.length c.marks) : Nat) : Int)),(9,.i ((i : Nat) : Int))],[(1,⟨26,.fix [.sl (.ints c.up),.sl (.ints c.down),.i c.value,.i c.time,.i c.proc,.sl (.marks c.marks)]⟩),(4,⟨52,.fix [.i ((List.getD c.marks i default).value),.i ((List.getD c.marks i default).proc),.i ((List.getD c.marks i default).number),.b ((List.getD c.marks i default).gone)]⟩)],[4,1,999]⟩)
    (True ∧ (True ∧ True ∧ (0 ≤ ((i : Nat) : Int)) ∧ (((i : Nat) : Int) < (((List.length c.marks) : Nat) : Int))) ∧ True ∧ True ∧ True ∧ (True ∧ True) ∧ True) (by kernel_rfl)
    ⟨tt,⟨tt,tt,(by omega),(by omega)⟩,tt,tt,tt,⟨tt,tt⟩,tt⟩ ?_
   refine W.KA cok tab12 hnt [] [1,7,8,9,31] (⟨[(1,.ptr 1 0),(7,.sl (.marks c.marks)),(8,.i (((List.length c.marks) : Nat) : Int)),(9,.i ((i : Nat) : Int)),(31,.b ((!(isMark (List.getD c.marks i default))) || ((decide ((0 : Int) < ((i : Nat) : Int))) && (decide ((0 : Int) ≤ (cmpM (List.getD c.marks (Int.toNat (((i : Nat) : Int) - (1 : Int))) default) (List.getD c.marks i default)))))))],[(1,⟨26,.fix [.sl (.ints c.up),.sl (.ints c.down),.i c.value,.i c.time,.i c.proc,.sl (.marks c.marks)]⟩),(4,⟨52,.fix [.i ((List.getD c.marks i default).value),.i ((List.getD c.marks i default).proc),.i ((List.getD c.marks i default).number),.b ((List.getD c.marks i default).gone)]⟩)],[4,1,999]⟩)
    (True ∧ (True ∧ (True ∧ True) ∧ True) ∧ True ∧ True ∧ ((!(!(isMark (List.getD c.marks i default)))) = true → True) ∧ ((!(!(isMark (List.getD c.marks i default)))) = true → ((((!(!(isMark (List.getD c.marks i default)))) = true) ∧ True) ∧ True ∧ True)) ∧ ((!(!(isMark (List.getD c.marks i default)))) = true → True) ∧ (((!(!(isMark (List.getD c.marks i default)))) && ((!(!(isMark (List.getD c.marks i default)))) && (decide ((0 : Int) < ((i : Nat) : Int))))) = true → True) ∧ (((!(!(isMark (List.getD c.marks i default)))) && ((!(!(isMark (List.getD c.marks i default)))) && (decide ((0 : Int) < ((i : Nat) : Int))))) = true → ((((!(!(isMark (List.getD c.marks i default)))) && ((!(!(isMark (List.getD c.marks i default)))) && (decide ((0 : Int) < ((i : Nat) : Int))))) = true) ∧ True)) ∧ (((!(!(isMark (List.getD c.marks i default)))) && ((!(!(isMark (List.getD c.marks i default)))) && (decide ((0 : Int) < ((i : Nat) : Int))))) = true → True) ∧ (((!(!(isMark (List.getD c.marks i default)))) && ((!(!(isMark (List.getD c.marks i default)))) && (decide ((0 : Int) < ((i : Nat) : Int))))) = true → (((((!(!(isMark (List.getD c.marks i default)))) && ((!(!(isMark (List.getD c.marks i default)))) && (decide ((0 : Int) < ((i : Nat) : Int))))) = true) ∧ True) ∧ True ∧ (Fits .i64 (((i : Nat) : Int) - (1 : Int))))) ∧ (((!(!(isMark (List.getD c.marks i default)))) && ((!(!(isMark (List.getD c.marks i default)))) && (decide ((0 : Int) < ((i : Nat) : Int))))) = true → (((((!(!(isMark (List.getD c.marks i default)))) && ((!(!(isMark (List.getD c.marks i default)))) && (decide ((0 : Int) < ((i : Nat) : Int))))) = true) ∧ True) ∧ ((((!(!(isMark (List.getD c.marks i default)))) && ((!(!(isMark (List.getD c.marks i default)))) && (decide ((0 : Int) < ((i : Nat) : Int))))) = true) ∧ True) ∧ (0 ≤ (((i : Nat) : Int) - (1 : Int))) ∧ ((((i : Nat) : Int) - (1 : Int)) < (((List.length c.marks) : Nat) : Int)))) ∧ (((!(!(isMark (List.getD c.marks i default)))) && ((!(!(isMark (List.getD c.marks i default)))) && (decide ((0 : Int) < ((i : Nat) : Int))))) = true → ((((!(!(isMark (List.getD c.marks i default)))) && ((!(!(isMark (List.getD c.marks i default)))) && (decide ((0 : Int) < ((i : Nat) : Int))))) = true) ∧ True)) ∧ (((!(!(isMark (List.getD c.marks i default)))) && ((!(!(isMark (List.getD c.marks i default)))) && (decide ((0 : Int) < ((i : Nat) : Int))))) = true → True) ∧ (((!(!(isMark (List.getD c.marks i default)))) && ((!(!(isMark (List.getD c.marks i default)))) && (decide ((0 : Int) < ((i : Nat) : Int))))) = true → (True ∧ (((((!(!(isMark (List.getD c.marks i default)))) && ((!(!(isMark (List.getD c.marks i default)))) && (decide ((0 : Int) < ((i : Nat) : Int))))) = true) ∧ True) ∧ ((((!(!(isMark (List.getD c.marks i default)))) && ((!(!(isMark (List.getD c.marks i default)))) && (decide ((0 : Int) < ((i : Nat) : Int))))) = true) ∧ True) ∧ True) ∧ True)) ∧ (((!(!(isMark (List.getD c.marks i default)))) && ((!(!(isMark (List.getD c.marks i default)))) && (decide ((0 : Int) < ((i : Nat) : Int))))) = true → (((((!(!(isMark (List.getD c.marks i default)))) && ((!(!(isMark (List.getD c.marks i default)))) && (decide ((0 : Int) < ((i : Nat) : Int))))) = true) ∧ True) ∧ True ∧ True)) ∧ ((!(!(isMark (List.getD c.marks i default)))) = true → ((((!(!(isMark (List.getD c.marks i default)))) = true) ∧ ((!(!(isMark (List.getD c.marks i default)))) = true) ∧ True) ∧ ((decide ((0 : Int) < ((i : Nat) : Int))) = true → (((!(!(isMark (List.getD c.marks i default)))) && ((!(!(isMark (List.getD c.marks i default)))) && (decide ((0 : Int) < ((i : Nat) : Int))))) = true) ∧ True) ∧ ((decide ((0 : Int) < ((i : Nat) : Int))) = false → True))) ∧ (True ∧ ((!(isMark (List.getD c.marks i default))) = true → True) ∧ ((!(isMark (List.getD c.marks i default))) = false → ((!(!(isMark (List.getD c.marks i default)))) = true) ∧ True)) ∧ True) (by kernel_rfl) (by kernel_rfl)
    ⟨tt,⟨tt,⟨tt,tt⟩,tt⟩,tt,tt,(fun _ => trivial),(fun hG => ⟨⟨hG,tt⟩,tt,tt⟩),(fun _ => trivial),(fun _ => trivial),(fun hG => ⟨hG,tt⟩),(fun _ => trivial),(fun hG => ⟨⟨hG,tt⟩,tt,(by have hg0 : (0 : Int) < ((i : Nat) : Int) := of_decide_eq_true (and_r (and_r hG)); exact fits_i64 (by omega) (by omega))⟩),(fun hG => ⟨⟨hG,tt⟩,⟨hG,tt⟩,(by have hg0 : (0 : Int) < ((i : Nat) : Int) := of_decide_eq_true (and_r (and_r hG)); omega),(by have hg0 : (0 : Int) < ((i : Nat) : Int) := of_decide_eq_true (and_r (and_r hG)); omega)⟩),(fun hG => ⟨hG,tt⟩),(fun _ => trivial),(fun hG => ⟨tt,⟨⟨hG,tt⟩,⟨hG,tt⟩,tt⟩,tt⟩),(fun hG => ⟨⟨hG,tt⟩,tt,tt⟩),(fun hG => ⟨⟨hG,hG,tt⟩,(fun hp => ⟨(and_t hG (and_t hG hp)),tt⟩),(fun _ => trivial)⟩),⟨tt,(fun _ => trivial),(fun hp => ⟨(not_t hp),tt⟩)⟩,tt⟩ ?_
   refine W.if' ((!(isMark (List.getD c.marks i default))) || ((decide ((0 : Int) < ((i : Nat) : Int))) && (decide ((0 : Int) ≤ (cmpM (List.getD c.marks (Int.toNat (((i : Nat) : Int) - (1 : Int))) default) (List.getD c.marks i default)))))) (.b ((!(isMark (List.getD c.marks i default))) || ((decide ((0 : Int) < ((i : Nat) : Int))) && (decide ((0 : Int) ≤ (cmpM (List.getD c.marks (Int.toNat (((i : Nat) : Int) - (1 : Int))) default) (List.getD c.marks i default))))))) (by kernel_rfl) rfl trivial ?_ ?_
   ·intro h31
    refine W.K cok tab12 hnt [] [2] (⟨[(2,.b false)],[(1,⟨26,.fix [.sl (.ints c.up),.sl (.ints c.down),.i c.value,.i c.time,.i c.proc,.sl (.marks c.marks)]⟩),(4,⟨52,.fix [.i ((List.getD c.marks i default).value),.i ((List.getD c.marks i default).proc),.i ((List.getD c.marks i default).number),.b ((List.getD c.marks i default).gone)]⟩)],[4,1,999]⟩)
     (True ∧ True) (by kernel_rfl)
     ⟨tt,tt⟩ ?_
    refine W.ret (blockQ_ret (thenQ_ret (thenQ_ret (blockQ_ret (thenQ_ret ?_)))))
    exact endQ_ret (.b false) (by kernel_rfl) (@cast ((.bool false : Value) = .bool (validCopy c)) _ (by kernel_rfl) (congrArg Value.bool (by rw [show ((i : Int) - 1).toNat = i - 1 by omega,cmpM_less] at h31; exact (valid_marks (mark_bad (i := i) (by omega) (markI_no h31))).symm)))
   ·intro n31
    refine W.skip (blockQ_normal (thenQ_normal ?_))
    refine W.L cok tab12 hnt [] (⟨[(1,.ptr 1 0),(7,.sl (.marks c.marks)),(8,.i (((List.length c.marks) : Nat) : Int)),(9,.i (((i + 1) : Nat) : Int)),(31,.b ((!(isMark (List.getD c.marks i default))) || ((decide ((0 : Int) < ((i : Nat) : Int))) && (decide ((0 : Int) ≤ (cmpM (List.getD c.marks (Int.toNat (((i : Nat) : Int) - (1 : Int))) default) (List.getD c.marks i default))))))),(32,.i (((i + 1) : Nat) : Int))],[(1,⟨26,.fix [.sl (.ints c.up),.sl (.ints c.down),.i c.value,.i c.time,.i c.proc,.sl (.marks c.marks)]⟩),(4,⟨52,.fix [.i ((List.getD c.marks i default).value),.i ((List.getD c.marks i default).proc),.i ((List.getD c.marks i default).number),.b ((List.getD c.marks i default).gone)]⟩)],[4,1,999]⟩)
     ((True ∧ True ∧ (Fits .i64 (((i + 1) : Nat) : Int))) ∧ True ∧ True) (by kernel_rfl)
     ⟨⟨tt,tt,(by exact fits_i64 (by omega) (by omega))⟩,tt,tt⟩ ?_
    refine thenQ_normal ?_
    refine ⟨((i + 1)),(show ((i + 1) ≤ c.marks.length) ∧ (∀ j,j < (i + 1) → markOK c.marks j = true) from ⟨(by first | assumption | omega | rfl | (intro _ hjj; omega) | (simp; done) | (simp; omega)),(by rw [show ((i : Int) - 1).toNat = i - 1 by omega,cmpM_less] at n31; exact upto_succ hA (markI_ok n31))⟩),(show c.marks.length - (i + 1) < c.marks.length - i from (by first | omega | (simp_all; omega))),?_⟩
    exact Sub.of [] (@cast (((((1 : Nat) = 1) ∧ (((0 : Nat) = 0) ∧ ((1 : Nat) ∈ ([1,999] : List Nat)))) ∧ (((.marks c.marks : Dat) = .marks c.marks) ∧ (((.int .i64 (((List.length c.marks) : Nat) : Int) : Value) = .int .i64 (((List.length c.marks) : Nat) : Int)) ∧ (((.int .i64 (((i + 1) : Nat) : Int) : Value) = .int .i64 (((i + 1) : Nat) : Int)) ∧ True)))) ∧ (((((26 : Nat) = 26) ∧ ((((.ints c.up : Dat) = .ints c.up) ∧ (((.ints c.down : Dat) = .ints c.down) ∧ (((.int .i64 c.value : Value) = .int .i64 c.value) ∧ (((.int .i64 c.time : Value) = .int .i64 c.time) ∧ (((.int .i64 c.proc : Value) = .int .i64 c.proc) ∧ (((.marks c.marks : Dat) = .marks c.marks) ∧ True)))))) ∧ ((1 : Nat) ∈ ([1,999] : List Nat)))) ∧ True) ∧ ((true = true) ∧ (true = true)))) _ (by kernel_rfl) ⟨⟨⟨rfl,rfl,(by decide)⟩,rfl,rfl,rfl,tt⟩,⟨⟨rfl,⟨rfl,rfl,rfl,rfl,rfl,rfl,tt⟩,(by decide)⟩,tt⟩,rfl,rfl⟩)
  ·intro n10
   refine W.exit (thenQ_exit (thenQ_exit (blockQ_hit ?_)))
   refine thenQ_normal ?_
   refine W.K cok tab12 hnt [] [1,5] (⟨[(1,.ptr 1 0),(5,.b ((((within c.value (0 : Int) (3 : Int)) && (within c.time (0 : Int) (30 : Int))) && (within c.proc (0 : Int) (2 : Int))) && ((decide ((0 : Int) < c.time)) || ((decide (c.value = (0 : Int))) && (decide (c.proc = (0 : Int)))))))],[(1,⟨26,.fix [.sl (.ints c.up),.sl (.ints c.down),.i c.value,.i c.time,.i c.proc,.sl (.marks c.marks)]⟩)],[1,999]⟩)
    (True ∧ True ∧ (True ∧ (True ∧ True ∧ True ∧ True) ∧ True) ∧ True ∧ ((within c.value (0 : Int) (3 : Int)) = true → True) ∧ ((within c.value (0 : Int) (3 : Int)) = true → (((within c.value (0 : Int) (3 : Int)) = true) ∧ True)) ∧ ((within c.value (0 : Int) (3 : Int)) = true → (True ∧ ((((within c.value (0 : Int) (3 : Int)) = true) ∧ True) ∧ True ∧ True ∧ True) ∧ True)) ∧ (True ∧ ((within c.value (0 : Int) (3 : Int)) = true → ((within c.value (0 : Int) (3 : Int)) = true) ∧ True) ∧ ((within c.value (0 : Int) (3 : Int)) = false → True)) ∧ True ∧ (((within c.value (0 : Int) (3 : Int)) && (within c.time (0 : Int) (30 : Int))) = true → True) ∧ (((within c.value (0 : Int) (3 : Int)) && (within c.time (0 : Int) (30 : Int))) = true → ((((within c.value (0 : Int) (3 : Int)) && (within c.time (0 : Int) (30 : Int))) = true) ∧ True)) ∧ (((within c.value (0 : Int) (3 : Int)) && (within c.time (0 : Int) (30 : Int))) = true → (True ∧ (((((within c.value (0 : Int) (3 : Int)) && (within c.time (0 : Int) (30 : Int))) = true) ∧ True) ∧ True ∧ True ∧ True) ∧ True)) ∧ (True ∧ (((within c.value (0 : Int) (3 : Int)) && (within c.time (0 : Int) (30 : Int))) = true → (((within c.value (0 : Int) (3 : Int)) && (within c.time (0 : Int) (30 : Int))) = true) ∧ True) ∧ (((within c.value (0 : Int) (3 : Int)) && (within c.time (0 : Int) (30 : Int))) = false → True)) ∧ True ∧ ((((within c.value (0 : Int) (3 : Int)) && (within c.time (0 : Int) (30 : Int))) && (within c.proc (0 : Int) (2 : Int))) = true → True) ∧ ((((within c.value (0 : Int) (3 : Int)) && (within c.time (0 : Int) (30 : Int))) && (within c.proc (0 : Int) (2 : Int))) = true → (((((within c.value (0 : Int) (3 : Int)) && (within c.time (0 : Int) (30 : Int))) && (within c.proc (0 : Int) (2 : Int))) = true) ∧ True)) ∧ ((((within c.value (0 : Int) (3 : Int)) && (within c.time (0 : Int) (30 : Int))) && (within c.proc (0 : Int) (2 : Int))) = true → ((((((within c.value (0 : Int) (3 : Int)) && (within c.time (0 : Int) (30 : Int))) && (within c.proc (0 : Int) (2 : Int))) = true) ∧ True) ∧ True ∧ True)) ∧ ((((within c.value (0 : Int) (3 : Int)) && (within c.time (0 : Int) (30 : Int))) && (within c.proc (0 : Int) (2 : Int))) = true → True) ∧ (((((within c.value (0 : Int) (3 : Int)) && (within c.time (0 : Int) (30 : Int))) && (within c.proc (0 : Int) (2 : Int))) && ((((within c.value (0 : Int) (3 : Int)) && (within c.time (0 : Int) (30 : Int))) && (within c.proc (0 : Int) (2 : Int))) && (!(decide ((0 : Int) < c.time))))) = true → True) ∧ (((((within c.value (0 : Int) (3 : Int)) && (within c.time (0 : Int) (30 : Int))) && (within c.proc (0 : Int) (2 : Int))) && ((((within c.value (0 : Int) (3 : Int)) && (within c.time (0 : Int) (30 : Int))) && (within c.proc (0 : Int) (2 : Int))) && (!(decide ((0 : Int) < c.time))))) = true → ((((((within c.value (0 : Int) (3 : Int)) && (within c.time (0 : Int) (30 : Int))) && (within c.proc (0 : Int) (2 : Int))) && ((((within c.value (0 : Int) (3 : Int)) && (within c.time (0 : Int) (30 : Int))) && (within c.proc (0 : Int) (2 : Int))) && (!(decide ((0 : Int) < c.time))))) = true) ∧ True)) ∧ (((((within c.value (0 : Int) (3 : Int)) && (within c.time (0 : Int) (30 : Int))) && (within c.proc (0 : Int) (2 : Int))) && ((((within c.value (0 : Int) (3 : Int)) && (within c.time (0 : Int) (30 : Int))) && (within c.proc (0 : Int) (2 : Int))) && (!(decide ((0 : Int) < c.time))))) = true → (((((((within c.value (0 : Int) (3 : Int)) && (within c.time (0 : Int) (30 : Int))) && (within c.proc (0 : Int) (2 : Int))) && ((((within c.value (0 : Int) (3 : Int)) && (within c.time (0 : Int) (30 : Int))) && (within c.proc (0 : Int) (2 : Int))) && (!(decide ((0 : Int) < c.time))))) = true) ∧ True) ∧ True ∧ True)) ∧ (((((within c.value (0 : Int) (3 : Int)) && (within c.time (0 : Int) (30 : Int))) && (within c.proc (0 : Int) (2 : Int))) && ((((within c.value (0 : Int) (3 : Int)) && (within c.time (0 : Int) (30 : Int))) && (within c.proc (0 : Int) (2 : Int))) && (!(decide ((0 : Int) < c.time))))) = true → True) ∧ ((((((within c.value (0 : Int) (3 : Int)) && (within c.time (0 : Int) (30 : Int))) && (within c.proc (0 : Int) (2 : Int))) && ((((within c.value (0 : Int) (3 : Int)) && (within c.time (0 : Int) (30 : Int))) && (within c.proc (0 : Int) (2 : Int))) && (!(decide ((0 : Int) < c.time))))) && (((((within c.value (0 : Int) (3 : Int)) && (within c.time (0 : Int) (30 : Int))) && (within c.proc (0 : Int) (2 : Int))) && ((((within c.value (0 : Int) (3 : Int)) && (within c.time (0 : Int) (30 : Int))) && (within c.proc (0 : Int) (2 : Int))) && (!(decide ((0 : Int) < c.time))))) && (decide (c.value = (0 : Int))))) = true → True) ∧ ((((((within c.value (0 : Int) (3 : Int)) && (within c.time (0 : Int) (30 : Int))) && (within c.proc (0 : Int) (2 : Int))) && ((((within c.value (0 : Int) (3 : Int)) && (within c.time (0 : Int) (30 : Int))) && (within c.proc (0 : Int) (2 : Int))) && (!(decide ((0 : Int) < c.time))))) && (((((within c.value (0 : Int) (3 : Int)) && (within c.time (0 : Int) (30 : Int))) && (within c.proc (0 : Int) (2 : Int))) && ((((within c.value (0 : Int) (3 : Int)) && (within c.time (0 : Int) (30 : Int))) && (within c.proc (0 : Int) (2 : Int))) && (!(decide ((0 : Int) < c.time))))) && (decide (c.value = (0 : Int))))) = true → (((((((within c.value (0 : Int) (3 : Int)) && (within c.time (0 : Int) (30 : Int))) && (within c.proc (0 : Int) (2 : Int))) && ((((within c.value (0 : Int) (3 : Int)) && (within c.time (0 : Int) (30 : Int))) && (within c.proc (0 : Int) (2 : Int))) && (!(decide ((0 : Int) < c.time))))) && (((((within c.value (0 : Int) (3 : Int)) && (within c.time (0 : Int) (30 : Int))) && (within c.proc (0 : Int) (2 : Int))) && ((((within c.value (0 : Int) (3 : Int)) && (within c.time (0 : Int) (30 : Int))) && (within c.proc (0 : Int) (2 : Int))) && (!(decide ((0 : Int) < c.time))))) && (decide (c.value = (0 : Int))))) = true) ∧ True)) ∧ ((((((within c.value (0 : Int) (3 : Int)) && (within c.time (0 : Int) (30 : Int))) && (within c.proc (0 : Int) (2 : Int))) && ((((within c.value (0 : Int) (3 : Int)) && (within c.time (0 : Int) (30 : Int))) && (within c.proc (0 : Int) (2 : Int))) && (!(decide ((0 : Int) < c.time))))) && (((((within c.value (0 : Int) (3 : Int)) && (within c.time (0 : Int) (30 : Int))) && (within c.proc (0 : Int) (2 : Int))) && ((((within c.value (0 : Int) (3 : Int)) && (within c.time (0 : Int) (30 : Int))) && (within c.proc (0 : Int) (2 : Int))) && (!(decide ((0 : Int) < c.time))))) && (decide (c.value = (0 : Int))))) = true → ((((((((within c.value (0 : Int) (3 : Int)) && (within c.time (0 : Int) (30 : Int))) && (within c.proc (0 : Int) (2 : Int))) && ((((within c.value (0 : Int) (3 : Int)) && (within c.time (0 : Int) (30 : Int))) && (within c.proc (0 : Int) (2 : Int))) && (!(decide ((0 : Int) < c.time))))) && (((((within c.value (0 : Int) (3 : Int)) && (within c.time (0 : Int) (30 : Int))) && (within c.proc (0 : Int) (2 : Int))) && ((((within c.value (0 : Int) (3 : Int)) && (within c.time (0 : Int) (30 : Int))) && (within c.proc (0 : Int) (2 : Int))) && (!(decide ((0 : Int) < c.time))))) && (decide (c.value = (0 : Int))))) = true) ∧ True) ∧ True ∧ True)) ∧ (((((within c.value (0 : Int) (3 : Int)) && (within c.time (0 : Int) (30 : Int))) && (within c.proc (0 : Int) (2 : Int))) && ((((within c.value (0 : Int) (3 : Int)) && (within c.time (0 : Int) (30 : Int))) && (within c.proc (0 : Int) (2 : Int))) && (!(decide ((0 : Int) < c.time))))) = true → (((((((within c.value (0 : Int) (3 : Int)) && (within c.time (0 : Int) (30 : Int))) && (within c.proc (0 : Int) (2 : Int))) && ((((within c.value (0 : Int) (3 : Int)) && (within c.time (0 : Int) (30 : Int))) && (within c.proc (0 : Int) (2 : Int))) && (!(decide ((0 : Int) < c.time))))) = true) ∧ (((((within c.value (0 : Int) (3 : Int)) && (within c.time (0 : Int) (30 : Int))) && (within c.proc (0 : Int) (2 : Int))) && ((((within c.value (0 : Int) (3 : Int)) && (within c.time (0 : Int) (30 : Int))) && (within c.proc (0 : Int) (2 : Int))) && (!(decide ((0 : Int) < c.time))))) = true) ∧ True) ∧ ((decide (c.value = (0 : Int))) = true → ((((((within c.value (0 : Int) (3 : Int)) && (within c.time (0 : Int) (30 : Int))) && (within c.proc (0 : Int) (2 : Int))) && ((((within c.value (0 : Int) (3 : Int)) && (within c.time (0 : Int) (30 : Int))) && (within c.proc (0 : Int) (2 : Int))) && (!(decide ((0 : Int) < c.time))))) && (((((within c.value (0 : Int) (3 : Int)) && (within c.time (0 : Int) (30 : Int))) && (within c.proc (0 : Int) (2 : Int))) && ((((within c.value (0 : Int) (3 : Int)) && (within c.time (0 : Int) (30 : Int))) && (within c.proc (0 : Int) (2 : Int))) && (!(decide ((0 : Int) < c.time))))) && (decide (c.value = (0 : Int))))) = true) ∧ True) ∧ ((decide (c.value = (0 : Int))) = false → True))) ∧ ((((within c.value (0 : Int) (3 : Int)) && (within c.time (0 : Int) (30 : Int))) && (within c.proc (0 : Int) (2 : Int))) = true → ((((((within c.value (0 : Int) (3 : Int)) && (within c.time (0 : Int) (30 : Int))) && (within c.proc (0 : Int) (2 : Int))) = true) ∧ ((((within c.value (0 : Int) (3 : Int)) && (within c.time (0 : Int) (30 : Int))) && (within c.proc (0 : Int) (2 : Int))) = true) ∧ True) ∧ ((decide ((0 : Int) < c.time)) = true → True) ∧ ((decide ((0 : Int) < c.time)) = false → (((((within c.value (0 : Int) (3 : Int)) && (within c.time (0 : Int) (30 : Int))) && (within c.proc (0 : Int) (2 : Int))) && ((((within c.value (0 : Int) (3 : Int)) && (within c.time (0 : Int) (30 : Int))) && (within c.proc (0 : Int) (2 : Int))) && (!(decide ((0 : Int) < c.time))))) = true) ∧ True))) ∧ (True ∧ ((((within c.value (0 : Int) (3 : Int)) && (within c.time (0 : Int) (30 : Int))) && (within c.proc (0 : Int) (2 : Int))) = true → ((((within c.value (0 : Int) (3 : Int)) && (within c.time (0 : Int) (30 : Int))) && (within c.proc (0 : Int) (2 : Int))) = true) ∧ True) ∧ ((((within c.value (0 : Int) (3 : Int)) && (within c.time (0 : Int) (30 : Int))) && (within c.proc (0 : Int) (2 : Int))) = false → True)) ∧ True ∧ True) (by kernel_rfl)
    ⟨tt,tt,⟨tt,⟨tt,tt,tt,tt⟩,tt⟩,tt,(fun _ => trivial),(fun hG => ⟨hG,tt⟩),(fun hG => ⟨tt,⟨⟨hG,tt⟩,tt,tt,tt⟩,tt⟩),⟨tt,(fun hp => ⟨hp,tt⟩),(fun _ => trivial)⟩,tt,(fun _ => trivial),(fun hG => ⟨hG,tt⟩),(fun hG => ⟨tt,⟨⟨hG,tt⟩,tt,tt,tt⟩,tt⟩),⟨tt,(fun hp => ⟨hp,tt⟩),(fun _ => trivial)⟩,tt,(fun _ => trivial),(fun hG => ⟨hG,tt⟩),(fun hG => ⟨⟨hG,tt⟩,tt,tt⟩),(fun _ => trivial),(fun _ => trivial),(fun hG => ⟨hG,tt⟩),(fun hG => ⟨⟨hG,tt⟩,tt,tt⟩),(fun _ => trivial),(fun _ => trivial),(fun hG => ⟨hG,tt⟩),(fun hG => ⟨⟨hG,tt⟩,tt,tt⟩),(fun hG => ⟨⟨hG,hG,tt⟩,(fun hp => ⟨(and_t hG (and_t hG hp)),tt⟩),(fun _ => trivial)⟩),(fun hG => ⟨⟨hG,hG,tt⟩,(fun _ => trivial),(fun hp => ⟨(and_t hG (and_t hG (not_t hp))),tt⟩)⟩),⟨tt,(fun hp => ⟨hp,tt⟩),(fun _ => trivial)⟩,tt,tt⟩ ?_
   refine W.K cok tab12 hnt [] [2] (⟨[(2,.b ((((countsOK c.up) && (countsOK c.down)) && ((((within c.value (0 : Int) (3 : Int)) && (within c.time (0 : Int) (30 : Int))) && (within c.proc (0 : Int) (2 : Int))) && ((decide ((0 : Int) < c.time)) || ((decide (c.value = (0 : Int))) && (decide (c.proc = (0 : Int))))))) && (decide ((((List.length c.marks) : Nat) : Int) ≤ (20 : Int)))))],[(1,⟨26,.fix [.sl (.ints c.up),.sl (.ints c.down),.i c.value,.i c.time,.i c.proc,.sl (.marks c.marks)]⟩)],[1,999]⟩)
    (True ∧ True ∧ (True ∧ (True ∧ True) ∧ True) ∧ True ∧ ((countsOK c.up) = true → True) ∧ ((countsOK c.up) = true → (((countsOK c.up) = true) ∧ True)) ∧ ((countsOK c.up) = true → (True ∧ ((((countsOK c.up) = true) ∧ True) ∧ True) ∧ True)) ∧ (True ∧ ((countsOK c.up) = true → ((countsOK c.up) = true) ∧ True) ∧ ((countsOK c.up) = false → True)) ∧ True ∧ (((countsOK c.up) && (countsOK c.down)) = true → True) ∧ (True ∧ (((countsOK c.up) && (countsOK c.down)) = true → (((countsOK c.up) && (countsOK c.down)) = true) ∧ True) ∧ (((countsOK c.up) && (countsOK c.down)) = false → True)) ∧ True ∧ ((((countsOK c.up) && (countsOK c.down)) && ((((within c.value (0 : Int) (3 : Int)) && (within c.time (0 : Int) (30 : Int))) && (within c.proc (0 : Int) (2 : Int))) && ((decide ((0 : Int) < c.time)) || ((decide (c.value = (0 : Int))) && (decide (c.proc = (0 : Int))))))) = true → True) ∧ ((((countsOK c.up) && (countsOK c.down)) && ((((within c.value (0 : Int) (3 : Int)) && (within c.time (0 : Int) (30 : Int))) && (within c.proc (0 : Int) (2 : Int))) && ((decide ((0 : Int) < c.time)) || ((decide (c.value = (0 : Int))) && (decide (c.proc = (0 : Int))))))) = true → (((((countsOK c.up) && (countsOK c.down)) && ((((within c.value (0 : Int) (3 : Int)) && (within c.time (0 : Int) (30 : Int))) && (within c.proc (0 : Int) (2 : Int))) && ((decide ((0 : Int) < c.time)) || ((decide (c.value = (0 : Int))) && (decide (c.proc = (0 : Int))))))) = true) ∧ True)) ∧ ((((countsOK c.up) && (countsOK c.down)) && ((((within c.value (0 : Int) (3 : Int)) && (within c.time (0 : Int) (30 : Int))) && (within c.proc (0 : Int) (2 : Int))) && ((decide ((0 : Int) < c.time)) || ((decide (c.value = (0 : Int))) && (decide (c.proc = (0 : Int))))))) = true → (((((countsOK c.up) && (countsOK c.down)) && ((((within c.value (0 : Int) (3 : Int)) && (within c.time (0 : Int) (30 : Int))) && (within c.proc (0 : Int) (2 : Int))) && ((decide ((0 : Int) < c.time)) || ((decide (c.value = (0 : Int))) && (decide (c.proc = (0 : Int))))))) = true) ∧ True)) ∧ ((((countsOK c.up) && (countsOK c.down)) && ((((within c.value (0 : Int) (3 : Int)) && (within c.time (0 : Int) (30 : Int))) && (within c.proc (0 : Int) (2 : Int))) && ((decide ((0 : Int) < c.time)) || ((decide (c.value = (0 : Int))) && (decide (c.proc = (0 : Int))))))) = true → ((((((countsOK c.up) && (countsOK c.down)) && ((((within c.value (0 : Int) (3 : Int)) && (within c.time (0 : Int) (30 : Int))) && (within c.proc (0 : Int) (2 : Int))) && ((decide ((0 : Int) < c.time)) || ((decide (c.value = (0 : Int))) && (decide (c.proc = (0 : Int))))))) = true) ∧ True) ∧ True ∧ True)) ∧ (True ∧ ((((countsOK c.up) && (countsOK c.down)) && ((((within c.value (0 : Int) (3 : Int)) && (within c.time (0 : Int) (30 : Int))) && (within c.proc (0 : Int) (2 : Int))) && ((decide ((0 : Int) < c.time)) || ((decide (c.value = (0 : Int))) && (decide (c.proc = (0 : Int))))))) = true → ((((countsOK c.up) && (countsOK c.down)) && ((((within c.value (0 : Int) (3 : Int)) && (within c.time (0 : Int) (30 : Int))) && (within c.proc (0 : Int) (2 : Int))) && ((decide ((0 : Int) < c.time)) || ((decide (c.value = (0 : Int))) && (decide (c.proc = (0 : Int))))))) = true) ∧ True) ∧ ((((countsOK c.up) && (countsOK c.down)) && ((((within c.value (0 : Int) (3 : Int)) && (within c.time (0 : Int) (30 : Int))) && (within c.proc (0 : Int) (2 : Int))) && ((decide ((0 : Int) < c.time)) || ((decide (c.value = (0 : Int))) && (decide (c.proc = (0 : Int))))))) = false → True)) ∧ True ∧ True) (by kernel_rfl)
    ⟨tt,tt,⟨tt,⟨tt,tt⟩,tt⟩,tt,(fun _ => trivial),(fun hG => ⟨hG,tt⟩),(fun hG => ⟨tt,⟨⟨hG,tt⟩,tt⟩,tt⟩),⟨tt,(fun hp => ⟨hp,tt⟩),(fun _ => trivial)⟩,tt,(fun _ => trivial),⟨tt,(fun hp => ⟨hp,tt⟩),(fun _ => trivial)⟩,tt,(fun _ => trivial),(fun hG => ⟨hG,tt⟩),(fun hG => ⟨hG,tt⟩),(fun hG => ⟨⟨hG,tt⟩,tt,tt⟩),⟨tt,(fun hp => ⟨hp,tt⟩),(fun _ => trivial)⟩,tt,tt⟩ ?_
   refine W.ret ?_
   exact endQ_ret (.b ((((countsOK c.up) && (countsOK c.down)) && ((((within c.value (0 : Int) (3 : Int)) && (within c.time (0 : Int) (30 : Int))) && (within c.proc (0 : Int) (2 : Int))) && ((decide ((0 : Int) < c.time)) || ((decide (c.value = (0 : Int))) && (decide (c.proc = (0 : Int))))))) && (decide ((((List.length c.marks) : Nat) : Int) ≤ (20 : Int))))) (by kernel_rfl) (@cast ((.bool ((((countsOK c.up) && (countsOK c.down)) && ((((within c.value (0 : Int) (3 : Int)) && (within c.time (0 : Int) (30 : Int))) && (within c.proc (0 : Int) (2 : Int))) && ((decide ((0 : Int) < c.time)) || ((decide (c.value = (0 : Int))) && (decide (c.proc = (0 : Int))))))) && (decide ((((List.length c.marks) : Nat) : Int) ≤ (20 : Int)))) : Value) = .bool (validCopy c)) _ (by kernel_rfl) (congrArg Value.bool (by exact valid_impl (allN_true (fun j hj => hA j (by omega))))))
theorem ent12 : Entr prog 12 := ⟨_,func12,rfl,by decide⟩
end Go.Proofs.Try

set_option linter.unusedSimpArgs false
set_option linter.unusedVariables false
namespace Go.Proofs.Try
open Go.Ab Go.RowKit
def fs10 : FnS := fnS [.a [some .ints,some .ints,none,none,none,some .marks]] [.copy] (fun _ (c,_) => (.i (totalOf c),[],True))
abbrev T10 : Tab := lk [(12,fs12)]
theorem tab10 : TabOK prog T10 := (TabOK.cons ok12 ent12 TabOK.nil)
set_option maxRecDepth 100000 in
set_option maxHeartbeats 1000000 in
theorem ok10 : FnOK prog 10 fs10 := by
 refine FnOK.mk cok func10 rfl rfl rfl ?_
 rintro fl ⟨(c : CopyD),_⟩ hpre F hnt0 _
 have hnt : F.nt = 27 := hnt0.trans ntmps10
 clear hpre
 refine W.to (⟨[(0,.agg [.sl (.ints c.up),.sl (.ints c.down),.i c.value,.i c.time,.i c.proc,.sl (.marks c.marks)])],[],[999]⟩) rfl ?_
 refine W.lenA 0 0 [.sl (.ints c.up),.sl (.ints c.down),.i c.value,.i c.time,.i c.proc,.sl (.marks c.marks)] (.ints c.up) (by kernel_rfl) (by kernel_rfl) ?_
 intro hl_c_up; replace hl_c_up : List.length c.up ≤ 9223372036854775807 := hl_c_up
 refine W.lenA 0 1 [.sl (.ints c.up),.sl (.ints c.down),.i c.value,.i c.time,.i c.proc,.sl (.marks c.marks)] (.ints c.down) (by kernel_rfl) (by kernel_rfl) ?_
 intro hl_c_down; replace hl_c_down : List.length c.down ≤ 9223372036854775807 := hl_c_down
 refine W.lenA 0 5 [.sl (.ints c.up),.sl (.ints c.down),.i c.value,.i c.time,.i c.proc,.sl (.marks c.marks)] (.marks c.marks) (by kernel_rfl) (by kernel_rfl) ?_
 intro hl_c_marks; replace hl_c_marks : List.length c.marks ≤ 9223372036854775807 := hl_c_marks
 refine W.K cok tab10 hnt [] [1] (⟨[(1,.ptr 1 0)],[(1,⟨26,.fix [.sl (.ints c.up),.sl (.ints c.down),.i c.value,.i c.time,.i c.proc,.sl (.marks c.marks)]⟩)],[1,999]⟩)
  (True ∧ True ∧ True) (by kernel_rfl)
  ⟨tt,tt,tt⟩ ?_
 refine W.K cok tab10 hnt [] [1,3] (⟨[(1,.ptr 1 0),(3,.i (0 : Int))],[(1,⟨26,.fix [.sl (.ints c.up),.sl (.ints c.down),.i c.value,.i c.time,.i c.proc,.sl (.marks c.marks)]⟩)],[1,999]⟩)
  (True ∧ True) (by kernel_rfl)
  ⟨tt,tt⟩ ?_
 refine W.seq ?_
 refine W.K cok tab10 hnt [] [1,3,7] (⟨[(1,.ptr 1 0),(3,.i (0 : Int)),(7,.b (!(validCopy c)))],[(1,⟨26,.fix [.sl (.ints c.up),.sl (.ints c.down),.i c.value,.i c.time,.i c.proc,.sl (.marks c.marks)]⟩)],[1,999]⟩)
  (True ∧ (True ∧ ((True ∧ True ∧ True ∧ True ∧ True ∧ True ∧ True ∧ True) ∧ True) ∧ True) ∧ True ∧ True) (by kernel_rfl)
  ⟨tt,⟨tt,⟨⟨tt,tt,tt,tt,tt,tt,tt,tt⟩,tt⟩,tt⟩,tt,tt⟩ ?_
 refine W.if' (!(validCopy c)) (.b (!(validCopy c))) (by kernel_rfl) rfl trivial ?_ ?_
 ·intro h7
  refine W.K cok tab10 hnt [] [2] (⟨[(2,.i (0 : Int))],[(1,⟨26,.fix [.sl (.ints c.up),.sl (.ints c.down),.i c.value,.i c.time,.i c.proc,.sl (.marks c.marks)]⟩)],[1,999]⟩)
   (True ∧ True ∧ True) (by kernel_rfl)
   ⟨tt,tt,tt⟩ ?_
  refine W.ret (thenQ_ret ?_)
  exact endQ_ret (.i (0 : Int)) (by kernel_rfl) (@cast ((.int .i64 (0 : Int) : Value) = .int .i64 (totalOf c)) _ (by kernel_rfl) (congrArg (Value.int .i64) (by unfold totalOf; rw [not_f h7]; try rfl)))
 ·intro n7
  refine W.skip (thenQ_normal ?_)
  refine W.seq ?_
  refine W.K cok tab10 hnt [] [1,3,9] (⟨[(1,.ptr 1 0),(3,.i (0 : Int)),(9,.i (0 : Int))],[(1,⟨26,.fix [.sl (.ints c.up),.sl (.ints c.down),.i c.value,.i c.time,.i c.proc,.sl (.marks c.marks)]⟩)],[1,999]⟩)
   (True ∧ True) (by kernel_rfl)
   ⟨tt,tt⟩ ?_
  refine W.block ?_
  refine W.loop (ι := Int × Nat) (fun (x : Int × Nat) => match x with | (x,k) => (⟨[(1,.ptr 1 0),(3,.i x),(9,.i ((k : Nat) : Int))],[(1,⟨26,.fix [.sl (.ints c.up),.sl (.ints c.down),.i c.value,.i c.time,.i c.proc,.sl (.marks c.marks)]⟩)],[1,999]⟩ : St))
   (fun (x : Int × Nat) => match x with | (x,k) => (k ≤ 3) ∧ (x = sumN k (fun jj => c.up.getD jj 0 - c.down.getD jj 0)))
   (fun (x : Int × Nat) => match x with | (x,k) => (3 - k : Nat)) ((0 : Int),0) ?_ ?_ ?_
  ·exact (show (0 ≤ 3) ∧ ((0 : Int) = sumN 0 (fun jj => c.up.getD jj 0 - c.down.getD jj 0)) from ⟨(by first | assumption | omega | rfl | (intro _ hjj; omega) | (simp; done) | (simp; omega)),(by rfl)⟩)
  ·exact Sub.of [] (@cast (((((1 : Nat) = 1) ∧ (((0 : Nat) = 0) ∧ ((1 : Nat) ∈ ([1,999] : List Nat)))) ∧ (((.int .i64 (0 : Int) : Value) = .int .i64 (0 : Int)) ∧ (((.int .i64 (0 : Int) : Value) = .int .i64 ((0 : Nat) : Int)) ∧ True))) ∧ (((((26 : Nat) = 26) ∧ ((((.ints c.up : Dat) = .ints c.up) ∧ (((.ints c.down : Dat) = .ints c.down) ∧ (((.int .i64 c.value : Value) = .int .i64 c.value) ∧ (((.int .i64 c.time : Value) = .int .i64 c.time) ∧ (((.int .i64 c.proc : Value) = .int .i64 c.proc) ∧ (((.marks c.marks : Dat) = .marks c.marks) ∧ True)))))) ∧ ((1 : Nat) ∈ ([1,999] : List Nat)))) ∧ True) ∧ ((true = true) ∧ (true = true)))) _ (by kernel_rfl) ⟨⟨⟨rfl,rfl,(by decide)⟩,rfl,(congrArg (Value.int .i64) (by first | rfl | omega | assumption | simp | simp_all)),tt⟩,⟨⟨rfl,⟨rfl,rfl,rfl,rfl,rfl,rfl,tt⟩,(by decide)⟩,tt⟩,rfl,rfl⟩)
  ·rintro ⟨x,k⟩ hC0
   have hC : (k ≤ 3) ∧ (x = sumN k (fun jj => c.up.getD jj 0 - c.down.getD jj 0)) := hC0
   clear hC0
   obtain ⟨hk,hx⟩ := hC
   refine W.to (⟨[(1,.ptr 1 0),(3,.i x),(9,.i ((k : Nat) : Int))],[(1,⟨26,.fix [.sl (.ints c.up),.sl (.ints c.down),.i c.value,.i c.time,.i c.proc,.sl (.marks c.marks)]⟩)],[1,999]⟩) rfl ?_
   have hl := up_len (not_g n7)
   have hb := sum3_bnd (not_g n7) hk
   have hu1 := hl.2.2.1 k
   have hd1 := hl.2.2.2.1 k
   refine W.K cok tab10 hnt [] [1,3,9,10] (⟨[(1,.ptr 1 0),(3,.i x),(9,.i ((k : Nat) : Int)),(10,.b (decide (((k : Nat) : Int) < (3 : Int))))],[(1,⟨26,.fix [.sl (.ints c.up),.sl (.ints c.down),.i c.value,.i c.time,.i c.proc,.sl (.marks c.marks)]⟩)],[1,999]⟩)
    ((True ∧ True ∧ True) ∧ True) (by kernel_rfl)
    ⟨⟨tt,tt,tt⟩,tt⟩ ?_
   refine W.seq ?_
   refine W.ifP (((k : Nat) : Int) < (3 : Int)) (.b (decide (((k : Nat) : Int) < (3 : Int)))) (by kernel_rfl) rfl trivial ?_ ?_
   ·intro h10
    refine W.skip (thenQ_normal ?_)
    refine W.seq ?_
    refine W.block ?_
    refine W.K cok tab10 hnt [] [1,3,4,9] (⟨[(1,.ptr 1 0),(3,.i x),(4,.i ((k : Nat) : Int)),(9,.i ((k : Nat) : Int))],[(1,⟨26,.fix [.sl (.ints c.up),.sl (.ints c.down),.i c.value,.i c.time,.i c.proc,.sl (.marks c.marks)]⟩)],[1,999]⟩)
     (True ∧ True ∧ True) (by kernel_rfl)
     ⟨tt,tt,tt⟩ ?_
    refine W.LA cok tab10 hnt [] (⟨[(1,.ptr 1 0),(3,.i (x + ((List.getD c.up k 0) - (List.getD c.down k 0)))),(4,.i ((k : Nat) : Int)),(9,.i ((k : Nat) : Int)),(12,.i x),(13,.ptr 1 0),(14,.sl (.ints c.up)),(15,.i ((k : Nat) : Int)),(16,.ep [.i (List.getD c.up k 0)]),(17,.i (List.getD c.up k 0)),(18,.ptr 1 1),(19,.sl (.ints c.down)),(20,.i ((k : Nat) : Int)),(21,.ep [.i (List.getD c.down k 0)]),(22,.i (List.getD c.down k 0)),(23,.i ((List.getD c.up k 0) - (List.getD c.down k 0))),(24,.i (x + ((List.getD c.up k 0) - (List.getD c.down k 0))))],[(1,⟨26,.fix [.sl (.ints c.up),.sl (.ints c.down),.i c.value,.i c.time,.i c.proc,.sl (.marks c.marks)]⟩)],[1,999]⟩)
     (True ∧ True ∧ True ∧ True ∧ (True ∧ True ∧ (0 ≤ ((k : Nat) : Int)) ∧ (((k : Nat) : Int) < (((List.length c.up) : Nat) : Int))) ∧ True ∧ True ∧ True ∧ True ∧ (True ∧ True ∧ (0 ≤ ((k : Nat) : Int)) ∧ (((k : Nat) : Int) < (((List.length c.down) : Nat) : Int))) ∧ True ∧ (True ∧ True ∧ (Fits .i64 ((List.getD c.up k 0) - (List.getD c.down k 0)))) ∧ (True ∧ True ∧ (Fits .i64 (x + ((List.getD c.up k 0) - (List.getD c.down k 0))))) ∧ True ∧ True) (by kernel_rfl) (by kernel_rfl)
     ⟨tt,tt,tt,tt,⟨tt,tt,(by omega),(by omega)⟩,tt,tt,tt,tt,⟨tt,tt,(by omega),(by omega)⟩,tt,⟨tt,tt,(by exact fits_i64 (by (first | omega | (simp only [List.length_set]; done) | (simp only [List.length_append,List.length_cons,List.length_nil,List.length_take,List.length_drop,List.length_set,List.length_replicate,List.length_map] at *; omega) | assumption)) (by (first | omega | (simp only [List.length_set]; done) | (simp only [List.length_append,List.length_cons,List.length_nil,List.length_take,List.length_drop,List.length_set,List.length_replicate,List.length_map] at *; omega) | assumption)))⟩,⟨tt,tt,(by exact fits_i64 (by (first | omega | (simp only [List.length_set]; done) | (simp only [List.length_append,List.length_cons,List.length_nil,List.length_take,List.length_drop,List.length_set,List.length_replicate,List.length_map] at *; omega) | assumption)) (by (first | omega | (simp only [List.length_set]; done) | (simp only [List.length_append,List.length_cons,List.length_nil,List.length_take,List.length_drop,List.length_set,List.length_replicate,List.length_map] at *; omega) | assumption)))⟩,tt,tt⟩ ?_
    refine blockQ_normal (thenQ_normal ?_)
    refine W.L cok tab10 hnt [] (⟨[(1,.ptr 1 0),(3,.i (x + ((List.getD c.up k 0) - (List.getD c.down k 0)))),(4,.i ((k : Nat) : Int)),(9,.i (((k + 1) : Nat) : Int)),(12,.i x),(13,.ptr 1 0),(14,.sl (.ints c.up)),(15,.i ((k : Nat) : Int)),(16,.ep [.i (List.getD c.up k 0)]),(17,.i (List.getD c.up k 0)),(18,.ptr 1 1),(19,.sl (.ints c.down)),(20,.i ((k : Nat) : Int)),(21,.ep [.i (List.getD c.down k 0)]),(22,.i (List.getD c.down k 0)),(23,.i ((List.getD c.up k 0) - (List.getD c.down k 0))),(24,.i (x + ((List.getD c.up k 0) - (List.getD c.down k 0)))),(25,.i (((k + 1) : Nat) : Int))],[(1,⟨26,.fix [.sl (.ints c.up),.sl (.ints c.down),.i c.value,.i c.time,.i c.proc,.sl (.marks c.marks)]⟩)],[1,999]⟩)
     ((True ∧ True ∧ (Fits .i64 (((k + 1) : Nat) : Int))) ∧ True ∧ True) (by kernel_rfl)
     ⟨⟨tt,tt,(by exact fits_i64 (by omega) (by omega))⟩,tt,tt⟩ ?_
    refine thenQ_normal ?_
    refine ⟨((x + ((List.getD c.up k 0) - (List.getD c.down k 0))),(k + 1)),(show ((k + 1) ≤ 3) ∧ ((x + ((List.getD c.up k 0) - (List.getD c.down k 0))) = sumN (k + 1) (fun jj => c.up.getD jj 0 - c.down.getD jj 0)) from ⟨(by first | assumption | omega | rfl | (intro _ hjj; omega) | (simp; done) | (simp; omega)),(by rw [hx]; simp only [sumN]; try omega)⟩),(show 3 - (k + 1) < 3 - k from (by first | omega | (simp_all; omega))),?_⟩
    exact Sub.of [] (@cast (((((1 : Nat) = 1) ∧ (((0 : Nat) = 0) ∧ ((1 : Nat) ∈ ([1,999] : List Nat)))) ∧ (((.int .i64 (x + ((List.getD c.up k 0) - (List.getD c.down k 0))) : Value) = .int .i64 (x + ((List.getD c.up k 0) - (List.getD c.down k 0)))) ∧ (((.int .i64 (((k + 1) : Nat) : Int) : Value) = .int .i64 (((k + 1) : Nat) : Int)) ∧ True))) ∧ (((((26 : Nat) = 26) ∧ ((((.ints c.up : Dat) = .ints c.up) ∧ (((.ints c.down : Dat) = .ints c.down) ∧ (((.int .i64 c.value : Value) = .int .i64 c.value) ∧ (((.int .i64 c.time : Value) = .int .i64 c.time) ∧ (((.int .i64 c.proc : Value) = .int .i64 c.proc) ∧ (((.marks c.marks : Dat) = .marks c.marks) ∧ True)))))) ∧ ((1 : Nat) ∈ ([1,999] : List Nat)))) ∧ True) ∧ ((true = true) ∧ (true = true)))) _ (by kernel_rfl) ⟨⟨⟨rfl,rfl,(by decide)⟩,rfl,rfl,tt⟩,⟨⟨rfl,⟨rfl,rfl,rfl,rfl,rfl,rfl,tt⟩,(by decide)⟩,tt⟩,rfl,rfl⟩)
   ·intro n10
    refine W.exit (thenQ_exit (thenQ_exit (blockQ_hit ?_)))
    refine thenQ_normal ?_
    refine W.K cok tab10 hnt [] [2] (⟨[(2,.i x)],[(1,⟨26,.fix [.sl (.ints c.up),.sl (.ints c.down),.i c.value,.i c.time,.i c.proc,.sl (.marks c.marks)]⟩)],[1,999]⟩)
     (True ∧ True ∧ True) (by kernel_rfl)
     ⟨tt,tt,tt⟩ ?_
    refine W.ret ?_
    exact endQ_ret (.i x) (by kernel_rfl) (@cast ((.int .i64 x : Value) = .int .i64 (totalOf c)) _ (by kernel_rfl) (congrArg (Value.int .i64) (by unfold totalOf; rw [not_g n7,hx,show k = 3 by omega]; try rfl)))
theorem ent10 : Entr prog 10 := ⟨_,func10,rfl,by decide⟩
end Go.Proofs.Try

set_option linter.unusedSimpArgs false
set_option linter.unusedVariables false
namespace Go.Proofs.Try
open Go.Ab Go.RowKit
def fs49 : FnS := fnS [.o,.o,.o] [.int,.int,.int] (fun _ (n,low,high,_) => (.b (within n low high),[],True))
abbrev T49 : Tab := lk []
theorem tab49 : TabOK prog T49 := TabOK.nil
set_option maxRecDepth 100000 in
set_option maxHeartbeats 1000000 in
theorem ok49 : FnOK prog 49 fs49 := by
 refine FnOK.mk cok func49 rfl rfl rfl ?_
 rintro fl ⟨(n : Int),(low : Int),(high : Int),_⟩ hpre F hnt0 _
 have hnt : F.nt = 15 := hnt0.trans ntmps49
 clear hpre
 refine W.to (⟨[(0,.i n),(1,.i low),(2,.i high)],[],[999]⟩) rfl ?_
 refine W.K cok tab49 hnt [] [0,1,2] (⟨[(0,.i n),(1,.i low),(2,.i high)],[],[999]⟩)
  (True ∧ True) (by kernel_rfl)
  ⟨tt,tt⟩ ?_
 refine W.K cok tab49 hnt [] [6] (⟨[(6,.b ((decide (low ≤ n)) && (decide (n ≤ high))))],[],[999]⟩)
  (True ∧ True ∧ (True ∧ True ∧ True) ∧ True ∧ ((decide (low ≤ n)) = true → True) ∧ ((decide (low ≤ n)) = true → True) ∧ ((decide (low ≤ n)) = true → ((((decide (low ≤ n)) = true) ∧ True) ∧ (((decide (low ≤ n)) = true) ∧ True) ∧ True)) ∧ (True ∧ ((decide (low ≤ n)) = true → ((decide (low ≤ n)) = true) ∧ True) ∧ ((decide (low ≤ n)) = false → True)) ∧ True ∧ True) (by kernel_rfl)
  ⟨tt,tt,⟨tt,tt,tt⟩,tt,(fun _ => trivial),(fun _ => trivial),(fun hG => ⟨⟨hG,tt⟩,⟨hG,tt⟩,tt⟩),⟨tt,(fun hp => ⟨hp,tt⟩),(fun _ => trivial)⟩,tt,tt⟩ ?_
 refine W.ret ?_
 exact endQ_ret (.b ((decide (low ≤ n)) && (decide (n ≤ high)))) (by kernel_rfl) (@cast ((.bool ((decide (low ≤ n)) && (decide (n ≤ high))) : Value) = .bool (within n low high)) _ (by kernel_rfl) (congrArg Value.bool (by first | rfl | simp_all)))
theorem ent49 : Entr prog 49 := ⟨_,func49,rfl,by decide⟩
end Go.Proofs.Try

set_option linter.unusedSimpArgs false
set_option linter.unusedVariables false
namespace Go.Proofs.Try
open Go.Ab Go.RowKit
def fs61 : FnS := fnS [.o,.o] [.mark,.mark] (fun _ (a,b,_) => (.b (lessM a b),[],True))
abbrev T61 : Tab := lk []
theorem tab61 : TabOK prog T61 := TabOK.nil
set_option maxRecDepth 100000 in
set_option maxHeartbeats 1000000 in
theorem ok61 : FnOK prog 61 fs61 := by
 refine FnOK.mk cok func61 rfl rfl rfl ?_
 rintro fl ⟨(a : MarkD),(b : MarkD),_⟩ hpre F hnt0 _
 have hnt : F.nt = 20 := hnt0.trans ntmps61
 clear hpre
 refine W.to (⟨[(0,.agg [.i a.value,.i a.proc,.i a.number,.b a.gone]),(1,.agg [.i b.value,.i b.proc,.i b.number,.b b.gone])],[],[999]⟩) rfl ?_
 refine W.K cok tab61 hnt [] [2,3] (⟨[(2,.ptr 2 0),(3,.ptr 3 0)],[(2,⟨52,.fix [.i a.value,.i a.proc,.i a.number,.b a.gone]⟩),(3,⟨52,.fix [.i b.value,.i b.proc,.i b.number,.b b.gone]⟩)],[3,2,999]⟩)
  (True ∧ True ∧ True ∧ True) (by kernel_rfl)
  ⟨tt,tt,tt,tt⟩ ?_
 refine W.seq ?_
 refine W.K cok tab61 hnt [] [2,3,9] (⟨[(2,.ptr 2 0),(3,.ptr 3 0),(9,.b (decide (a.proc ≠ b.proc)))],[(2,⟨52,.fix [.i a.value,.i a.proc,.i a.number,.b a.gone]⟩),(3,⟨52,.fix [.i b.value,.i b.proc,.i b.number,.b b.gone]⟩)],[3,2,999]⟩)
  (True ∧ True ∧ True ∧ True ∧ (True ∧ True ∧ True) ∧ True) (by kernel_rfl)
  ⟨tt,tt,tt,tt,⟨tt,tt,tt⟩,tt⟩ ?_
 refine W.ifP (a.proc ≠ b.proc) (.b (decide (a.proc ≠ b.proc))) (by kernel_rfl) rfl trivial ?_ ?_
 ·intro h9
  refine W.K cok tab61 hnt [] [4] (⟨[(4,.b (decide (a.proc < b.proc)))],[(2,⟨52,.fix [.i a.value,.i a.proc,.i a.number,.b a.gone]⟩),(3,⟨52,.fix [.i b.value,.i b.proc,.i b.number,.b b.gone]⟩)],[3,2,999]⟩)
   (True ∧ True ∧ True ∧ True ∧ (True ∧ True ∧ True) ∧ True ∧ True) (by kernel_rfl)
   ⟨tt,tt,tt,tt,⟨tt,tt,tt⟩,tt,tt⟩ ?_
  refine W.ret (thenQ_ret ?_)
  exact endQ_ret (.b (decide (a.proc < b.proc))) (by kernel_rfl) (@cast ((.bool (decide (a.proc < b.proc)) : Value) = .bool (lessM a b)) _ (by kernel_rfl) (congrArg Value.bool (by unfold lessM; rw [decide_eq_true h9]; rfl)))
 ·intro n9
  refine W.skip (thenQ_normal ?_)
  refine W.K cok tab61 hnt [] [4] (⟨[(4,.b (decide (a.number < b.number)))],[(2,⟨52,.fix [.i a.value,.i a.proc,.i a.number,.b a.gone]⟩),(3,⟨52,.fix [.i b.value,.i b.proc,.i b.number,.b b.gone]⟩)],[3,2,999]⟩)
   (True ∧ True ∧ True ∧ True ∧ (True ∧ True ∧ True) ∧ True ∧ True) (by kernel_rfl)
   ⟨tt,tt,tt,tt,⟨tt,tt,tt⟩,tt,tt⟩ ?_
  refine W.ret ?_
  exact endQ_ret (.b (decide (a.number < b.number))) (by kernel_rfl) (@cast ((.bool (decide (a.number < b.number)) : Value) = .bool (lessM a b)) _ (by kernel_rfl) (congrArg Value.bool (by unfold lessM; rw [decide_eq_false n9]; rfl)))
theorem ent61 : Entr prog 61 := ⟨_,func61,rfl,by decide⟩
end Go.Proofs.Try
