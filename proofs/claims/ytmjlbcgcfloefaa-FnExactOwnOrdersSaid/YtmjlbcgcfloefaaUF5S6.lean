import Derived.Test.YtmjlbcgcfloefaaUF5S0
import Derived.Test.YtmjlbcgcfloefaaUF5S5
set_option linter.unusedSimpArgs false
set_option linter.unusedVariables false
namespace Go.Proofs.Try
open Go.Ab Go.RowKit Go.Shelf Go.Proofs
def fs54 : FnS := fnS [.s .ints] [.ints] (fun _ (l,_) => (.own 0 l.length,[(3,.ints l)],(l.length * 8 ≤ 140737488355328)))
def ren15 : Go.Shelf.Ren := ⟨fun _ => 54,fun k => bif Nat.beq k 22 then 23 else bif Nat.beq k 3 then 3 else bif Nat.beq k 4 then 4 else k,fun k => k⟩
set_option maxRecDepth 100000 in
theorem lays15 : Lays2.n15 prog ren15 where
 mixed := by kernel_rfl
 f15 := by kernel_rfl
 t3 := underlying3
 a3 := isAgg3
 z3 := sizeOf3
 v3 := zeroValue3
 t4 := underlying4
 a4 := isAgg4
 z4 := sizeOf4
 v4 := zeroValue4
 t22 := underlying23
 a22 := isAgg23
 z22 := sizeOf23
 v22 := zeroValue23
 i3 := by kernel_rfl
theorem ok54 : FnOK prog 54 fs54 := clone_ok lays15
theorem ent54 : Entr prog 54 := ⟨_,func54,rfl,by decide⟩
end Go.Proofs.Try

set_option linter.unusedSimpArgs false
set_option linter.unusedVariables false
namespace Go.Proofs.Try
open Go.Ab Go.RowKit
def fs60 : FnS := fnS [.o,.c .ints 3,.o] [.str,.ints,.call] (fun _ (s,l,c,_) => (.tup [.sl (.ints ((iSingle s l c).1)),.i ((iSingle s l c).2)],[],(∀ j,j < l.length → 0 ≤ l.getD j 0 ∧ l.getD j 0 ≤ 20) ∧ (0 ≤ c.arg ∧ c.arg ≤ 3) ∧ (l.length ≤ 20)))
abbrev T60 : Tab := lk []
theorem tab60 : TabOK prog T60 := TabOK.nil
set_option maxRecDepth 100000 in
set_option maxHeartbeats 1000000 in
theorem ok60 : FnOK prog 60 fs60 := by
 refine FnOK.mk cok func60 rfl rfl rfl ?_
 rintro fl ⟨(s : ByteArray),(l : List Int),(c : CallD),_⟩ hpre F hnt0 _
 have hnt : F.nt = 45 := hnt0.trans ntmps60
 replace hpre : (∀ j,j < l.length → 0 ≤ l.getD j 0 ∧ l.getD j 0 ≤ 20) ∧ (0 ≤ c.arg ∧ c.arg ≤ 3) ∧ (l.length ≤ 20) := hpre
 obtain ⟨hs,ha,hl⟩ := hpre
 refine W.to (⟨[(0,.v (.string s)),(1,.own 999 l.length),(2,.agg [.i c.proc,.i c.obj,.i c.kind,.i c.arg,.i c.ret,.i c.frm,.i c.to])],[(999,⟨3,.row (.ints l)⟩)],[999]⟩) rfl ?_
 refine Kk cok tab60 hnt [] [0,1,5] (⟨[(0,.v (.string s)),(1,.own 999 l.length),(5,.ptr 5 0)],[(5,⟨46,.fix [.i c.proc,.i c.obj,.i c.kind,.i c.arg,.i c.ret,.i c.frm,.i c.to]⟩),(999,⟨3,.row (.ints l)⟩)],[5,999]⟩)
  (True ∧ True ∧ True ∧ True)
  ⟨tt,tt,tt,tt⟩ ?_
 refine Kk cok tab60 hnt [] [0,1,5,8] (⟨[(0,.v (.string s)),(1,.own 999 l.length),(5,.ptr 5 0),(8,.i (0 : Int))],[(5,⟨46,.fix [.i c.proc,.i c.obj,.i c.kind,.i c.arg,.i c.ret,.i c.frm,.i c.to]⟩),(999,⟨3,.row (.ints l)⟩)],[5,999]⟩)
  (True ∧ True)
  ⟨tt,tt⟩ ?_
 refine W.seq ?_
 refine Kk cok tab60 hnt [] [0,1,5,8,11] (⟨[(0,.v (.string s)),(1,.own 999 l.length),(5,.ptr 5 0),(8,.i (0 : Int)),(11,.b (decide ((l.length : Int) = (1 : Int))))],[(5,⟨46,.fix [.i c.proc,.i c.obj,.i c.kind,.i c.arg,.i c.ret,.i c.frm,.i c.to]⟩),(999,⟨3,.row (.ints l)⟩)],[5,999]⟩)
  (True ∧ True ∧ (True ∧ True ∧ True) ∧ True)
  ⟨tt,tt,⟨tt,tt,tt⟩,tt⟩ ?_
 refine W.meetT (ι := Int) (fun (v : Int) => (⟨[(0,.v (.string s)),(1,.own 999 l.length),(5,.ptr 5 0),(8,.i v)],[(5,⟨46,.fix [.i c.proc,.i c.obj,.i c.kind,.i c.arg,.i c.ret,.i c.frm,.i c.to]⟩),(999,⟨3,.row (.ints l)⟩)],[5,999]⟩ : St)) (fun (v : Int) => (v = oneOf l) ∧ (0 ≤ v ∧ v ≤ 20)) ?_ ?_
 ·skip
  refine W.ifP ((l.length : Int) = (1 : Int)) (.b (decide ((l.length : Int) = (1 : Int)))) (by kernel_rfl) rfl trivial ?_ ?_
  ·intro h11
   refine Lk cok tab60 hnt [] (⟨[(0,.v (.string s)),(1,.own 999 l.length),(5,.ptr 5 0),(8,.i (l.getD 0 0)),(11,.b (decide ((l.length : Int) = (1 : Int)))),(12,.own 999 l.length),(13,.pel 999 1 0 0),(14,.i (l.getD 0 0))],[(5,⟨46,.fix [.i c.proc,.i c.obj,.i c.kind,.i c.arg,.i c.ret,.i c.frm,.i c.to]⟩),(999,⟨3,.row (.ints l)⟩)],[5,999]⟩)
    (True ∧ (True ∧ True ∧ (0 ≤ (0 : Int)) ∧ ((0 : Int) < (l.length : Int))) ∧ (True ∧ (0 < l.length)) ∧ True ∧ True)
    ⟨tt,⟨tt,tt,(by omega),(by omega)⟩,⟨tt,(by omega)⟩,tt,tt⟩ ?_
   refine thenQ_normal ?_
   refine ⟨((l.getD 0 0)),(show ((l.getD 0 0) = oneOf l) ∧ (0 ≤ (l.getD 0 0) ∧ (l.getD 0 0) ≤ 20) from ⟨(by unfold oneOf; first | (rw [decide_eq_true h11]; rfl) | (rw [decide_eq_false n11]; rfl)),(by first | omega | (have := hs 0 (by omega); omega))⟩),?_⟩
   exact Sub.of [] (@cast (((((.string s) : Value) = (.string s)) ∧ (((999 : Nat) = 999) ∧ (l.length = l.length) ∧ ((999 : Nat) ∈ ([5,999] : List Nat))) ∧ (((5 : Nat) = 5) ∧ ((0 : Nat) = 0) ∧ ((5 : Nat) ∈ ([5,999] : List Nat))) ∧ (Si (l.getD 0 0)) ∧ True) ∧ ((((46 : Nat) = 46) ∧ ((Si c.proc) ∧ (Si c.obj) ∧ (Si c.kind) ∧ (Si c.arg) ∧ (Si c.ret) ∧ (Si c.frm) ∧ (Si c.to) ∧ True) ∧ ((5 : Nat) ∈ ([5,999] : List Nat))) ∧ (((3 : Nat) = 3) ∧ (Sd (.ints l)) ∧ ((999 : Nat) ∈ ([5,999] : List Nat))) ∧ True) ∧ (true = true) ∧ (true = true)) _ (by kernel_rfl) ⟨⟨rfl,⟨rfl,rfl,(by decide)⟩,⟨rfl,rfl,(by decide)⟩,rfl,tt⟩,⟨⟨rfl,⟨rfl,rfl,rfl,rfl,rfl,rfl,rfl,tt⟩,(by decide)⟩,⟨rfl,rfl,(by decide)⟩,tt⟩,rfl,rfl⟩)
  ·intro n11
   refine W.skip (thenQ_normal ?_)
   refine ⟨((0 : Int)),(show ((0 : Int) = oneOf l) ∧ (0 ≤ (0 : Int) ∧ (0 : Int) ≤ 20) from ⟨(by unfold oneOf; first | (rw [decide_eq_true h11]; rfl) | (rw [decide_eq_false n11]; rfl)),(by first | omega | (have := hs 0 (by omega); omega))⟩),?_⟩
   exact Sub.of [] (@cast (((((.string s) : Value) = (.string s)) ∧ (((999 : Nat) = 999) ∧ (l.length = l.length) ∧ ((999 : Nat) ∈ ([5,999] : List Nat))) ∧ (((5 : Nat) = 5) ∧ ((0 : Nat) = 0) ∧ ((5 : Nat) ∈ ([5,999] : List Nat))) ∧ (Si (0 : Int)) ∧ True) ∧ ((((46 : Nat) = 46) ∧ ((Si c.proc) ∧ (Si c.obj) ∧ (Si c.kind) ∧ (Si c.arg) ∧ (Si c.ret) ∧ (Si c.frm) ∧ (Si c.to) ∧ True) ∧ ((5 : Nat) ∈ ([5,999] : List Nat))) ∧ (((3 : Nat) = 3) ∧ (Sd (.ints l)) ∧ ((999 : Nat) ∈ ([5,999] : List Nat))) ∧ True) ∧ (true = true) ∧ (true = true)) _ (by kernel_rfl) ⟨⟨rfl,⟨rfl,rfl,(by decide)⟩,⟨rfl,rfl,(by decide)⟩,rfl,tt⟩,⟨⟨rfl,⟨rfl,rfl,rfl,rfl,rfl,rfl,rfl,tt⟩,(by decide)⟩,⟨rfl,rfl,(by decide)⟩,tt⟩,rfl,rfl⟩)
 ·rintro v hC0
  have hC : (v = oneOf l) ∧ (0 ≤ v ∧ v ≤ 20) := hC0
  clear hC0
  obtain ⟨hv,hvb⟩ := hC
  refine W.to (⟨[(0,.v (.string s)),(1,.own 999 l.length),(5,.ptr 5 0),(8,.i v)],[(5,⟨46,.fix [.i c.proc,.i c.obj,.i c.kind,.i c.arg,.i c.ret,.i c.frm,.i c.to]⟩),(999,⟨3,.row (.ints l)⟩)],[5,999]⟩) rfl ?_
  refine W.seq ?_
  refine W.block ?_
  refine Kk cok tab60 hnt [] [0,1,5,8,15] (⟨[(0,.v (.string s)),(1,.own 999 l.length),(5,.ptr 5 0),(8,.i v),(15,.b (decide (c.kind = (2 : Int))))],[(5,⟨46,.fix [.i c.proc,.i c.obj,.i c.kind,.i c.arg,.i c.ret,.i c.frm,.i c.to]⟩),(999,⟨3,.row (.ints l)⟩)],[5,999]⟩)
   (True ∧ True ∧ (True ∧ True ∧ True) ∧ True ∧ True)
   ⟨tt,tt,⟨tt,tt,tt⟩,tt,tt⟩ ?_
  refine W.ifP (c.kind = (2 : Int)) (.b (decide (c.kind = (2 : Int)))) (by kernel_rfl) rfl trivial ?_ ?_
  ·intro h15
   refine Kk cok tab60 hnt [] [6,7] (⟨[(6,.own 999 l.length),(7,.i v)],[(5,⟨46,.fix [.i c.proc,.i c.obj,.i c.kind,.i c.arg,.i c.ret,.i c.frm,.i c.to]⟩),(999,⟨3,.row (.ints l)⟩)],[5,999]⟩)
    (True ∧ True ∧ True ∧ True ∧ True)
    ⟨tt,tt,tt,tt,tt⟩ ?_
   refine W.ret (blockQ_ret (thenQ_ret ?_))
   exact endQ_ret (.tup [.own 999 l.length,.i v]) (by kernel_rfl) (@cast (((l.length = l.length) ∧ ((.ints l : Dat) = .ints ((iSingle s l c).1)) ∧ ((999 : Nat) ∉ ([] : List Nat))) ∧ ((.int .i64 v : Value) = .int .i64 ((iSingle s l c).2)) ∧ True) _ (by kernel_rfl) ⟨⟨rfl,(congrArg Dat.ints (by subst hv; simp only [iSingle,(decide_eq_true h15),cond_true,cond_false,Bool.and_true,Bool.true_and,Bool.and_false,Bool.false_and,Bool.or_true,Bool.true_or,Bool.or_false,Bool.false_or,Bool.not_true,Bool.not_false,List.length_nil])),(by decide)⟩,(congrArg (Value.int .i64) (by subst hv; simp only [iSingle,(decide_eq_true h15),cond_true,cond_false,Bool.and_true,Bool.true_and,Bool.and_false,Bool.false_and,Bool.or_true,Bool.true_or,Bool.or_false,Bool.false_or,Bool.not_true,Bool.not_false,List.length_nil])),tt⟩)
  ·intro n15
   refine Kk cok tab60 hnt [] [0,5,8,21] (⟨[(0,.v (.string s)),(5,.ptr 5 0),(8,.i v),(21,.b (decide (c.kind = (1 : Int))))],[(5,⟨46,.fix [.i c.proc,.i c.obj,.i c.kind,.i c.arg,.i c.ret,.i c.frm,.i c.to]⟩),(999,⟨3,.row (.ints l)⟩)],[5,999]⟩)
    (True ∧ True ∧ (True ∧ True ∧ True) ∧ True ∧ True)
    ⟨tt,tt,⟨tt,tt,tt⟩,tt,tt⟩ ?_
   refine W.ifP (c.kind = (1 : Int)) (.b (decide (c.kind = (1 : Int)))) (by kernel_rfl) rfl trivial ?_ ?_
   ·intro h21
    refine Kk cok tab60 hnt [] [6,7] (⟨[(6,.v (.slice none 0 0)),(7,.i v)],[(5,⟨46,.fix [.i c.proc,.i c.obj,.i c.kind,.i c.arg,.i c.ret,.i c.frm,.i c.to]⟩),(999,⟨3,.row (.ints l)⟩)],[5,999]⟩)
     (True ∧ True ∧ True ∧ True)
     ⟨tt,tt,tt,tt⟩ ?_
    refine W.ret (blockQ_ret (thenQ_ret ?_))
    exact endQ_ret (.tup [.v (.slice none 0 0),.i v]) (by kernel_rfl) (@cast ((((Value.slice none 0 0 : Value) = .slice none 0 0) ∧ ((Dat.ints ((iSingle s l c).1)).len = 0)) ∧ ((.int .i64 v : Value) = .int .i64 ((iSingle s l c).2)) ∧ True) _ (by kernel_rfl) ⟨⟨rfl,(by show List.length ((iSingle s l c).1) = 0; subst hv; simp only [iSingle,(decide_eq_true h21),(decide_eq_false n15),cond_true,cond_false,Bool.and_true,Bool.true_and,Bool.and_false,Bool.false_and,Bool.or_true,Bool.true_or,Bool.or_false,Bool.false_or,Bool.not_true,Bool.not_false,List.length_nil])⟩,(congrArg (Value.int .i64) (by subst hv; simp only [iSingle,(decide_eq_true h21),(decide_eq_false n15),cond_true,cond_false,Bool.and_true,Bool.true_and,Bool.and_false,Bool.false_and,Bool.or_true,Bool.true_or,Bool.or_false,Bool.false_or,Bool.not_true,Bool.not_false,List.length_nil])),tt⟩)
   ·intro n21
    refine Kk cok tab60 hnt [] [0,5,8,26] (⟨[(0,.v (.string s)),(5,.ptr 5 0),(8,.i v),(26,.b (eqS s nCounter))],[(5,⟨46,.fix [.i c.proc,.i c.obj,.i c.kind,.i c.arg,.i c.ret,.i c.frm,.i c.to]⟩),(999,⟨3,.row (.ints l)⟩)],[5,999]⟩)
     (True ∧ (True ∧ True ∧ True) ∧ True ∧ True)
     ⟨tt,⟨tt,tt,tt⟩,tt,tt⟩ ?_
    refine W.if' (eqS s nCounter) (.b (eqS s nCounter)) (by kernel_rfl) rfl trivial ?_ ?_
    ·intro h26
     refine Kk cok tab60 hnt [] [6,7] (⟨[(6,.sl (.ints ([(v + c.arg)]))),(7,.i (0 : Int))],[(5,⟨46,.fix [.i c.proc,.i c.obj,.i c.kind,.i c.arg,.i c.ret,.i c.frm,.i c.to]⟩),(999,⟨3,.row (.ints l)⟩)],[33,5,999]⟩)
      (True ∧ True ∧ True ∧ (True ∧ True ∧ (Fits .i64 (v + c.arg))) ∧ (True ∧ True) ∧ True ∧ True ∧ True)
      ⟨tt,tt,tt,⟨tt,tt,(by exact fits_i64 (by omega) (by omega))⟩,⟨tt,tt⟩,tt,tt,tt⟩ ?_
     refine W.ret (blockQ_ret (thenQ_ret ?_))
     exact endQ_ret (.tup [.sl (.ints ([(v + c.arg)])),.i (0 : Int)]) (by kernel_rfl) (@cast (((.ints ([(v + c.arg)]) : Dat) = .ints ((iSingle s l c).1)) ∧ ((.int .i64 (0 : Int) : Value) = .int .i64 ((iSingle s l c).2)) ∧ True) _ (by kernel_rfl) ⟨(congrArg Dat.ints (by subst hv; simp only [iSingle,h26,(decide_eq_false n15),(decide_eq_false n21),cond_true,cond_false,Bool.and_true,Bool.true_and,Bool.and_false,Bool.false_and,Bool.or_true,Bool.true_or,Bool.or_false,Bool.false_or,Bool.not_true,Bool.not_false,List.length_nil])),(congrArg (Value.int .i64) (by subst hv; simp only [iSingle,h26,(decide_eq_false n15),(decide_eq_false n21),cond_true,cond_false,Bool.and_true,Bool.true_and,Bool.and_false,Bool.false_and,Bool.or_true,Bool.true_or,Bool.or_false,Bool.false_or,Bool.not_true,Bool.not_false,List.length_nil])),tt⟩)
    ·intro n26
     refine Kk cok tab60 hnt [] [5,8,34] (⟨[(5,.ptr 5 0),(8,.i v),(34,.b (eqS s nMost))],[(5,⟨46,.fix [.i c.proc,.i c.obj,.i c.kind,.i c.arg,.i c.ret,.i c.frm,.i c.to]⟩),(999,⟨3,.row (.ints l)⟩)],[5,999]⟩)
      (True ∧ (True ∧ True ∧ True) ∧ True ∧ True)
      ⟨tt,⟨tt,tt,tt⟩,tt,tt⟩ ?_
     refine W.if' (eqS s nMost) (.b (eqS s nMost)) (by kernel_rfl) rfl trivial ?_ ?_
     ·intro h34
      refine Kk cok tab60 hnt [] [6,7] (⟨[(6,.sl (.ints ([(max v c.arg)]))),(7,.i (0 : Int))],[(5,⟨46,.fix [.i c.proc,.i c.obj,.i c.kind,.i c.arg,.i c.ret,.i c.frm,.i c.to]⟩),(999,⟨3,.row (.ints l)⟩)],[41,5,999]⟩)
       (True ∧ True ∧ True ∧ (True ∧ True) ∧ (True ∧ True) ∧ True ∧ True ∧ True)
       ⟨tt,tt,tt,⟨tt,tt⟩,⟨tt,tt⟩,tt,tt,tt⟩ ?_
      refine W.ret (blockQ_ret (thenQ_ret ?_))
      exact endQ_ret (.tup [.sl (.ints ([(max v c.arg)])),.i (0 : Int)]) (by kernel_rfl) (@cast (((.ints ([(max v c.arg)]) : Dat) = .ints ((iSingle s l c).1)) ∧ ((.int .i64 (0 : Int) : Value) = .int .i64 ((iSingle s l c).2)) ∧ True) _ (by kernel_rfl) ⟨(congrArg Dat.ints (by subst hv; simp only [iSingle,h34,(decide_eq_false n15),(decide_eq_false n21),n26,cond_true,cond_false,Bool.and_true,Bool.true_and,Bool.and_false,Bool.false_and,Bool.or_true,Bool.true_or,Bool.or_false,Bool.false_or,Bool.not_true,Bool.not_false,List.length_nil])),(congrArg (Value.int .i64) (by subst hv; simp only [iSingle,h34,(decide_eq_false n15),(decide_eq_false n21),n26,cond_true,cond_false,Bool.and_true,Bool.true_and,Bool.and_false,Bool.false_and,Bool.or_true,Bool.true_or,Bool.or_false,Bool.false_or,Bool.not_true,Bool.not_false,List.length_nil])),tt⟩)
     ·intro n34
      refine W.skip (blockQ_normal (thenQ_normal ?_))
      refine Kk cok tab60 hnt [] [6,7] (⟨[(6,.sl (.ints ([c.arg]))),(7,.i (0 : Int))],[(5,⟨46,.fix [.i c.proc,.i c.obj,.i c.kind,.i c.arg,.i c.ret,.i c.frm,.i c.to]⟩),(999,⟨3,.row (.ints l)⟩)],[44,5,999]⟩)
       (True ∧ True ∧ (True ∧ True) ∧ True ∧ True ∧ True)
       ⟨tt,tt,⟨tt,tt⟩,tt,tt,tt⟩ ?_
      refine W.ret ?_
      exact endQ_ret (.tup [.sl (.ints ([c.arg])),.i (0 : Int)]) (by kernel_rfl) (@cast (((.ints ([c.arg]) : Dat) = .ints ((iSingle s l c).1)) ∧ ((.int .i64 (0 : Int) : Value) = .int .i64 ((iSingle s l c).2)) ∧ True) _ (by kernel_rfl) ⟨(congrArg Dat.ints (by subst hv; simp only [iSingle,(decide_eq_false n15),(decide_eq_false n21),n26,n34,cond_true,cond_false,Bool.and_true,Bool.true_and,Bool.and_false,Bool.false_and,Bool.or_true,Bool.true_or,Bool.or_false,Bool.false_or,Bool.not_true,Bool.not_false,List.length_nil])),(congrArg (Value.int .i64) (by subst hv; simp only [iSingle,(decide_eq_false n15),(decide_eq_false n21),n26,n34,cond_true,cond_false,Bool.and_true,Bool.true_and,Bool.and_false,Bool.false_and,Bool.or_true,Bool.true_or,Bool.or_false,Bool.false_or,Bool.not_true,Bool.not_false,List.length_nil])),tt⟩)
theorem ent60 : Entr prog 60 := ⟨_,func60,rfl,by decide⟩
end Go.Proofs.Try

set_option linter.unusedSimpArgs false
set_option linter.unusedVariables false
namespace Go.Proofs.Try
open Go.Ab Go.RowKit
def fs63 : FnS := fnS [.s .ints,.o] [.ints,.int] (fun _ (l,x,_) => (.i (findI l x),[],True))
abbrev T63 : Tab := lk []
theorem tab63 : TabOK prog T63 := TabOK.nil
set_option maxRecDepth 100000 in
set_option maxHeartbeats 1000000 in
theorem ok63 : FnOK prog 63 fs63 := by
 refine FnOK.mk cok func63 rfl rfl rfl ?_
 rintro fl ⟨(l : List Int),(x : Int),_⟩ hpre F hnt0 _
 have hnt : F.nt = 19 := hnt0.trans ntmps63
 clear hpre
 refine W.to (⟨[(0,.sl (.ints l)),(1,.i x)],[],[999]⟩) rfl ?_
 refine W.lenOf 0 (.ints l) (by kernel_rfl) ?_
 intro hl_l; replace hl_l : List.length l ≤ 9223372036854775807 := hl_l
 refine Kk cok tab63 hnt [] [0,1] (⟨[(0,.sl (.ints l)),(1,.i x)],[],[999]⟩)
  (True ∧ True)
  ⟨tt,tt⟩ ?_
 refine W.seq ?_
 refine Kk cok tab63 hnt [] [0,1,7,8] (⟨[(0,.sl (.ints l)),(1,.i x),(7,.i (l.length : Int)),(8,.i (0 : Int))],[],[999]⟩)
  (True ∧ True ∧ True ∧ True)
  ⟨tt,tt,tt,tt⟩ ?_
 refine W.block ?_
 refine W.loop (ι := Nat) (fun (i : Nat) => (⟨[(0,.sl (.ints l)),(1,.i x),(7,.i (l.length : Int)),(8,.i ((i : Nat) : Int))],[],[999]⟩ : St))
  (fun (i : Nat) => (i ≤ l.length) ∧ (∀ j,j < i → ¬ l.getD j 0 = x))
  (fun (i : Nat) => (l.length - i : Nat)) (0) ?_ ?_ ?_
 ·exact (show (0 ≤ l.length) ∧ (∀ j,j < 0 → ¬ l.getD j 0 = x) from ⟨(by first | assumption | omega | rfl | (intro _ hjj; omega) | (simp; done) | (simp; omega)),(by exact upto_zero)⟩)
 ·exact Sub.of [] (@cast (((Sd (.ints l)) ∧ (Si x) ∧ (Si (l.length : Int)) ∧ ((.int .i64 (0 : Int) : Value) = .int .i64 ((0 : Nat) : Int)) ∧ True) ∧ True ∧ (true = true) ∧ (true = true)) _ (by kernel_rfl) ⟨⟨rfl,rfl,rfl,(congrArg (Value.int .i64) (by first | rfl | omega | assumption | simp | simp_all)),tt⟩,tt,rfl,rfl⟩)
 ·rintro i hC0
  have hC : (i ≤ l.length) ∧ (∀ j,j < i → ¬ l.getD j 0 = x) := hC0
  clear hC0
  obtain ⟨hi,hA⟩ := hC
  refine W.to (⟨[(0,.sl (.ints l)),(1,.i x),(7,.i (l.length : Int)),(8,.i ((i : Nat) : Int))],[],[999]⟩) rfl ?_
  refine Kk cok tab63 hnt [] [0,1,7,8,9] (⟨[(0,.sl (.ints l)),(1,.i x),(7,.i (l.length : Int)),(8,.i ((i : Nat) : Int)),(9,.b (decide (((i : Nat) : Int) < (l.length : Int))))],[],[999]⟩)
   ((True ∧ True ∧ True) ∧ True)
   ⟨⟨tt,tt,tt⟩,tt⟩ ?_
  refine W.seq ?_
  refine W.ifP (((i : Nat) : Int) < (l.length : Int)) (.b (decide (((i : Nat) : Int) < (l.length : Int)))) (by kernel_rfl) rfl trivial ?_ ?_
  ·intro h9
   refine W.skip (thenQ_normal ?_)
   refine W.seq ?_
   refine W.block ?_
   refine Kk cok tab63 hnt [] [0,1,5,7,8] (⟨[(0,.sl (.ints l)),(1,.i x),(5,.i ((i : Nat) : Int)),(7,.i (l.length : Int)),(8,.i ((i : Nat) : Int))],[],[999]⟩)
    (True ∧ True ∧ True)
    ⟨tt,tt,tt⟩ ?_
   refine Kk cok tab63 hnt [] [0,1,5,7,8,16] (⟨[(0,.sl (.ints l)),(1,.i x),(5,.i ((i : Nat) : Int)),(7,.i (l.length : Int)),(8,.i ((i : Nat) : Int)),(16,.b (decide (x = (l.getD i 0))))],[],[999]⟩)
    (True ∧ True ∧ True ∧ (True ∧ True ∧ (0 ≤ ((i : Nat) : Int)) ∧ (((i : Nat) : Int) < (l.length : Int))) ∧ True ∧ (True ∧ True ∧ True) ∧ True)
    ⟨tt,tt,tt,⟨tt,tt,(by omega),(by omega)⟩,tt,⟨tt,tt,tt⟩,tt⟩ ?_
   refine W.ifP (x = (l.getD i 0)) (.b (decide (x = (l.getD i 0)))) (by kernel_rfl) rfl trivial ?_ ?_
   ·intro h16
    refine Kk cok tab63 hnt [] [4] (⟨[(4,.i ((i : Nat) : Int))],[],[999]⟩)
     (True ∧ True ∧ True)
     ⟨tt,tt,tt⟩ ?_
    refine W.ret (blockQ_ret (thenQ_ret (thenQ_ret (blockQ_ret (thenQ_ret ?_)))))
    exact endQ_ret (.i ((i : Nat) : Int)) (by kernel_rfl) (@cast ((.int .i64 ((i : Nat) : Int) : Value) = .int .i64 (findI l x)) _ (by kernel_rfl) (congrArg (Value.int .i64) (by exact (findI_yes (by omega) h16 hA).symm)))
   ·intro n16
    refine W.skip (blockQ_normal (thenQ_normal ?_))
    refine Lk cok tab63 hnt [] (⟨[(0,.sl (.ints l)),(1,.i x),(5,.i ((i : Nat) : Int)),(7,.i (l.length : Int)),(8,.i (((i + 1) : Nat) : Int)),(16,.b (decide (x = (l.getD i 0)))),(18,.i (((i + 1) : Nat) : Int))],[],[999]⟩)
     ((True ∧ True ∧ (Fits .i64 (((i + 1) : Nat) : Int))) ∧ True ∧ True)
     ⟨⟨tt,tt,(by exact fits_i64 (by omega) (by omega))⟩,tt,tt⟩ ?_
    refine thenQ_normal ?_
    refine ⟨((i + 1)),(show ((i + 1) ≤ l.length) ∧ (∀ j,j < (i + 1) → ¬ l.getD j 0 = x) from ⟨(by first | assumption | omega | rfl | (intro _ hjj; omega) | (simp; done) | (simp; omega)),(by exact upto_succ hA (fun e => n16 e.symm))⟩),(show l.length - (i + 1) < l.length - i from (by first | omega | (simp_all; omega))),?_⟩
    exact Sub.of [] (@cast (((Sd (.ints l)) ∧ (Si x) ∧ (Si (l.length : Int)) ∧ (Si (((i + 1) : Nat) : Int)) ∧ True) ∧ True ∧ (true = true) ∧ (true = true)) _ (by kernel_rfl) ⟨⟨rfl,rfl,rfl,rfl,tt⟩,tt,rfl,rfl⟩)
  ·intro n9
   refine W.exit (thenQ_exit (thenQ_exit (blockQ_hit ?_)))
   refine thenQ_normal ?_
   refine Kk cok tab63 hnt [] [4] (⟨[(4,.i (-1 : Int))],[],[999]⟩)
    (True ∧ True)
    ⟨tt,tt⟩ ?_
   refine W.ret ?_
   exact endQ_ret (.i (-1 : Int)) (by kernel_rfl) (@cast ((.int .i64 (-1 : Int) : Value) = .int .i64 (findI l x)) _ (by kernel_rfl) (congrArg (Value.int .i64) (by exact (findI_no (fun j hj => hA j (by omega))).symm)))
theorem ent63 : Entr prog 63 := ⟨_,func63,rfl,by decide⟩
end Go.Proofs.Try

set_option linter.unusedSimpArgs false
set_option linter.unusedVariables false
namespace Go.Proofs.Try
open Go.Ab Go.RowKit Go.Shelf Go.Proofs
def fs64 : FnS := fnS [.c .ints 3,.o,.o] [.ints,.int,.int] (fun _ (l,i,j,_) => (.own 0 (List.length (l.take i.toNat ++ l.drop j.toNat)),[(3,.ints (l.take i.toNat ++ l.drop j.toNat))],(0 ≤ i) ∧ (i < j) ∧ (j ≤ l.length)))
def ren23 : Go.Shelf.Ren := ⟨fun _ => 64,fun k => bif Nat.beq k 22 then 23 else bif Nat.beq k 3 then 3 else bif Nat.beq k 4 then 4 else k,fun k => k⟩
set_option maxRecDepth 100000 in
theorem lays23 : Lays2.n23 prog ren23 where
 mixed := by kernel_rfl
 f23 := by kernel_rfl
 t0 := underlying0
 a0 := isAgg0
 z0 := sizeOf0
 v0 := zeroValue0
 t3 := underlying3
 a3 := isAgg3
 z3 := sizeOf3
 v3 := zeroValue3
 t4 := underlying4
 a4 := isAgg4
 z4 := sizeOf4
 v4 := zeroValue4
 t22 := underlying23
 a22 := isAgg23
 z22 := sizeOf23
 v22 := zeroValue23
 i3 := by kernel_rfl
theorem ok64 : FnOK prog 64 fs64 := delete_ok lays23
theorem ent64 : Entr prog 64 := ⟨_,func64,rfl,by decide⟩
end Go.Proofs.Try

set_option linter.unusedSimpArgs false
set_option linter.unusedVariables false
namespace Go.Proofs.Try
open Go.Ab Go.RowKit
def fs61 : FnS := fnS [.c .ints 3,.o] [.ints,.call] (fun _ (l,c,_) => (.tup [.sl (.ints ((iSet l c).1)),.i ((iSet l c).2)],[],(∀ j,j < l.length → 0 ≤ l.getD j 0 ∧ l.getD j 0 ≤ 20) ∧ (0 ≤ c.arg ∧ c.arg ≤ 3) ∧ (l.length ≤ 20)))
abbrev T61 : Tab := lk [(63,fs63),(64,fs64)]
theorem tab61 : TabOK prog T61 := (TabOK.cons ok63 ent63 (TabOK.cons ok64 ent64 TabOK.nil))
set_option maxRecDepth 100000 in
set_option maxHeartbeats 1000000 in
theorem ok61 : FnOK prog 61 fs61 := by
 refine FnOK.mk cok func61 rfl rfl rfl ?_
 rintro fl ⟨(l : List Int),(c : CallD),_⟩ hpre F hnt0 _
 have hnt : F.nt = 43 := hnt0.trans ntmps61
 replace hpre : (∀ j,j < l.length → 0 ≤ l.getD j 0 ∧ l.getD j 0 ≤ 20) ∧ (0 ≤ c.arg ∧ c.arg ≤ 3) ∧ (l.length ≤ 20) := hpre
 obtain ⟨hs,ha,hl⟩ := hpre
 refine W.to (⟨[(0,.own 999 l.length),(1,.agg [.i c.proc,.i c.obj,.i c.kind,.i c.arg,.i c.ret,.i c.frm,.i c.to])],[(999,⟨3,.row (.ints l)⟩)],[999]⟩) rfl ?_
 have hfl := find_lt l c.arg
 refine Kk cok tab61 hnt [] [0,3] (⟨[(0,.own 999 l.length),(3,.ptr 3 0)],[(3,⟨46,.fix [.i c.proc,.i c.obj,.i c.kind,.i c.arg,.i c.ret,.i c.frm,.i c.to]⟩),(999,⟨3,.row (.ints l)⟩)],[3,999]⟩)
  (True ∧ True ∧ True ∧ True)
  ⟨tt,tt,tt,tt⟩ ?_
 refine Kk cok tab61 hnt [] [0,3,6] (⟨[(0,.own 999 l.length),(3,.ptr 3 0),(6,.i (findI l c.arg))],[(3,⟨46,.fix [.i c.proc,.i c.obj,.i c.kind,.i c.arg,.i c.ret,.i c.frm,.i c.to]⟩),(999,⟨3,.row (.ints l)⟩)],[3,999]⟩)
  (True ∧ True ∧ True ∧ (True ∧ ((True ∧ (l.length = l.length)) ∧ True ∧ True) ∧ True) ∧ True ∧ True)
  ⟨tt,tt,tt,⟨tt,⟨⟨tt,rfl⟩,tt,tt⟩,tt⟩,tt,tt⟩ ?_
 refine W.seq ?_
 refine W.block ?_
 refine Kk cok tab61 hnt [] [0,3,6,11] (⟨[(0,.own 999 l.length),(3,.ptr 3 0),(6,.i (findI l c.arg)),(11,.b ((decide (c.kind = (0 : Int))) && (decide ((findI l c.arg) < (0 : Int)))))],[(3,⟨46,.fix [.i c.proc,.i c.obj,.i c.kind,.i c.arg,.i c.ret,.i c.frm,.i c.to]⟩),(999,⟨3,.row (.ints l)⟩)],[3,999]⟩)
  ((fun (Z1:Bool)=>(True ∧ (True ∧ ((True ∧ (True ∧ True)) ∧ (True ∧ ((Z1 = true → True) ∧ ((Z1 = true → (((Z1 = true) ∧ True) ∧ (True ∧ True))) ∧ ((True ∧ ((Z1 = true → (Z1 = true) ∧ True) ∧ (Z1 = false → True))) ∧ (True ∧ True))))))))) (decide (c.kind = (0 : Int))))
  ⟨tt,tt,⟨tt,tt,tt⟩,tt,(fun _ => trivial),(fun hG => ⟨⟨hG,tt⟩,tt,tt⟩),⟨tt,(fun hp => ⟨hp,tt⟩),(fun _ => trivial)⟩,tt,tt⟩ ?_
 refine W.if' ((decide (c.kind = (0 : Int))) && (decide ((findI l c.arg) < (0 : Int)))) (.b ((decide (c.kind = (0 : Int))) && (decide ((findI l c.arg) < (0 : Int))))) (by kernel_rfl) rfl trivial ?_ ?_
 ·intro h11
  have h11_0 : c.kind = (0 : Int) := of_decide_eq_true (and_l h11)
  have h11_1 : (findI l c.arg) < (0 : Int) := of_decide_eq_true (and_r h11)
  refine Kk cok tab61 hnt [] [4,5] (⟨[(4,.sl (.ints (l ++ ([c.arg])))),(5,.i (1 : Int))],[(3,⟨46,.fix [.i c.proc,.i c.obj,.i c.kind,.i c.arg,.i c.ret,.i c.frm,.i c.to]⟩)],[23,22,3,999]⟩)
   (True ∧ True ∧ True ∧ (True ∧ True) ∧ ((True ∧ (l.length = l.length)) ∧ True ∧ ((l.length + (List.length ([c.arg]))) * 8 ≤ 140737488355328)) ∧ True ∧ True ∧ True)
   ⟨tt,tt,tt,⟨tt,tt⟩,⟨⟨tt,rfl⟩,tt,(by (first | omega | (simp only [List.length_set]; done) | (simp only [List.length_append,List.length_cons,List.length_nil,List.length_take,List.length_drop,List.length_set,List.length_replicate,List.length_map] at *; omega) | assumption))⟩,tt,tt,tt⟩ ?_
  refine W.ret (blockQ_ret (thenQ_ret ?_))
  exact endQ_ret (.tup [.sl (.ints (l ++ ([c.arg]))),.i (1 : Int)]) (by kernel_rfl) (@cast (((.ints (l ++ ([c.arg])) : Dat) = .ints ((iSet l c).1)) ∧ ((.int .i64 (1 : Int) : Value) = .int .i64 ((iSet l c).2)) ∧ True) _ (by kernel_rfl) ⟨(congrArg Dat.ints (by first | (simp only [iSet,h11,(and_l h11),(and_r h11),cond_true,cond_false,Bool.and_true,Bool.true_and,Bool.and_false,Bool.false_and,Bool.or_true,Bool.true_or,Bool.or_false,Bool.false_or,Bool.not_true,Bool.not_false]; done) | simp only [iSet,h11,(and_l h11),(and_r h11),cond_true,cond_false,Bool.and_true,Bool.true_and,Bool.and_false,Bool.false_and,Bool.or_true,Bool.true_or,Bool.or_false,Bool.false_or,Bool.not_true,Bool.not_false])),(congrArg (Value.int .i64) (by first | (simp only [iSet,h11,(and_l h11),(and_r h11),cond_true,cond_false,Bool.and_true,Bool.true_and,Bool.and_false,Bool.false_and,Bool.or_true,Bool.true_or,Bool.or_false,Bool.false_or,Bool.not_true,Bool.not_false]; done) | simp only [iSet,h11,(and_l h11),(and_r h11),cond_true,cond_false,Bool.and_true,Bool.true_and,Bool.and_false,Bool.false_and,Bool.or_true,Bool.true_or,Bool.or_false,Bool.false_or,Bool.not_true,Bool.not_false])),tt⟩)
 ·intro n11
  refine Kk cok tab61 hnt [] [0,3,6,24] (⟨[(0,.own 999 l.length),(3,.ptr 3 0),(6,.i (findI l c.arg)),(24,.b ((decide (c.kind = (0 : Int))) || (decide ((findI l c.arg) < (0 : Int)))))],[(3,⟨46,.fix [.i c.proc,.i c.obj,.i c.kind,.i c.arg,.i c.ret,.i c.frm,.i c.to]⟩),(999,⟨3,.row (.ints l)⟩)],[3,999]⟩)
   ((fun (Z1:Bool)=>(True ∧ (True ∧ ((True ∧ (True ∧ True)) ∧ (True ∧ (((!Z1) = true → True) ∧ (((!Z1) = true → ((((!Z1) = true) ∧ True) ∧ (True ∧ True))) ∧ ((True ∧ ((Z1 = true → True) ∧ (Z1 = false → ((!Z1) = true) ∧ True))) ∧ (True ∧ True))))))))) (decide (c.kind = (0 : Int))))
   ⟨tt,tt,⟨tt,tt,tt⟩,tt,(fun _ => trivial),(fun hG => ⟨⟨hG,tt⟩,tt,tt⟩),⟨tt,(fun _ => trivial),(fun hp => ⟨(not_t hp),tt⟩)⟩,tt,tt⟩ ?_
  refine W.if' ((decide (c.kind = (0 : Int))) || (decide ((findI l c.arg) < (0 : Int)))) (.b ((decide (c.kind = (0 : Int))) || (decide ((findI l c.arg) < (0 : Int))))) (by kernel_rfl) rfl trivial ?_ ?_
  ·intro h24
   refine Kk cok tab61 hnt [] [4,5] (⟨[(4,.own 999 l.length),(5,.i (0 : Int))],[(3,⟨46,.fix [.i c.proc,.i c.obj,.i c.kind,.i c.arg,.i c.ret,.i c.frm,.i c.to]⟩),(999,⟨3,.row (.ints l)⟩)],[3,999]⟩)
    (True ∧ True ∧ True ∧ True)
    ⟨tt,tt,tt,tt⟩ ?_
   refine W.ret (blockQ_ret (thenQ_ret ?_))
   exact endQ_ret (.tup [.own 999 l.length,.i (0 : Int)]) (by kernel_rfl) (@cast (((l.length = l.length) ∧ ((.ints l : Dat) = .ints ((iSet l c).1)) ∧ ((999 : Nat) ∉ ([] : List Nat))) ∧ ((.int .i64 (0 : Int) : Value) = .int .i64 ((iSet l c).2)) ∧ True) _ (by kernel_rfl) ⟨⟨rfl,(congrArg Dat.ints (by first | (simp only [iSet,h24,n11,cond_true,cond_false,Bool.and_true,Bool.true_and,Bool.and_false,Bool.false_and,Bool.or_true,Bool.true_or,Bool.or_false,Bool.false_or,Bool.not_true,Bool.not_false]; done) | simp only [iSet,h24,n11,cond_true,cond_false,Bool.and_true,Bool.true_and,Bool.and_false,Bool.false_and,Bool.or_true,Bool.true_or,Bool.or_false,Bool.false_or,Bool.not_true,Bool.not_false])),(by decide)⟩,(congrArg (Value.int .i64) (by first | (simp only [iSet,h24,n11,cond_true,cond_false,Bool.and_true,Bool.true_and,Bool.and_false,Bool.false_and,Bool.or_true,Bool.true_or,Bool.or_false,Bool.false_or,Bool.not_true,Bool.not_false]; done) | simp only [iSet,h24,n11,cond_true,cond_false,Bool.and_true,Bool.true_and,Bool.and_false,Bool.false_and,Bool.or_true,Bool.true_or,Bool.or_false,Bool.false_or,Bool.not_true,Bool.not_false])),tt⟩)
  ·intro n24
   have n24_0 : ¬ (c.kind = (0 : Int)) := of_decide_eq_false (or_l n24)
   have n24_1 : ¬ ((findI l c.arg) < (0 : Int)) := of_decide_eq_false (or_r n24)
   refine Kk cok tab61 hnt [] [0,6,33] (⟨[(0,.own 999 l.length),(6,.i (findI l c.arg)),(33,.b (decide (c.kind = (1 : Int))))],[(3,⟨46,.fix [.i c.proc,.i c.obj,.i c.kind,.i c.arg,.i c.ret,.i c.frm,.i c.to]⟩),(999,⟨3,.row (.ints l)⟩)],[3,999]⟩)
    (True ∧ True ∧ (True ∧ True ∧ True) ∧ True ∧ True)
    ⟨tt,tt,⟨tt,tt,tt⟩,tt,tt⟩ ?_
   refine W.ifP (c.kind = (1 : Int)) (.b (decide (c.kind = (1 : Int)))) (by kernel_rfl) rfl trivial ?_ ?_
   ·intro h33
    refine Kk cok tab61 hnt [41] [4,5] (⟨[(4,.own 41 (List.length (l.take (findI l c.arg).toNat ++ l.drop ((findI l c.arg) + (1 : Int)).toNat))),(5,.i (1 : Int))],[(3,⟨46,.fix [.i c.proc,.i c.obj,.i c.kind,.i c.arg,.i c.ret,.i c.frm,.i c.to]⟩),(41,⟨3,.row (.ints (l.take (findI l c.arg).toNat ++ l.drop ((findI l c.arg) + (1 : Int)).toNat))⟩)],[41,3,999]⟩)
     (True ∧ True ∧ True ∧ (True ∧ True ∧ (Fits .i64 ((findI l c.arg) + (1 : Int)))) ∧ (True ∧ ((True ∧ (l.length = l.length)) ∧ True ∧ True ∧ True) ∧ (0 ≤ (findI l c.arg)) ∧ ((findI l c.arg) < ((findI l c.arg) + (1 : Int))) ∧ (((findI l c.arg) + (1 : Int)) ≤ l.length)) ∧ True ∧ True ∧ True)
     ⟨tt,tt,tt,⟨tt,tt,(by exact fits_i64 (by omega) (by omega))⟩,⟨tt,⟨⟨tt,rfl⟩,tt,tt,tt⟩,(by omega),(by omega),(by omega)⟩,tt,tt,tt⟩ ?_
    refine W.ret (blockQ_ret (thenQ_ret ?_))
    exact endQ_ret (.tup [.own 41 (List.length (l.take (findI l c.arg).toNat ++ l.drop ((findI l c.arg) + (1 : Int)).toNat)),.i (1 : Int)]) (by kernel_rfl) (@cast ((((List.length (l.take (findI l c.arg).toNat ++ l.drop ((findI l c.arg) + (1 : Int)).toNat)) = (List.length (l.take (findI l c.arg).toNat ++ l.drop ((findI l c.arg) + (1 : Int)).toNat))) ∧ ((.ints (l.take (findI l c.arg).toNat ++ l.drop ((findI l c.arg) + (1 : Int)).toNat) : Dat) = .ints ((iSet l c).1)) ∧ ((41 : Nat) ∉ ([] : List Nat))) ∧ ((.int .i64 (1 : Int) : Value) = .int .i64 ((iSet l c).2)) ∧ True) _ (by kernel_rfl) ⟨⟨rfl,(congrArg Dat.ints (by first | (simp only [iSet,(decide_eq_true h33),n11,n24,(or_l n24),(or_r n24),cond_true,cond_false,Bool.and_true,Bool.true_and,Bool.and_false,Bool.false_and,Bool.or_true,Bool.true_or,Bool.or_false,Bool.false_or,Bool.not_true,Bool.not_false]; done) | simp only [iSet,(decide_eq_true h33),n11,n24,(or_l n24),(or_r n24),cond_true,cond_false,Bool.and_true,Bool.true_and,Bool.and_false,Bool.false_and,Bool.or_true,Bool.true_or,Bool.or_false,Bool.false_or,Bool.not_true,Bool.not_false])),(by decide)⟩,(congrArg (Value.int .i64) (by first | (simp only [iSet,(decide_eq_true h33),n11,n24,(or_l n24),(or_r n24),cond_true,cond_false,Bool.and_true,Bool.true_and,Bool.and_false,Bool.false_and,Bool.or_true,Bool.true_or,Bool.or_false,Bool.false_or,Bool.not_true,Bool.not_false]; done) | simp only [iSet,(decide_eq_true h33),n11,n24,(or_l n24),(or_r n24),cond_true,cond_false,Bool.and_true,Bool.true_and,Bool.and_false,Bool.false_and,Bool.or_true,Bool.true_or,Bool.or_false,Bool.false_or,Bool.not_true,Bool.not_false])),tt⟩)
   ·intro n33
    refine W.skip (blockQ_normal (thenQ_normal ?_))
    refine Kk cok tab61 hnt [] [4,5] (⟨[(4,.own 999 l.length),(5,.i (1 : Int))],[(3,⟨46,.fix [.i c.proc,.i c.obj,.i c.kind,.i c.arg,.i c.ret,.i c.frm,.i c.to]⟩),(999,⟨3,.row (.ints l)⟩)],[3,999]⟩)
     (True ∧ True ∧ True ∧ True)
     ⟨tt,tt,tt,tt⟩ ?_
    refine W.ret ?_
    exact endQ_ret (.tup [.own 999 l.length,.i (1 : Int)]) (by kernel_rfl) (@cast (((l.length = l.length) ∧ ((.ints l : Dat) = .ints ((iSet l c).1)) ∧ ((999 : Nat) ∉ ([] : List Nat))) ∧ ((.int .i64 (1 : Int) : Value) = .int .i64 ((iSet l c).2)) ∧ True) _ (by kernel_rfl) ⟨⟨rfl,(congrArg Dat.ints (by first | (simp only [iSet,n11,n24,(or_l n24),(or_r n24),(decide_eq_false n33),cond_true,cond_false,Bool.and_true,Bool.true_and,Bool.and_false,Bool.false_and,Bool.or_true,Bool.true_or,Bool.or_false,Bool.false_or,Bool.not_true,Bool.not_false]; done) | simp only [iSet,n11,n24,(or_l n24),(or_r n24),(decide_eq_false n33),cond_true,cond_false,Bool.and_true,Bool.true_and,Bool.and_false,Bool.false_and,Bool.or_true,Bool.true_or,Bool.or_false,Bool.false_or,Bool.not_true,Bool.not_false])),(by decide)⟩,(congrArg (Value.int .i64) (by first | (simp only [iSet,n11,n24,(or_l n24),(or_r n24),(decide_eq_false n33),cond_true,cond_false,Bool.and_true,Bool.true_and,Bool.and_false,Bool.false_and,Bool.or_true,Bool.true_or,Bool.or_false,Bool.false_or,Bool.not_true,Bool.not_false]; done) | simp only [iSet,n11,n24,(or_l n24),(or_r n24),(decide_eq_false n33),cond_true,cond_false,Bool.and_true,Bool.true_and,Bool.and_false,Bool.false_and,Bool.or_true,Bool.true_or,Bool.or_false,Bool.false_or,Bool.not_true,Bool.not_false])),tt⟩)
theorem ent61 : Entr prog 61 := ⟨_,func61,rfl,by decide⟩
end Go.Proofs.Try

set_option linter.unusedSimpArgs false
set_option linter.unusedVariables false
namespace Go.Proofs.Try
open Go.Ab Go.RowKit
def fs62 : FnS := fnS [.o,.c .ints 3,.o] [.str,.ints,.call] (fun _ (s,l,c,_) => (.tup [.sl (.ints ((iRow s l c).1)),.i ((iRow s l c).2)],[],(∀ j,j < l.length → 0 ≤ l.getD j 0 ∧ l.getD j 0 ≤ 20) ∧ (0 ≤ c.arg ∧ c.arg ≤ 3) ∧ (l.length ≤ 20)))
abbrev T62 : Tab := lk [(64,fs64)]
theorem tab62 : TabOK prog T62 := (TabOK.cons ok64 ent64 TabOK.nil)
set_option maxRecDepth 100000 in
set_option maxHeartbeats 1000000 in
theorem ok62 : FnOK prog 62 fs62 := by
 refine FnOK.mk cok func62 rfl rfl rfl ?_
 rintro fl ⟨(s : ByteArray),(l : List Int),(c : CallD),_⟩ hpre F hnt0 _
 have hnt : F.nt = 48 := hnt0.trans ntmps62
 replace hpre : (∀ j,j < l.length → 0 ≤ l.getD j 0 ∧ l.getD j 0 ≤ 20) ∧ (0 ≤ c.arg ∧ c.arg ≤ 3) ∧ (l.length ≤ 20) := hpre
 obtain ⟨hs,ha,hl⟩ := hpre
 refine W.to (⟨[(0,.v (.string s)),(1,.own 999 l.length),(2,.agg [.i c.proc,.i c.obj,.i c.kind,.i c.arg,.i c.ret,.i c.frm,.i c.to])],[(999,⟨3,.row (.ints l)⟩)],[999]⟩) rfl ?_
 refine Kk cok tab62 hnt [] [0,1,5] (⟨[(0,.v (.string s)),(1,.own 999 l.length),(5,.ptr 5 0)],[(5,⟨46,.fix [.i c.proc,.i c.obj,.i c.kind,.i c.arg,.i c.ret,.i c.frm,.i c.to]⟩),(999,⟨3,.row (.ints l)⟩)],[5,999]⟩)
  (True ∧ True ∧ True ∧ True)
  ⟨tt,tt,tt,tt⟩ ?_
 refine Kk cok tab62 hnt [] [0,1,5,8] (⟨[(0,.v (.string s)),(1,.own 999 l.length),(5,.ptr 5 0),(8,.i (0 : Int))],[(5,⟨46,.fix [.i c.proc,.i c.obj,.i c.kind,.i c.arg,.i c.ret,.i c.frm,.i c.to]⟩),(999,⟨3,.row (.ints l)⟩)],[5,999]⟩)
  (True ∧ True)
  ⟨tt,tt⟩ ?_
 refine W.seq ?_
 refine Kk cok tab62 hnt [] [1,5,8,11] (⟨[(1,.own 999 l.length),(5,.ptr 5 0),(8,.i (0 : Int)),(11,.b (eqS s nStack))],[(5,⟨46,.fix [.i c.proc,.i c.obj,.i c.kind,.i c.arg,.i c.ret,.i c.frm,.i c.to]⟩),(999,⟨3,.row (.ints l)⟩)],[5,999]⟩)
  (True ∧ (True ∧ True ∧ True) ∧ True)
  ⟨tt,⟨tt,tt,tt⟩,tt⟩ ?_
 refine W.meetT (ι := Int) (fun (v : Int) => (⟨[(1,.own 999 l.length),(5,.ptr 5 0),(8,.i v)],[(5,⟨46,.fix [.i c.proc,.i c.obj,.i c.kind,.i c.arg,.i c.ret,.i c.frm,.i c.to]⟩),(999,⟨3,.row (.ints l)⟩)],[5,999]⟩ : St)) (fun (v : Int) => (v = topOf s l) ∧ (-1 ≤ v ∧ v < max 1 (l.length : Int) ∧ (0 < l.length → 0 ≤ v))) ?_ ?_
 ·skip
  refine W.if' (eqS s nStack) (.b (eqS s nStack)) (by kernel_rfl) rfl trivial ?_ ?_
  ·intro h11
   refine Lk cok tab62 hnt [] (⟨[(1,.own 999 l.length),(5,.ptr 5 0),(8,.i ((l.length : Int) - (1 : Int))),(11,.b (eqS s nStack)),(12,.own 999 l.length),(13,.i (l.length : Int)),(14,.i ((l.length : Int) - (1 : Int)))],[(5,⟨46,.fix [.i c.proc,.i c.obj,.i c.kind,.i c.arg,.i c.ret,.i c.frm,.i c.to]⟩),(999,⟨3,.row (.ints l)⟩)],[5,999]⟩)
    (True ∧ True ∧ (True ∧ True ∧ (Fits .i64 ((l.length : Int) - (1 : Int)))) ∧ True ∧ True)
    ⟨tt,tt,⟨tt,tt,(by exact fits_i64 (by omega) (by omega))⟩,tt,tt⟩ ?_
   refine thenQ_normal ?_
   refine ⟨(((l.length : Int) - (1 : Int))),(show (((l.length : Int) - (1 : Int)) = topOf s l) ∧ (-1 ≤ ((l.length : Int) - (1 : Int)) ∧ ((l.length : Int) - (1 : Int)) < max 1 (l.length : Int) ∧ (0 < l.length → 0 ≤ ((l.length : Int) - (1 : Int)))) from ⟨(by unfold topOf; first | (rw [h11]; rfl) | (rw [n11]; rfl)),(by omega)⟩),?_⟩
   exact Sub.of [] (@cast (((((999 : Nat) = 999) ∧ (l.length = l.length) ∧ ((999 : Nat) ∈ ([5,999] : List Nat))) ∧ (((5 : Nat) = 5) ∧ ((0 : Nat) = 0) ∧ ((5 : Nat) ∈ ([5,999] : List Nat))) ∧ (Si ((l.length : Int) - (1 : Int))) ∧ True) ∧ ((((46 : Nat) = 46) ∧ ((Si c.proc) ∧ (Si c.obj) ∧ (Si c.kind) ∧ (Si c.arg) ∧ (Si c.ret) ∧ (Si c.frm) ∧ (Si c.to) ∧ True) ∧ ((5 : Nat) ∈ ([5,999] : List Nat))) ∧ (((3 : Nat) = 3) ∧ (Sd (.ints l)) ∧ ((999 : Nat) ∈ ([5,999] : List Nat))) ∧ True) ∧ (true = true) ∧ (true = true)) _ (by kernel_rfl) ⟨⟨⟨rfl,rfl,(by decide)⟩,⟨rfl,rfl,(by decide)⟩,rfl,tt⟩,⟨⟨rfl,⟨rfl,rfl,rfl,rfl,rfl,rfl,rfl,tt⟩,(by decide)⟩,⟨rfl,rfl,(by decide)⟩,tt⟩,rfl,rfl⟩)
  ·intro n11
   refine W.skip (thenQ_normal ?_)
   refine ⟨((0 : Int)),(show ((0 : Int) = topOf s l) ∧ (-1 ≤ (0 : Int) ∧ (0 : Int) < max 1 (l.length : Int) ∧ (0 < l.length → 0 ≤ (0 : Int))) from ⟨(by unfold topOf; first | (rw [h11]; rfl) | (rw [n11]; rfl)),(by omega)⟩),?_⟩
   exact Sub.of [] (@cast (((((999 : Nat) = 999) ∧ (l.length = l.length) ∧ ((999 : Nat) ∈ ([5,999] : List Nat))) ∧ (((5 : Nat) = 5) ∧ ((0 : Nat) = 0) ∧ ((5 : Nat) ∈ ([5,999] : List Nat))) ∧ (Si (0 : Int)) ∧ True) ∧ ((((46 : Nat) = 46) ∧ ((Si c.proc) ∧ (Si c.obj) ∧ (Si c.kind) ∧ (Si c.arg) ∧ (Si c.ret) ∧ (Si c.frm) ∧ (Si c.to) ∧ True) ∧ ((5 : Nat) ∈ ([5,999] : List Nat))) ∧ (((3 : Nat) = 3) ∧ (Sd (.ints l)) ∧ ((999 : Nat) ∈ ([5,999] : List Nat))) ∧ True) ∧ (true = true) ∧ (true = true)) _ (by kernel_rfl) ⟨⟨⟨rfl,rfl,(by decide)⟩,⟨rfl,rfl,(by decide)⟩,rfl,tt⟩,⟨⟨rfl,⟨rfl,rfl,rfl,rfl,rfl,rfl,rfl,tt⟩,(by decide)⟩,⟨rfl,rfl,(by decide)⟩,tt⟩,rfl,rfl⟩)
 ·rintro v hC0
  have hC : (v = topOf s l) ∧ (-1 ≤ v ∧ v < max 1 (l.length : Int) ∧ (0 < l.length → 0 ≤ v)) := hC0
  clear hC0
  obtain ⟨hv,hvb⟩ := hC
  refine W.to (⟨[(1,.own 999 l.length),(5,.ptr 5 0),(8,.i v)],[(5,⟨46,.fix [.i c.proc,.i c.obj,.i c.kind,.i c.arg,.i c.ret,.i c.frm,.i c.to]⟩),(999,⟨3,.row (.ints l)⟩)],[5,999]⟩) rfl ?_
  refine W.seq ?_
  refine W.block ?_
  refine Kk cok tab62 hnt [] [1,5,8,15] (⟨[(1,.own 999 l.length),(5,.ptr 5 0),(8,.i v),(15,.b (decide (c.kind = (0 : Int))))],[(5,⟨46,.fix [.i c.proc,.i c.obj,.i c.kind,.i c.arg,.i c.ret,.i c.frm,.i c.to]⟩),(999,⟨3,.row (.ints l)⟩)],[5,999]⟩)
   (True ∧ True ∧ (True ∧ True ∧ True) ∧ True ∧ True)
   ⟨tt,tt,⟨tt,tt,tt⟩,tt,tt⟩ ?_
  refine W.ifP (c.kind = (0 : Int)) (.b (decide (c.kind = (0 : Int)))) (by kernel_rfl) rfl trivial ?_ ?_
  ·intro h15
   refine Kk cok tab62 hnt [] [6,7] (⟨[(6,.sl (.ints (l ++ ([c.arg])))),(7,.i (0 : Int))],[(5,⟨46,.fix [.i c.proc,.i c.obj,.i c.kind,.i c.arg,.i c.ret,.i c.frm,.i c.to]⟩)],[23,22,5,999]⟩)
    (True ∧ True ∧ True ∧ (True ∧ True) ∧ ((True ∧ (l.length = l.length)) ∧ True ∧ ((l.length + (List.length ([c.arg]))) * 8 ≤ 140737488355328)) ∧ True ∧ True ∧ True)
    ⟨tt,tt,tt,⟨tt,tt⟩,⟨⟨tt,rfl⟩,tt,(by (first | omega | (simp only [List.length_set]; done) | (simp only [List.length_append,List.length_cons,List.length_nil,List.length_take,List.length_drop,List.length_set,List.length_replicate,List.length_map] at *; omega) | assumption))⟩,tt,tt,tt⟩ ?_
   refine W.ret (blockQ_ret (thenQ_ret ?_))
   exact endQ_ret (.tup [.sl (.ints (l ++ ([c.arg]))),.i (0 : Int)]) (by kernel_rfl) (@cast (((.ints (l ++ ([c.arg])) : Dat) = .ints ((iRow s l c).1)) ∧ ((.int .i64 (0 : Int) : Value) = .int .i64 ((iRow s l c).2)) ∧ True) _ (by kernel_rfl) ⟨(congrArg Dat.ints (by subst hv; first | (simp only [iRow,(decide_eq_true h15),cond_true,cond_false,Bool.and_true,Bool.true_and,Bool.and_false,Bool.false_and,Bool.or_true,Bool.true_or,Bool.or_false,Bool.false_or,Bool.not_true,Bool.not_false]; done) | simp only [iRow,(decide_eq_true h15),cond_true,cond_false,Bool.and_true,Bool.true_and,Bool.and_false,Bool.false_and,Bool.or_true,Bool.true_or,Bool.or_false,Bool.false_or,Bool.not_true,Bool.not_false])),(congrArg (Value.int .i64) (by subst hv; first | (simp only [iRow,(decide_eq_true h15),cond_true,cond_false,Bool.and_true,Bool.true_and,Bool.and_false,Bool.false_and,Bool.or_true,Bool.true_or,Bool.or_false,Bool.false_or,Bool.not_true,Bool.not_false]; done) | simp only [iRow,(decide_eq_true h15),cond_true,cond_false,Bool.and_true,Bool.true_and,Bool.and_false,Bool.false_and,Bool.or_true,Bool.true_or,Bool.or_false,Bool.false_or,Bool.not_true,Bool.not_false])),tt⟩)
  ·intro n15
   refine Kk cok tab62 hnt [] [1,5,8,24] (⟨[(1,.own 999 l.length),(5,.ptr 5 0),(8,.i v),(24,.b (decide ((l.length : Int) = (0 : Int))))],[(5,⟨46,.fix [.i c.proc,.i c.obj,.i c.kind,.i c.arg,.i c.ret,.i c.frm,.i c.to]⟩),(999,⟨3,.row (.ints l)⟩)],[5,999]⟩)
    (True ∧ True ∧ (True ∧ True ∧ True) ∧ True ∧ True)
    ⟨tt,tt,⟨tt,tt,tt⟩,tt,tt⟩ ?_
   refine W.ifP ((l.length : Int) = (0 : Int)) (.b (decide ((l.length : Int) = (0 : Int)))) (by kernel_rfl) rfl trivial ?_ ?_
   ·intro h24
    refine Kk cok tab62 hnt [] [6,7] (⟨[(6,.own 999 l.length),(7,.i (-1 : Int))],[(5,⟨46,.fix [.i c.proc,.i c.obj,.i c.kind,.i c.arg,.i c.ret,.i c.frm,.i c.to]⟩),(999,⟨3,.row (.ints l)⟩)],[5,999]⟩)
     (True ∧ True ∧ True ∧ True)
     ⟨tt,tt,tt,tt⟩ ?_
    refine W.ret (blockQ_ret (thenQ_ret ?_))
    exact endQ_ret (.tup [.own 999 l.length,.i (-1 : Int)]) (by kernel_rfl) (@cast (((l.length = l.length) ∧ ((.ints l : Dat) = .ints ((iRow s l c).1)) ∧ ((999 : Nat) ∉ ([] : List Nat))) ∧ ((.int .i64 (-1 : Int) : Value) = .int .i64 ((iRow s l c).2)) ∧ True) _ (by kernel_rfl) ⟨⟨rfl,(congrArg Dat.ints (by subst hv; first | (simp only [iRow,(decide_eq_true h24),(decide_eq_false n15),cond_true,cond_false,Bool.and_true,Bool.true_and,Bool.and_false,Bool.false_and,Bool.or_true,Bool.true_or,Bool.or_false,Bool.false_or,Bool.not_true,Bool.not_false]; done) | simp only [iRow,(decide_eq_true h24),(decide_eq_false n15),cond_true,cond_false,Bool.and_true,Bool.true_and,Bool.and_false,Bool.false_and,Bool.or_true,Bool.true_or,Bool.or_false,Bool.false_or,Bool.not_true,Bool.not_false])),(by decide)⟩,(congrArg (Value.int .i64) (by subst hv; first | (simp only [iRow,(decide_eq_true h24),(decide_eq_false n15),cond_true,cond_false,Bool.and_true,Bool.true_and,Bool.and_false,Bool.false_and,Bool.or_true,Bool.true_or,Bool.or_false,Bool.false_or,Bool.not_true,Bool.not_false]; done) | simp only [iRow,(decide_eq_true h24),(decide_eq_false n15),cond_true,cond_false,Bool.and_true,Bool.true_and,Bool.and_false,Bool.false_and,Bool.or_true,Bool.true_or,Bool.or_false,Bool.false_or,Bool.not_true,Bool.not_false])),tt⟩)
   ·intro n24
    refine Kk cok tab62 hnt [] [1,8,29] (⟨[(1,.own 999 l.length),(8,.i v),(29,.b (decide (c.kind = (2 : Int))))],[(5,⟨46,.fix [.i c.proc,.i c.obj,.i c.kind,.i c.arg,.i c.ret,.i c.frm,.i c.to]⟩),(999,⟨3,.row (.ints l)⟩)],[5,999]⟩)
     (True ∧ True ∧ (True ∧ True ∧ True) ∧ True ∧ True)
     ⟨tt,tt,⟨tt,tt,tt⟩,tt,tt⟩ ?_
    refine W.ifP (c.kind = (2 : Int)) (.b (decide (c.kind = (2 : Int)))) (by kernel_rfl) rfl trivial ?_ ?_
    ·intro h29
     refine W.KA cok tab62 hnt [] [6,7] (⟨[(6,.own 999 l.length),(7,.i (l.getD (Int.toNat v) 0))],[(5,⟨46,.fix [.i c.proc,.i c.obj,.i c.kind,.i c.arg,.i c.ret,.i c.frm,.i c.to]⟩),(999,⟨3,.row (.ints l)⟩)],[5,999]⟩)
      (True ∧ True ∧ True ∧ (True ∧ True ∧ (0 ≤ v) ∧ (v < (l.length : Int))) ∧ (True ∧ ((Int.toNat v) < l.length)) ∧ True ∧ True ∧ True) (by kernel_rfl) (by kernel_rfl)
      ⟨tt,tt,tt,⟨tt,tt,(by omega),(by omega)⟩,⟨tt,(by omega)⟩,tt,tt,tt⟩ ?_
     refine W.ret (blockQ_ret (thenQ_ret ?_))
     exact endQ_ret (.tup [.own 999 l.length,.i (l.getD (Int.toNat v) 0)]) (by kernel_rfl) (@cast (((l.length = l.length) ∧ ((.ints l : Dat) = .ints ((iRow s l c).1)) ∧ ((999 : Nat) ∉ ([] : List Nat))) ∧ ((.int .i64 (l.getD (Int.toNat v) 0) : Value) = .int .i64 ((iRow s l c).2)) ∧ True) _ (by kernel_rfl) ⟨⟨rfl,(congrArg Dat.ints (by subst hv; first | (simp only [iRow,(decide_eq_true h29),(decide_eq_false n15),(decide_eq_false n24),cond_true,cond_false,Bool.and_true,Bool.true_and,Bool.and_false,Bool.false_and,Bool.or_true,Bool.true_or,Bool.or_false,Bool.false_or,Bool.not_true,Bool.not_false]; done) | simp only [iRow,(decide_eq_true h29),(decide_eq_false n15),(decide_eq_false n24),cond_true,cond_false,Bool.and_true,Bool.true_and,Bool.and_false,Bool.false_and,Bool.or_true,Bool.true_or,Bool.or_false,Bool.false_or,Bool.not_true,Bool.not_false])),(by decide)⟩,(congrArg (Value.int .i64) (by subst hv; first | (simp only [iRow,(decide_eq_true h29),(decide_eq_false n15),(decide_eq_false n24),cond_true,cond_false,Bool.and_true,Bool.true_and,Bool.and_false,Bool.false_and,Bool.or_true,Bool.true_or,Bool.or_false,Bool.false_or,Bool.not_true,Bool.not_false]; done) | simp only [iRow,(decide_eq_true h29),(decide_eq_false n15),(decide_eq_false n24),cond_true,cond_false,Bool.and_true,Bool.true_and,Bool.and_false,Bool.false_and,Bool.or_true,Bool.true_or,Bool.or_false,Bool.false_or,Bool.not_true,Bool.not_false])),tt⟩)
    ·intro n29
     refine W.skip (blockQ_normal (thenQ_normal ?_))
     refine Kk cok tab62 hnt [] [1,8,9] (⟨[(1,.own 999 l.length),(8,.i v),(9,.i (l.getD (Int.toNat v) 0))],[(5,⟨46,.fix [.i c.proc,.i c.obj,.i c.kind,.i c.arg,.i c.ret,.i c.frm,.i c.to]⟩),(999,⟨3,.row (.ints l)⟩)],[5,999]⟩)
      (True ∧ True ∧ (True ∧ True ∧ (0 ≤ v) ∧ (v < (l.length : Int))) ∧ (True ∧ ((Int.toNat v) < l.length)) ∧ True ∧ True)
      ⟨tt,tt,⟨tt,tt,(by omega),(by omega)⟩,⟨tt,(by omega)⟩,tt,tt⟩ ?_
     refine Kk cok tab62 hnt [46] [6,7] (⟨[(6,.own 46 (List.length (l.take v.toNat ++ l.drop (v + (1 : Int)).toNat))),(7,.i (l.getD (Int.toNat v) 0))],[(5,⟨46,.fix [.i c.proc,.i c.obj,.i c.kind,.i c.arg,.i c.ret,.i c.frm,.i c.to]⟩),(46,⟨3,.row (.ints (l.take v.toNat ++ l.drop (v + (1 : Int)).toNat))⟩)],[46,5,999]⟩)
      (True ∧ True ∧ True ∧ (True ∧ True ∧ (Fits .i64 (v + (1 : Int)))) ∧ (True ∧ ((True ∧ (l.length = l.length)) ∧ True ∧ True ∧ True) ∧ (0 ≤ v) ∧ (v < (v + (1 : Int))) ∧ ((v + (1 : Int)) ≤ l.length)) ∧ True ∧ True ∧ True ∧ True)
      ⟨tt,tt,tt,⟨tt,tt,(by exact fits_i64 (by omega) (by omega))⟩,⟨tt,⟨⟨tt,rfl⟩,tt,tt,tt⟩,(by omega),(by omega),(by omega)⟩,tt,tt,tt,tt⟩ ?_
     refine W.ret ?_
     exact endQ_ret (.tup [.own 46 (List.length (l.take v.toNat ++ l.drop (v + (1 : Int)).toNat)),.i (l.getD (Int.toNat v) 0)]) (by kernel_rfl) (@cast ((((List.length (l.take v.toNat ++ l.drop (v + (1 : Int)).toNat)) = (List.length (l.take v.toNat ++ l.drop (v + (1 : Int)).toNat))) ∧ ((.ints (l.take v.toNat ++ l.drop (v + (1 : Int)).toNat) : Dat) = .ints ((iRow s l c).1)) ∧ ((46 : Nat) ∉ ([] : List Nat))) ∧ ((.int .i64 (l.getD (Int.toNat v) 0) : Value) = .int .i64 ((iRow s l c).2)) ∧ True) _ (by kernel_rfl) ⟨⟨rfl,(congrArg Dat.ints (by subst hv; first | (simp only [iRow,(decide_eq_false n15),(decide_eq_false n24),(decide_eq_false n29),cond_true,cond_false,Bool.and_true,Bool.true_and,Bool.and_false,Bool.false_and,Bool.or_true,Bool.true_or,Bool.or_false,Bool.false_or,Bool.not_true,Bool.not_false]; done) | simp only [iRow,(decide_eq_false n15),(decide_eq_false n24),(decide_eq_false n29),cond_true,cond_false,Bool.and_true,Bool.true_and,Bool.and_false,Bool.false_and,Bool.or_true,Bool.true_or,Bool.or_false,Bool.false_or,Bool.not_true,Bool.not_false])),(by decide)⟩,(congrArg (Value.int .i64) (by subst hv; first | (simp only [iRow,(decide_eq_false n15),(decide_eq_false n24),(decide_eq_false n29),cond_true,cond_false,Bool.and_true,Bool.true_and,Bool.and_false,Bool.false_and,Bool.or_true,Bool.true_or,Bool.or_false,Bool.false_or,Bool.not_true,Bool.not_false]; done) | simp only [iRow,(decide_eq_false n15),(decide_eq_false n24),(decide_eq_false n29),cond_true,cond_false,Bool.and_true,Bool.true_and,Bool.and_false,Bool.false_and,Bool.or_true,Bool.true_or,Bool.or_false,Bool.false_or,Bool.not_true,Bool.not_false])),tt⟩)
theorem ent62 : Entr prog 62 := ⟨_,func62,rfl,by decide⟩
end Go.Proofs.Try

set_option linter.unusedSimpArgs false
set_option linter.unusedVariables false
namespace Go.Proofs.Try
open Go.Ab Go.RowKit
def fs46 : FnS := fnS [.o,.s .ints,.o] [.str,.ints,.call] (fun _ (s,l,c,_) => (.tup [.sl (.ints ((iStep s l c).1)),.i ((iStep s l c).2)],[],(∀ j,j < l.length → 0 ≤ l.getD j 0 ∧ l.getD j 0 ≤ 20) ∧ (0 ≤ c.arg ∧ c.arg ≤ 3) ∧ (l.length ≤ 20)))
abbrev T46 : Tab := lk [(50,fs50),(54,fs54),(60,fs60),(61,fs61),(62,fs62)]
theorem tab46 : TabOK prog T46 := (TabOK.cons ok50 ent50 (TabOK.cons ok54 ent54 (TabOK.cons ok60 ent60 (TabOK.cons ok61 ent61 (TabOK.cons ok62 ent62 TabOK.nil)))))
set_option maxRecDepth 100000 in
set_option maxHeartbeats 1000000 in
theorem ok46 : FnOK prog 46 fs46 := by
 refine FnOK.mk cok func46 rfl rfl rfl ?_
 rintro fl ⟨(s : ByteArray),(l : List Int),(c : CallD),_⟩ hpre F hnt0 _
 have hnt : F.nt = 33 := hnt0.trans ntmps46
 replace hpre : (∀ j,j < l.length → 0 ≤ l.getD j 0 ∧ l.getD j 0 ≤ 20) ∧ (0 ≤ c.arg ∧ c.arg ≤ 3) ∧ (l.length ≤ 20) := hpre
 obtain ⟨hs,ha,hl⟩ := hpre
 refine W.to (⟨[(0,.v (.string s)),(1,.sl (.ints l)),(2,.agg [.i c.proc,.i c.obj,.i c.kind,.i c.arg,.i c.ret,.i c.frm,.i c.to])],[],[999]⟩) rfl ?_
 refine W.lenOf 1 (.ints l) (by kernel_rfl) ?_
 intro hl_l; replace hl_l : List.length l ≤ 9223372036854775807 := hl_l
 refine Kk cok tab46 hnt [] [0,1,5] (⟨[(0,.v (.string s)),(1,.sl (.ints l)),(5,.ptr 5 0)],[(5,⟨46,.fix [.i c.proc,.i c.obj,.i c.kind,.i c.arg,.i c.ret,.i c.frm,.i c.to]⟩)],[5,999]⟩)
  (True ∧ True ∧ True ∧ True)
  ⟨tt,tt,tt,tt⟩ ?_
 refine Kk cok tab46 hnt [9] [0,1,5] (⟨[(0,.v (.string s)),(1,.own 9 l.length),(5,.ptr 5 0)],[(5,⟨46,.fix [.i c.proc,.i c.obj,.i c.kind,.i c.arg,.i c.ret,.i c.frm,.i c.to]⟩),(9,⟨3,.row (.ints l)⟩)],[9,5,999]⟩)
  (True ∧ (True ∧ (True ∧ True) ∧ (l.length * 8 ≤ 140737488355328)) ∧ True ∧ True)
  ⟨tt,⟨tt,⟨tt,tt⟩,(by omega)⟩,tt,tt⟩ ?_
 refine W.seq ?_
 refine W.block ?_
 refine Kk cok tab46 hnt [] [0,1,5,10] (⟨[(0,.v (.string s)),(1,.own 9 l.length),(5,.ptr 5 0),(10,.b (isSingle s))],[(5,⟨46,.fix [.i c.proc,.i c.obj,.i c.kind,.i c.arg,.i c.ret,.i c.frm,.i c.to]⟩),(9,⟨3,.row (.ints l)⟩)],[9,5,999]⟩)
  (True ∧ (True ∧ (True ∧ True) ∧ True) ∧ True ∧ True)
  ⟨tt,⟨tt,⟨tt,tt⟩,tt⟩,tt,tt⟩ ?_
 refine W.if' (isSingle s) (.b (isSingle s)) (by kernel_rfl) rfl trivial ?_ ?_
 ·intro h10
  refine Kk cok tab46 hnt [] [6,7] (⟨[(6,.sl (.ints ((iSingle s l c).1))),(7,.i ((iSingle s l c).2))],[(5,⟨46,.fix [.i c.proc,.i c.obj,.i c.kind,.i c.arg,.i c.ret,.i c.frm,.i c.to]⟩)],[9,5,999]⟩)
   (True ∧ True ∧ True ∧ (True ∧ (True ∧ (True ∧ (l.length = l.length)) ∧ True ∧ True) ∧ (∀ j,j < l.length → 0 ≤ l.getD j 0 ∧ l.getD j 0 ≤ 20) ∧ (0 ≤ c.arg ∧ c.arg ≤ 3) ∧ (l.length ≤ 20)) ∧ True ∧ True ∧ True ∧ True ∧ True)
   ⟨tt,tt,tt,⟨tt,⟨tt,⟨tt,rfl⟩,tt,tt⟩,(by omega),(by omega),(by omega)⟩,tt,tt,tt,tt,tt⟩ ?_
  refine W.ret (blockQ_ret (thenQ_ret ?_))
  exact endQ_ret (.tup [.sl (.ints ((iSingle s l c).1)),.i ((iSingle s l c).2)]) (by kernel_rfl) (@cast (((.ints ((iSingle s l c).1) : Dat) = .ints ((iStep s l c).1)) ∧ ((.int .i64 ((iSingle s l c).2) : Value) = .int .i64 ((iStep s l c).2)) ∧ True) _ (by kernel_rfl) ⟨(congrArg Dat.ints (by simp only [iStep,h10,cond_true,cond_false,Bool.and_true,Bool.true_and,Bool.and_false,Bool.false_and,Bool.or_true,Bool.true_or,Bool.or_false,Bool.false_or,Bool.not_true,Bool.not_false])),(congrArg (Value.int .i64) (by simp only [iStep,h10,cond_true,cond_false,Bool.and_true,Bool.true_and,Bool.and_false,Bool.false_and,Bool.or_true,Bool.true_or,Bool.or_false,Bool.false_or,Bool.not_true,Bool.not_false])),tt⟩)
 ·intro n10
  refine Kk cok tab46 hnt [] [0,1,5,19] (⟨[(0,.v (.string s)),(1,.own 9 l.length),(5,.ptr 5 0),(19,.b (eqS s nSet))],[(5,⟨46,.fix [.i c.proc,.i c.obj,.i c.kind,.i c.arg,.i c.ret,.i c.frm,.i c.to]⟩),(9,⟨3,.row (.ints l)⟩)],[9,5,999]⟩)
   (True ∧ (True ∧ True ∧ True) ∧ True ∧ True)
   ⟨tt,⟨tt,tt,tt⟩,tt,tt⟩ ?_
  refine W.if' (eqS s nSet) (.b (eqS s nSet)) (by kernel_rfl) rfl trivial ?_ ?_
  ·intro h19
   refine Kk cok tab46 hnt [] [6,7] (⟨[(6,.sl (.ints ((iSet l c).1))),(7,.i ((iSet l c).2))],[(5,⟨46,.fix [.i c.proc,.i c.obj,.i c.kind,.i c.arg,.i c.ret,.i c.frm,.i c.to]⟩)],[9,5,999]⟩)
    (True ∧ True ∧ (True ∧ ((True ∧ (l.length = l.length)) ∧ True ∧ True) ∧ (∀ j,j < l.length → 0 ≤ l.getD j 0 ∧ l.getD j 0 ≤ 20) ∧ (0 ≤ c.arg ∧ c.arg ≤ 3) ∧ (l.length ≤ 20)) ∧ True ∧ True ∧ True ∧ True ∧ True)
    ⟨tt,tt,⟨tt,⟨⟨tt,rfl⟩,tt,tt⟩,(by omega),(by omega),(by omega)⟩,tt,tt,tt,tt,tt⟩ ?_
   refine W.ret (blockQ_ret (thenQ_ret ?_))
   exact endQ_ret (.tup [.sl (.ints ((iSet l c).1)),.i ((iSet l c).2)]) (by kernel_rfl) (@cast (((.ints ((iSet l c).1) : Dat) = .ints ((iStep s l c).1)) ∧ ((.int .i64 ((iSet l c).2) : Value) = .int .i64 ((iStep s l c).2)) ∧ True) _ (by kernel_rfl) ⟨(congrArg Dat.ints (by simp only [iStep,h19,n10,cond_true,cond_false,Bool.and_true,Bool.true_and,Bool.and_false,Bool.false_and,Bool.or_true,Bool.true_or,Bool.or_false,Bool.false_or,Bool.not_true,Bool.not_false])),(congrArg (Value.int .i64) (by simp only [iStep,h19,n10,cond_true,cond_false,Bool.and_true,Bool.true_and,Bool.and_false,Bool.false_and,Bool.or_true,Bool.true_or,Bool.or_false,Bool.false_or,Bool.not_true,Bool.not_false])),tt⟩)
  ·intro n19
   refine W.skip (blockQ_normal (thenQ_normal ?_))
   refine Kk cok tab46 hnt [] [6,7] (⟨[(6,.sl (.ints ((iRow s l c).1))),(7,.i ((iRow s l c).2))],[(5,⟨46,.fix [.i c.proc,.i c.obj,.i c.kind,.i c.arg,.i c.ret,.i c.frm,.i c.to]⟩)],[9,5,999]⟩)
    (True ∧ True ∧ True ∧ (True ∧ (True ∧ (True ∧ (l.length = l.length)) ∧ True ∧ True) ∧ (∀ j,j < l.length → 0 ≤ l.getD j 0 ∧ l.getD j 0 ≤ 20) ∧ (0 ≤ c.arg ∧ c.arg ≤ 3) ∧ (l.length ≤ 20)) ∧ True ∧ True ∧ True ∧ True ∧ True)
    ⟨tt,tt,tt,⟨tt,⟨tt,⟨tt,rfl⟩,tt,tt⟩,(by omega),(by omega),(by omega)⟩,tt,tt,tt,tt,tt⟩ ?_
   refine W.ret ?_
   exact endQ_ret (.tup [.sl (.ints ((iRow s l c).1)),.i ((iRow s l c).2)]) (by kernel_rfl) (@cast (((.ints ((iRow s l c).1) : Dat) = .ints ((iStep s l c).1)) ∧ ((.int .i64 ((iRow s l c).2) : Value) = .int .i64 ((iStep s l c).2)) ∧ True) _ (by kernel_rfl) ⟨(congrArg Dat.ints (by simp only [iStep,n10,n19,cond_true,cond_false,Bool.and_true,Bool.true_and,Bool.and_false,Bool.false_and,Bool.or_true,Bool.true_or,Bool.or_false,Bool.false_or,Bool.not_true,Bool.not_false])),(congrArg (Value.int .i64) (by simp only [iStep,n10,n19,cond_true,cond_false,Bool.and_true,Bool.true_and,Bool.and_false,Bool.false_and,Bool.or_true,Bool.true_or,Bool.or_false,Bool.false_or,Bool.not_true,Bool.not_false])),tt⟩)
theorem ent46 : Entr prog 46 := ⟨_,func46,rfl,by decide⟩
end Go.Proofs.Try

set_option linter.unusedSimpArgs false
set_option linter.unusedVariables false
namespace Go.Proofs.Try
open Go.Ab Go.RowKit
abbrev T32h : Tab := lk [(46,fs46)]
theorem tab32h : TabOK prog T32h := (TabOK.cons ok46 ent46 TabOK.nil)
theorem ent32h : Entr prog 32 := ⟨_,func32,rfl,by decide⟩
set_option maxRecDepth 100000 in
set_option maxHeartbeats 1000000 in
theorem hok32h : ∀ (s : ByteArray) (h : List CallD) (o : List Int),((isObject s = true) ∧ (validHistory h = true) ∧ (inH h o) ∧ (o.length ≤ 6)) → HOK prog 32 [911] [.v (.string s),.sl (.calls h),.own 911 o.length] [(911,⟨3,.row (.ints o)⟩)] [911] (fun r s1 u1 => r = (.tup [.agg [.sl (.ints ((playedR s h o).1.getD 0 [])),.sl (.ints ((playedR s h o).1.getD 1 []))],.b ((playedR s h o).2)]) ∧ s1 = ([(911,⟨3,.row (.ints o)⟩)]) ∧ u1 = ([911])) := by
 intro s h o hpre
 obtain ⟨hs,hv,ho,h6⟩ := hpre
 refine HOK.of cok func32 rfl rfl rfl ?_
 intro F hnt0
 have hnt : F.nt = 53 := hnt0.trans ntmps32
 refine W.to (⟨[(0,.v (.string s)),(1,.sl (.calls h)),(2,.own 911 o.length)],[(911,⟨3,.row (.ints o)⟩)],[911]⟩) rfl ?_
 refine Kk cok tab32h hnt [] [0,1,2,6] (⟨[(0,.v (.string s)),(1,.sl (.calls h)),(2,.own 911 o.length),(6,.ptr 6 0)],[(6,⟨50,.row (.intss ([[],[]] : List (List Int)))⟩),(911,⟨3,.row (.ints o)⟩)],[6,911]⟩)
  (True ∧ True ∧ True)
  ⟨tt,tt,tt⟩ ?_
 refine Kk cok tab32h hnt [] [0,1,2,6,8] (⟨[(0,.v (.string s)),(1,.sl (.calls h)),(2,.own 911 o.length),(6,.ptr 6 0),(8,.ptr 8 0)],[(6,⟨50,.row (.intss ([[],[]] : List (List Int)))⟩),(8,⟨50,.row (.intss ([([] : List Int),([] : List Int)]))⟩),(911,⟨3,.row (.ints o)⟩)],[8,6,911]⟩)
  (True ∧ True ∧ (True ∧ True ∧ ((List.length ([[],[]] : List (List Int))) = 2)) ∧ True)
  ⟨tt,tt,⟨tt,tt,(by first | exact hsl | rfl | (rw [List.length_set]; exact hsl))⟩,tt⟩ ?_
 refine W.seq ?_
 refine Kk cok tab32h hnt [] [0,1,6,8,14,15,16] (⟨[(0,.v (.string s)),(1,.sl (.calls h)),(6,.ptr 6 0),(8,.ptr 8 0),(14,.own 911 o.length),(15,.i (o.length : Int)),(16,.i (0 : Int))],[(6,⟨50,.row (.intss ([[],[]] : List (List Int)))⟩),(8,⟨50,.row (.intss ([([] : List Int),([] : List Int)]))⟩),(911,⟨3,.row (.ints o)⟩)],[8,6,911]⟩)
  (True ∧ True ∧ True ∧ True)
  ⟨tt,tt,tt,tt⟩ ?_
 refine W.block ?_
 refine W.loop (ι := Nat × (List (List Int))) (fun (x : Nat × (List (List Int))) => match x with | (i,ss) => (⟨[(0,.v (.string s)),(1,.sl (.calls h)),(6,.ptr 6 0),(8,.ptr 8 0),(14,.own 911 o.length),(15,.i (o.length : Int)),(16,.i ((i : Nat) : Int))],[(6,⟨50,.row (.intss ([[],[]] : List (List Int)))⟩),(8,⟨50,.row (.intss ss)⟩),(911,⟨3,.row (.ints o)⟩)],[6,8,911]⟩ : St))
  (fun (x : Nat × (List (List Int))) => match x with | (i,ss) => (i ≤ o.length) ∧ (ss = sts s h o i) ∧ (∀ j,j < i → okAt s h o j = true))
  (fun (x : Nat × (List (List Int))) => match x with | (i,ss) => (o.length - i : Nat)) (0,([([] : List Int),([] : List Int)])) ?_ ?_ ?_
 ·exact (show (0 ≤ o.length) ∧ (([([] : List Int),([] : List Int)]) = sts s h o 0) ∧ (∀ j,j < 0 → okAt s h o j = true) from ⟨(by first | assumption | omega | rfl | (intro _ hjj; omega) | (simp; done) | (simp; omega)),(by rfl),(by exact upto_zero)⟩)
 ·exact Sub.of [] (@cast (((((.string s) : Value) = (.string s)) ∧ (Sd (.calls h)) ∧ (((6 : Nat) = 6) ∧ ((0 : Nat) = 0) ∧ ((6 : Nat) ∈ ([6,8,911] : List Nat))) ∧ (((8 : Nat) = 8) ∧ ((0 : Nat) = 0) ∧ ((8 : Nat) ∈ ([6,8,911] : List Nat))) ∧ (((911 : Nat) = 911) ∧ (o.length = o.length) ∧ ((911 : Nat) ∈ ([6,8,911] : List Nat))) ∧ (Si (o.length : Int)) ∧ ((.int .i64 (0 : Int) : Value) = .int .i64 ((0 : Nat) : Int)) ∧ True) ∧ ((((50 : Nat) = 50) ∧ (Sd (.intss ([[],[]] : List (List Int)))) ∧ ((6 : Nat) ∈ ([6,8,911] : List Nat))) ∧ (((50 : Nat) = 50) ∧ (Sd (.intss ([([] : List Int),([] : List Int)]))) ∧ ((8 : Nat) ∈ ([6,8,911] : List Nat))) ∧ (((3 : Nat) = 3) ∧ (Sd (.ints o)) ∧ ((911 : Nat) ∈ ([6,8,911] : List Nat))) ∧ True) ∧ (true = true) ∧ (true = true)) _ (by kernel_rfl) ⟨⟨rfl,rfl,⟨rfl,rfl,(by decide)⟩,⟨rfl,rfl,(by decide)⟩,⟨rfl,rfl,(by decide)⟩,rfl,(congrArg (Value.int .i64) (by first | rfl | omega | assumption | simp | simp_all)),tt⟩,⟨⟨rfl,rfl,(by decide)⟩,⟨rfl,rfl,(by decide)⟩,⟨rfl,rfl,(by decide)⟩,tt⟩,rfl,rfl⟩)
 ·rintro ⟨i,ss⟩ hC0
  have hC : (i ≤ o.length) ∧ (ss = sts s h o i) ∧ (∀ j,j < i → okAt s h o j = true) := hC0
  clear hC0
  obtain ⟨hi,hss,hA⟩ := hC
  refine W.to (⟨[(0,.v (.string s)),(1,.sl (.calls h)),(6,.ptr 6 0),(8,.ptr 8 0),(14,.own 911 o.length),(15,.i (o.length : Int)),(16,.i ((i : Nat) : Int))],[(6,⟨50,.row (.intss ([[],[]] : List (List Int)))⟩),(8,⟨50,.row (.intss ss)⟩),(911,⟨3,.row (.ints o)⟩)],[6,8,911]⟩) rfl ?_
  have hsl : ss.length = 2 := by rw [hss]; exact sts_len s h o i
  have hri := ho i
  have hcl := fun hi => isCall_iff.1 (ord_call hv ho (i := i) hi)
  unfold ordAt callAt at hcl
  have hst := fun hi => sts_step hs hv ho (i := i) hi (by omega)
  unfold ordAt callAt at hst
  refine Kk cok tab32h hnt [] [0,1,6,8,14,15,16,17] (⟨[(0,.v (.string s)),(1,.sl (.calls h)),(6,.ptr 6 0),(8,.ptr 8 0),(14,.own 911 o.length),(15,.i (o.length : Int)),(16,.i ((i : Nat) : Int)),(17,.b (decide (((i : Nat) : Int) < (o.length : Int))))],[(6,⟨50,.row (.intss ([[],[]] : List (List Int)))⟩),(8,⟨50,.row (.intss ss)⟩),(911,⟨3,.row (.ints o)⟩)],[6,8,911]⟩)
   ((True ∧ True ∧ True) ∧ True)
   ⟨⟨tt,tt,tt⟩,tt⟩ ?_
  refine W.seq ?_
  refine W.ifP (((i : Nat) : Int) < (o.length : Int)) (.b (decide (((i : Nat) : Int) < (o.length : Int)))) (by kernel_rfl) rfl trivial ?_ ?_
  ·intro h17
   refine W.skip (thenQ_normal ?_)
   refine W.seq ?_
   refine W.block ?_
   refine Kk cok tab32h hnt [] [0,1,6,8,10,14,15,16] (⟨[(0,.v (.string s)),(1,.sl (.calls h)),(6,.ptr 6 0),(8,.ptr 8 0),(10,.i (o.getD i 0)),(14,.own 911 o.length),(15,.i (o.length : Int)),(16,.i ((i : Nat) : Int))],[(6,⟨50,.row (.intss ([[],[]] : List (List Int)))⟩),(8,⟨50,.row (.intss ss)⟩),(911,⟨3,.row (.ints o)⟩)],[6,8,911]⟩)
    ((True ∧ True ∧ (0 ≤ ((i : Nat) : Int)) ∧ (((i : Nat) : Int) < (o.length : Int))) ∧ (True ∧ (i < o.length)) ∧ True ∧ True)
    ⟨⟨tt,tt,(by omega),(by have hh := hcl (by omega); omega)⟩,⟨tt,(by have hh := hcl (by omega); omega)⟩,tt,tt⟩ ?_
   refine W.KA cok tab32h hnt [] [0,1,6,8,10,11,12,14,15,16] (⟨[(0,.v (.string s)),(1,.sl (.calls h)),(6,.ptr 6 0),(8,.ptr 8 0),(10,.i (o.getD i 0)),(11,.sl (.ints ((iStep s (ss.getD (Int.toNat ((h.getD (Int.toNat (o.getD i 0)) default).obj)) []) (h.getD (Int.toNat (o.getD i 0)) default)).1))),(12,.i ((iStep s (ss.getD (Int.toNat ((h.getD (Int.toNat (o.getD i 0)) default).obj)) []) (h.getD (Int.toNat (o.getD i 0)) default)).2)),(14,.own 911 o.length),(15,.i (o.length : Int)),(16,.i ((i : Nat) : Int))],[(6,⟨50,.row (.intss ([[],[]] : List (List Int)))⟩),(8,⟨50,.row (.intss ss)⟩),(911,⟨3,.row (.ints o)⟩)],[6,8,911]⟩)
    (True ∧ True ∧ True ∧ (True ∧ True ∧ (0 ≤ (o.getD i 0)) ∧ ((o.getD i 0) < (h.length : Int))) ∧ True ∧ True ∧ (True ∧ True ∧ (0 ≤ ((h.getD (Int.toNat (o.getD i 0)) default).obj)) ∧ (((h.getD (Int.toNat (o.getD i 0)) default).obj) < 2)) ∧ (True ∧ ((Int.toNat ((h.getD (Int.toNat (o.getD i 0)) default).obj)) < ss.length)) ∧ True ∧ True ∧ (True ∧ True ∧ (0 ≤ (o.getD i 0)) ∧ ((o.getD i 0) < (h.length : Int))) ∧ True ∧ (True ∧ (True ∧ True ∧ True ∧ True) ∧ (∀ j,j < (ss.getD (Int.toNat ((h.getD (Int.toNat (o.getD i 0)) default).obj)) []).length → 0 ≤ (ss.getD (Int.toNat ((h.getD (Int.toNat (o.getD i 0)) default).obj)) []).getD j 0 ∧ (ss.getD (Int.toNat ((h.getD (Int.toNat (o.getD i 0)) default).obj)) []).getD j 0 ≤ 20) ∧ (0 ≤ (h.getD (Int.toNat (o.getD i 0)) default).arg ∧ (h.getD (Int.toNat (o.getD i 0)) default).arg ≤ 3) ∧ ((ss.getD (Int.toNat ((h.getD (Int.toNat (o.getD i 0)) default).obj)) []).length ≤ 20)) ∧ True ∧ True ∧ True ∧ True ∧ True ∧ True) (by kernel_rfl) (by kernel_rfl)
    ⟨tt,tt,tt,⟨tt,tt,(by (first | omega | (simp only [List.length_set]; done) | (simp only [List.length_append,List.length_cons,List.length_nil,List.length_take,List.length_drop,List.length_set,List.length_replicate,List.length_map] at *; omega) | assumption)),(by have hh := hcl (by omega); omega)⟩,tt,tt,⟨tt,tt,(by have hh := hcl (by omega); omega),(by have hh := hcl (by omega); omega)⟩,⟨tt,(by have hh := hcl (by omega); omega)⟩,tt,tt,⟨tt,tt,(by (first | omega | (simp only [List.length_set]; done) | (simp only [List.length_append,List.length_cons,List.length_nil,List.length_take,List.length_drop,List.length_set,List.length_replicate,List.length_map] at *; omega) | assumption)),(by have hh := hcl (by omega); omega)⟩,tt,⟨tt,⟨tt,tt,tt,tt⟩,(by have hh := (sts_at hs hv ho (i := i) (by omega) (by omega)).2.2; unfold ordAt callAt at hh; rw [hss]; intro j hj; have := hh _ (getD_mem _ 0 hj); omega),(by have hh := hcl (by omega); omega),(by have hh := (sts_at hs hv ho (i := i) (by omega) (by omega)).2.1; unfold ordAt callAt at hh; rw [hss]; omega)⟩,tt,tt,tt,tt,tt,tt⟩ ?_
   refine W.seq ?_
   refine Kk cok tab32h hnt [] [0,1,6,8,10,11,14,15,16,42] (⟨[(0,.v (.string s)),(1,.sl (.calls h)),(6,.ptr 6 0),(8,.ptr 8 0),(10,.i (o.getD i 0)),(11,.sl (.ints ((iStep s (ss.getD (Int.toNat ((h.getD (Int.toNat (o.getD i 0)) default).obj)) []) (h.getD (Int.toNat (o.getD i 0)) default)).1))),(14,.own 911 o.length),(15,.i (o.length : Int)),(16,.i ((i : Nat) : Int)),(42,.b (decide (((iStep s (ss.getD (Int.toNat ((h.getD (Int.toNat (o.getD i 0)) default).obj)) []) (h.getD (Int.toNat (o.getD i 0)) default)).2) ≠ ((h.getD (Int.toNat (o.getD i 0)) default).ret))))],[(6,⟨50,.row (.intss ([[],[]] : List (List Int)))⟩),(8,⟨50,.row (.intss ss)⟩),(911,⟨3,.row (.ints o)⟩)],[6,8,911]⟩)
    (True ∧ True ∧ True ∧ (True ∧ True ∧ (0 ≤ (o.getD i 0)) ∧ ((o.getD i 0) < (h.length : Int))) ∧ True ∧ True ∧ (True ∧ True ∧ True) ∧ True)
    ⟨tt,tt,tt,⟨tt,tt,(by (first | omega | (simp only [List.length_set]; done) | (simp only [List.length_append,List.length_cons,List.length_nil,List.length_take,List.length_drop,List.length_set,List.length_replicate,List.length_map] at *; omega) | assumption)),(by have hh := hcl (by omega); omega)⟩,tt,tt,⟨tt,tt,tt⟩,tt⟩ ?_
   refine W.ifP (((iStep s (ss.getD (Int.toNat ((h.getD (Int.toNat (o.getD i 0)) default).obj)) []) (h.getD (Int.toNat (o.getD i 0)) default)).2) ≠ ((h.getD (Int.toNat (o.getD i 0)) default).ret)) (.b (decide (((iStep s (ss.getD (Int.toNat ((h.getD (Int.toNat (o.getD i 0)) default).obj)) []) (h.getD (Int.toNat (o.getD i 0)) default)).2) ≠ ((h.getD (Int.toNat (o.getD i 0)) default).ret)))) (by kernel_rfl) rfl trivial ?_ ?_
   ·intro h42
    refine Kk cok tab32h hnt [] [6,7] (⟨[(6,.ptr 6 0),(7,.b false)],[(6,⟨50,.row (.intss ([ss.getD 0 [],ss.getD 1 []]))⟩),(8,⟨50,.row (.intss ss)⟩),(911,⟨3,.row (.ints o)⟩)],[6,8,911]⟩)
     ((True ∧ (ss.length = 2)) ∧ (True ∧ True ∧ ((List.length ([[],[]] : List (List Int))) = 2)) ∧ True ∧ True)
     ⟨⟨tt,(by first | exact hsl | rfl | (rw [List.length_set]; exact hsl))⟩,⟨tt,tt,(by first | exact hsl | rfl | (rw [List.length_set]; exact hsl))⟩,tt,tt⟩ ?_
    refine W.ret (thenQ_ret (blockQ_ret (thenQ_ret (thenQ_ret (blockQ_ret (thenQ_ret ?_))))))
    exact endH_ret (.tup [.agg [.sl (.ints ((playedR s h o).1.getD 0 [])),.sl (.ints ((playedR s h o).1.getD 1 []))],.b ((playedR s h o).2)]) [(911,⟨3,.row (.ints o)⟩)] [911] ⟨rfl,rfl,rfl⟩ [(911,911)] (.tup [.agg [.sl (.ints (List.getD ([ss.getD 0 [],ss.getD 1 []]) 0 [])),.sl (.ints (List.getD ([ss.getD 0 [],ss.getD 1 []]) 1 []))],.b false]) (by kernel_rfl) (@cast (((((.ints (List.getD ([ss.getD 0 [],ss.getD 1 []]) 0 []) : Dat) = .ints ((playedR s h o).1.getD 0 [])) ∧ ((.ints (List.getD ([ss.getD 0 [],ss.getD 1 []]) 1 []) : Dat) = .ints ((playedR s h o).1.getD 1 [])) ∧ True) ∧ ((.bool false : Value) = .bool ((playedR s h o).2)) ∧ True) ∧ ((((3 : Nat) = 3) ∧ (Sd (.ints o)) ∧ ((911 : Nat) ∈ ([911] : List Nat))) ∧ True) ∧ (true = true) ∧ (true = true)) _ (by kernel_rfl) ⟨⟨⟨(congrArg Dat.ints (by rw [played_no (i := i) (by omega) (fun j hj => hA j hj) (by have h9 := (hst (by omega)).2; rw [hss] at h42; rw [← h9]; exact decide_eq_false (by omega))] <;> (subst hss; rfl))),(congrArg Dat.ints (by rw [played_no (i := i) (by omega) (fun j hj => hA j hj) (by have h9 := (hst (by omega)).2; rw [hss] at h42; rw [← h9]; exact decide_eq_false (by omega))] <;> (subst hss; rfl))),tt⟩,(congrArg Value.bool (by rw [played_no (i := i) (by omega) (fun j hj => hA j hj) (by have h9 := (hst (by omega)).2; rw [hss] at h42; rw [← h9]; exact decide_eq_false (by omega))] <;> (subst hss; rfl))),tt⟩,⟨⟨rfl,rfl,(by decide)⟩,tt⟩,rfl,rfl⟩)
   ·intro n42
    refine W.skip (thenQ_normal ?_)
    refine Lk cok tab32h hnt [] (⟨[(0,.v (.string s)),(1,.sl (.calls h)),(6,.ptr 6 0),(8,.ptr 8 0),(10,.i (o.getD i 0)),(11,.sl (.ints ((iStep s (ss.getD (Int.toNat ((h.getD (Int.toNat (o.getD i 0)) default).obj)) []) (h.getD (Int.toNat (o.getD i 0)) default)).1))),(14,.own 911 o.length),(15,.i (o.length : Int)),(16,.i ((i : Nat) : Int)),(42,.b (decide (((iStep s (ss.getD (Int.toNat ((h.getD (Int.toNat (o.getD i 0)) default).obj)) []) (h.getD (Int.toNat (o.getD i 0)) default)).2) ≠ ((h.getD (Int.toNat (o.getD i 0)) default).ret)))),(44,.sl (.calls h)),(45,.i (o.getD i 0)),(46,.ep [.i ((h.getD (Int.toNat (o.getD i 0)) default).proc),.i ((h.getD (Int.toNat (o.getD i 0)) default).obj),.i ((h.getD (Int.toNat (o.getD i 0)) default).kind),.i ((h.getD (Int.toNat (o.getD i 0)) default).arg),.i ((h.getD (Int.toNat (o.getD i 0)) default).ret),.i ((h.getD (Int.toNat (o.getD i 0)) default).frm),.i ((h.getD (Int.toNat (o.getD i 0)) default).to)]),(47,.ep [.i ((h.getD (Int.toNat (o.getD i 0)) default).obj),.i ((h.getD (Int.toNat (o.getD i 0)) default).kind),.i ((h.getD (Int.toNat (o.getD i 0)) default).arg),.i ((h.getD (Int.toNat (o.getD i 0)) default).ret),.i ((h.getD (Int.toNat (o.getD i 0)) default).frm),.i ((h.getD (Int.toNat (o.getD i 0)) default).to)]),(48,.i ((h.getD (Int.toNat (o.getD i 0)) default).obj)),(49,.sl (.ints ((iStep s (ss.getD (Int.toNat ((h.getD (Int.toNat (o.getD i 0)) default).obj)) []) (h.getD (Int.toNat (o.getD i 0)) default)).1))),(50,.pel 8 1 (Int.toNat ((h.getD (Int.toNat (o.getD i 0)) default).obj)) 0)],[(6,⟨50,.row (.intss ([[],[]] : List (List Int)))⟩),(8,⟨50,.row (.intss (List.set ss (Int.toNat ((h.getD (Int.toNat (o.getD i 0)) default).obj)) ((iStep s (ss.getD (Int.toNat ((h.getD (Int.toNat (o.getD i 0)) default).obj)) []) (h.getD (Int.toNat (o.getD i 0)) default)).1)))⟩),(911,⟨3,.row (.ints o)⟩)],[6,8,911]⟩)
     (True ∧ True ∧ (True ∧ True ∧ (0 ≤ (o.getD i 0)) ∧ ((o.getD i 0) < (h.length : Int))) ∧ True ∧ True ∧ True ∧ (True ∧ True ∧ (0 ≤ ((h.getD (Int.toNat (o.getD i 0)) default).obj)) ∧ (((h.getD (Int.toNat (o.getD i 0)) default).obj) < 2)) ∧ (True ∧ True ∧ ((Int.toNat ((h.getD (Int.toNat (o.getD i 0)) default).obj)) < ss.length)) ∧ True)
     ⟨tt,tt,⟨tt,tt,(by (first | omega | (simp only [List.length_set]; done) | (simp only [List.length_append,List.length_cons,List.length_nil,List.length_take,List.length_drop,List.length_set,List.length_replicate,List.length_map] at *; omega) | assumption)),(by have hh := hcl (by omega); omega)⟩,tt,tt,tt,⟨tt,tt,(by have hh := hcl (by omega); omega),(by have hh := hcl (by omega); omega)⟩,⟨tt,tt,(by have hh := hcl (by omega); omega)⟩,tt⟩ ?_
    refine blockQ_normal (thenQ_normal ?_)
    refine Lk cok tab32h hnt [] (⟨[(0,.v (.string s)),(1,.sl (.calls h)),(6,.ptr 6 0),(8,.ptr 8 0),(10,.i (o.getD i 0)),(11,.sl (.ints ((iStep s (ss.getD (Int.toNat ((h.getD (Int.toNat (o.getD i 0)) default).obj)) []) (h.getD (Int.toNat (o.getD i 0)) default)).1))),(14,.own 911 o.length),(15,.i (o.length : Int)),(16,.i (((i + 1) : Nat) : Int)),(42,.b (decide (((iStep s (ss.getD (Int.toNat ((h.getD (Int.toNat (o.getD i 0)) default).obj)) []) (h.getD (Int.toNat (o.getD i 0)) default)).2) ≠ ((h.getD (Int.toNat (o.getD i 0)) default).ret)))),(44,.sl (.calls h)),(45,.i (o.getD i 0)),(46,.ep [.i ((h.getD (Int.toNat (o.getD i 0)) default).proc),.i ((h.getD (Int.toNat (o.getD i 0)) default).obj),.i ((h.getD (Int.toNat (o.getD i 0)) default).kind),.i ((h.getD (Int.toNat (o.getD i 0)) default).arg),.i ((h.getD (Int.toNat (o.getD i 0)) default).ret),.i ((h.getD (Int.toNat (o.getD i 0)) default).frm),.i ((h.getD (Int.toNat (o.getD i 0)) default).to)]),(47,.ep [.i ((h.getD (Int.toNat (o.getD i 0)) default).obj),.i ((h.getD (Int.toNat (o.getD i 0)) default).kind),.i ((h.getD (Int.toNat (o.getD i 0)) default).arg),.i ((h.getD (Int.toNat (o.getD i 0)) default).ret),.i ((h.getD (Int.toNat (o.getD i 0)) default).frm),.i ((h.getD (Int.toNat (o.getD i 0)) default).to)]),(48,.i ((h.getD (Int.toNat (o.getD i 0)) default).obj)),(49,.sl (.ints ((iStep s (ss.getD (Int.toNat ((h.getD (Int.toNat (o.getD i 0)) default).obj)) []) (h.getD (Int.toNat (o.getD i 0)) default)).1))),(50,.pel 8 1 (Int.toNat ((h.getD (Int.toNat (o.getD i 0)) default).obj)) 0),(51,.i (((i + 1) : Nat) : Int))],[(6,⟨50,.row (.intss ([[],[]] : List (List Int)))⟩),(8,⟨50,.row (.intss (List.set ss (Int.toNat ((h.getD (Int.toNat (o.getD i 0)) default).obj)) ((iStep s (ss.getD (Int.toNat ((h.getD (Int.toNat (o.getD i 0)) default).obj)) []) (h.getD (Int.toNat (o.getD i 0)) default)).1)))⟩),(911,⟨3,.row (.ints o)⟩)],[6,8,911]⟩)
     ((True ∧ True ∧ (Fits .i64 (((i + 1) : Nat) : Int))) ∧ True ∧ True)
     ⟨⟨tt,tt,(by exact fits_i64 (by omega) (by omega))⟩,tt,tt⟩ ?_
    refine thenQ_normal ?_
    refine ⟨((i + 1),(List.set ss (Int.toNat ((h.getD (Int.toNat (o.getD i 0)) default).obj)) ((iStep s (ss.getD (Int.toNat ((h.getD (Int.toNat (o.getD i 0)) default).obj)) []) (h.getD (Int.toNat (o.getD i 0)) default)).1))),(show ((i + 1) ≤ o.length) ∧ ((List.set ss (Int.toNat ((h.getD (Int.toNat (o.getD i 0)) default).obj)) ((iStep s (ss.getD (Int.toNat ((h.getD (Int.toNat (o.getD i 0)) default).obj)) []) (h.getD (Int.toNat (o.getD i 0)) default)).1)) = sts s h o (i + 1)) ∧ (∀ j,j < (i + 1) → okAt s h o j = true) from ⟨(by first | assumption | omega | rfl | (intro _ hjj; omega) | (simp; done) | (simp; omega)),(by rw [hss,(hst (by omega)).1]; rfl),(by exact upto_succ hA (by have h9 := (hst (by omega)).2; rw [hss] at n42; rw [← h9]; exact decide_eq_true (by omega)))⟩),(show o.length - (i + 1) < o.length - i from (by first | omega | (simp_all; omega))),?_⟩
    exact Sub.of [] (@cast (((((.string s) : Value) = (.string s)) ∧ (Sd (.calls h)) ∧ (((6 : Nat) = 6) ∧ ((0 : Nat) = 0) ∧ ((6 : Nat) ∈ ([6,8,911] : List Nat))) ∧ (((8 : Nat) = 8) ∧ ((0 : Nat) = 0) ∧ ((8 : Nat) ∈ ([6,8,911] : List Nat))) ∧ (((911 : Nat) = 911) ∧ (o.length = o.length) ∧ ((911 : Nat) ∈ ([6,8,911] : List Nat))) ∧ (Si (o.length : Int)) ∧ (Si (((i + 1) : Nat) : Int)) ∧ True) ∧ ((((50 : Nat) = 50) ∧ (Sd (.intss ([[],[]] : List (List Int)))) ∧ ((6 : Nat) ∈ ([6,8,911] : List Nat))) ∧ (((50 : Nat) = 50) ∧ (Sd (.intss (List.set ss (Int.toNat ((h.getD (Int.toNat (o.getD i 0)) default).obj)) ((iStep s (ss.getD (Int.toNat ((h.getD (Int.toNat (o.getD i 0)) default).obj)) []) (h.getD (Int.toNat (o.getD i 0)) default)).1)))) ∧ ((8 : Nat) ∈ ([6,8,911] : List Nat))) ∧ (((3 : Nat) = 3) ∧ (Sd (.ints o)) ∧ ((911 : Nat) ∈ ([6,8,911] : List Nat))) ∧ True) ∧ (true = true) ∧ (true = true)) _ (by kernel_rfl) ⟨⟨rfl,rfl,⟨rfl,rfl,(by decide)⟩,⟨rfl,rfl,(by decide)⟩,⟨rfl,rfl,(by decide)⟩,rfl,rfl,tt⟩,⟨⟨rfl,rfl,(by decide)⟩,⟨rfl,rfl,(by decide)⟩,⟨rfl,rfl,(by decide)⟩,tt⟩,rfl,rfl⟩)
  ·intro n17
   refine W.exit (thenQ_exit (thenQ_exit (blockQ_hit ?_)))
   refine thenQ_normal ?_
   refine Kk cok tab32h hnt [] [6,7] (⟨[(6,.ptr 6 0),(7,.b true)],[(6,⟨50,.row (.intss ([ss.getD 0 [],ss.getD 1 []]))⟩),(8,⟨50,.row (.intss ss)⟩),(911,⟨3,.row (.ints o)⟩)],[6,8,911]⟩)
    ((True ∧ (ss.length = 2)) ∧ (True ∧ True ∧ ((List.length ([[],[]] : List (List Int))) = 2)) ∧ True ∧ True)
    ⟨⟨tt,(by first | exact hsl | rfl | (rw [List.length_set]; exact hsl))⟩,⟨tt,tt,(by first | exact hsl | rfl | (rw [List.length_set]; exact hsl))⟩,tt,tt⟩ ?_
   refine W.ret ?_
   exact endH_ret (.tup [.agg [.sl (.ints ((playedR s h o).1.getD 0 [])),.sl (.ints ((playedR s h o).1.getD 1 []))],.b ((playedR s h o).2)]) [(911,⟨3,.row (.ints o)⟩)] [911] ⟨rfl,rfl,rfl⟩ [(911,911)] (.tup [.agg [.sl (.ints (List.getD ([ss.getD 0 [],ss.getD 1 []]) 0 [])),.sl (.ints (List.getD ([ss.getD 0 [],ss.getD 1 []]) 1 []))],.b true]) (by kernel_rfl) (@cast (((((.ints (List.getD ([ss.getD 0 [],ss.getD 1 []]) 0 []) : Dat) = .ints ((playedR s h o).1.getD 0 [])) ∧ ((.ints (List.getD ([ss.getD 0 [],ss.getD 1 []]) 1 []) : Dat) = .ints ((playedR s h o).1.getD 1 [])) ∧ True) ∧ ((.bool true : Value) = .bool ((playedR s h o).2)) ∧ True) ∧ ((((3 : Nat) = 3) ∧ (Sd (.ints o)) ∧ ((911 : Nat) ∈ ([911] : List Nat))) ∧ True) ∧ (true = true) ∧ (true = true)) _ (by kernel_rfl) ⟨⟨⟨(congrArg Dat.ints (by rw [played_yes (fun j hj => hA j (by omega))] <;> (subst hss; rw [show i = o.length by omega]; rfl))),(congrArg Dat.ints (by rw [played_yes (fun j hj => hA j (by omega))] <;> (subst hss; rw [show i = o.length by omega]; rfl))),tt⟩,(congrArg Value.bool (by rw [played_yes (fun j hj => hA j (by omega))] <;> (subst hss; rw [show i = o.length by omega]; rfl))),tt⟩,⟨⟨rfl,rfl,(by decide)⟩,tt⟩,rfl,rfl⟩)
end Go.Proofs.Try
