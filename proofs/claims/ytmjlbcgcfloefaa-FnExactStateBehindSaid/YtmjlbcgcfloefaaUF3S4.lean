import Derived.Test.YtmjlbcgcfloefaaUF3S0
import Derived.Test.YtmjlbcgcfloefaaUF3S3
set_option linter.unusedSimpArgs false
set_option linter.unusedVariables false
namespace Go.Proofs.Try
open Go.Ab Go.RowKit
def fs60o : FnS := fnS [.o,.c .ints 3,.o] [.str,.ints,.call] (fun _ (s,l,c,_) => (.tup [.own 0 (List.length ((iSingle s l c).1)),.i ((iSingle s l c).2)],[(3,.ints ((iSingle s l c).1))],(∀ j,j < l.length → 0 ≤ l.getD j 0 ∧ l.getD j 0 ≤ 20) ∧ (0 ≤ c.arg ∧ c.arg ≤ 3) ∧ (l.length ≤ 20)))
abbrev T60o : Tab := lk []
theorem tab60o : TabOK prog T60o := TabOK.nil
set_option maxRecDepth 100000 in
set_option maxHeartbeats 1000000 in
theorem ok60o : FnOK prog 60 fs60o := by
 refine FnOK.mk cok func60 rfl rfl rfl ?_
 rintro fl ⟨(s : ByteArray),(l : List Int),(c : CallD),_⟩ hpre F hnt0 _
 have hnt : F.nt = 45 := hnt0.trans ntmps60
 replace hpre : (∀ j,j < l.length → 0 ≤ l.getD j 0 ∧ l.getD j 0 ≤ 20) ∧ (0 ≤ c.arg ∧ c.arg ≤ 3) ∧ (l.length ≤ 20) := hpre
 obtain ⟨hs,ha,hl⟩ := hpre
 refine W.to (⟨[(0,.v (.string s)),(1,.own 999 l.length),(2,.agg [.i c.proc,.i c.obj,.i c.kind,.i c.arg,.i c.ret,.i c.frm,.i c.to])],[(999,⟨3,.row (.ints l)⟩)],[999]⟩) rfl ?_
 refine Kk cok tab60o hnt [] [0,1,5] (⟨[(0,.v (.string s)),(1,.own 999 l.length),(5,.ptr 5 0)],[(5,⟨46,.fix [.i c.proc,.i c.obj,.i c.kind,.i c.arg,.i c.ret,.i c.frm,.i c.to]⟩),(999,⟨3,.row (.ints l)⟩)],[5,999]⟩)
  (True ∧ True ∧ True ∧ True)
  ⟨tt,tt,tt,tt⟩ ?_
 refine Kk cok tab60o hnt [] [0,1,5,8] (⟨[(0,.v (.string s)),(1,.own 999 l.length),(5,.ptr 5 0),(8,.i (0 : Int))],[(5,⟨46,.fix [.i c.proc,.i c.obj,.i c.kind,.i c.arg,.i c.ret,.i c.frm,.i c.to]⟩),(999,⟨3,.row (.ints l)⟩)],[5,999]⟩)
  (True ∧ True)
  ⟨tt,tt⟩ ?_
 refine W.seq ?_
 refine Kk cok tab60o hnt [] [0,1,5,8,11] (⟨[(0,.v (.string s)),(1,.own 999 l.length),(5,.ptr 5 0),(8,.i (0 : Int)),(11,.b (decide ((l.length : Int) = (1 : Int))))],[(5,⟨46,.fix [.i c.proc,.i c.obj,.i c.kind,.i c.arg,.i c.ret,.i c.frm,.i c.to]⟩),(999,⟨3,.row (.ints l)⟩)],[5,999]⟩)
  (True ∧ True ∧ (True ∧ True ∧ True) ∧ True)
  ⟨tt,tt,⟨tt,tt,tt⟩,tt⟩ ?_
 refine W.meetT (ι := Int) (fun (v : Int) => (⟨[(0,.v (.string s)),(1,.own 999 l.length),(5,.ptr 5 0),(8,.i v)],[(5,⟨46,.fix [.i c.proc,.i c.obj,.i c.kind,.i c.arg,.i c.ret,.i c.frm,.i c.to]⟩),(999,⟨3,.row (.ints l)⟩)],[5,999]⟩ : St)) (fun (v : Int) => (v = oneOf l) ∧ (0 ≤ v ∧ v ≤ 20)) ?_ ?_
 ·skip
  refine W.ifP ((l.length : Int) = (1 : Int)) (.b (decide ((l.length : Int) = (1 : Int)))) (by kernel_rfl) rfl trivial ?_ ?_
  ·intro h11
   refine Lk cok tab60o hnt [] (⟨[(0,.v (.string s)),(1,.own 999 l.length),(5,.ptr 5 0),(8,.i (l.getD 0 0)),(11,.b (decide ((l.length : Int) = (1 : Int)))),(12,.own 999 l.length),(13,.pel 999 1 0 0),(14,.i (l.getD 0 0))],[(5,⟨46,.fix [.i c.proc,.i c.obj,.i c.kind,.i c.arg,.i c.ret,.i c.frm,.i c.to]⟩),(999,⟨3,.row (.ints l)⟩)],[5,999]⟩)
    (True ∧ (True ∧ True ∧ (0 ≤ (0 : Int)) ∧ ((0 : Int) < (l.length : Int))) ∧ (True ∧ (0 < l.length)) ∧ True ∧ True)
    ⟨tt,⟨tt,tt,(by omega),(by omega)⟩,⟨tt,(by omega)⟩,tt,tt⟩ ?_
   refine thenQ_normal ?_
   refine ⟨((l.getD 0 0)),(show ((l.getD 0 0) = oneOf l) ∧ (0 ≤ (l.getD 0 0) ∧ (l.getD 0 0) ≤ 20) from ⟨(by unfold oneOf; first | (rw [decide_eq_true h11]; rfl) | (rw [decide_eq_false n11]; rfl)),(by first | omega | (have := hs 0 (by omega); omega))⟩),?_⟩
   exact Sub.of [] (@cast (((((.string s) : Value) = (.string s)) ∧ (((999 : Nat) = 999) ∧ (l.length = l.length) ∧ ((999 : Nat) ∈ ([5,999] : List Nat))) ∧ (((5 : Nat) = 5) ∧ ((0 : Nat) = 0) ∧ ((5 : Nat) ∈ ([5,999] : List Nat))) ∧ (Si (l.getD 0 0)) ∧ True) ∧ ((((46 : Nat) = 46) ∧ ((Si c.proc) ∧ (Si c.obj) ∧ (Si c.kind) ∧ (Si c.arg) ∧ (Si c.ret) ∧ (Si c.frm) ∧ (Si c.to) ∧ True) ∧ ((5 : Nat) ∈ ([5,999] : List Nat))) ∧ (((3 : Nat) = 3) ∧ (Sd (.ints l)) ∧ ((999 : Nat) ∈ ([5,999] : List Nat))) ∧ True) ∧ (true = true) ∧ (true = true)) _ (by kernel_rfl) ⟨⟨rfl,⟨rfl,rfl,(by decide)⟩,⟨rfl,rfl,(by decide)⟩,rfl,tt⟩,⟨⟨rfl,⟨rfl,rfl,rfl,rfl,rfl,rfl,rfl,tt⟩,(by decide)⟩,⟨rfl,rfl,(by decide)⟩,tt⟩,rfl,rfl⟩)
  ·intro n11
   refine W.skip (thenQ_normal ?_)
   refine ⟨((0 : Int)),(show ((0 : Int) = oneOf l) ∧ (0 ≤ (0 : Int) ∧ (0 : Int) ≤ 20) from ⟨(by unfold oneOf; first | (rw [decide_eq_true h11]; rfl) | (rw [decide_eq_false n11]; rfl)),(by first | omega | (have := hs 0 (by omega); omega))⟩),?_⟩
   exact Sub.of [] (@cast (((((.string s) : Value) = (.string s)) ∧ (((999 : Nat) = 999) ∧ (l.length = l.length) ∧ ((999 : Nat) ∈ ([5,999] : List Nat))) ∧ (((5 : Nat) = 5) ∧ ((0 : Nat) = 0) ∧ ((5 : Nat) ∈ ([5,999] : List Nat))) ∧ (Si (0 : Int)) ∧ True) ∧ ((((46 : Nat) = 46) ∧ ((Si c.proc) ∧ (Si c.obj) ∧ (Si c.kind) ∧ (Si c.arg) ∧ (Si c.ret) ∧ (Si c.frm) ∧ (Si c.to) ∧ True) ∧ ((5 : Nat) ∈ ([5,999] : List Nat))) ∧ (((3 : Nat) = 3) ∧ (Sd (.ints l)) ∧ ((999 : Nat) ∈ ([5,999] : List Nat))) ∧ True) ∧ (true = true) ∧ (true = true)) _ (by kernel_rfl) ⟨⟨rfl,⟨rfl,rfl,(by decide)⟩,⟨rfl,rfl,(by decide)⟩,rfl,tt⟩,⟨⟨rfl,⟨rfl,rfl,rfl,rfl,rfl,rfl,rfl,tt⟩,(by decide)⟩,⟨rfl,rfl,(by decide)⟩,tt⟩,rfl,rfl⟩)
 ·rintro v hC0
  have hC : (v = oneOf l) ∧ (0 ≤ v ∧ v ≤ 20) := hC0
  clear hC0
  obtain ⟨hv,hvb⟩ := hC
  refine W.to (⟨[(0,.v (.string s)),(1,.own 999 l.length),(5,.ptr 5 0),(8,.i v)],[(5,⟨46,.fix [.i c.proc,.i c.obj,.i c.kind,.i c.arg,.i c.ret,.i c.frm,.i c.to]⟩),(999,⟨3,.row (.ints l)⟩)],[5,999]⟩) rfl ?_
  refine W.seq ?_
  refine W.block ?_
  refine Kk cok tab60o hnt [] [0,1,5,8,15] (⟨[(0,.v (.string s)),(1,.own 999 l.length),(5,.ptr 5 0),(8,.i v),(15,.b (decide (c.kind = (2 : Int))))],[(5,⟨46,.fix [.i c.proc,.i c.obj,.i c.kind,.i c.arg,.i c.ret,.i c.frm,.i c.to]⟩),(999,⟨3,.row (.ints l)⟩)],[5,999]⟩)
   (True ∧ True ∧ (True ∧ True ∧ True) ∧ True ∧ True)
   ⟨tt,tt,⟨tt,tt,tt⟩,tt,tt⟩ ?_
  refine W.ifP (c.kind = (2 : Int)) (.b (decide (c.kind = (2 : Int)))) (by kernel_rfl) rfl trivial ?_ ?_
  ·intro h15
   refine Kk cok tab60o hnt [] [6,7] (⟨[(6,.own 999 l.length),(7,.i v)],[(5,⟨46,.fix [.i c.proc,.i c.obj,.i c.kind,.i c.arg,.i c.ret,.i c.frm,.i c.to]⟩),(999,⟨3,.row (.ints l)⟩)],[5,999]⟩)
    (True ∧ True ∧ True ∧ True ∧ True)
    ⟨tt,tt,tt,tt,tt⟩ ?_
   refine W.ret (blockQ_ret (thenQ_ret ?_))
   exact endQ_rows [(0,999)] (.tup [.own 999 l.length,.i v]) (by kernel_rfl) (@cast ((((999 : Nat) = 999) ∧ (l.length = (List.length ((iSingle s l c).1))) ∧ ((0 : Nat) ∈ ([0] : List Nat))) ∧ ((.int .i64 v : Value) = .int .i64 ((iSingle s l c).2)) ∧ True) _ (by kernel_rfl) ⟨⟨rfl,(by first | rfl | omega | assumption | (symm; assumption) | (exact congrArg List.length (by subst hv; simp only [iSingle,(decide_eq_true h15),cond_true,cond_false,Bool.and_true,Bool.true_and,Bool.and_false,Bool.false_and,Bool.or_true,Bool.true_or,Bool.or_false,Bool.false_or,Bool.not_true,Bool.not_false,List.length_nil])) | (subst hv; simp only [iSingle,(decide_eq_true h15),cond_true,cond_false,Bool.and_true,Bool.true_and,Bool.and_false,Bool.false_and,Bool.or_true,Bool.true_or,Bool.or_false,Bool.false_or,Bool.not_true,Bool.not_false,List.length_nil]; done) | simp | simp_all),(by decide)⟩,(congrArg (Value.int .i64) (by first | rfl | omega | assumption | (subst hv; simp only [iSingle,(decide_eq_true h15),cond_true,cond_false,Bool.and_true,Bool.true_and,Bool.and_false,Bool.false_and,Bool.or_true,Bool.true_or,Bool.or_false,Bool.false_or,Bool.not_true,Bool.not_false,List.length_nil]; done) | simp | simp_all)),tt⟩) (@cast ((((3 : Nat) = 3) ∧ ((.ints l : Dat) = .ints ((iSingle s l c).1)) ∧ ((0 : Nat) ∈ ([0] : List Nat))) ∧ True) _ (by kernel_rfl) ⟨⟨rfl,(congrArg Dat.ints (by subst hv; simp only [iSingle,(decide_eq_true h15),cond_true,cond_false,Bool.and_true,Bool.true_and,Bool.and_false,Bool.false_and,Bool.or_true,Bool.true_or,Bool.or_false,Bool.false_or,Bool.not_true,Bool.not_false,List.length_nil])),(by decide)⟩,tt⟩) (by kernel_rfl)
  ·intro n15
   refine Kk cok tab60o hnt [] [0,5,8,21] (⟨[(0,.v (.string s)),(5,.ptr 5 0),(8,.i v),(21,.b (decide (c.kind = (1 : Int))))],[(5,⟨46,.fix [.i c.proc,.i c.obj,.i c.kind,.i c.arg,.i c.ret,.i c.frm,.i c.to]⟩),(999,⟨3,.row (.ints l)⟩)],[5,999]⟩)
    (True ∧ True ∧ (True ∧ True ∧ True) ∧ True ∧ True)
    ⟨tt,tt,⟨tt,tt,tt⟩,tt,tt⟩ ?_
   refine W.ifP (c.kind = (1 : Int)) (.b (decide (c.kind = (1 : Int)))) (by kernel_rfl) rfl trivial ?_ ?_
   ·intro h21
    refine Kk cok tab60o hnt [] [6,7] (⟨[(6,.v (.slice none 0 0)),(7,.i v)],[(5,⟨46,.fix [.i c.proc,.i c.obj,.i c.kind,.i c.arg,.i c.ret,.i c.frm,.i c.to]⟩),(999,⟨3,.row (.ints l)⟩)],[5,999]⟩)
     (True ∧ True ∧ True ∧ True)
     ⟨tt,tt,tt,tt⟩ ?_
    refine W.nilOwn 6 813 none 3 (.ints ([] : List Int)) (.v (.slice none 0 0)) (.own 813 0) (⟨[(6,.own 813 0),(7,.i v)],[(5,⟨46,.fix [.i c.proc,.i c.obj,.i c.kind,.i c.arg,.i c.ret,.i c.frm,.i c.to]⟩),(813,⟨3,.row (.ints ([] : List Int))⟩),(999,⟨3,.row (.ints l)⟩)],[813,5,999]⟩) (by kernel_rfl) (by kernel_rfl) (by kernel_rfl) (by kernel_rfl) (by kernel_rfl) ?_
    refine W.ret (blockQ_ret (thenQ_ret ?_))
    exact endQ_rows [(0,813)] (.tup [.own 813 0,.i v]) (by kernel_rfl) (@cast ((((813 : Nat) = 813) ∧ (0 = (List.length ((iSingle s l c).1))) ∧ ((0 : Nat) ∈ ([0] : List Nat))) ∧ ((.int .i64 v : Value) = .int .i64 ((iSingle s l c).2)) ∧ True) _ (by kernel_rfl) ⟨⟨rfl,(by first | rfl | omega | assumption | (symm; assumption) | (exact congrArg List.length (by subst hv; simp only [iSingle,(decide_eq_true h21),(decide_eq_false n15),cond_true,cond_false,Bool.and_true,Bool.true_and,Bool.and_false,Bool.false_and,Bool.or_true,Bool.true_or,Bool.or_false,Bool.false_or,Bool.not_true,Bool.not_false,List.length_nil])) | (subst hv; simp only [iSingle,(decide_eq_true h21),(decide_eq_false n15),cond_true,cond_false,Bool.and_true,Bool.true_and,Bool.and_false,Bool.false_and,Bool.or_true,Bool.true_or,Bool.or_false,Bool.false_or,Bool.not_true,Bool.not_false,List.length_nil]; done) | simp | simp_all),(by decide)⟩,(congrArg (Value.int .i64) (by first | rfl | omega | assumption | (subst hv; simp only [iSingle,(decide_eq_true h21),(decide_eq_false n15),cond_true,cond_false,Bool.and_true,Bool.true_and,Bool.and_false,Bool.false_and,Bool.or_true,Bool.true_or,Bool.or_false,Bool.false_or,Bool.not_true,Bool.not_false,List.length_nil]; done) | simp | simp_all)),tt⟩) (@cast ((((3 : Nat) = 3) ∧ ((.ints ([] : List Int) : Dat) = .ints ((iSingle s l c).1)) ∧ ((0 : Nat) ∈ ([0] : List Nat))) ∧ True) _ (by kernel_rfl) ⟨⟨rfl,(congrArg Dat.ints (by subst hv; simp only [iSingle,(decide_eq_true h21),(decide_eq_false n15),cond_true,cond_false,Bool.and_true,Bool.true_and,Bool.and_false,Bool.false_and,Bool.or_true,Bool.true_or,Bool.or_false,Bool.false_or,Bool.not_true,Bool.not_false,List.length_nil])),(by decide)⟩,tt⟩) (by kernel_rfl)
   ·intro n21
    refine Kk cok tab60o hnt [] [0,5,8,26] (⟨[(0,.v (.string s)),(5,.ptr 5 0),(8,.i v),(26,.b (eqS s nCounter))],[(5,⟨46,.fix [.i c.proc,.i c.obj,.i c.kind,.i c.arg,.i c.ret,.i c.frm,.i c.to]⟩),(999,⟨3,.row (.ints l)⟩)],[5,999]⟩)
     (True ∧ (True ∧ True ∧ True) ∧ True ∧ True)
     ⟨tt,⟨tt,tt,tt⟩,tt,tt⟩ ?_
    refine W.if' (eqS s nCounter) (.b (eqS s nCounter)) (by kernel_rfl) rfl trivial ?_ ?_
    ·intro h26
     refine Kk cok tab60o hnt [33] [6,7] (⟨[(6,.own 33 (List.length ([(v + c.arg)]))),(7,.i (0 : Int))],[(5,⟨46,.fix [.i c.proc,.i c.obj,.i c.kind,.i c.arg,.i c.ret,.i c.frm,.i c.to]⟩),(33,⟨3,.row (.ints ([(v + c.arg)]))⟩),(999,⟨3,.row (.ints l)⟩)],[33,5,999]⟩)
      (True ∧ True ∧ True ∧ (True ∧ True ∧ (Fits .i64 (v + c.arg))) ∧ (True ∧ True) ∧ True ∧ True ∧ True)
      ⟨tt,tt,tt,⟨tt,tt,(by exact fits_i64 (by omega) (by omega))⟩,⟨tt,tt⟩,tt,tt,tt⟩ ?_
     refine W.ret (blockQ_ret (thenQ_ret ?_))
     exact endQ_rows [(0,33)] (.tup [.own 33 (List.length ([(v + c.arg)])),.i (0 : Int)]) (by kernel_rfl) (@cast ((((33 : Nat) = 33) ∧ ((List.length ([(v + c.arg)])) = (List.length ((iSingle s l c).1))) ∧ ((0 : Nat) ∈ ([0] : List Nat))) ∧ ((.int .i64 (0 : Int) : Value) = .int .i64 ((iSingle s l c).2)) ∧ True) _ (by kernel_rfl) ⟨⟨rfl,(by first | rfl | omega | assumption | (symm; assumption) | (exact congrArg List.length (by subst hv; simp only [iSingle,h26,(decide_eq_false n15),(decide_eq_false n21),cond_true,cond_false,Bool.and_true,Bool.true_and,Bool.and_false,Bool.false_and,Bool.or_true,Bool.true_or,Bool.or_false,Bool.false_or,Bool.not_true,Bool.not_false,List.length_nil])) | (subst hv; simp only [iSingle,h26,(decide_eq_false n15),(decide_eq_false n21),cond_true,cond_false,Bool.and_true,Bool.true_and,Bool.and_false,Bool.false_and,Bool.or_true,Bool.true_or,Bool.or_false,Bool.false_or,Bool.not_true,Bool.not_false,List.length_nil]; done) | simp | simp_all),(by decide)⟩,(congrArg (Value.int .i64) (by first | rfl | omega | assumption | (subst hv; simp only [iSingle,h26,(decide_eq_false n15),(decide_eq_false n21),cond_true,cond_false,Bool.and_true,Bool.true_and,Bool.and_false,Bool.false_and,Bool.or_true,Bool.true_or,Bool.or_false,Bool.false_or,Bool.not_true,Bool.not_false,List.length_nil]; done) | simp | simp_all)),tt⟩) (@cast ((((3 : Nat) = 3) ∧ ((.ints ([(v + c.arg)]) : Dat) = .ints ((iSingle s l c).1)) ∧ ((0 : Nat) ∈ ([0] : List Nat))) ∧ True) _ (by kernel_rfl) ⟨⟨rfl,(congrArg Dat.ints (by subst hv; simp only [iSingle,h26,(decide_eq_false n15),(decide_eq_false n21),cond_true,cond_false,Bool.and_true,Bool.true_and,Bool.and_false,Bool.false_and,Bool.or_true,Bool.true_or,Bool.or_false,Bool.false_or,Bool.not_true,Bool.not_false,List.length_nil])),(by decide)⟩,tt⟩) (by kernel_rfl)
    ·intro n26
     refine Kk cok tab60o hnt [] [5,8,34] (⟨[(5,.ptr 5 0),(8,.i v),(34,.b (eqS s nMost))],[(5,⟨46,.fix [.i c.proc,.i c.obj,.i c.kind,.i c.arg,.i c.ret,.i c.frm,.i c.to]⟩),(999,⟨3,.row (.ints l)⟩)],[5,999]⟩)
      (True ∧ (True ∧ True ∧ True) ∧ True ∧ True)
      ⟨tt,⟨tt,tt,tt⟩,tt,tt⟩ ?_
     refine W.if' (eqS s nMost) (.b (eqS s nMost)) (by kernel_rfl) rfl trivial ?_ ?_
     ·intro h34
      refine Kk cok tab60o hnt [41] [6,7] (⟨[(6,.own 41 (List.length ([(max v c.arg)]))),(7,.i (0 : Int))],[(5,⟨46,.fix [.i c.proc,.i c.obj,.i c.kind,.i c.arg,.i c.ret,.i c.frm,.i c.to]⟩),(41,⟨3,.row (.ints ([(max v c.arg)]))⟩),(999,⟨3,.row (.ints l)⟩)],[41,5,999]⟩)
       (True ∧ True ∧ True ∧ (True ∧ True) ∧ (True ∧ True) ∧ True ∧ True ∧ True)
       ⟨tt,tt,tt,⟨tt,tt⟩,⟨tt,tt⟩,tt,tt,tt⟩ ?_
      refine W.ret (blockQ_ret (thenQ_ret ?_))
      exact endQ_rows [(0,41)] (.tup [.own 41 (List.length ([(max v c.arg)])),.i (0 : Int)]) (by kernel_rfl) (@cast ((((41 : Nat) = 41) ∧ ((List.length ([(max v c.arg)])) = (List.length ((iSingle s l c).1))) ∧ ((0 : Nat) ∈ ([0] : List Nat))) ∧ ((.int .i64 (0 : Int) : Value) = .int .i64 ((iSingle s l c).2)) ∧ True) _ (by kernel_rfl) ⟨⟨rfl,(by first | rfl | omega | assumption | (symm; assumption) | (exact congrArg List.length (by subst hv; simp only [iSingle,h34,(decide_eq_false n15),(decide_eq_false n21),n26,cond_true,cond_false,Bool.and_true,Bool.true_and,Bool.and_false,Bool.false_and,Bool.or_true,Bool.true_or,Bool.or_false,Bool.false_or,Bool.not_true,Bool.not_false,List.length_nil])) | (subst hv; simp only [iSingle,h34,(decide_eq_false n15),(decide_eq_false n21),n26,cond_true,cond_false,Bool.and_true,Bool.true_and,Bool.and_false,Bool.false_and,Bool.or_true,Bool.true_or,Bool.or_false,Bool.false_or,Bool.not_true,Bool.not_false,List.length_nil]; done) | simp | simp_all),(by decide)⟩,(congrArg (Value.int .i64) (by first | rfl | omega | assumption | (subst hv; simp only [iSingle,h34,(decide_eq_false n15),(decide_eq_false n21),n26,cond_true,cond_false,Bool.and_true,Bool.true_and,Bool.and_false,Bool.false_and,Bool.or_true,Bool.true_or,Bool.or_false,Bool.false_or,Bool.not_true,Bool.not_false,List.length_nil]; done) | simp | simp_all)),tt⟩) (@cast ((((3 : Nat) = 3) ∧ ((.ints ([(max v c.arg)]) : Dat) = .ints ((iSingle s l c).1)) ∧ ((0 : Nat) ∈ ([0] : List Nat))) ∧ True) _ (by kernel_rfl) ⟨⟨rfl,(congrArg Dat.ints (by subst hv; simp only [iSingle,h34,(decide_eq_false n15),(decide_eq_false n21),n26,cond_true,cond_false,Bool.and_true,Bool.true_and,Bool.and_false,Bool.false_and,Bool.or_true,Bool.true_or,Bool.or_false,Bool.false_or,Bool.not_true,Bool.not_false,List.length_nil])),(by decide)⟩,tt⟩) (by kernel_rfl)
     ·intro n34
      refine W.skip (blockQ_normal (thenQ_normal ?_))
      refine Kk cok tab60o hnt [44] [6,7] (⟨[(6,.own 44 (List.length ([c.arg]))),(7,.i (0 : Int))],[(5,⟨46,.fix [.i c.proc,.i c.obj,.i c.kind,.i c.arg,.i c.ret,.i c.frm,.i c.to]⟩),(44,⟨3,.row (.ints ([c.arg]))⟩),(999,⟨3,.row (.ints l)⟩)],[44,5,999]⟩)
       (True ∧ True ∧ (True ∧ True) ∧ True ∧ True ∧ True)
       ⟨tt,tt,⟨tt,tt⟩,tt,tt,tt⟩ ?_
      refine W.ret ?_
      exact endQ_rows [(0,44)] (.tup [.own 44 (List.length ([c.arg])),.i (0 : Int)]) (by kernel_rfl) (@cast ((((44 : Nat) = 44) ∧ ((List.length ([c.arg])) = (List.length ((iSingle s l c).1))) ∧ ((0 : Nat) ∈ ([0] : List Nat))) ∧ ((.int .i64 (0 : Int) : Value) = .int .i64 ((iSingle s l c).2)) ∧ True) _ (by kernel_rfl) ⟨⟨rfl,(by first | rfl | omega | assumption | (symm; assumption) | (exact congrArg List.length (by subst hv; simp only [iSingle,(decide_eq_false n15),(decide_eq_false n21),n26,n34,cond_true,cond_false,Bool.and_true,Bool.true_and,Bool.and_false,Bool.false_and,Bool.or_true,Bool.true_or,Bool.or_false,Bool.false_or,Bool.not_true,Bool.not_false,List.length_nil])) | (subst hv; simp only [iSingle,(decide_eq_false n15),(decide_eq_false n21),n26,n34,cond_true,cond_false,Bool.and_true,Bool.true_and,Bool.and_false,Bool.false_and,Bool.or_true,Bool.true_or,Bool.or_false,Bool.false_or,Bool.not_true,Bool.not_false,List.length_nil]; done) | simp | simp_all),(by decide)⟩,(congrArg (Value.int .i64) (by first | rfl | omega | assumption | (subst hv; simp only [iSingle,(decide_eq_false n15),(decide_eq_false n21),n26,n34,cond_true,cond_false,Bool.and_true,Bool.true_and,Bool.and_false,Bool.false_and,Bool.or_true,Bool.true_or,Bool.or_false,Bool.false_or,Bool.not_true,Bool.not_false,List.length_nil]; done) | simp | simp_all)),tt⟩) (@cast ((((3 : Nat) = 3) ∧ ((.ints ([c.arg]) : Dat) = .ints ((iSingle s l c).1)) ∧ ((0 : Nat) ∈ ([0] : List Nat))) ∧ True) _ (by kernel_rfl) ⟨⟨rfl,(congrArg Dat.ints (by subst hv; simp only [iSingle,(decide_eq_false n15),(decide_eq_false n21),n26,n34,cond_true,cond_false,Bool.and_true,Bool.true_and,Bool.and_false,Bool.false_and,Bool.or_true,Bool.true_or,Bool.or_false,Bool.false_or,Bool.not_true,Bool.not_false,List.length_nil])),(by decide)⟩,tt⟩) (by kernel_rfl)
theorem ent60o : Entr prog 60 := ⟨_,func60,rfl,by decide⟩
end Go.Proofs.Try

set_option linter.unusedSimpArgs false
set_option linter.unusedVariables false
namespace Go.Proofs.Try
open Go.Ab Go.RowKit Go.Shelf Go.Proofs
def fs64 : FnS := fnS [.c .ints 3,.o,.o] [.ints,.int,.int] (fun _ (l,i,j,_) => (.own 0 (List.length (l.take i.toNat ++ l.drop j.toNat)),[(3,.ints (l.take i.toNat ++ l.drop j.toNat))],(0 ≤ i) ∧ (i < j) ∧ (j ≤ l.length)))
def ren23 : Go.Shelf.Ren := ⟨fun _ => 64,fun k => bif Nat.beq k 22 then 23 else bif Nat.beq k 3 then 3 else bif Nat.beq k 4 then 4 else k,fun k => k⟩
set_option maxRecDepth 100000 in
theorem lays23 : Lays2.n23 prog ren23 where
 mixed := by kernel_rfl
 f23 := by kernel_rfl
 t0 := underlying0
 a0 := isAgg0
 z0 := sizeOf0
 v0 := zeroValue0
 t3 := underlying3
 a3 := isAgg3
 z3 := sizeOf3
 v3 := zeroValue3
 t4 := underlying4
 a4 := isAgg4
 z4 := sizeOf4
 v4 := zeroValue4
 t22 := underlying23
 a22 := isAgg23
 z22 := sizeOf23
 v22 := zeroValue23
 i3 := by kernel_rfl
theorem ok64 : FnOK prog 64 fs64 := delete_ok lays23
theorem ent64 : Entr prog 64 := ⟨_,func64,rfl,by decide⟩
end Go.Proofs.Try

set_option linter.unusedSimpArgs false
set_option linter.unusedVariables false
namespace Go.Proofs.Try
open Go.Ab Go.RowKit
def fs61o : FnS := fnS [.c .ints 3,.o] [.ints,.call] (fun _ (l,c,_) => (.tup [.own 0 (List.length ((iSet l c).1)),.i ((iSet l c).2)],[(3,.ints ((iSet l c).1))],(∀ j,j < l.length → 0 ≤ l.getD j 0 ∧ l.getD j 0 ≤ 20) ∧ (0 ≤ c.arg ∧ c.arg ≤ 3) ∧ (l.length ≤ 20)))
abbrev T61o : Tab := lk [(63,fs63),(64,fs64)]
theorem tab61o : TabOK prog T61o := (TabOK.cons ok63 ent63 (TabOK.cons ok64 ent64 TabOK.nil))
set_option maxRecDepth 100000 in
set_option maxHeartbeats 1000000 in
theorem ok61o : FnOK prog 61 fs61o := by
 refine FnOK.mk cok func61 rfl rfl rfl ?_
 rintro fl ⟨(l : List Int),(c : CallD),_⟩ hpre F hnt0 _
 have hnt : F.nt = 43 := hnt0.trans ntmps61
 replace hpre : (∀ j,j < l.length → 0 ≤ l.getD j 0 ∧ l.getD j 0 ≤ 20) ∧ (0 ≤ c.arg ∧ c.arg ≤ 3) ∧ (l.length ≤ 20) := hpre
 obtain ⟨hs,ha,hl⟩ := hpre
 refine W.to (⟨[(0,.own 999 l.length),(1,.agg [.i c.proc,.i c.obj,.i c.kind,.i c.arg,.i c.ret,.i c.frm,.i c.to])],[(999,⟨3,.row (.ints l)⟩)],[999]⟩) rfl ?_
 have hfl := find_lt l c.arg
 refine Kk cok tab61o hnt [] [0,3] (⟨[(0,.own 999 l.length),(3,.ptr 3 0)],[(3,⟨46,.fix [.i c.proc,.i c.obj,.i c.kind,.i c.arg,.i c.ret,.i c.frm,.i c.to]⟩),(999,⟨3,.row (.ints l)⟩)],[3,999]⟩)
  (True ∧ True ∧ True ∧ True)
  ⟨tt,tt,tt,tt⟩ ?_
 refine Kk cok tab61o hnt [] [0,3,6] (⟨[(0,.own 999 l.length),(3,.ptr 3 0),(6,.i (findI l c.arg))],[(3,⟨46,.fix [.i c.proc,.i c.obj,.i c.kind,.i c.arg,.i c.ret,.i c.frm,.i c.to]⟩),(999,⟨3,.row (.ints l)⟩)],[3,999]⟩)
  (True ∧ True ∧ True ∧ (True ∧ ((True ∧ (l.length = l.length)) ∧ True ∧ True) ∧ True) ∧ True ∧ True)
  ⟨tt,tt,tt,⟨tt,⟨⟨tt,rfl⟩,tt,tt⟩,tt⟩,tt,tt⟩ ?_
 refine W.seq ?_
 refine W.block ?_
 refine Kk cok tab61o hnt [] [0,3,6,11] (⟨[(0,.own 999 l.length),(3,.ptr 3 0),(6,.i (findI l c.arg)),(11,.b ((decide (c.kind = (0 : Int))) && (decide ((findI l c.arg) < (0 : Int)))))],[(3,⟨46,.fix [.i c.proc,.i c.obj,.i c.kind,.i c.arg,.i c.ret,.i c.frm,.i c.to]⟩),(999,⟨3,.row (.ints l)⟩)],[3,999]⟩)
  ((fun (Z1:Bool)=>(True ∧ (True ∧ ((True ∧ (True ∧ True)) ∧ (True ∧ ((Z1 = true → True) ∧ ((Z1 = true → (((Z1 = true) ∧ True) ∧ (True ∧ True))) ∧ ((True ∧ ((Z1 = true → (Z1 = true) ∧ True) ∧ (Z1 = false → True))) ∧ (True ∧ True))))))))) (decide (c.kind = (0 : Int))))
  ⟨tt,tt,⟨tt,tt,tt⟩,tt,(fun _ => trivial),(fun hG => ⟨⟨hG,tt⟩,tt,tt⟩),⟨tt,(fun hp => ⟨hp,tt⟩),(fun _ => trivial)⟩,tt,tt⟩ ?_
 refine W.if' ((decide (c.kind = (0 : Int))) && (decide ((findI l c.arg) < (0 : Int)))) (.b ((decide (c.kind = (0 : Int))) && (decide ((findI l c.arg) < (0 : Int))))) (by kernel_rfl) rfl trivial ?_ ?_
 ·intro h11
  have h11_0 : c.kind = (0 : Int) := of_decide_eq_true (and_l h11)
  have h11_1 : (findI l c.arg) < (0 : Int) := of_decide_eq_true (and_r h11)
  refine Kk cok tab61o hnt [22,23] [4,5] (⟨[(4,.own 23 (List.length (l ++ ([c.arg])))),(5,.i (1 : Int))],[(3,⟨46,.fix [.i c.proc,.i c.obj,.i c.kind,.i c.arg,.i c.ret,.i c.frm,.i c.to]⟩),(22,⟨3,.row (.ints ([c.arg]))⟩),(23,⟨3,.row (.ints (l ++ ([c.arg])))⟩)],[23,22,3,999]⟩)
   (True ∧ True ∧ True ∧ (True ∧ True) ∧ ((True ∧ (l.length = l.length)) ∧ (True ∧ ((List.length ([c.arg])) = (List.length ([c.arg])))) ∧ ((l.length + (List.length ([c.arg]))) * 8 ≤ 140737488355328)) ∧ True ∧ True ∧ True)
   ⟨tt,tt,tt,⟨tt,tt⟩,⟨⟨tt,rfl⟩,⟨tt,rfl⟩,(by (first | omega | (simp only [List.length_set]; done) | (simp only [List.length_append,List.length_cons,List.length_nil,List.length_take,List.length_drop,List.length_set,List.length_replicate,List.length_map] at *; omega) | assumption))⟩,tt,tt,tt⟩ ?_
  refine W.ret (blockQ_ret (thenQ_ret ?_))
  exact endQ_rows [(0,23)] (.tup [.own 23 (List.length (l ++ ([c.arg]))),.i (1 : Int)]) (by kernel_rfl) (@cast ((((23 : Nat) = 23) ∧ ((List.length (l ++ ([c.arg]))) = (List.length ((iSet l c).1))) ∧ ((0 : Nat) ∈ ([0] : List Nat))) ∧ ((.int .i64 (1 : Int) : Value) = .int .i64 ((iSet l c).2)) ∧ True) _ (by kernel_rfl) ⟨⟨rfl,(by first | rfl | omega | assumption | (symm; assumption) | (exact congrArg List.length (by first | (simp only [iSet,h11,(and_l h11),(and_r h11),cond_true,cond_false,Bool.and_true,Bool.true_and,Bool.and_false,Bool.false_and,Bool.or_true,Bool.true_or,Bool.or_false,Bool.false_or,Bool.not_true,Bool.not_false]; done) | simp only [iSet,h11,(and_l h11),(and_r h11),cond_true,cond_false,Bool.and_true,Bool.true_and,Bool.and_false,Bool.false_and,Bool.or_true,Bool.true_or,Bool.or_false,Bool.false_or,Bool.not_true,Bool.not_false])) | (first | (simp only [iSet,h11,(and_l h11),(and_r h11),cond_true,cond_false,Bool.and_true,Bool.true_and,Bool.and_false,Bool.false_and,Bool.or_true,Bool.true_or,Bool.or_false,Bool.false_or,Bool.not_true,Bool.not_false]; done) | simp only [iSet,h11,(and_l h11),(and_r h11),cond_true,cond_false,Bool.and_true,Bool.true_and,Bool.and_false,Bool.false_and,Bool.or_true,Bool.true_or,Bool.or_false,Bool.false_or,Bool.not_true,Bool.not_false]; done) | simp | simp_all),(by decide)⟩,(congrArg (Value.int .i64) (by first | rfl | omega | assumption | (first | (simp only [iSet,h11,(and_l h11),(and_r h11),cond_true,cond_false,Bool.and_true,Bool.true_and,Bool.and_false,Bool.false_and,Bool.or_true,Bool.true_or,Bool.or_false,Bool.false_or,Bool.not_true,Bool.not_false]; done) | simp only [iSet,h11,(and_l h11),(and_r h11),cond_true,cond_false,Bool.and_true,Bool.true_and,Bool.and_false,Bool.false_and,Bool.or_true,Bool.true_or,Bool.or_false,Bool.false_or,Bool.not_true,Bool.not_false]; done) | simp | simp_all)),tt⟩) (@cast ((((3 : Nat) = 3) ∧ ((.ints (l ++ ([c.arg])) : Dat) = .ints ((iSet l c).1)) ∧ ((0 : Nat) ∈ ([0] : List Nat))) ∧ True) _ (by kernel_rfl) ⟨⟨rfl,(congrArg Dat.ints (by first | (simp only [iSet,h11,(and_l h11),(and_r h11),cond_true,cond_false,Bool.and_true,Bool.true_and,Bool.and_false,Bool.false_and,Bool.or_true,Bool.true_or,Bool.or_false,Bool.false_or,Bool.not_true,Bool.not_false]; done) | simp only [iSet,h11,(and_l h11),(and_r h11),cond_true,cond_false,Bool.and_true,Bool.true_and,Bool.and_false,Bool.false_and,Bool.or_true,Bool.true_or,Bool.or_false,Bool.false_or,Bool.not_true,Bool.not_false])),(by decide)⟩,tt⟩) (by kernel_rfl)
 ·intro n11
  refine Kk cok tab61o hnt [] [0,3,6,24] (⟨[(0,.own 999 l.length),(3,.ptr 3 0),(6,.i (findI l c.arg)),(24,.b ((decide (c.kind = (0 : Int))) || (decide ((findI l c.arg) < (0 : Int)))))],[(3,⟨46,.fix [.i c.proc,.i c.obj,.i c.kind,.i c.arg,.i c.ret,.i c.frm,.i c.to]⟩),(999,⟨3,.row (.ints l)⟩)],[3,999]⟩)
   ((fun (Z1:Bool)=>(True ∧ (True ∧ ((True ∧ (True ∧ True)) ∧ (True ∧ (((!Z1) = true → True) ∧ (((!Z1) = true → ((((!Z1) = true) ∧ True) ∧ (True ∧ True))) ∧ ((True ∧ ((Z1 = true → True) ∧ (Z1 = false → ((!Z1) = true) ∧ True))) ∧ (True ∧ True))))))))) (decide (c.kind = (0 : Int))))
   ⟨tt,tt,⟨tt,tt,tt⟩,tt,(fun _ => trivial),(fun hG => ⟨⟨hG,tt⟩,tt,tt⟩),⟨tt,(fun _ => trivial),(fun hp => ⟨(not_t hp),tt⟩)⟩,tt,tt⟩ ?_
  refine W.if' ((decide (c.kind = (0 : Int))) || (decide ((findI l c.arg) < (0 : Int)))) (.b ((decide (c.kind = (0 : Int))) || (decide ((findI l c.arg) < (0 : Int))))) (by kernel_rfl) rfl trivial ?_ ?_
  ·intro h24
   refine Kk cok tab61o hnt [] [4,5] (⟨[(4,.own 999 l.length),(5,.i (0 : Int))],[(3,⟨46,.fix [.i c.proc,.i c.obj,.i c.kind,.i c.arg,.i c.ret,.i c.frm,.i c.to]⟩),(999,⟨3,.row (.ints l)⟩)],[3,999]⟩)
    (True ∧ True ∧ True ∧ True)
    ⟨tt,tt,tt,tt⟩ ?_
   refine W.ret (blockQ_ret (thenQ_ret ?_))
   exact endQ_rows [(0,999)] (.tup [.own 999 l.length,.i (0 : Int)]) (by kernel_rfl) (@cast ((((999 : Nat) = 999) ∧ (l.length = (List.length ((iSet l c).1))) ∧ ((0 : Nat) ∈ ([0] : List Nat))) ∧ ((.int .i64 (0 : Int) : Value) = .int .i64 ((iSet l c).2)) ∧ True) _ (by kernel_rfl) ⟨⟨rfl,(by first | rfl | omega | assumption | (symm; assumption) | (exact congrArg List.length (by first | (simp only [iSet,h24,n11,cond_true,cond_false,Bool.and_true,Bool.true_and,Bool.and_false,Bool.false_and,Bool.or_true,Bool.true_or,Bool.or_false,Bool.false_or,Bool.not_true,Bool.not_false]; done) | simp only [iSet,h24,n11,cond_true,cond_false,Bool.and_true,Bool.true_and,Bool.and_false,Bool.false_and,Bool.or_true,Bool.true_or,Bool.or_false,Bool.false_or,Bool.not_true,Bool.not_false])) | (first | (simp only [iSet,h24,n11,cond_true,cond_false,Bool.and_true,Bool.true_and,Bool.and_false,Bool.false_and,Bool.or_true,Bool.true_or,Bool.or_false,Bool.false_or,Bool.not_true,Bool.not_false]; done) | simp only [iSet,h24,n11,cond_true,cond_false,Bool.and_true,Bool.true_and,Bool.and_false,Bool.false_and,Bool.or_true,Bool.true_or,Bool.or_false,Bool.false_or,Bool.not_true,Bool.not_false]; done) | simp | simp_all),(by decide)⟩,(congrArg (Value.int .i64) (by first | rfl | omega | assumption | (first | (simp only [iSet,h24,n11,cond_true,cond_false,Bool.and_true,Bool.true_and,Bool.and_false,Bool.false_and,Bool.or_true,Bool.true_or,Bool.or_false,Bool.false_or,Bool.not_true,Bool.not_false]; done) | simp only [iSet,h24,n11,cond_true,cond_false,Bool.and_true,Bool.true_and,Bool.and_false,Bool.false_and,Bool.or_true,Bool.true_or,Bool.or_false,Bool.false_or,Bool.not_true,Bool.not_false]; done) | simp | simp_all)),tt⟩) (@cast ((((3 : Nat) = 3) ∧ ((.ints l : Dat) = .ints ((iSet l c).1)) ∧ ((0 : Nat) ∈ ([0] : List Nat))) ∧ True) _ (by kernel_rfl) ⟨⟨rfl,(congrArg Dat.ints (by first | (simp only [iSet,h24,n11,cond_true,cond_false,Bool.and_true,Bool.true_and,Bool.and_false,Bool.false_and,Bool.or_true,Bool.true_or,Bool.or_false,Bool.false_or,Bool.not_true,Bool.not_false]; done) | simp only [iSet,h24,n11,cond_true,cond_false,Bool.and_true,Bool.true_and,Bool.and_false,Bool.false_and,Bool.or_true,Bool.true_or,Bool.or_false,Bool.false_or,Bool.not_true,Bool.not_false])),(by decide)⟩,tt⟩) (by kernel_rfl)
  ·intro n24
   have n24_0 : ¬ (c.kind = (0 : Int)) := of_decide_eq_false (or_l n24)
   have n24_1 : ¬ ((findI l c.arg) < (0 : Int)) := of_decide_eq_false (or_r n24)
   refine Kk cok tab61o hnt [] [0,6,33] (⟨[(0,.own 999 l.length),(6,.i (findI l c.arg)),(33,.b (decide (c.kind = (1 : Int))))],[(3,⟨46,.fix [.i c.proc,.i c.obj,.i c.kind,.i c.arg,.i c.ret,.i c.frm,.i c.to]⟩),(999,⟨3,.row (.ints l)⟩)],[3,999]⟩)
    (True ∧ True ∧ (True ∧ True ∧ True) ∧ True ∧ True)
    ⟨tt,tt,⟨tt,tt,tt⟩,tt,tt⟩ ?_
   refine W.ifP (c.kind = (1 : Int)) (.b (decide (c.kind = (1 : Int)))) (by kernel_rfl) rfl trivial ?_ ?_
   ·intro h33
    refine Kk cok tab61o hnt [41] [4,5] (⟨[(4,.own 41 (List.length (l.take (findI l c.arg).toNat ++ l.drop ((findI l c.arg) + (1 : Int)).toNat))),(5,.i (1 : Int))],[(3,⟨46,.fix [.i c.proc,.i c.obj,.i c.kind,.i c.arg,.i c.ret,.i c.frm,.i c.to]⟩),(41,⟨3,.row (.ints (l.take (findI l c.arg).toNat ++ l.drop ((findI l c.arg) + (1 : Int)).toNat))⟩)],[41,3,999]⟩)
     (True ∧ True ∧ True ∧ (True ∧ True ∧ (Fits .i64 ((findI l c.arg) + (1 : Int)))) ∧ (True ∧ ((True ∧ (l.length = l.length)) ∧ True ∧ True ∧ True) ∧ (0 ≤ (findI l c.arg)) ∧ ((findI l c.arg) < ((findI l c.arg) + (1 : Int))) ∧ (((findI l c.arg) + (1 : Int)) ≤ l.length)) ∧ True ∧ True ∧ True)
     ⟨tt,tt,tt,⟨tt,tt,(by exact fits_i64 (by omega) (by omega))⟩,⟨tt,⟨⟨tt,rfl⟩,tt,tt,tt⟩,(by omega),(by omega),(by omega)⟩,tt,tt,tt⟩ ?_
    refine W.ret (blockQ_ret (thenQ_ret ?_))
    exact endQ_rows [(0,41)] (.tup [.own 41 (List.length (l.take (findI l c.arg).toNat ++ l.drop ((findI l c.arg) + (1 : Int)).toNat)),.i (1 : Int)]) (by kernel_rfl) (@cast ((((41 : Nat) = 41) ∧ ((List.length (l.take (findI l c.arg).toNat ++ l.drop ((findI l c.arg) + (1 : Int)).toNat)) = (List.length ((iSet l c).1))) ∧ ((0 : Nat) ∈ ([0] : List Nat))) ∧ ((.int .i64 (1 : Int) : Value) = .int .i64 ((iSet l c).2)) ∧ True) _ (by kernel_rfl) ⟨⟨rfl,(by first | rfl | omega | assumption | (symm; assumption) | (exact congrArg List.length (by first | (simp only [iSet,(decide_eq_true h33),n11,n24,(or_l n24),(or_r n24),cond_true,cond_false,Bool.and_true,Bool.true_and,Bool.and_false,Bool.false_and,Bool.or_true,Bool.true_or,Bool.or_false,Bool.false_or,Bool.not_true,Bool.not_false]; done) | simp only [iSet,(decide_eq_true h33),n11,n24,(or_l n24),(or_r n24),cond_true,cond_false,Bool.and_true,Bool.true_and,Bool.and_false,Bool.false_and,Bool.or_true,Bool.true_or,Bool.or_false,Bool.false_or,Bool.not_true,Bool.not_false])) | (first | (simp only [iSet,(decide_eq_true h33),n11,n24,(or_l n24),(or_r n24),cond_true,cond_false,Bool.and_true,Bool.true_and,Bool.and_false,Bool.false_and,Bool.or_true,Bool.true_or,Bool.or_false,Bool.false_or,Bool.not_true,Bool.not_false]; done) | simp only [iSet,(decide_eq_true h33),n11,n24,(or_l n24),(or_r n24),cond_true,cond_false,Bool.and_true,Bool.true_and,Bool.and_false,Bool.false_and,Bool.or_true,Bool.true_or,Bool.or_false,Bool.false_or,Bool.not_true,Bool.not_false]; done) | simp | simp_all),(by decide)⟩,(congrArg (Value.int .i64) (by first | rfl | omega | assumption | (first | (simp only [iSet,(decide_eq_true h33),n11,n24,(or_l n24),(or_r n24),cond_true,cond_false,Bool.and_true,Bool.true_and,Bool.and_false,Bool.false_and,Bool.or_true,Bool.true_or,Bool.or_false,Bool.false_or,Bool.not_true,Bool.not_false]; done) | simp only [iSet,(decide_eq_true h33),n11,n24,(or_l n24),(or_r n24),cond_true,cond_false,Bool.and_true,Bool.true_and,Bool.and_false,Bool.false_and,Bool.or_true,Bool.true_or,Bool.or_false,Bool.false_or,Bool.not_true,Bool.not_false]; done) | simp | simp_all)),tt⟩) (@cast ((((3 : Nat) = 3) ∧ ((.ints (l.take (findI l c.arg).toNat ++ l.drop ((findI l c.arg) + (1 : Int)).toNat) : Dat) = .ints ((iSet l c).1)) ∧ ((0 : Nat) ∈ ([0] : List Nat))) ∧ True) _ (by kernel_rfl) ⟨⟨rfl,(congrArg Dat.ints (by first | (simp only [iSet,(decide_eq_true h33),n11,n24,(or_l n24),(or_r n24),cond_true,cond_false,Bool.and_true,Bool.true_and,Bool.and_false,Bool.false_and,Bool.or_true,Bool.true_or,Bool.or_false,Bool.false_or,Bool.not_true,Bool.not_false]; done) | simp only [iSet,(decide_eq_true h33),n11,n24,(or_l n24),(or_r n24),cond_true,cond_false,Bool.and_true,Bool.true_and,Bool.and_false,Bool.false_and,Bool.or_true,Bool.true_or,Bool.or_false,Bool.false_or,Bool.not_true,Bool.not_false])),(by decide)⟩,tt⟩) (by kernel_rfl)
   ·intro n33
    refine W.skip (blockQ_normal (thenQ_normal ?_))
    refine Kk cok tab61o hnt [] [4,5] (⟨[(4,.own 999 l.length),(5,.i (1 : Int))],[(3,⟨46,.fix [.i c.proc,.i c.obj,.i c.kind,.i c.arg,.i c.ret,.i c.frm,.i c.to]⟩),(999,⟨3,.row (.ints l)⟩)],[3,999]⟩)
     (True ∧ True ∧ True ∧ True)
     ⟨tt,tt,tt,tt⟩ ?_
    refine W.ret ?_
    exact endQ_rows [(0,999)] (.tup [.own 999 l.length,.i (1 : Int)]) (by kernel_rfl) (@cast ((((999 : Nat) = 999) ∧ (l.length = (List.length ((iSet l c).1))) ∧ ((0 : Nat) ∈ ([0] : List Nat))) ∧ ((.int .i64 (1 : Int) : Value) = .int .i64 ((iSet l c).2)) ∧ True) _ (by kernel_rfl) ⟨⟨rfl,(by first | rfl | omega | assumption | (symm; assumption) | (exact congrArg List.length (by first | (simp only [iSet,n11,n24,(or_l n24),(or_r n24),(decide_eq_false n33),cond_true,cond_false,Bool.and_true,Bool.true_and,Bool.and_false,Bool.false_and,Bool.or_true,Bool.true_or,Bool.or_false,Bool.false_or,Bool.not_true,Bool.not_false]; done) | simp only [iSet,n11,n24,(or_l n24),(or_r n24),(decide_eq_false n33),cond_true,cond_false,Bool.and_true,Bool.true_and,Bool.and_false,Bool.false_and,Bool.or_true,Bool.true_or,Bool.or_false,Bool.false_or,Bool.not_true,Bool.not_false])) | (first | (simp only [iSet,n11,n24,(or_l n24),(or_r n24),(decide_eq_false n33),cond_true,cond_false,Bool.and_true,Bool.true_and,Bool.and_false,Bool.false_and,Bool.or_true,Bool.true_or,Bool.or_false,Bool.false_or,Bool.not_true,Bool.not_false]; done) | simp only [iSet,n11,n24,(or_l n24),(or_r n24),(decide_eq_false n33),cond_true,cond_false,Bool.and_true,Bool.true_and,Bool.and_false,Bool.false_and,Bool.or_true,Bool.true_or,Bool.or_false,Bool.false_or,Bool.not_true,Bool.not_false]; done) | simp | simp_all),(by decide)⟩,(congrArg (Value.int .i64) (by first | rfl | omega | assumption | (first | (simp only [iSet,n11,n24,(or_l n24),(or_r n24),(decide_eq_false n33),cond_true,cond_false,Bool.and_true,Bool.true_and,Bool.and_false,Bool.false_and,Bool.or_true,Bool.true_or,Bool.or_false,Bool.false_or,Bool.not_true,Bool.not_false]; done) | simp only [iSet,n11,n24,(or_l n24),(or_r n24),(decide_eq_false n33),cond_true,cond_false,Bool.and_true,Bool.true_and,Bool.and_false,Bool.false_and,Bool.or_true,Bool.true_or,Bool.or_false,Bool.false_or,Bool.not_true,Bool.not_false]; done) | simp | simp_all)),tt⟩) (@cast ((((3 : Nat) = 3) ∧ ((.ints l : Dat) = .ints ((iSet l c).1)) ∧ ((0 : Nat) ∈ ([0] : List Nat))) ∧ True) _ (by kernel_rfl) ⟨⟨rfl,(congrArg Dat.ints (by first | (simp only [iSet,n11,n24,(or_l n24),(or_r n24),(decide_eq_false n33),cond_true,cond_false,Bool.and_true,Bool.true_and,Bool.and_false,Bool.false_and,Bool.or_true,Bool.true_or,Bool.or_false,Bool.false_or,Bool.not_true,Bool.not_false]; done) | simp only [iSet,n11,n24,(or_l n24),(or_r n24),(decide_eq_false n33),cond_true,cond_false,Bool.and_true,Bool.true_and,Bool.and_false,Bool.false_and,Bool.or_true,Bool.true_or,Bool.or_false,Bool.false_or,Bool.not_true,Bool.not_false])),(by decide)⟩,tt⟩) (by kernel_rfl)
theorem ent61o : Entr prog 61 := ⟨_,func61,rfl,by decide⟩
end Go.Proofs.Try

set_option linter.unusedSimpArgs false
set_option linter.unusedVariables false
namespace Go.Proofs.Try
open Go.Ab Go.RowKit
def fs62o : FnS := fnS [.o,.c .ints 3,.o] [.str,.ints,.call] (fun _ (s,l,c,_) => (.tup [.own 0 (List.length ((iRow s l c).1)),.i ((iRow s l c).2)],[(3,.ints ((iRow s l c).1))],(∀ j,j < l.length → 0 ≤ l.getD j 0 ∧ l.getD j 0 ≤ 20) ∧ (0 ≤ c.arg ∧ c.arg ≤ 3) ∧ (l.length ≤ 20)))
abbrev T62o : Tab := lk [(64,fs64)]
theorem tab62o : TabOK prog T62o := (TabOK.cons ok64 ent64 TabOK.nil)
set_option maxRecDepth 100000 in
set_option maxHeartbeats 1000000 in
theorem ok62o : FnOK prog 62 fs62o := by
 refine FnOK.mk cok func62 rfl rfl rfl ?_
 rintro fl ⟨(s : ByteArray),(l : List Int),(c : CallD),_⟩ hpre F hnt0 _
 have hnt : F.nt = 48 := hnt0.trans ntmps62
 replace hpre : (∀ j,j < l.length → 0 ≤ l.getD j 0 ∧ l.getD j 0 ≤ 20) ∧ (0 ≤ c.arg ∧ c.arg ≤ 3) ∧ (l.length ≤ 20) := hpre
 obtain ⟨hs,ha,hl⟩ := hpre
 refine W.to (⟨[(0,.v (.string s)),(1,.own 999 l.length),(2,.agg [.i c.proc,.i c.obj,.i c.kind,.i c.arg,.i c.ret,.i c.frm,.i c.to])],[(999,⟨3,.row (.ints l)⟩)],[999]⟩) rfl ?_
 refine Kk cok tab62o hnt [] [0,1,5] (⟨[(0,.v (.string s)),(1,.own 999 l.length),(5,.ptr 5 0)],[(5,⟨46,.fix [.i c.proc,.i c.obj,.i c.kind,.i c.arg,.i c.ret,.i c.frm,.i c.to]⟩),(999,⟨3,.row (.ints l)⟩)],[5,999]⟩)
  (True ∧ True ∧ True ∧ True)
  ⟨tt,tt,tt,tt⟩ ?_
 refine Kk cok tab62o hnt [] [0,1,5,8] (⟨[(0,.v (.string s)),(1,.own 999 l.length),(5,.ptr 5 0),(8,.i (0 : Int))],[(5,⟨46,.fix [.i c.proc,.i c.obj,.i c.kind,.i c.arg,.i c.ret,.i c.frm,.i c.to]⟩),(999,⟨3,.row (.ints l)⟩)],[5,999]⟩)
  (True ∧ True)
  ⟨tt,tt⟩ ?_
 refine W.seq ?_
 refine Kk cok tab62o hnt [] [1,5,8,11] (⟨[(1,.own 999 l.length),(5,.ptr 5 0),(8,.i (0 : Int)),(11,.b (eqS s nStack))],[(5,⟨46,.fix [.i c.proc,.i c.obj,.i c.kind,.i c.arg,.i c.ret,.i c.frm,.i c.to]⟩),(999,⟨3,.row (.ints l)⟩)],[5,999]⟩)
  (True ∧ (True ∧ True ∧ True) ∧ True)
  ⟨tt,⟨tt,tt,tt⟩,tt⟩ ?_
 refine W.meetT (ι := Int) (fun (v : Int) => (⟨[(1,.own 999 l.length),(5,.ptr 5 0),(8,.i v)],[(5,⟨46,.fix [.i c.proc,.i c.obj,.i c.kind,.i c.arg,.i c.ret,.i c.frm,.i c.to]⟩),(999,⟨3,.row (.ints l)⟩)],[5,999]⟩ : St)) (fun (v : Int) => (v = topOf s l) ∧ (-1 ≤ v ∧ v < max 1 (l.length : Int) ∧ (0 < l.length → 0 ≤ v))) ?_ ?_
 ·skip
  refine W.if' (eqS s nStack) (.b (eqS s nStack)) (by kernel_rfl) rfl trivial ?_ ?_
  ·intro h11
   refine Lk cok tab62o hnt [] (⟨[(1,.own 999 l.length),(5,.ptr 5 0),(8,.i ((l.length : Int) - (1 : Int))),(11,.b (eqS s nStack)),(12,.own 999 l.length),(13,.i (l.length : Int)),(14,.i ((l.length : Int) - (1 : Int)))],[(5,⟨46,.fix [.i c.proc,.i c.obj,.i c.kind,.i c.arg,.i c.ret,.i c.frm,.i c.to]⟩),(999,⟨3,.row (.ints l)⟩)],[5,999]⟩)
    (True ∧ True ∧ (True ∧ True ∧ (Fits .i64 ((l.length : Int) - (1 : Int)))) ∧ True ∧ True)
    ⟨tt,tt,⟨tt,tt,(by exact fits_i64 (by omega) (by omega))⟩,tt,tt⟩ ?_
   refine thenQ_normal ?_
   refine ⟨(((l.length : Int) - (1 : Int))),(show (((l.length : Int) - (1 : Int)) = topOf s l) ∧ (-1 ≤ ((l.length : Int) - (1 : Int)) ∧ ((l.length : Int) - (1 : Int)) < max 1 (l.length : Int) ∧ (0 < l.length → 0 ≤ ((l.length : Int) - (1 : Int)))) from ⟨(by unfold topOf; first | (rw [h11]; rfl) | (rw [n11]; rfl)),(by omega)⟩),?_⟩
   exact Sub.of [] (@cast (((((999 : Nat) = 999) ∧ (l.length = l.length) ∧ ((999 : Nat) ∈ ([5,999] : List Nat))) ∧ (((5 : Nat) = 5) ∧ ((0 : Nat) = 0) ∧ ((5 : Nat) ∈ ([5,999] : List Nat))) ∧ (Si ((l.length : Int) - (1 : Int))) ∧ True) ∧ ((((46 : Nat) = 46) ∧ ((Si c.proc) ∧ (Si c.obj) ∧ (Si c.kind) ∧ (Si c.arg) ∧ (Si c.ret) ∧ (Si c.frm) ∧ (Si c.to) ∧ True) ∧ ((5 : Nat) ∈ ([5,999] : List Nat))) ∧ (((3 : Nat) = 3) ∧ (Sd (.ints l)) ∧ ((999 : Nat) ∈ ([5,999] : List Nat))) ∧ True) ∧ (true = true) ∧ (true = true)) _ (by kernel_rfl) ⟨⟨⟨rfl,rfl,(by decide)⟩,⟨rfl,rfl,(by decide)⟩,rfl,tt⟩,⟨⟨rfl,⟨rfl,rfl,rfl,rfl,rfl,rfl,rfl,tt⟩,(by decide)⟩,⟨rfl,rfl,(by decide)⟩,tt⟩,rfl,rfl⟩)
  ·intro n11
   refine W.skip (thenQ_normal ?_)
   refine ⟨((0 : Int)),(show ((0 : Int) = topOf s l) ∧ (-1 ≤ (0 : Int) ∧ (0 : Int) < max 1 (l.length : Int) ∧ (0 < l.length → 0 ≤ (0 : Int))) from ⟨(by unfold topOf; first | (rw [h11]; rfl) | (rw [n11]; rfl)),(by omega)⟩),?_⟩
   exact Sub.of [] (@cast (((((999 : Nat) = 999) ∧ (l.length = l.length) ∧ ((999 : Nat) ∈ ([5,999] : List Nat))) ∧ (((5 : Nat) = 5) ∧ ((0 : Nat) = 0) ∧ ((5 : Nat) ∈ ([5,999] : List Nat))) ∧ (Si (0 : Int)) ∧ True) ∧ ((((46 : Nat) = 46) ∧ ((Si c.proc) ∧ (Si c.obj) ∧ (Si c.kind) ∧ (Si c.arg) ∧ (Si c.ret) ∧ (Si c.frm) ∧ (Si c.to) ∧ True) ∧ ((5 : Nat) ∈ ([5,999] : List Nat))) ∧ (((3 : Nat) = 3) ∧ (Sd (.ints l)) ∧ ((999 : Nat) ∈ ([5,999] : List Nat))) ∧ True) ∧ (true = true) ∧ (true = true)) _ (by kernel_rfl) ⟨⟨⟨rfl,rfl,(by decide)⟩,⟨rfl,rfl,(by decide)⟩,rfl,tt⟩,⟨⟨rfl,⟨rfl,rfl,rfl,rfl,rfl,rfl,rfl,tt⟩,(by decide)⟩,⟨rfl,rfl,(by decide)⟩,tt⟩,rfl,rfl⟩)
 ·rintro v hC0
  have hC : (v = topOf s l) ∧ (-1 ≤ v ∧ v < max 1 (l.length : Int) ∧ (0 < l.length → 0 ≤ v)) := hC0
  clear hC0
  obtain ⟨hv,hvb⟩ := hC
  refine W.to (⟨[(1,.own 999 l.length),(5,.ptr 5 0),(8,.i v)],[(5,⟨46,.fix [.i c.proc,.i c.obj,.i c.kind,.i c.arg,.i c.ret,.i c.frm,.i c.to]⟩),(999,⟨3,.row (.ints l)⟩)],[5,999]⟩) rfl ?_
  refine W.seq ?_
  refine W.block ?_
  refine Kk cok tab62o hnt [] [1,5,8,15] (⟨[(1,.own 999 l.length),(5,.ptr 5 0),(8,.i v),(15,.b (decide (c.kind = (0 : Int))))],[(5,⟨46,.fix [.i c.proc,.i c.obj,.i c.kind,.i c.arg,.i c.ret,.i c.frm,.i c.to]⟩),(999,⟨3,.row (.ints l)⟩)],[5,999]⟩)
   (True ∧ True ∧ (True ∧ True ∧ True) ∧ True ∧ True)
   ⟨tt,tt,⟨tt,tt,tt⟩,tt,tt⟩ ?_
  refine W.ifP (c.kind = (0 : Int)) (.b (decide (c.kind = (0 : Int)))) (by kernel_rfl) rfl trivial ?_ ?_
  ·intro h15
   refine Kk cok tab62o hnt [22,23] [6,7] (⟨[(6,.own 23 (List.length (l ++ ([c.arg])))),(7,.i (0 : Int))],[(5,⟨46,.fix [.i c.proc,.i c.obj,.i c.kind,.i c.arg,.i c.ret,.i c.frm,.i c.to]⟩),(22,⟨3,.row (.ints ([c.arg]))⟩),(23,⟨3,.row (.ints (l ++ ([c.arg])))⟩)],[23,22,5,999]⟩)
    (True ∧ True ∧ True ∧ (True ∧ True) ∧ ((True ∧ (l.length = l.length)) ∧ (True ∧ ((List.length ([c.arg])) = (List.length ([c.arg])))) ∧ ((l.length + (List.length ([c.arg]))) * 8 ≤ 140737488355328)) ∧ True ∧ True ∧ True)
    ⟨tt,tt,tt,⟨tt,tt⟩,⟨⟨tt,rfl⟩,⟨tt,rfl⟩,(by (first | omega | (simp only [List.length_set]; done) | (simp only [List.length_append,List.length_cons,List.length_nil,List.length_take,List.length_drop,List.length_set,List.length_replicate,List.length_map] at *; omega) | assumption))⟩,tt,tt,tt⟩ ?_
   refine W.ret (blockQ_ret (thenQ_ret ?_))
   exact endQ_rows [(0,23)] (.tup [.own 23 (List.length (l ++ ([c.arg]))),.i (0 : Int)]) (by kernel_rfl) (@cast ((((23 : Nat) = 23) ∧ ((List.length (l ++ ([c.arg]))) = (List.length ((iRow s l c).1))) ∧ ((0 : Nat) ∈ ([0] : List Nat))) ∧ ((.int .i64 (0 : Int) : Value) = .int .i64 ((iRow s l c).2)) ∧ True) _ (by kernel_rfl) ⟨⟨rfl,(by first | rfl | omega | assumption | (symm; assumption) | (exact congrArg List.length (by subst hv; first | (simp only [iRow,(decide_eq_true h15),cond_true,cond_false,Bool.and_true,Bool.true_and,Bool.and_false,Bool.false_and,Bool.or_true,Bool.true_or,Bool.or_false,Bool.false_or,Bool.not_true,Bool.not_false]; done) | simp only [iRow,(decide_eq_true h15),cond_true,cond_false,Bool.and_true,Bool.true_and,Bool.and_false,Bool.false_and,Bool.or_true,Bool.true_or,Bool.or_false,Bool.false_or,Bool.not_true,Bool.not_false])) | (subst hv; first | (simp only [iRow,(decide_eq_true h15),cond_true,cond_false,Bool.and_true,Bool.true_and,Bool.and_false,Bool.false_and,Bool.or_true,Bool.true_or,Bool.or_false,Bool.false_or,Bool.not_true,Bool.not_false]; done) | simp only [iRow,(decide_eq_true h15),cond_true,cond_false,Bool.and_true,Bool.true_and,Bool.and_false,Bool.false_and,Bool.or_true,Bool.true_or,Bool.or_false,Bool.false_or,Bool.not_true,Bool.not_false]; done) | simp | simp_all),(by decide)⟩,(congrArg (Value.int .i64) (by first | rfl | omega | assumption | (subst hv; first | (simp only [iRow,(decide_eq_true h15),cond_true,cond_false,Bool.and_true,Bool.true_and,Bool.and_false,Bool.false_and,Bool.or_true,Bool.true_or,Bool.or_false,Bool.false_or,Bool.not_true,Bool.not_false]; done) | simp only [iRow,(decide_eq_true h15),cond_true,cond_false,Bool.and_true,Bool.true_and,Bool.and_false,Bool.false_and,Bool.or_true,Bool.true_or,Bool.or_false,Bool.false_or,Bool.not_true,Bool.not_false]; done) | simp | simp_all)),tt⟩) (@cast ((((3 : Nat) = 3) ∧ ((.ints (l ++ ([c.arg])) : Dat) = .ints ((iRow s l c).1)) ∧ ((0 : Nat) ∈ ([0] : List Nat))) ∧ True) _ (by kernel_rfl) ⟨⟨rfl,(congrArg Dat.ints (by subst hv; first | (simp only [iRow,(decide_eq_true h15),cond_true,cond_false,Bool.and_true,Bool.true_and,Bool.and_false,Bool.false_and,Bool.or_true,Bool.true_or,Bool.or_false,Bool.false_or,Bool.not_true,Bool.not_false]; done) | simp only [iRow,(decide_eq_true h15),cond_true,cond_false,Bool.and_true,Bool.true_and,Bool.and_false,Bool.false_and,Bool.or_true,Bool.true_or,Bool.or_false,Bool.false_or,Bool.not_true,Bool.not_false])),(by decide)⟩,tt⟩) (by kernel_rfl)
  ·intro n15
   refine Kk cok tab62o hnt [] [1,5,8,24] (⟨[(1,.own 999 l.length),(5,.ptr 5 0),(8,.i v),(24,.b (decide ((l.length : Int) = (0 : Int))))],[(5,⟨46,.fix [.i c.proc,.i c.obj,.i c.kind,.i c.arg,.i c.ret,.i c.frm,.i c.to]⟩),(999,⟨3,.row (.ints l)⟩)],[5,999]⟩)
    (True ∧ True ∧ (True ∧ True ∧ True) ∧ True ∧ True)
    ⟨tt,tt,⟨tt,tt,tt⟩,tt,tt⟩ ?_
   refine W.ifP ((l.length : Int) = (0 : Int)) (.b (decide ((l.length : Int) = (0 : Int)))) (by kernel_rfl) rfl trivial ?_ ?_
   ·intro h24
    refine Kk cok tab62o hnt [] [6,7] (⟨[(6,.own 999 l.length),(7,.i (-1 : Int))],[(5,⟨46,.fix [.i c.proc,.i c.obj,.i c.kind,.i c.arg,.i c.ret,.i c.frm,.i c.to]⟩),(999,⟨3,.row (.ints l)⟩)],[5,999]⟩)
     (True ∧ True ∧ True ∧ True)
     ⟨tt,tt,tt,tt⟩ ?_
    refine W.ret (blockQ_ret (thenQ_ret ?_))
    exact endQ_rows [(0,999)] (.tup [.own 999 l.length,.i (-1 : Int)]) (by kernel_rfl) (@cast ((((999 : Nat) = 999) ∧ (l.length = (List.length ((iRow s l c).1))) ∧ ((0 : Nat) ∈ ([0] : List Nat))) ∧ ((.int .i64 (-1 : Int) : Value) = .int .i64 ((iRow s l c).2)) ∧ True) _ (by kernel_rfl) ⟨⟨rfl,(by first | rfl | omega | assumption | (symm; assumption) | (exact congrArg List.length (by subst hv; first | (simp only [iRow,(decide_eq_true h24),(decide_eq_false n15),cond_true,cond_false,Bool.and_true,Bool.true_and,Bool.and_false,Bool.false_and,Bool.or_true,Bool.true_or,Bool.or_false,Bool.false_or,Bool.not_true,Bool.not_false]; done) | simp only [iRow,(decide_eq_true h24),(decide_eq_false n15),cond_true,cond_false,Bool.and_true,Bool.true_and,Bool.and_false,Bool.false_and,Bool.or_true,Bool.true_or,Bool.or_false,Bool.false_or,Bool.not_true,Bool.not_false])) | (subst hv; first | (simp only [iRow,(decide_eq_true h24),(decide_eq_false n15),cond_true,cond_false,Bool.and_true,Bool.true_and,Bool.and_false,Bool.false_and,Bool.or_true,Bool.true_or,Bool.or_false,Bool.false_or,Bool.not_true,Bool.not_false]; done) | simp only [iRow,(decide_eq_true h24),(decide_eq_false n15),cond_true,cond_false,Bool.and_true,Bool.true_and,Bool.and_false,Bool.false_and,Bool.or_true,Bool.true_or,Bool.or_false,Bool.false_or,Bool.not_true,Bool.not_false]; done) | simp | simp_all),(by decide)⟩,(congrArg (Value.int .i64) (by first | rfl | omega | assumption | (subst hv; first | (simp only [iRow,(decide_eq_true h24),(decide_eq_false n15),cond_true,cond_false,Bool.and_true,Bool.true_and,Bool.and_false,Bool.false_and,Bool.or_true,Bool.true_or,Bool.or_false,Bool.false_or,Bool.not_true,Bool.not_false]; done) | simp only [iRow,(decide_eq_true h24),(decide_eq_false n15),cond_true,cond_false,Bool.and_true,Bool.true_and,Bool.and_false,Bool.false_and,Bool.or_true,Bool.true_or,Bool.or_false,Bool.false_or,Bool.not_true,Bool.not_false]; done) | simp | simp_all)),tt⟩) (@cast ((((3 : Nat) = 3) ∧ ((.ints l : Dat) = .ints ((iRow s l c).1)) ∧ ((0 : Nat) ∈ ([0] : List Nat))) ∧ True) _ (by kernel_rfl) ⟨⟨rfl,(congrArg Dat.ints (by subst hv; first | (simp only [iRow,(decide_eq_true h24),(decide_eq_false n15),cond_true,cond_false,Bool.and_true,Bool.true_and,Bool.and_false,Bool.false_and,Bool.or_true,Bool.true_or,Bool.or_false,Bool.false_or,Bool.not_true,Bool.not_false]; done) | simp only [iRow,(decide_eq_true h24),(decide_eq_false n15),cond_true,cond_false,Bool.and_true,Bool.true_and,Bool.and_false,Bool.false_and,Bool.or_true,Bool.true_or,Bool.or_false,Bool.false_or,Bool.not_true,Bool.not_false])),(by decide)⟩,tt⟩) (by kernel_rfl)
   ·intro n24
    refine Kk cok tab62o hnt [] [1,8,29] (⟨[(1,.own 999 l.length),(8,.i v),(29,.b (decide (c.kind = (2 : Int))))],[(5,⟨46,.fix [.i c.proc,.i c.obj,.i c.kind,.i c.arg,.i c.ret,.i c.frm,.i c.to]⟩),(999,⟨3,.row (.ints l)⟩)],[5,999]⟩)
     (True ∧ True ∧ (True ∧ True ∧ True) ∧ True ∧ True)
     ⟨tt,tt,⟨tt,tt,tt⟩,tt,tt⟩ ?_
    refine W.ifP (c.kind = (2 : Int)) (.b (decide (c.kind = (2 : Int)))) (by kernel_rfl) rfl trivial ?_ ?_
    ·intro h29
     refine W.KA cok tab62o hnt [] [6,7] (⟨[(6,.own 999 l.length),(7,.i (l.getD (Int.toNat v) 0))],[(5,⟨46,.fix [.i c.proc,.i c.obj,.i c.kind,.i c.arg,.i c.ret,.i c.frm,.i c.to]⟩),(999,⟨3,.row (.ints l)⟩)],[5,999]⟩)
      (True ∧ True ∧ True ∧ (True ∧ True ∧ (0 ≤ v) ∧ (v < (l.length : Int))) ∧ (True ∧ ((Int.toNat v) < l.length)) ∧ True ∧ True ∧ True) (by kernel_rfl) (by kernel_rfl)
      ⟨tt,tt,tt,⟨tt,tt,(by omega),(by omega)⟩,⟨tt,(by omega)⟩,tt,tt,tt⟩ ?_
     refine W.ret (blockQ_ret (thenQ_ret ?_))
     exact endQ_rows [(0,999)] (.tup [.own 999 l.length,.i (l.getD (Int.toNat v) 0)]) (by kernel_rfl) (@cast ((((999 : Nat) = 999) ∧ (l.length = (List.length ((iRow s l c).1))) ∧ ((0 : Nat) ∈ ([0] : List Nat))) ∧ ((.int .i64 (l.getD (Int.toNat v) 0) : Value) = .int .i64 ((iRow s l c).2)) ∧ True) _ (by kernel_rfl) ⟨⟨rfl,(by first | rfl | omega | assumption | (symm; assumption) | (exact congrArg List.length (by subst hv; first | (simp only [iRow,(decide_eq_true h29),(decide_eq_false n15),(decide_eq_false n24),cond_true,cond_false,Bool.and_true,Bool.true_and,Bool.and_false,Bool.false_and,Bool.or_true,Bool.true_or,Bool.or_false,Bool.false_or,Bool.not_true,Bool.not_false]; done) | simp only [iRow,(decide_eq_true h29),(decide_eq_false n15),(decide_eq_false n24),cond_true,cond_false,Bool.and_true,Bool.true_and,Bool.and_false,Bool.false_and,Bool.or_true,Bool.true_or,Bool.or_false,Bool.false_or,Bool.not_true,Bool.not_false])) | (subst hv; first | (simp only [iRow,(decide_eq_true h29),(decide_eq_false n15),(decide_eq_false n24),cond_true,cond_false,Bool.and_true,Bool.true_and,Bool.and_false,Bool.false_and,Bool.or_true,Bool.true_or,Bool.or_false,Bool.false_or,Bool.not_true,Bool.not_false]; done) | simp only [iRow,(decide_eq_true h29),(decide_eq_false n15),(decide_eq_false n24),cond_true,cond_false,Bool.and_true,Bool.true_and,Bool.and_false,Bool.false_and,Bool.or_true,Bool.true_or,Bool.or_false,Bool.false_or,Bool.not_true,Bool.not_false]; done) | simp | simp_all),(by decide)⟩,(congrArg (Value.int .i64) (by first | rfl | omega | assumption | (subst hv; first | (simp only [iRow,(decide_eq_true h29),(decide_eq_false n15),(decide_eq_false n24),cond_true,cond_false,Bool.and_true,Bool.true_and,Bool.and_false,Bool.false_and,Bool.or_true,Bool.true_or,Bool.or_false,Bool.false_or,Bool.not_true,Bool.not_false]; done) | simp only [iRow,(decide_eq_true h29),(decide_eq_false n15),(decide_eq_false n24),cond_true,cond_false,Bool.and_true,Bool.true_and,Bool.and_false,Bool.false_and,Bool.or_true,Bool.true_or,Bool.or_false,Bool.false_or,Bool.not_true,Bool.not_false]; done) | simp | simp_all)),tt⟩) (@cast ((((3 : Nat) = 3) ∧ ((.ints l : Dat) = .ints ((iRow s l c).1)) ∧ ((0 : Nat) ∈ ([0] : List Nat))) ∧ True) _ (by kernel_rfl) ⟨⟨rfl,(congrArg Dat.ints (by subst hv; first | (simp only [iRow,(decide_eq_true h29),(decide_eq_false n15),(decide_eq_false n24),cond_true,cond_false,Bool.and_true,Bool.true_and,Bool.and_false,Bool.false_and,Bool.or_true,Bool.true_or,Bool.or_false,Bool.false_or,Bool.not_true,Bool.not_false]; done) | simp only [iRow,(decide_eq_true h29),(decide_eq_false n15),(decide_eq_false n24),cond_true,cond_false,Bool.and_true,Bool.true_and,Bool.and_false,Bool.false_and,Bool.or_true,Bool.true_or,Bool.or_false,Bool.false_or,Bool.not_true,Bool.not_false])),(by decide)⟩,tt⟩) (by kernel_rfl)
    ·intro n29
     refine W.skip (blockQ_normal (thenQ_normal ?_))
     refine Kk cok tab62o hnt [] [1,8,9] (⟨[(1,.own 999 l.length),(8,.i v),(9,.i (l.getD (Int.toNat v) 0))],[(5,⟨46,.fix [.i c.proc,.i c.obj,.i c.kind,.i c.arg,.i c.ret,.i c.frm,.i c.to]⟩),(999,⟨3,.row (.ints l)⟩)],[5,999]⟩)
      (True ∧ True ∧ (True ∧ True ∧ (0 ≤ v) ∧ (v < (l.length : Int))) ∧ (True ∧ ((Int.toNat v) < l.length)) ∧ True ∧ True)
      ⟨tt,tt,⟨tt,tt,(by omega),(by omega)⟩,⟨tt,(by omega)⟩,tt,tt⟩ ?_
     refine Kk cok tab62o hnt [46] [6,7] (⟨[(6,.own 46 (List.length (l.take v.toNat ++ l.drop (v + (1 : Int)).toNat))),(7,.i (l.getD (Int.toNat v) 0))],[(5,⟨46,.fix [.i c.proc,.i c.obj,.i c.kind,.i c.arg,.i c.ret,.i c.frm,.i c.to]⟩),(46,⟨3,.row (.ints (l.take v.toNat ++ l.drop (v + (1 : Int)).toNat))⟩)],[46,5,999]⟩)
      (True ∧ True ∧ True ∧ (True ∧ True ∧ (Fits .i64 (v + (1 : Int)))) ∧ (True ∧ ((True ∧ (l.length = l.length)) ∧ True ∧ True ∧ True) ∧ (0 ≤ v) ∧ (v < (v + (1 : Int))) ∧ ((v + (1 : Int)) ≤ l.length)) ∧ True ∧ True ∧ True ∧ True)
      ⟨tt,tt,tt,⟨tt,tt,(by exact fits_i64 (by omega) (by omega))⟩,⟨tt,⟨⟨tt,rfl⟩,tt,tt,tt⟩,(by omega),(by omega),(by omega)⟩,tt,tt,tt,tt⟩ ?_
     refine W.ret ?_
     exact endQ_rows [(0,46)] (.tup [.own 46 (List.length (l.take v.toNat ++ l.drop (v + (1 : Int)).toNat)),.i (l.getD (Int.toNat v) 0)]) (by kernel_rfl) (@cast ((((46 : Nat) = 46) ∧ ((List.length (l.take v.toNat ++ l.drop (v + (1 : Int)).toNat)) = (List.length ((iRow s l c).1))) ∧ ((0 : Nat) ∈ ([0] : List Nat))) ∧ ((.int .i64 (l.getD (Int.toNat v) 0) : Value) = .int .i64 ((iRow s l c).2)) ∧ True) _ (by kernel_rfl) ⟨⟨rfl,(by first | rfl | omega | assumption | (symm; assumption) | (exact congrArg List.length (by subst hv; first | (simp only [iRow,(decide_eq_false n15),(decide_eq_false n24),(decide_eq_false n29),cond_true,cond_false,Bool.and_true,Bool.true_and,Bool.and_false,Bool.false_and,Bool.or_true,Bool.true_or,Bool.or_false,Bool.false_or,Bool.not_true,Bool.not_false]; done) | simp only [iRow,(decide_eq_false n15),(decide_eq_false n24),(decide_eq_false n29),cond_true,cond_false,Bool.and_true,Bool.true_and,Bool.and_false,Bool.false_and,Bool.or_true,Bool.true_or,Bool.or_false,Bool.false_or,Bool.not_true,Bool.not_false])) | (subst hv; first | (simp only [iRow,(decide_eq_false n15),(decide_eq_false n24),(decide_eq_false n29),cond_true,cond_false,Bool.and_true,Bool.true_and,Bool.and_false,Bool.false_and,Bool.or_true,Bool.true_or,Bool.or_false,Bool.false_or,Bool.not_true,Bool.not_false]; done) | simp only [iRow,(decide_eq_false n15),(decide_eq_false n24),(decide_eq_false n29),cond_true,cond_false,Bool.and_true,Bool.true_and,Bool.and_false,Bool.false_and,Bool.or_true,Bool.true_or,Bool.or_false,Bool.false_or,Bool.not_true,Bool.not_false]; done) | simp | simp_all),(by decide)⟩,(congrArg (Value.int .i64) (by first | rfl | omega | assumption | (subst hv; first | (simp only [iRow,(decide_eq_false n15),(decide_eq_false n24),(decide_eq_false n29),cond_true,cond_false,Bool.and_true,Bool.true_and,Bool.and_false,Bool.false_and,Bool.or_true,Bool.true_or,Bool.or_false,Bool.false_or,Bool.not_true,Bool.not_false]; done) | simp only [iRow,(decide_eq_false n15),(decide_eq_false n24),(decide_eq_false n29),cond_true,cond_false,Bool.and_true,Bool.true_and,Bool.and_false,Bool.false_and,Bool.or_true,Bool.true_or,Bool.or_false,Bool.false_or,Bool.not_true,Bool.not_false]; done) | simp | simp_all)),tt⟩) (@cast ((((3 : Nat) = 3) ∧ ((.ints (l.take v.toNat ++ l.drop (v + (1 : Int)).toNat) : Dat) = .ints ((iRow s l c).1)) ∧ ((0 : Nat) ∈ ([0] : List Nat))) ∧ True) _ (by kernel_rfl) ⟨⟨rfl,(congrArg Dat.ints (by subst hv; first | (simp only [iRow,(decide_eq_false n15),(decide_eq_false n24),(decide_eq_false n29),cond_true,cond_false,Bool.and_true,Bool.true_and,Bool.and_false,Bool.false_and,Bool.or_true,Bool.true_or,Bool.or_false,Bool.false_or,Bool.not_true,Bool.not_false]; done) | simp only [iRow,(decide_eq_false n15),(decide_eq_false n24),(decide_eq_false n29),cond_true,cond_false,Bool.and_true,Bool.true_and,Bool.and_false,Bool.false_and,Bool.or_true,Bool.true_or,Bool.or_false,Bool.false_or,Bool.not_true,Bool.not_false])),(by decide)⟩,tt⟩) (by kernel_rfl)
theorem ent62o : Entr prog 62 := ⟨_,func62,rfl,by decide⟩
end Go.Proofs.Try

set_option linter.unusedSimpArgs false
set_option linter.unusedVariables false
namespace Go.Proofs.Try
open Go.Ab Go.RowKit
def fs46o : FnS := fnS [.o,.s .ints,.o] [.str,.ints,.call] (fun _ (s,l,c,_) => (.tup [.own 0 (List.length ((iStep s l c).1)),.i ((iStep s l c).2)],[(3,.ints ((iStep s l c).1))],(∀ j,j < l.length → 0 ≤ l.getD j 0 ∧ l.getD j 0 ≤ 20) ∧ (0 ≤ c.arg ∧ c.arg ≤ 3) ∧ (l.length ≤ 20)))
abbrev T46o : Tab := lk [(50,fs50),(54,fs54),(60,fs60o),(61,fs61o),(62,fs62o)]
theorem tab46o : TabOK prog T46o := (TabOK.cons ok50 ent50 (TabOK.cons ok54 ent54 (TabOK.cons ok60o ent60o (TabOK.cons ok61o ent61o (TabOK.cons ok62o ent62o TabOK.nil)))))
set_option maxRecDepth 100000 in
set_option maxHeartbeats 1000000 in
theorem ok46o : FnOK prog 46 fs46o := by
 refine FnOK.mk cok func46 rfl rfl rfl ?_
 rintro fl ⟨(s : ByteArray),(l : List Int),(c : CallD),_⟩ hpre F hnt0 _
 have hnt : F.nt = 33 := hnt0.trans ntmps46
 replace hpre : (∀ j,j < l.length → 0 ≤ l.getD j 0 ∧ l.getD j 0 ≤ 20) ∧ (0 ≤ c.arg ∧ c.arg ≤ 3) ∧ (l.length ≤ 20) := hpre
 obtain ⟨hs,ha,hl⟩ := hpre
 refine W.to (⟨[(0,.v (.string s)),(1,.sl (.ints l)),(2,.agg [.i c.proc,.i c.obj,.i c.kind,.i c.arg,.i c.ret,.i c.frm,.i c.to])],[],[999]⟩) rfl ?_
 refine W.lenOf 1 (.ints l) (by kernel_rfl) ?_
 intro hl_l; replace hl_l : List.length l ≤ 9223372036854775807 := hl_l
 refine Kk cok tab46o hnt [] [0,1,5] (⟨[(0,.v (.string s)),(1,.sl (.ints l)),(5,.ptr 5 0)],[(5,⟨46,.fix [.i c.proc,.i c.obj,.i c.kind,.i c.arg,.i c.ret,.i c.frm,.i c.to]⟩)],[5,999]⟩)
  (True ∧ True ∧ True ∧ True)
  ⟨tt,tt,tt,tt⟩ ?_
 refine Kk cok tab46o hnt [9] [0,1,5] (⟨[(0,.v (.string s)),(1,.own 9 l.length),(5,.ptr 5 0)],[(5,⟨46,.fix [.i c.proc,.i c.obj,.i c.kind,.i c.arg,.i c.ret,.i c.frm,.i c.to]⟩),(9,⟨3,.row (.ints l)⟩)],[9,5,999]⟩)
  (True ∧ (True ∧ (True ∧ True) ∧ (l.length * 8 ≤ 140737488355328)) ∧ True ∧ True)
  ⟨tt,⟨tt,⟨tt,tt⟩,(by omega)⟩,tt,tt⟩ ?_
 refine W.seq ?_
 refine W.block ?_
 refine Kk cok tab46o hnt [] [0,1,5,10] (⟨[(0,.v (.string s)),(1,.own 9 l.length),(5,.ptr 5 0),(10,.b (isSingle s))],[(5,⟨46,.fix [.i c.proc,.i c.obj,.i c.kind,.i c.arg,.i c.ret,.i c.frm,.i c.to]⟩),(9,⟨3,.row (.ints l)⟩)],[9,5,999]⟩)
  (True ∧ (True ∧ (True ∧ True) ∧ True) ∧ True ∧ True)
  ⟨tt,⟨tt,⟨tt,tt⟩,tt⟩,tt,tt⟩ ?_
 refine W.if' (isSingle s) (.b (isSingle s)) (by kernel_rfl) rfl trivial ?_ ?_
 ·intro h10
  refine Kk cok tab46o hnt [] [6,7] (⟨[(6,.own 16 (List.length ((iSingle s l c).1))),(7,.i ((iSingle s l c).2))],[(5,⟨46,.fix [.i c.proc,.i c.obj,.i c.kind,.i c.arg,.i c.ret,.i c.frm,.i c.to]⟩),(16,⟨3,.row (.ints ((iSingle s l c).1))⟩)],[16,9,5,999]⟩)
   (True ∧ True ∧ True ∧ (True ∧ (True ∧ (True ∧ (l.length = l.length)) ∧ True ∧ True) ∧ (∀ j,j < l.length → 0 ≤ l.getD j 0 ∧ l.getD j 0 ≤ 20) ∧ (0 ≤ c.arg ∧ c.arg ≤ 3) ∧ (l.length ≤ 20)) ∧ True ∧ True ∧ True ∧ True ∧ True)
   ⟨tt,tt,tt,⟨tt,⟨tt,⟨tt,rfl⟩,tt,tt⟩,(by omega),(by omega),(by omega)⟩,tt,tt,tt,tt,tt⟩ ?_
  refine W.ret (blockQ_ret (thenQ_ret ?_))
  exact endQ_rows [(0,16)] (.tup [.own 16 (List.length ((iSingle s l c).1)),.i ((iSingle s l c).2)]) (by kernel_rfl) (@cast ((((16 : Nat) = 16) ∧ ((List.length ((iSingle s l c).1)) = (List.length ((iStep s l c).1))) ∧ ((0 : Nat) ∈ ([0] : List Nat))) ∧ ((.int .i64 ((iSingle s l c).2) : Value) = .int .i64 ((iStep s l c).2)) ∧ True) _ (by kernel_rfl) ⟨⟨rfl,(by first | rfl | omega | assumption | (symm; assumption) | (exact congrArg List.length (by simp only [iStep,h10,cond_true,cond_false,Bool.and_true,Bool.true_and,Bool.and_false,Bool.false_and,Bool.or_true,Bool.true_or,Bool.or_false,Bool.false_or,Bool.not_true,Bool.not_false])) | (simp only [iStep,h10,cond_true,cond_false,Bool.and_true,Bool.true_and,Bool.and_false,Bool.false_and,Bool.or_true,Bool.true_or,Bool.or_false,Bool.false_or,Bool.not_true,Bool.not_false]; done) | simp | simp_all),(by decide)⟩,(congrArg (Value.int .i64) (by first | rfl | omega | assumption | (simp only [iStep,h10,cond_true,cond_false,Bool.and_true,Bool.true_and,Bool.and_false,Bool.false_and,Bool.or_true,Bool.true_or,Bool.or_false,Bool.false_or,Bool.not_true,Bool.not_false]; done) | simp | simp_all)),tt⟩) (@cast ((((3 : Nat) = 3) ∧ ((.ints ((iSingle s l c).1) : Dat) = .ints ((iStep s l c).1)) ∧ ((0 : Nat) ∈ ([0] : List Nat))) ∧ True) _ (by kernel_rfl) ⟨⟨rfl,(congrArg Dat.ints (by simp only [iStep,h10,cond_true,cond_false,Bool.and_true,Bool.true_and,Bool.and_false,Bool.false_and,Bool.or_true,Bool.true_or,Bool.or_false,Bool.false_or,Bool.not_true,Bool.not_false])),(by decide)⟩,tt⟩) (by kernel_rfl)
 ·intro n10
  refine Kk cok tab46o hnt [] [0,1,5,19] (⟨[(0,.v (.string s)),(1,.own 9 l.length),(5,.ptr 5 0),(19,.b (eqS s nSet))],[(5,⟨46,.fix [.i c.proc,.i c.obj,.i c.kind,.i c.arg,.i c.ret,.i c.frm,.i c.to]⟩),(9,⟨3,.row (.ints l)⟩)],[9,5,999]⟩)
   (True ∧ (True ∧ True ∧ True) ∧ True ∧ True)
   ⟨tt,⟨tt,tt,tt⟩,tt,tt⟩ ?_
  refine W.if' (eqS s nSet) (.b (eqS s nSet)) (by kernel_rfl) rfl trivial ?_ ?_
  ·intro h19
   refine Kk cok tab46o hnt [] [6,7] (⟨[(6,.own 24 (List.length ((iSet l c).1))),(7,.i ((iSet l c).2))],[(5,⟨46,.fix [.i c.proc,.i c.obj,.i c.kind,.i c.arg,.i c.ret,.i c.frm,.i c.to]⟩),(24,⟨3,.row (.ints ((iSet l c).1))⟩)],[24,9,5,999]⟩)
    (True ∧ True ∧ (True ∧ ((True ∧ (l.length = l.length)) ∧ True ∧ True) ∧ (∀ j,j < l.length → 0 ≤ l.getD j 0 ∧ l.getD j 0 ≤ 20) ∧ (0 ≤ c.arg ∧ c.arg ≤ 3) ∧ (l.length ≤ 20)) ∧ True ∧ True ∧ True ∧ True ∧ True)
    ⟨tt,tt,⟨tt,⟨⟨tt,rfl⟩,tt,tt⟩,(by omega),(by omega),(by omega)⟩,tt,tt,tt,tt,tt⟩ ?_
   refine W.ret (blockQ_ret (thenQ_ret ?_))
   exact endQ_rows [(0,24)] (.tup [.own 24 (List.length ((iSet l c).1)),.i ((iSet l c).2)]) (by kernel_rfl) (@cast ((((24 : Nat) = 24) ∧ ((List.length ((iSet l c).1)) = (List.length ((iStep s l c).1))) ∧ ((0 : Nat) ∈ ([0] : List Nat))) ∧ ((.int .i64 ((iSet l c).2) : Value) = .int .i64 ((iStep s l c).2)) ∧ True) _ (by kernel_rfl) ⟨⟨rfl,(by first | rfl | omega | assumption | (symm; assumption) | (exact congrArg List.length (by simp only [iStep,h19,n10,cond_true,cond_false,Bool.and_true,Bool.true_and,Bool.and_false,Bool.false_and,Bool.or_true,Bool.true_or,Bool.or_false,Bool.false_or,Bool.not_true,Bool.not_false])) | (simp only [iStep,h19,n10,cond_true,cond_false,Bool.and_true,Bool.true_and,Bool.and_false,Bool.false_and,Bool.or_true,Bool.true_or,Bool.or_false,Bool.false_or,Bool.not_true,Bool.not_false]; done) | simp | simp_all),(by decide)⟩,(congrArg (Value.int .i64) (by first | rfl | omega | assumption | (simp only [iStep,h19,n10,cond_true,cond_false,Bool.and_true,Bool.true_and,Bool.and_false,Bool.false_and,Bool.or_true,Bool.true_or,Bool.or_false,Bool.false_or,Bool.not_true,Bool.not_false]; done) | simp | simp_all)),tt⟩) (@cast ((((3 : Nat) = 3) ∧ ((.ints ((iSet l c).1) : Dat) = .ints ((iStep s l c).1)) ∧ ((0 : Nat) ∈ ([0] : List Nat))) ∧ True) _ (by kernel_rfl) ⟨⟨rfl,(congrArg Dat.ints (by simp only [iStep,h19,n10,cond_true,cond_false,Bool.and_true,Bool.true_and,Bool.and_false,Bool.false_and,Bool.or_true,Bool.true_or,Bool.or_false,Bool.false_or,Bool.not_true,Bool.not_false])),(by decide)⟩,tt⟩) (by kernel_rfl)
  ·intro n19
   refine W.skip (blockQ_normal (thenQ_normal ?_))
   refine Kk cok tab46o hnt [] [6,7] (⟨[(6,.own 30 (List.length ((iRow s l c).1))),(7,.i ((iRow s l c).2))],[(5,⟨46,.fix [.i c.proc,.i c.obj,.i c.kind,.i c.arg,.i c.ret,.i c.frm,.i c.to]⟩),(30,⟨3,.row (.ints ((iRow s l c).1))⟩)],[30,9,5,999]⟩)
    (True ∧ True ∧ True ∧ (True ∧ (True ∧ (True ∧ (l.length = l.length)) ∧ True ∧ True) ∧ (∀ j,j < l.length → 0 ≤ l.getD j 0 ∧ l.getD j 0 ≤ 20) ∧ (0 ≤ c.arg ∧ c.arg ≤ 3) ∧ (l.length ≤ 20)) ∧ True ∧ True ∧ True ∧ True ∧ True)
    ⟨tt,tt,tt,⟨tt,⟨tt,⟨tt,rfl⟩,tt,tt⟩,(by omega),(by omega),(by omega)⟩,tt,tt,tt,tt,tt⟩ ?_
   refine W.ret ?_
   exact endQ_rows [(0,30)] (.tup [.own 30 (List.length ((iRow s l c).1)),.i ((iRow s l c).2)]) (by kernel_rfl) (@cast ((((30 : Nat) = 30) ∧ ((List.length ((iRow s l c).1)) = (List.length ((iStep s l c).1))) ∧ ((0 : Nat) ∈ ([0] : List Nat))) ∧ ((.int .i64 ((iRow s l c).2) : Value) = .int .i64 ((iStep s l c).2)) ∧ True) _ (by kernel_rfl) ⟨⟨rfl,(by first | rfl | omega | assumption | (symm; assumption) | (exact congrArg List.length (by simp only [iStep,n10,n19,cond_true,cond_false,Bool.and_true,Bool.true_and,Bool.and_false,Bool.false_and,Bool.or_true,Bool.true_or,Bool.or_false,Bool.false_or,Bool.not_true,Bool.not_false])) | (simp only [iStep,n10,n19,cond_true,cond_false,Bool.and_true,Bool.true_and,Bool.and_false,Bool.false_and,Bool.or_true,Bool.true_or,Bool.or_false,Bool.false_or,Bool.not_true,Bool.not_false]; done) | simp | simp_all),(by decide)⟩,(congrArg (Value.int .i64) (by first | rfl | omega | assumption | (simp only [iStep,n10,n19,cond_true,cond_false,Bool.and_true,Bool.true_and,Bool.and_false,Bool.false_and,Bool.or_true,Bool.true_or,Bool.or_false,Bool.false_or,Bool.not_true,Bool.not_false]; done) | simp | simp_all)),tt⟩) (@cast ((((3 : Nat) = 3) ∧ ((.ints ((iRow s l c).1) : Dat) = .ints ((iStep s l c).1)) ∧ ((0 : Nat) ∈ ([0] : List Nat))) ∧ True) _ (by kernel_rfl) ⟨⟨rfl,(congrArg Dat.ints (by simp only [iStep,n10,n19,cond_true,cond_false,Bool.and_true,Bool.true_and,Bool.and_false,Bool.false_and,Bool.or_true,Bool.true_or,Bool.or_false,Bool.false_or,Bool.not_true,Bool.not_false])),(by decide)⟩,tt⟩) (by kernel_rfl)
theorem ent46o : Entr prog 46 := ⟨_,func46,rfl,by decide⟩
end Go.Proofs.Try
