import Derived.Test.YthigacnknicfnaaMF3S0
set_option linter.unusedSimpArgs false
set_option linter.unusedVariables false
namespace Go.Proofs.Try
open Go.Ab Go.RowKit
def fs35 : FnS := fnS [.o,.o,.o] [.int,.int,.int] (fun _ (n,low,high,_) => (.b (within n low high),[],True))
abbrev T35 : Tab := lk []
theorem tab35 : TabOK prog T35 := TabOK.nil
set_option maxRecDepth 100000 in
set_option maxHeartbeats 1000000 in
theorem ok35 : FnOK prog 35 fs35 := by
 refine FnOK.mk cok func35 rfl rfl rfl ?_
 rintro fl ⟨(n : Int),(low : Int),(high : Int),_⟩ hpre F hnt0 _
 have hnt : F.nt = 15 := hnt0.trans ntmps35
 clear hpre
 refine W.to (⟨[(0,.i n),(1,.i low),(2,.i high)],[],[999]⟩) rfl ?_
 refine Kk cok tab35 hnt [] [0,1,2] (⟨[(0,.i n),(1,.i low),(2,.i high)],[],[999]⟩)
  (True ∧ True)
  ⟨tt,tt⟩ ?_
 refine Kk cok tab35 hnt [] [6] (⟨[(6,.b ((decide (low ≤ n)) && (decide (n ≤ high))))],[],[999]⟩)
  ((fun (Z1:Bool)=>(True ∧ (True ∧ ((True ∧ (True ∧ True)) ∧ (True ∧ ((Z1 = true → True) ∧ ((Z1 = true → True) ∧ ((Z1 = true → (((Z1 = true) ∧ True) ∧ (((Z1 = true) ∧ True) ∧ True))) ∧ ((True ∧ ((Z1 = true → (Z1 = true) ∧ True) ∧ (Z1 = false → True))) ∧ (True ∧ True)))))))))) (decide (low ≤ n)))
  ⟨tt,tt,⟨tt,tt,tt⟩,tt,(fun _ => trivial),(fun _ => trivial),(fun hG => ⟨⟨hG,tt⟩,⟨hG,tt⟩,tt⟩),⟨tt,(fun hp => ⟨hp,tt⟩),(fun _ => trivial)⟩,tt,tt⟩ ?_
 refine W.ret ?_
 exact endQ_ret (.b ((decide (low ≤ n)) && (decide (n ≤ high)))) (by kernel_rfl) (@cast ((.bool ((decide (low ≤ n)) && (decide (n ≤ high))) : Value) = .bool (within n low high)) _ (by kernel_rfl) (congrArg Value.bool (by first | rfl | simp_all)))
theorem ent35 : Entr prog 35 := ⟨_,func35,rfl,by decide⟩
end Go.Proofs.Try

set_option linter.unusedSimpArgs false
set_option linter.unusedVariables false
namespace Go.Proofs.Try
open Go.Ab Go.RowKit
def fs42 : FnS := fnS [.o,.o,.o] [.event,(.ep .int),(.ep .int)] (fun _ (x,kd,ms,_) => (.b (decide (x.kind = kd) && decide (x.msg = ms)),[],True))
abbrev T42 : Tab := lk []
theorem tab42 : TabOK prog T42 := TabOK.nil
set_option maxRecDepth 100000 in
set_option maxHeartbeats 1000000 in
theorem ok42 : FnOK prog 42 fs42 := by
 refine FnOK.mk cok func42 rfl rfl rfl ?_
 rintro fl ⟨(x : EventD),(kd : Int),(ms : Int),_⟩ hpre F hnt0 _
 have hnt : F.nt = 15 := hnt0.trans ntmps42
 clear hpre
 refine W.to (⟨[(0,.agg [.i x.proc,.i x.kind,.i x.msg]),(1,.ep [.i kd]),(2,.ep [.i ms])],[],[999]⟩) rfl ?_
 refine Kk cok tab42 hnt [] [1,2,3] (⟨[(1,.ep [.i kd]),(2,.ep [.i ms]),(3,.ptr 3 0)],[(3,⟨47,.fix [.i x.proc,.i x.kind,.i x.msg]⟩)],[3,999]⟩)
  (True ∧ True ∧ True)
  ⟨tt,tt,tt⟩ ?_
 refine Kk cok tab42 hnt [] [4] (⟨[(4,.b ((decide (x.kind = kd)) && (decide (x.msg = ms))))],[(3,⟨47,.fix [.i x.proc,.i x.kind,.i x.msg]⟩)],[3,999]⟩)
  ((fun (Z1:Bool)=>(True ∧ (True ∧ (True ∧ ((True ∧ (True ∧ True)) ∧ (True ∧ ((Z1 = true → True) ∧ ((Z1 = true → ((Z1 = true) ∧ True)) ∧ ((Z1 = true → True) ∧ ((Z1 = true → (((Z1 = true) ∧ True) ∧ (((Z1 = true) ∧ True) ∧ True))) ∧ ((True ∧ ((Z1 = true → (Z1 = true) ∧ True) ∧ (Z1 = false → True))) ∧ (True ∧ True)))))))))))) (decide (x.kind = kd)))
  ⟨tt,tt,tt,⟨tt,tt,tt⟩,tt,(fun _ => trivial),(fun hG => ⟨hG,tt⟩),(fun _ => trivial),(fun hG => ⟨⟨hG,tt⟩,⟨hG,tt⟩,tt⟩),⟨tt,(fun hp => ⟨hp,tt⟩),(fun _ => trivial)⟩,tt,tt⟩ ?_
 refine W.ret ?_
 exact endQ_ret (.b ((decide (x.kind = kd)) && (decide (x.msg = ms)))) (by kernel_rfl) (@cast ((.bool ((decide (x.kind = kd)) && (decide (x.msg = ms))) : Value) = .bool (decide (x.kind = kd) && decide (x.msg = ms))) _ (by kernel_rfl) (congrArg Value.bool (by first | rfl | simp_all)))
theorem ent42 : Entr prog 42 := ⟨_,func42,rfl,by decide⟩
end Go.Proofs.Try

set_option linter.unusedSimpArgs false
set_option linter.unusedVariables false
namespace Go.Proofs.Try
open Go.Ab Go.RowKit
def fs41 : FnS := fnS [.s .events,.o] [.events,(.fn2 42 (.ep .int) (.ep .int))] (fun _ (l,(kd,ms),_) => (.i (firstI l.length (evIs l kd ms)),[],True))
abbrev T41 : Tab := lk [(42,fs42)]
theorem tab41 : TabOK prog T41 := (TabOK.cons ok42 ent42 TabOK.nil)
set_option maxRecDepth 100000 in
set_option maxHeartbeats 1000000 in
theorem ok41 : FnOK prog 41 fs41 := by
 refine FnOK.mk cok func41 rfl rfl rfl ?_
 rintro fl ⟨(l : List EventD),⟨(kd : Int),(ms : Int)⟩,_⟩ hpre F hnt0 _
 have hnt : F.nt = 19 := hnt0.trans ntmps41
 clear hpre
 refine W.to (⟨[(0,.sl (.events l)),(1,.fn 42 [.ep [.i kd],.ep [.i ms]])],[],[999]⟩) rfl ?_
 refine W.lenOf 0 (.events l) (by kernel_rfl) ?_
 intro hl_l; replace hl_l : List.length l ≤ 9223372036854775807 := hl_l
 refine Kk cok tab41 hnt [] [0,1] (⟨[(0,.sl (.events l)),(1,.fn 42 [.ep [.i kd],.ep [.i ms]])],[],[999]⟩)
  (True ∧ True)
  ⟨tt,tt⟩ ?_
 refine W.seq ?_
 refine Kk cok tab41 hnt [] [0,1,7,8] (⟨[(0,.sl (.events l)),(1,.fn 42 [.ep [.i kd],.ep [.i ms]]),(7,.i (l.length : Int)),(8,.i (0 : Int))],[],[999]⟩)
  (True ∧ True ∧ True ∧ True)
  ⟨tt,tt,tt,tt⟩ ?_
 refine W.block ?_
 refine W.loop (ι := Nat) (fun (i : Nat) => (⟨[(0,.sl (.events l)),(1,.fn 42 [.ep [.i kd],.ep [.i ms]]),(7,.i (l.length : Int)),(8,.i ((i : Nat) : Int))],[],[999]⟩ : St))
  (fun (i : Nat) => (i ≤ l.length) ∧ (∀ jj,jj < i → evIs l kd ms jj = false))
  (fun (i : Nat) => (l.length - i : Nat)) (0) ?_ ?_ ?_
 ·exact (show (0 ≤ l.length) ∧ (∀ jj,jj < 0 → evIs l kd ms jj = false) from ⟨(by first | assumption | omega | rfl | (intro _ hjj; omega) | (simp; done) | (simp; omega)),(by exact upto_zero)⟩)
 ·exact Sub.of [] (@cast (((Sd (.events l)) ∧ (((42 : Nat) = 42) ∧ (((.ep [.i kd] : AV) = .ep [.i kd]) ∧ (([] : List Nat) = [])) ∧ (((.ep [.i ms] : AV) = .ep [.i ms]) ∧ (([] : List Nat) = [])) ∧ True) ∧ (Si (l.length : Int)) ∧ ((.int .i64 (0 : Int) : Value) = .int .i64 ((0 : Nat) : Int)) ∧ True) ∧ True ∧ (true = true) ∧ (true = true)) _ (by kernel_rfl) ⟨⟨rfl,⟨rfl,⟨rfl,rfl⟩,⟨rfl,rfl⟩,tt⟩,rfl,(congrArg (Value.int .i64) (by first | rfl | omega | assumption | simp | simp_all)),tt⟩,tt,rfl,rfl⟩)
 ·rintro i hC0
  have hC : (i ≤ l.length) ∧ (∀ jj,jj < i → evIs l kd ms jj = false) := hC0
  clear hC0
  obtain ⟨hi,hA⟩ := hC
  refine W.to (⟨[(0,.sl (.events l)),(1,.fn 42 [.ep [.i kd],.ep [.i ms]]),(7,.i (l.length : Int)),(8,.i ((i : Nat) : Int))],[],[999]⟩) rfl ?_
  refine Kk cok tab41 hnt [] [0,1,7,8,9] (⟨[(0,.sl (.events l)),(1,.fn 42 [.ep [.i kd],.ep [.i ms]]),(7,.i (l.length : Int)),(8,.i ((i : Nat) : Int)),(9,.b (decide (((i : Nat) : Int) < (l.length : Int))))],[],[999]⟩)
   ((True ∧ True ∧ True) ∧ True)
   ⟨⟨tt,tt,tt⟩,tt⟩ ?_
  refine W.seq ?_
  refine W.ifP (((i : Nat) : Int) < (l.length : Int)) (.b (decide (((i : Nat) : Int) < (l.length : Int)))) (by kernel_rfl) rfl trivial ?_ ?_
  ·intro h9
   refine W.skip (thenQ_normal ?_)
   refine W.seq ?_
   refine W.block ?_
   refine Kk cok tab41 hnt [] [0,1,5,7,8] (⟨[(0,.sl (.events l)),(1,.fn 42 [.ep [.i kd],.ep [.i ms]]),(5,.i ((i : Nat) : Int)),(7,.i (l.length : Int)),(8,.i ((i : Nat) : Int))],[],[999]⟩)
    (True ∧ True ∧ True)
    ⟨tt,tt,tt⟩ ?_
   refine Kk cok tab41 hnt [] [0,1,5,7,8,16] (⟨[(0,.sl (.events l)),(1,.fn 42 [.ep [.i kd],.ep [.i ms]]),(5,.i ((i : Nat) : Int)),(7,.i (l.length : Int)),(8,.i ((i : Nat) : Int)),(16,.b (decide ((l.getD i default).kind = kd) && decide ((l.getD i default).msg = ms)))],[],[999]⟩)
    (True ∧ True ∧ True ∧ (True ∧ True ∧ (0 ≤ ((i : Nat) : Int)) ∧ (((i : Nat) : Int) < (l.length : Int))) ∧ True ∧ (True ∧ (True ∧ True ∧ True ∧ True) ∧ True) ∧ True)
    ⟨tt,tt,tt,⟨tt,tt,(by omega),(by omega)⟩,tt,⟨tt,⟨tt,tt,tt,tt⟩,tt⟩,tt⟩ ?_
   refine W.if' (decide ((l.getD i default).kind = kd) && decide ((l.getD i default).msg = ms)) (.b (decide ((l.getD i default).kind = kd) && decide ((l.getD i default).msg = ms))) (by kernel_rfl) rfl trivial ?_ ?_
   ·intro h16
    refine Kk cok tab41 hnt [] [4] (⟨[(4,.i ((i : Nat) : Int))],[],[999]⟩)
     (True ∧ True ∧ True)
     ⟨tt,tt,tt⟩ ?_
    refine W.ret (blockQ_ret (thenQ_ret (thenQ_ret (blockQ_ret (thenQ_ret ?_)))))
    exact endQ_ret (.i ((i : Nat) : Int)) (by kernel_rfl) (@cast ((.int .i64 ((i : Nat) : Int) : Value) = .int .i64 (firstI l.length (evIs l kd ms))) _ (by kernel_rfl) (congrArg (Value.int .i64) (by exact (firstI_yes (by omega) h16 hA).symm)))
   ·intro n16
    refine W.skip (blockQ_normal (thenQ_normal ?_))
    refine Lk cok tab41 hnt [] (⟨[(0,.sl (.events l)),(1,.fn 42 [.ep [.i kd],.ep [.i ms]]),(5,.i ((i : Nat) : Int)),(7,.i (l.length : Int)),(8,.i (((i + 1) : Nat) : Int)),(16,.b (decide ((l.getD i default).kind = kd) && decide ((l.getD i default).msg = ms))),(18,.i (((i + 1) : Nat) : Int))],[],[999]⟩)
     ((True ∧ True ∧ (Fits .i64 (((i + 1) : Nat) : Int))) ∧ True ∧ True)
     ⟨⟨tt,tt,(by exact fits_i64 (by omega) (by omega))⟩,tt,tt⟩ ?_
    refine thenQ_normal ?_
    refine ⟨((i + 1)),(show ((i + 1) ≤ l.length) ∧ (∀ jj,jj < (i + 1) → evIs l kd ms jj = false) from ⟨(by first | assumption | omega | rfl | (intro _ hjj; omega) | (simp; done) | (simp; omega)),(by exact upto_succ hA n16)⟩),(show l.length - (i + 1) < l.length - i from (by first | omega | (simp_all; omega))),?_⟩
    exact Sub.of [] (@cast (((Sd (.events l)) ∧ (((42 : Nat) = 42) ∧ (((.ep [.i kd] : AV) = .ep [.i kd]) ∧ (([] : List Nat) = [])) ∧ (((.ep [.i ms] : AV) = .ep [.i ms]) ∧ (([] : List Nat) = [])) ∧ True) ∧ (Si (l.length : Int)) ∧ (Si (((i + 1) : Nat) : Int)) ∧ True) ∧ True ∧ (true = true) ∧ (true = true)) _ (by kernel_rfl) ⟨⟨rfl,⟨rfl,⟨rfl,rfl⟩,⟨rfl,rfl⟩,tt⟩,rfl,rfl,tt⟩,tt,rfl,rfl⟩)
  ·intro n9
   refine W.exit (thenQ_exit (thenQ_exit (blockQ_hit ?_)))
   refine thenQ_normal ?_
   refine Kk cok tab41 hnt [] [4] (⟨[(4,.i (-1 : Int))],[],[999]⟩)
    (True ∧ True)
    ⟨tt,tt⟩ ?_
   refine W.ret ?_
   exact endQ_ret (.i (-1 : Int)) (by kernel_rfl) (@cast ((.int .i64 (-1 : Int) : Value) = .int .i64 (firstI l.length (evIs l kd ms))) _ (by kernel_rfl) (congrArg (Value.int .i64) (by exact (firstI_no (fun j hj => hA j (by omega))).symm)))
theorem ent41 : Entr prog 41 := ⟨_,func41,rfl,by decide⟩
end Go.Proofs.Try

set_option linter.unusedSimpArgs false
set_option linter.unusedVariables false
namespace Go.Proofs.Try
open Go.Ab Go.RowKit
def fs36 : FnS := fnS [.s .events,.o,.o] [.events,.int,.int] (fun _ (l,kd,ms,_) => (.i (placeE l l.length kd ms),[],True))
abbrev T36 : Tab := lk [(41,fs41)]
theorem tab36 : TabOK prog T36 := (TabOK.cons ok41 ent41 TabOK.nil)
set_option maxRecDepth 100000 in
set_option maxHeartbeats 1000000 in
theorem ok36 : FnOK prog 36 fs36 := by
 refine FnOK.mk cok func36 rfl rfl rfl ?_
 rintro fl ⟨(l : List EventD),(kd : Int),(ms : Int),_⟩ hpre F hnt0 _
 have hnt : F.nt = 10 := hnt0.trans ntmps36
 clear hpre
 refine W.to (⟨[(0,.sl (.events l)),(1,.i kd),(2,.i ms)],[],[999]⟩) rfl ?_
 refine W.lenOf 0 (.events l) (by kernel_rfl) ?_
 intro hl_l; replace hl_l : List.length l ≤ 9223372036854775807 := hl_l
 refine Kk cok tab36 hnt [] [0,4,5] (⟨[(0,.sl (.events l)),(4,.ptr 4 0),(5,.ptr 5 0)],[(4,⟨3,.fix [.i kd]⟩),(5,⟨3,.fix [.i ms]⟩)],[5,4,999]⟩)
  (True ∧ True ∧ True ∧ True)
  ⟨tt,tt,tt,tt⟩ ?_
 refine W.subS [] (⟨[(0,.sl (.events l)),(4,.ep [.i kd]),(5,.ep [.i ms])],[],[999]⟩) (@cast (((Sd (.events l)) ∧ ((([.i kd] : List AV) = [.i kd]) ∧ (([] : List Nat) = []) ∧ ((4 : Nat) ∉ ([] : List Nat))) ∧ ((([.i ms] : List AV) = [.i ms]) ∧ (([] : List Nat) = []) ∧ ((5 : Nat) ∉ ([] : List Nat))) ∧ True) ∧ True ∧ (true = true) ∧ (true = true)) _ (by kernel_rfl) ⟨⟨rfl,⟨rfl,rfl,(by decide)⟩,⟨rfl,rfl,(by decide)⟩,tt⟩,tt,rfl,rfl⟩) ?_
 refine Kk cok tab36 hnt [] [6] (⟨[(6,.i (firstI l.length (evIs l kd ms)))],[],[999]⟩)
  (True ∧ True ∧ (True ∧ (True ∧ True ∧ True) ∧ True) ∧ True ∧ True)
  ⟨tt,tt,⟨tt,⟨tt,tt,tt⟩,tt⟩,tt,tt⟩ ?_
 refine W.ret ?_
 exact endQ_ret (.i (firstI l.length (evIs l kd ms))) (by kernel_rfl) (@cast ((.int .i64 (firstI l.length (evIs l kd ms)) : Value) = .int .i64 (placeE l l.length kd ms)) _ (by kernel_rfl) (congrArg (Value.int .i64) (by rfl)))
theorem ent36 : Entr prog 36 := ⟨_,func36,rfl,by decide⟩
end Go.Proofs.Try

set_option linter.unusedSimpArgs false
set_option linter.unusedVariables false
namespace Go.Proofs.Try
open Go.Ab Go.RowKit
def fs15 : FnS := fnS [.s .events] [.events] (fun _ (h,_) => (.b (validE h),[],True))
abbrev T15 : Tab := lk [(35,fs35),(36,fs36)]
theorem tab15 : TabOK prog T15 := (TabOK.cons ok35 ent35 (TabOK.cons ok36 ent36 TabOK.nil))
set_option maxRecDepth 100000 in
set_option maxHeartbeats 1000000 in
theorem ok15 : FnOK prog 15 fs15 := by
 refine FnOK.mk cok func15 rfl rfl rfl ?_
 rintro fl ⟨(h : List EventD),_⟩ hpre F hnt0 _
 have hnt : F.nt = 69 := hnt0.trans ntmps15
 clear hpre
 refine W.to (⟨[(0,.sl (.events h))],[],[999]⟩) rfl ?_
 refine W.lenOf 0 (.events h) (by kernel_rfl) ?_
 intro hl_h; replace hl_h : List.length h ≤ 9223372036854775807 := hl_h
 refine Kk cok tab15 hnt [] [0] (⟨[(0,.sl (.events h))],[],[999]⟩)
  (True ∧ True)
  ⟨tt,tt⟩ ?_
 refine W.seq ?_
 refine Kk cok tab15 hnt [] [0,8] (⟨[(0,.sl (.events h)),(8,.b (decide ((7 : Int) < (h.length : Int))))],[],[999]⟩)
  (True ∧ True ∧ (True ∧ True ∧ True) ∧ True)
  ⟨tt,tt,⟨tt,tt,tt⟩,tt⟩ ?_
 refine W.ifP ((7 : Int) < (h.length : Int)) (.b (decide ((7 : Int) < (h.length : Int)))) (by kernel_rfl) rfl trivial ?_ ?_
 ·intro h8
  refine Kk cok tab15 hnt [] [2] (⟨[(2,.b false)],[],[999]⟩)
   (True ∧ True)
   ⟨tt,tt⟩ ?_
  refine W.ret (thenQ_ret ?_)
  exact endQ_ret (.b false) (by kernel_rfl) (@cast ((.bool false : Value) = .bool (validE h)) _ (by kernel_rfl) (congrArg Value.bool (by unfold validE; symm; exact and_fl (decide_eq_false (by omega)))))
 ·intro n8
  refine W.skip (thenQ_normal ?_)
  refine W.seq ?_
  refine Kk cok tab15 hnt [] [0,9,10,11] (⟨[(0,.sl (.events h)),(9,.sl (.events h)),(10,.i (h.length : Int)),(11,.i (0 : Int))],[],[999]⟩)
   (True ∧ True ∧ True ∧ True)
   ⟨tt,tt,tt,tt⟩ ?_
  refine W.block ?_
  refine W.loop (ι := Nat) (fun (i : Nat) => (⟨[(0,.sl (.events h)),(9,.sl (.events h)),(10,.i (h.length : Int)),(11,.i ((i : Nat) : Int))],[],[999]⟩ : St))
   (fun (i : Nat) => (i ≤ h.length) ∧ (∀ j,j < i → iAt h j = true))
   (fun (i : Nat) => (h.length - i : Nat)) (0) ?_ ?_ ?_
  ·exact (show (0 ≤ h.length) ∧ (∀ j,j < 0 → iAt h j = true) from ⟨(by first | assumption | omega | rfl | (intro _ hjj; omega) | (simp; done) | (simp; omega)),(by exact upto_zero)⟩)
  ·exact Sub.of [] (@cast (((Sd (.events h)) ∧ (Sd (.events h)) ∧ (Si (h.length : Int)) ∧ ((.int .i64 (0 : Int) : Value) = .int .i64 ((0 : Nat) : Int)) ∧ True) ∧ True ∧ (true = true) ∧ (true = true)) _ (by kernel_rfl) ⟨⟨rfl,rfl,rfl,(congrArg (Value.int .i64) (by first | rfl | omega | assumption | simp | simp_all)),tt⟩,tt,rfl,rfl⟩)
  ·rintro i hC0
   have hC : (i ≤ h.length) ∧ (∀ j,j < i → iAt h j = true) := hC0
   clear hC0
   obtain ⟨hi,hA⟩ := hC
   refine W.to (⟨[(0,.sl (.events h)),(9,.sl (.events h)),(10,.i (h.length : Int)),(11,.i ((i : Nat) : Int))],[],[999]⟩) rfl ?_
   refine Kk cok tab15 hnt [] [0,9,10,11,12] (⟨[(0,.sl (.events h)),(9,.sl (.events h)),(10,.i (h.length : Int)),(11,.i ((i : Nat) : Int)),(12,.b (decide (((i : Nat) : Int) < (h.length : Int))))],[],[999]⟩)
    ((True ∧ True ∧ True) ∧ True)
    ⟨⟨tt,tt,tt⟩,tt⟩ ?_
   refine W.seq ?_
   refine W.ifP (((i : Nat) : Int) < (h.length : Int)) (.b (decide (((i : Nat) : Int) < (h.length : Int)))) (by kernel_rfl) rfl trivial ?_ ?_
   ·intro h12
    refine W.skip (thenQ_normal ?_)
    refine W.seq ?_
    refine W.block ?_
    refine Kk cok tab15 hnt [] [0,3,4,9,10,11] (⟨[(0,.sl (.events h)),(3,.i ((i : Nat) : Int)),(4,.ptr 4 0),(9,.sl (.events h)),(10,.i (h.length : Int)),(11,.i ((i : Nat) : Int))],[(4,⟨47,.fix [.i ((h.getD i default).proc),.i ((h.getD i default).kind),.i ((h.getD i default).msg)]⟩)],[4,999]⟩)
     (True ∧ (True ∧ True ∧ (0 ≤ ((i : Nat) : Int)) ∧ (((i : Nat) : Int) < (h.length : Int))) ∧ True ∧ True ∧ True ∧ (True ∧ True) ∧ True)
     ⟨tt,⟨tt,tt,(by omega),(by omega)⟩,tt,tt,tt,⟨tt,tt⟩,tt⟩ ?_
    refine W.seq ?_
    refine Kk cok tab15 hnt [] [0,3,4,9,10,11,25] (⟨[(0,.sl (.events h)),(3,.i ((i : Nat) : Int)),(4,.ptr 4 0),(9,.sl (.events h)),(10,.i (h.length : Int)),(11,.i ((i : Nat) : Int)),(25,.b ((!(within ((h.getD i default).proc) (0 : Int) (2 : Int))) || (!(within ((h.getD i default).kind) (0 : Int) (2 : Int)))))],[(4,⟨47,.fix [.i ((h.getD i default).proc),.i ((h.getD i default).kind),.i ((h.getD i default).msg)]⟩)],[4,999]⟩)
     ((fun (Z1:Bool)=>(True ∧ (True ∧ ((True ∧ ((True ∧ (True ∧ (True ∧ True))) ∧ True)) ∧ (True ∧ (True ∧ (((!Z1) = true → True) ∧ (((!Z1) = true → (((!Z1) = true) ∧ True)) ∧ (((!Z1) = true → (True ∧ (((((!Z1) = true) ∧ True) ∧ (True ∧ (True ∧ True))) ∧ True))) ∧ (((!Z1) = true → (((!Z1) = true) ∧ True)) ∧ ((True ∧ ((Z1 = true → True) ∧ (Z1 = false → ((!Z1) = true) ∧ True))) ∧ True))))))))))) (!(within ((h.getD i default).proc) (0 : Int) (2 : Int))))
     ⟨tt,tt,⟨tt,⟨tt,tt,tt,tt⟩,tt⟩,tt,tt,(fun _ => trivial),(fun hG => ⟨hG,tt⟩),(fun hG => ⟨tt,⟨⟨hG,tt⟩,tt,tt,tt⟩,tt⟩),(fun hG => ⟨hG,tt⟩),⟨tt,(fun _ => trivial),(fun hp => ⟨(not_t hp),tt⟩)⟩,tt⟩ ?_
    refine W.if' ((!(within ((h.getD i default).proc) (0 : Int) (2 : Int))) || (!(within ((h.getD i default).kind) (0 : Int) (2 : Int)))) (.b ((!(within ((h.getD i default).proc) (0 : Int) (2 : Int))) || (!(within ((h.getD i default).kind) (0 : Int) (2 : Int))))) (by kernel_rfl) rfl trivial ?_ ?_
    ·intro h25
     refine Kk cok tab15 hnt [] [2] (⟨[(2,.b false)],[(4,⟨47,.fix [.i ((h.getD i default).proc),.i ((h.getD i default).kind),.i ((h.getD i default).msg)]⟩)],[4,999]⟩)
      (True ∧ True)
      ⟨tt,tt⟩ ?_
     refine W.ret (thenQ_ret (blockQ_ret (thenQ_ret (thenQ_ret (blockQ_ret (thenQ_ret ?_))))))
     exact endQ_ret (.b false) (by kernel_rfl) (@cast ((.bool false : Value) = .bool (validE h)) _ (by kernel_rfl) (congrArg Value.bool (by unfold validE; symm; exact and_fr (allN_false (i := i) (by omega) (ve_1 h25)))))
    ·intro n25
     refine W.skip (thenQ_normal ?_)
     refine W.seq ?_
     refine Kk cok tab15 hnt [] [0,3,4,9,10,11,28] (⟨[(0,.sl (.events h)),(3,.i ((i : Nat) : Int)),(4,.ptr 4 0),(9,.sl (.events h)),(10,.i (h.length : Int)),(11,.i ((i : Nat) : Int)),(28,.b (decide (((h.getD i default).kind) = (0 : Int))))],[(4,⟨47,.fix [.i ((h.getD i default).proc),.i ((h.getD i default).kind),.i ((h.getD i default).msg)]⟩)],[4,999]⟩)
      (True ∧ True ∧ (True ∧ True ∧ True) ∧ True)
      ⟨tt,tt,⟨tt,tt,tt⟩,tt⟩ ?_
     refine W.ifP (((h.getD i default).kind) = (0 : Int)) (.b (decide (((h.getD i default).kind) = (0 : Int)))) (by kernel_rfl) rfl trivial ?_ ?_
     ·intro h28
      refine W.seq ?_
      refine Kk cok tab15 hnt [] [0,9,10,11,31] (⟨[(0,.sl (.events h)),(9,.sl (.events h)),(10,.i (h.length : Int)),(11,.i ((i : Nat) : Int)),(31,.b (decide (((h.getD i default).msg) ≠ (0 : Int))))],[(4,⟨47,.fix [.i ((h.getD i default).proc),.i ((h.getD i default).kind),.i ((h.getD i default).msg)]⟩)],[4,999]⟩)
       (True ∧ True ∧ (True ∧ True ∧ True) ∧ True)
       ⟨tt,tt,⟨tt,tt,tt⟩,tt⟩ ?_
      refine W.ifP (((h.getD i default).msg) ≠ (0 : Int)) (.b (decide (((h.getD i default).msg) ≠ (0 : Int)))) (by kernel_rfl) rfl trivial ?_ ?_
      ·intro h31
       refine Kk cok tab15 hnt [] [2] (⟨[(2,.b false)],[(4,⟨47,.fix [.i ((h.getD i default).proc),.i ((h.getD i default).kind),.i ((h.getD i default).msg)]⟩)],[4,999]⟩)
        (True ∧ True)
        ⟨tt,tt⟩ ?_
       refine W.ret (thenQ_ret (thenQ_ret (blockQ_ret (thenQ_ret (thenQ_ret (blockQ_ret (thenQ_ret ?_)))))))
       exact endQ_ret (.b false) (by kernel_rfl) (@cast ((.bool false : Value) = .bool (validE h)) _ (by kernel_rfl) (congrArg Value.bool (by unfold validE; symm; exact and_fr (allN_false (i := i) (by omega) (ve_2 h28 h31)))))
      ·intro n31
       refine W.skip (thenQ_normal ?_)
       refine W.exit (thenQ_exit (blockQ_hit ?_))
       refine thenQ_normal ?_
       refine Lk cok tab15 hnt [] (⟨[(0,.sl (.events h)),(9,.sl (.events h)),(10,.i (h.length : Int)),(11,.i (((i + 1) : Nat) : Int)),(31,.b (decide (((h.getD i default).msg) ≠ (0 : Int)))),(68,.i (((i + 1) : Nat) : Int))],[(4,⟨47,.fix [.i ((h.getD i default).proc),.i ((h.getD i default).kind),.i ((h.getD i default).msg)]⟩)],[4,999]⟩)
        ((True ∧ True ∧ (Fits .i64 (((i + 1) : Nat) : Int))) ∧ True ∧ True)
        ⟨⟨tt,tt,(by exact fits_i64 (by omega) (by omega))⟩,tt,tt⟩ ?_
       refine thenQ_normal ?_
       refine ⟨((i + 1)),(show ((i + 1) ≤ h.length) ∧ (∀ j,j < (i + 1) → iAt h j = true) from ⟨(by first | assumption | omega | rfl | (intro _ hjj; omega) | (simp; done) | (simp; omega)),(by first | exact upto_succ hA (ve_6 (by omega) n25 n28 n46 (.inr n67)) | exact upto_succ hA (ve_6 (by omega) n25 n28 n46 (.inl n49)) | exact upto_succ hA (ve_3 n25 h28 (by omega)))⟩),(show h.length - (i + 1) < h.length - i from (by first | omega | (simp_all; omega))),?_⟩
       exact Sub.of [] (@cast (((Sd (.events h)) ∧ (Sd (.events h)) ∧ (Si (h.length : Int)) ∧ (Si (((i + 1) : Nat) : Int)) ∧ True) ∧ True ∧ (true = true) ∧ (true = true)) _ (by kernel_rfl) ⟨⟨rfl,rfl,rfl,rfl,tt⟩,tt,rfl,rfl⟩)
     ·intro n28
      refine W.skip (thenQ_normal ?_)
      refine W.seq ?_
      refine W.KA cok tab15 hnt [] [0,3,4,9,10,11,46] (⟨[(0,.sl (.events h)),(3,.i ((i : Nat) : Int)),(4,.ptr 4 0),(9,.sl (.events h)),(10,.i (h.length : Int)),(11,.i ((i : Nat) : Int)),(46,.b ((!(within ((h.getD i default).msg) (0 : Int) (6 : Int))) || (decide ((0 : Int) ≤ (placeE (List.take i h) (List.take i h).length ((h.getD i default).kind) ((h.getD i default).msg))))))],[(4,⟨47,.fix [.i ((h.getD i default).proc),.i ((h.getD i default).kind),.i ((h.getD i default).msg)]⟩)],[4,999]⟩)
       ((fun (Z1:Bool)=>(True ∧ (True ∧ ((True ∧ ((True ∧ (True ∧ (True ∧ True))) ∧ True)) ∧ (True ∧ (True ∧ (((!Z1) = true → True) ∧ (((!Z1) = true → True) ∧ (((!Z1) = true → ((((!Z1) = true) ∧ True) ∧ (True ∧ ((((!Z1) = true) ∧ True) ∧ ((0 ≤ (0 : Int)) ∧ (((0 : Int) ≤ ((i : Nat) : Int)) ∧ (((i : Nat) : Int) ≤ (h.length : Int)))))))) ∧ (((!Z1) = true → True) ∧ (((!Z1) = true → (((!Z1) = true) ∧ True)) ∧ (((!Z1) = true → True) ∧ (((!Z1) = true → (((!Z1) = true) ∧ True)) ∧ (((!Z1) = true → (True ∧ (((((!Z1) = true) ∧ True) ∧ ((((!Z1) = true) ∧ True) ∧ ((((!Z1) = true) ∧ True) ∧ True))) ∧ True))) ∧ (((!Z1) = true → ((((!Z1) = true) ∧ True) ∧ (True ∧ True))) ∧ ((True ∧ ((Z1 = true → True) ∧ (Z1 = false → ((!Z1) = true) ∧ True))) ∧ True)))))))))))))))) (!(within ((h.getD i default).msg) (0 : Int) (6 : Int)))) (by kernel_rfl) (by kernel_rfl)
       ⟨tt,tt,⟨tt,⟨tt,tt,tt,tt⟩,tt⟩,tt,tt,(fun _ => trivial),(fun _ => trivial),(fun hG => ⟨⟨hG,tt⟩,tt,⟨hG,tt⟩,(by omega),(by omega),(by omega)⟩),(fun _ => trivial),(fun hG => ⟨hG,tt⟩),(fun _ => trivial),(fun hG => ⟨hG,tt⟩),(fun hG => ⟨tt,⟨⟨hG,tt⟩,⟨hG,tt⟩,⟨hG,tt⟩,tt⟩,tt⟩),(fun hG => ⟨⟨hG,tt⟩,tt,tt⟩),⟨tt,(fun _ => trivial),(fun hp => ⟨(not_t hp),tt⟩)⟩,tt⟩ ?_
      refine W.if' ((!(within ((h.getD i default).msg) (0 : Int) (6 : Int))) || (decide ((0 : Int) ≤ (placeE (List.take i h) (List.take i h).length ((h.getD i default).kind) ((h.getD i default).msg))))) (.b ((!(within ((h.getD i default).msg) (0 : Int) (6 : Int))) || (decide ((0 : Int) ≤ (placeE (List.take i h) (List.take i h).length ((h.getD i default).kind) ((h.getD i default).msg)))))) (by kernel_rfl) rfl trivial ?_ ?_
      ·intro h46
       refine Kk cok tab15 hnt [] [2] (⟨[(2,.b false)],[(4,⟨47,.fix [.i ((h.getD i default).proc),.i ((h.getD i default).kind),.i ((h.getD i default).msg)]⟩)],[4,999]⟩)
        (True ∧ True)
        ⟨tt,tt⟩ ?_
       refine W.ret (thenQ_ret (blockQ_ret (thenQ_ret (thenQ_ret (blockQ_ret (thenQ_ret ?_))))))
       exact endQ_ret (.b false) (by kernel_rfl) (@cast ((.bool false : Value) = .bool (validE h)) _ (by kernel_rfl) (congrArg Value.bool (by unfold validE; symm; exact and_fr (allN_false (i := i) (by omega) (ve_4 (by omega) n28 h46)))))
      ·intro n46
       have n46_0 : ¬ ((0 : Int) ≤ (placeE (List.take i h) (List.take i h).length ((h.getD i default).kind) ((h.getD i default).msg))) := of_decide_eq_false (or_r n46)
       refine W.skip (thenQ_normal ?_)
       refine Kk cok tab15 hnt [] [0,3,4,9,10,11,49] (⟨[(0,.sl (.events h)),(3,.i ((i : Nat) : Int)),(4,.ptr 4 0),(9,.sl (.events h)),(10,.i (h.length : Int)),(11,.i ((i : Nat) : Int)),(49,.b (decide (((h.getD i default).kind) = (2 : Int))))],[(4,⟨47,.fix [.i ((h.getD i default).proc),.i ((h.getD i default).kind),.i ((h.getD i default).msg)]⟩)],[4,999]⟩)
        (True ∧ True ∧ (True ∧ True ∧ True) ∧ True)
        ⟨tt,tt,⟨tt,tt,tt⟩,tt⟩ ?_
       refine W.ifP (((h.getD i default).kind) = (2 : Int)) (.b (decide (((h.getD i default).kind) = (2 : Int)))) (by kernel_rfl) rfl trivial ?_ ?_
       ·intro h49
        refine W.KA cok tab15 hnt [] [0,4,5,9,10,11] (⟨[(0,.sl (.events h)),(4,.ptr 4 0),(5,.i (placeE (List.take i h) (List.take i h).length (1 : Int) ((h.getD i default).msg))),(9,.sl (.events h)),(10,.i (h.length : Int)),(11,.i ((i : Nat) : Int))],[(4,⟨47,.fix [.i ((h.getD i default).proc),.i ((h.getD i default).kind),.i ((h.getD i default).msg)]⟩)],[4,999]⟩)
         (True ∧ True ∧ (True ∧ True ∧ True ∧ (0 ≤ (0 : Int)) ∧ ((0 : Int) ≤ ((i : Nat) : Int)) ∧ (((i : Nat) : Int) ≤ (h.length : Int))) ∧ True ∧ True ∧ (True ∧ (True ∧ True ∧ True ∧ True) ∧ True) ∧ True ∧ True) (by kernel_rfl) (by kernel_rfl)
         ⟨tt,tt,⟨tt,tt,tt,(by omega),(by omega),(by omega)⟩,tt,tt,⟨tt,⟨tt,tt,tt,tt⟩,tt⟩,tt,tt⟩ ?_
        refine W.KA cok tab15 hnt [] [0,9,10,11,67] (⟨[(0,.sl (.events h)),(9,.sl (.events h)),(10,.i (h.length : Int)),(11,.i ((i : Nat) : Int)),(67,.b ((decide ((placeE (List.take i h) (List.take i h).length (1 : Int) ((h.getD i default).msg)) < (0 : Int))) || (decide (((h.getD (Int.toNat (placeE (List.take i h) (List.take i h).length (1 : Int) ((h.getD i default).msg))) default).proc) = ((h.getD i default).proc)))))],[(4,⟨47,.fix [.i ((h.getD i default).proc),.i ((h.getD i default).kind),.i ((h.getD i default).msg)]⟩)],[4,999]⟩)
         ((fun (Z1:Bool)=>(True ∧ ((True ∧ (True ∧ True)) ∧ (True ∧ (((!Z1) = true → True) ∧ (((!Z1) = true → True) ∧ (((!Z1) = true → ((((!Z1) = true) ∧ True) ∧ ((((!Z1) = true) ∧ True) ∧ ((0 ≤ (placeE (List.take i h) (List.take i h).length (1 : Int) ((h.getD i default).msg))) ∧ ((placeE (List.take i h) (List.take i h).length (1 : Int) ((h.getD i default).msg)) < (h.length : Int)))))) ∧ (((!Z1) = true → (((!Z1) = true) ∧ True)) ∧ (((!Z1) = true → (((!Z1) = true) ∧ True)) ∧ (((!Z1) = true → True) ∧ (((!Z1) = true → (((!Z1) = true) ∧ True)) ∧ (((!Z1) = true → ((((!Z1) = true) ∧ True) ∧ ((((!Z1) = true) ∧ True) ∧ True))) ∧ ((True ∧ ((Z1 = true → True) ∧ (Z1 = false → ((!Z1) = true) ∧ True))) ∧ True))))))))))))) (decide ((placeE (List.take i h) (List.take i h).length (1 : Int) ((h.getD i default).msg)) < (0 : Int)))) (by kernel_rfl) (by kernel_rfl)
         ⟨tt,⟨tt,tt,tt⟩,tt,(fun _ => trivial),(fun _ => trivial),(fun hG => ⟨⟨hG,tt⟩,⟨hG,tt⟩,(by have hg0 : ¬ ((placeE (List.take i h) (List.take i h).length (1 : Int) ((h.getD i default).msg)) < (0 : Int)) := of_decide_eq_false (not_f hG); have h9 := place_lt (h := h) (i := i) (k := 1) (m := (h.getD i default).msg); have h8 := ve_p (h := h) (i := i) (by omega) 1 (h.getD i default).msg; omega),(by have hg0 : ¬ ((placeE (List.take i h) (List.take i h).length (1 : Int) ((h.getD i default).msg)) < (0 : Int)) := of_decide_eq_false (not_f hG); have h9 := place_lt (h := h) (i := i) (k := 1) (m := (h.getD i default).msg); have h8 := ve_p (h := h) (i := i) (by omega) 1 (h.getD i default).msg; omega)⟩),(fun hG => ⟨hG,tt⟩),(fun hG => ⟨hG,tt⟩),(fun _ => trivial),(fun hG => ⟨hG,tt⟩),(fun hG => ⟨⟨hG,tt⟩,⟨hG,tt⟩,tt⟩),⟨tt,(fun _ => trivial),(fun hp => ⟨(not_t hp),tt⟩)⟩,tt⟩ ?_
        refine W.if' ((decide ((placeE (List.take i h) (List.take i h).length (1 : Int) ((h.getD i default).msg)) < (0 : Int))) || (decide (((h.getD (Int.toNat (placeE (List.take i h) (List.take i h).length (1 : Int) ((h.getD i default).msg))) default).proc) = ((h.getD i default).proc)))) (.b ((decide ((placeE (List.take i h) (List.take i h).length (1 : Int) ((h.getD i default).msg)) < (0 : Int))) || (decide (((h.getD (Int.toNat (placeE (List.take i h) (List.take i h).length (1 : Int) ((h.getD i default).msg))) default).proc) = ((h.getD i default).proc))))) (by kernel_rfl) rfl trivial ?_ ?_
        ·intro h67
         refine Kk cok tab15 hnt [] [2] (⟨[(2,.b false)],[(4,⟨47,.fix [.i ((h.getD i default).proc),.i ((h.getD i default).kind),.i ((h.getD i default).msg)]⟩)],[4,999]⟩)
          (True ∧ True)
          ⟨tt,tt⟩ ?_
         refine W.ret (blockQ_ret (thenQ_ret (thenQ_ret (blockQ_ret (thenQ_ret ?_)))))
         exact endQ_ret (.b false) (by kernel_rfl) (@cast ((.bool false : Value) = .bool (validE h)) _ (by kernel_rfl) (congrArg Value.bool (by unfold validE; symm; exact and_fr (allN_false (i := i) (by omega) (ve_5 (by omega) h49 h67)))))
        ·intro n67
         have n67_0 : ¬ ((placeE (List.take i h) (List.take i h).length (1 : Int) ((h.getD i default).msg)) < (0 : Int)) := of_decide_eq_false (or_l n67)
         have n67_1 : ¬ (((h.getD (Int.toNat (placeE (List.take i h) (List.take i h).length (1 : Int) ((h.getD i default).msg))) default).proc) = ((h.getD i default).proc)) := of_decide_eq_false (or_r n67)
         refine W.skip (blockQ_normal (thenQ_normal ?_))
         refine Lk cok tab15 hnt [] (⟨[(0,.sl (.events h)),(9,.sl (.events h)),(10,.i (h.length : Int)),(11,.i (((i + 1) : Nat) : Int)),(67,.b ((decide ((placeE (List.take i h) (List.take i h).length (1 : Int) ((h.getD i default).msg)) < (0 : Int))) || (decide (((h.getD (Int.toNat (placeE (List.take i h) (List.take i h).length (1 : Int) ((h.getD i default).msg))) default).proc) = ((h.getD i default).proc))))),(68,.i (((i + 1) : Nat) : Int))],[(4,⟨47,.fix [.i ((h.getD i default).proc),.i ((h.getD i default).kind),.i ((h.getD i default).msg)]⟩)],[4,999]⟩)
          ((True ∧ True ∧ (Fits .i64 (((i + 1) : Nat) : Int))) ∧ True ∧ True)
          ⟨⟨tt,tt,(by exact fits_i64 (by omega) (by omega))⟩,tt,tt⟩ ?_
         refine thenQ_normal ?_
         refine ⟨((i + 1)),(show ((i + 1) ≤ h.length) ∧ (∀ j,j < (i + 1) → iAt h j = true) from ⟨(by first | assumption | omega | rfl | (intro _ hjj; omega) | (simp; done) | (simp; omega)),(by first | exact upto_succ hA (ve_6 (by omega) n25 n28 n46 (.inr n67)) | exact upto_succ hA (ve_6 (by omega) n25 n28 n46 (.inl n49)) | exact upto_succ hA (ve_3 n25 h28 (by omega)))⟩),(show h.length - (i + 1) < h.length - i from (by first | omega | (simp_all; omega))),?_⟩
         exact Sub.of [] (@cast (((Sd (.events h)) ∧ (Sd (.events h)) ∧ (Si (h.length : Int)) ∧ (Si (((i + 1) : Nat) : Int)) ∧ True) ∧ True ∧ (true = true) ∧ (true = true)) _ (by kernel_rfl) ⟨⟨rfl,rfl,rfl,rfl,tt⟩,tt,rfl,rfl⟩)
       ·intro n49
        refine W.skip (blockQ_normal (thenQ_normal ?_))
        refine Lk cok tab15 hnt [] (⟨[(0,.sl (.events h)),(3,.i ((i : Nat) : Int)),(4,.ptr 4 0),(9,.sl (.events h)),(10,.i (h.length : Int)),(11,.i (((i + 1) : Nat) : Int)),(49,.b (decide (((h.getD i default).kind) = (2 : Int)))),(68,.i (((i + 1) : Nat) : Int))],[(4,⟨47,.fix [.i ((h.getD i default).proc),.i ((h.getD i default).kind),.i ((h.getD i default).msg)]⟩)],[4,999]⟩)
         ((True ∧ True ∧ (Fits .i64 (((i + 1) : Nat) : Int))) ∧ True ∧ True)
         ⟨⟨tt,tt,(by exact fits_i64 (by omega) (by omega))⟩,tt,tt⟩ ?_
        refine thenQ_normal ?_
        refine ⟨((i + 1)),(show ((i + 1) ≤ h.length) ∧ (∀ j,j < (i + 1) → iAt h j = true) from ⟨(by first | assumption | omega | rfl | (intro _ hjj; omega) | (simp; done) | (simp; omega)),(by first | exact upto_succ hA (ve_6 (by omega) n25 n28 n46 (.inr n67)) | exact upto_succ hA (ve_6 (by omega) n25 n28 n46 (.inl n49)) | exact upto_succ hA (ve_3 n25 h28 (by omega)))⟩),(show h.length - (i + 1) < h.length - i from (by first | omega | (simp_all; omega))),?_⟩
        exact Sub.of [] (@cast (((Sd (.events h)) ∧ (Sd (.events h)) ∧ (Si (h.length : Int)) ∧ (Si (((i + 1) : Nat) : Int)) ∧ True) ∧ True ∧ (true = true) ∧ (true = true)) _ (by kernel_rfl) ⟨⟨rfl,rfl,rfl,rfl,tt⟩,tt,rfl,rfl⟩)
   ·intro n12
    refine W.exit (thenQ_exit (thenQ_exit (blockQ_hit ?_)))
    refine thenQ_normal ?_
    refine Kk cok tab15 hnt [] [2] (⟨[(2,.b true)],[],[999]⟩)
     (True ∧ True)
     ⟨tt,tt⟩ ?_
    refine W.ret ?_
    exact endQ_ret (.b true) (by kernel_rfl) (@cast ((.bool true : Value) = .bool (validE h)) _ (by kernel_rfl) (congrArg Value.bool (by unfold validE; symm; exact and_t (decide_eq_true (by omega)) (allN_true (fun j hj => hA j (by omega))))))
theorem ent15 : Entr prog 15 := ⟨_,func15,rfl,by decide⟩
end Go.Proofs.Try

set_option linter.unusedSimpArgs false
set_option linter.unusedVariables false
namespace Go.Proofs.Try
open Go.Ab Go.RowKit
def fs22 : FnS := fnS [.s .events,.o] [.events,.int] (fun _ (h,c,_) => (.b (isSetE h c),[],True))
abbrev T22 : Tab := lk [(15,fs15),(35,fs35)]
theorem tab22 : TabOK prog T22 := (TabOK.cons ok15 ent15 (TabOK.cons ok35 ent35 TabOK.nil))
set_option maxRecDepth 100000 in
set_option maxHeartbeats 1000000 in
theorem ok22 : FnOK prog 22 fs22 := by
 refine FnOK.mk cok func22 rfl rfl rfl ?_
 rintro fl ⟨(h : List EventD),(c : Int),_⟩ hpre F hnt0 _
 have hnt : F.nt = 16 := hnt0.trans ntmps22
 clear hpre
 refine W.to (⟨[(0,.sl (.events h)),(1,.i c)],[],[999]⟩) rfl ?_
 refine W.lenOf 0 (.events h) (by kernel_rfl) ?_
 intro hl_h; replace hl_h : List.length h ≤ 9223372036854775807 := hl_h
 refine Kk cok tab22 hnt [] [0,1] (⟨[(0,.sl (.events h)),(1,.i c)],[],[999]⟩)
  (True ∧ True)
  ⟨tt,tt⟩ ?_
 refine Kk cok tab22 hnt [] [4] (⟨[(4,.b ((validE h) && (within c (0 : Int) ((shlI .i64 (1 : Int) (h.length : Int)) - (1 : Int)))))],[],[999]⟩)
  ((fun (Z1:Bool)=>(True ∧ ((True ∧ ((True ∧ True) ∧ True)) ∧ (True ∧ ((Z1 = true → True) ∧ ((Z1 = true → True) ∧ ((Z1 = true → ((Z1 = true) ∧ True)) ∧ ((Z1 = true → (((Z1 = true) ∧ True) ∧ (Fits .u64 (h.length : Int)))) ∧ ((Z1 = true → (True ∧ (((Z1 = true) ∧ True) ∧ ((0 ≤ (h.length : Int)) ∧ (Fits .i64 (shlI .i64 (1 : Int) (h.length : Int))))))) ∧ ((Z1 = true → (((Z1 = true) ∧ True) ∧ (True ∧ (Fits .i64 ((shlI .i64 (1 : Int) (h.length : Int)) - (1 : Int)))))) ∧ ((Z1 = true → (True ∧ ((((Z1 = true) ∧ True) ∧ (True ∧ (((Z1 = true) ∧ True) ∧ True))) ∧ True))) ∧ ((True ∧ ((Z1 = true → (Z1 = true) ∧ True) ∧ (Z1 = false → True))) ∧ (True ∧ True))))))))))))) (validE h))
  ⟨tt,⟨tt,⟨tt,tt⟩,tt⟩,tt,(fun _ => trivial),(fun _ => trivial),(fun hG => ⟨hG,tt⟩),(fun hG => ⟨⟨hG,tt⟩,(by have hn : h.length ≤ 7 := of_decide_eq_true (and_l hG); exact fits_u64 (by omega) (by omega))⟩),(fun hG => ⟨tt,⟨hG,tt⟩,(by omega),(by have hn : h.length ≤ 7 := of_decide_eq_true (and_l hG); exact fits_shl (by omega))⟩),(fun hG => ⟨⟨hG,tt⟩,tt,(by have hn : h.length ≤ 7 := of_decide_eq_true (and_l hG); rw [shl_one (by omega)]; have hp7 := Nat.pow_le_pow_right (show 0 < 2 by omega) hn; have hp0 := Nat.pow_pos (n := h.length) (show 0 < 2 by omega); exact fits_i64 (by omega) (by omega))⟩),(fun hG => ⟨tt,⟨⟨hG,tt⟩,tt,⟨hG,tt⟩,tt⟩,tt⟩),⟨tt,(fun hp => ⟨hp,tt⟩),(fun _ => trivial)⟩,tt,tt⟩ ?_
 refine W.ret ?_
 exact endQ_ret (.b ((validE h) && (within c (0 : Int) ((shlI .i64 (1 : Int) (h.length : Int)) - (1 : Int))))) (by kernel_rfl) (@cast ((.bool ((validE h) && (within c (0 : Int) ((shlI .i64 (1 : Int) (h.length : Int)) - (1 : Int)))) : Value) = .bool (isSetE h c)) _ (by kernel_rfl) (congrArg Value.bool (by exact set_val)))
theorem ent22 : Entr prog 22 := ⟨_,func22,rfl,by decide⟩
end Go.Proofs.Try

set_option linter.unusedSimpArgs false
set_option linter.unusedVariables false
namespace Go.Proofs.Try
open Go.Ab Go.RowKit
def fs30 : FnS := fnS [.s .events] [.events] (fun _ (h,_) => (.sl (.ints (pastL h h.length)),[],(h.length ≤ 60)))
abbrev T30 : Tab := lk []
theorem tab30 : TabOK prog T30 := TabOK.nil
set_option maxRecDepth 100000 in
set_option maxHeartbeats 1000000 in
theorem ok30 : FnOK prog 30 fs30 := by
 refine FnOK.mk cok func30 rfl rfl rfl ?_
 rintro fl ⟨(h : List EventD),_⟩ hpre F hnt0 _
 have hnt : F.nt = 64 := hnt0.trans ntmps30
 replace hpre : (h.length ≤ 60) := hpre
 have hn := hpre
 refine W.to (⟨[(0,.sl (.events h))],[],[999]⟩) rfl ?_
 refine W.lenOf 0 (.events h) (by kernel_rfl) ?_
 intro hl_h; replace hl_h : List.length h ≤ 9223372036854775807 := hl_h
 refine Kk cok tab30 hnt [] [0] (⟨[(0,.sl (.events h))],[],[999]⟩)
  (True ∧ True)
  ⟨tt,tt⟩ ?_
 refine Kk cok tab30 hnt [9] [0,3] (⟨[(0,.sl (.events h)),(3,.own 9 (List.length ([] : List Int)))],[(9,⟨3,.row (.ints ([] : List Int))⟩)],[9,999]⟩)
  (True ∧ True ∧ True)
  ⟨tt,tt,tt⟩ ?_
 refine W.seq ?_
 refine Kk cok tab30 hnt [] [0,3,10,11,12] (⟨[(0,.sl (.events h)),(3,.own 9 (List.length ([] : List Int))),(10,.sl (.events h)),(11,.i (h.length : Int)),(12,.i (0 : Int))],[(9,⟨3,.row (.ints ([] : List Int))⟩)],[9,999]⟩)
  (True ∧ True ∧ True ∧ True)
  ⟨tt,tt,tt,tt⟩ ?_
 refine W.block ?_
 refine W.loop (ι := Nat × (List Int)) (fun (x : Nat × (List Int)) => match x with | (i,o) => (⟨[(0,.sl (.events h)),(3,.own 9 o.length),(10,.sl (.events h)),(11,.i (h.length : Int)),(12,.i ((i : Nat) : Int))],[(9,⟨3,.row (.ints o)⟩)],[9,999]⟩ : St))
  (fun (x : Nat × (List Int)) => match x with | (i,o) => (i ≤ h.length) ∧ (o = pastL h i))
  (fun (x : Nat × (List Int)) => match x with | (i,o) => (h.length - i : Nat)) (0,([] : List Int)) ?_ ?_ ?_
 ·exact (show (0 ≤ h.length) ∧ (([] : List Int) = pastL h 0) from ⟨(by first | assumption | omega | rfl | (intro _ hjj; omega) | (simp; done) | (simp; omega)),(by rfl)⟩)
 ·exact Sub.of [] (@cast (((Sd (.events h)) ∧ (((9 : Nat) = 9) ∧ ((List.length ([] : List Int)) = (List.length ([] : List Int))) ∧ ((9 : Nat) ∈ ([9,999] : List Nat))) ∧ (Sd (.events h)) ∧ (Si (h.length : Int)) ∧ ((.int .i64 (0 : Int) : Value) = .int .i64 ((0 : Nat) : Int)) ∧ True) ∧ ((((3 : Nat) = 3) ∧ (Sd (.ints ([] : List Int))) ∧ ((9 : Nat) ∈ ([9,999] : List Nat))) ∧ True) ∧ (true = true) ∧ (true = true)) _ (by kernel_rfl) ⟨⟨rfl,⟨rfl,rfl,(by decide)⟩,rfl,rfl,(congrArg (Value.int .i64) (by first | rfl | omega | assumption | simp | simp_all)),tt⟩,⟨⟨rfl,rfl,(by decide)⟩,tt⟩,rfl,rfl⟩)
 ·rintro ⟨i,o⟩ hC0
  have hC : (i ≤ h.length) ∧ (o = pastL h i) := hC0
  clear hC0
  obtain ⟨hi,ho⟩ := hC
  refine W.to (⟨[(0,.sl (.events h)),(3,.own 9 o.length),(10,.sl (.events h)),(11,.i (h.length : Int)),(12,.i ((i : Nat) : Int))],[(9,⟨3,.row (.ints o)⟩)],[9,999]⟩) rfl ?_
  have hol : o.length = i := by rw [ho]; exact pastL_len h i
  refine Kk cok tab30 hnt [] [0,3,10,11,12,13] (⟨[(0,.sl (.events h)),(3,.own 9 o.length),(10,.sl (.events h)),(11,.i (h.length : Int)),(12,.i ((i : Nat) : Int)),(13,.b (decide (((i : Nat) : Int) < (h.length : Int))))],[(9,⟨3,.row (.ints o)⟩)],[9,999]⟩)
   ((True ∧ True ∧ True) ∧ True)
   ⟨⟨tt,tt,tt⟩,tt⟩ ?_
  refine W.seq ?_
  refine W.ifP (((i : Nat) : Int) < (h.length : Int)) (.b (decide (((i : Nat) : Int) < (h.length : Int)))) (by kernel_rfl) rfl trivial ?_ ?_
  ·intro h13
   refine W.skip (thenQ_normal ?_)
   refine W.seq ?_
   refine W.block ?_
   refine Kk cok tab30 hnt [] [0,3,4,5,10,11,12] (⟨[(0,.sl (.events h)),(3,.own 9 o.length),(4,.i ((i : Nat) : Int)),(5,.ptr 5 0),(10,.sl (.events h)),(11,.i (h.length : Int)),(12,.i ((i : Nat) : Int))],[(5,⟨47,.fix [.i ((h.getD i default).proc),.i ((h.getD i default).kind),.i ((h.getD i default).msg)]⟩),(9,⟨3,.row (.ints o)⟩)],[5,9,999]⟩)
    (True ∧ (True ∧ True ∧ (0 ≤ ((i : Nat) : Int)) ∧ (((i : Nat) : Int) < (h.length : Int))) ∧ True ∧ True ∧ True ∧ (True ∧ True) ∧ True)
    ⟨tt,⟨tt,tt,(by omega),(by omega)⟩,tt,tt,tt,⟨tt,tt⟩,tt⟩ ?_
   refine Kk cok tab30 hnt [] [0,3,4,5,6,10,11,12] (⟨[(0,.sl (.events h)),(3,.own 9 o.length),(4,.i ((i : Nat) : Int)),(5,.ptr 5 0),(6,.i (shlI .i64 (1 : Int) ((i : Nat) : Int))),(10,.sl (.events h)),(11,.i (h.length : Int)),(12,.i ((i : Nat) : Int))],[(5,⟨47,.fix [.i ((h.getD i default).proc),.i ((h.getD i default).kind),.i ((h.getD i default).msg)]⟩),(9,⟨3,.row (.ints o)⟩)],[5,9,999]⟩)
    (True ∧ (True ∧ (Fits .u64 ((i : Nat) : Int))) ∧ (True ∧ True ∧ (0 ≤ ((i : Nat) : Int)) ∧ (Fits .i64 (shlI .i64 (1 : Int) ((i : Nat) : Int)))) ∧ True ∧ True)
    ⟨tt,⟨tt,(by exact fits_u64 (by omega) (by omega))⟩,⟨tt,tt,(by omega),(by exact fits_shl (by omega))⟩,tt,tt⟩ ?_
   refine W.seq ?_
   refine Kk cok tab30 hnt [] [0,3,5,6,10,11,12,22,23,24] (⟨[(0,.sl (.events h)),(3,.own 9 o.length),(5,.ptr 5 0),(6,.i (shlI .i64 (1 : Int) ((i : Nat) : Int))),(10,.sl (.events h)),(11,.i (h.length : Int)),(12,.i ((i : Nat) : Int)),(22,.sl (.events (List.take i h))),(23,.i (((List.length (List.take i h)) : Nat) : Int)),(24,.i (0 : Int))],[(5,⟨47,.fix [.i ((h.getD i default).proc),.i ((h.getD i default).kind),.i ((h.getD i default).msg)]⟩),(9,⟨3,.row (.ints o)⟩)],[5,9,999]⟩)
    (True ∧ True ∧ (True ∧ True ∧ True ∧ (0 ≤ (0 : Int)) ∧ ((0 : Int) ≤ ((i : Nat) : Int)) ∧ (((i : Nat) : Int) ≤ (h.length : Int))) ∧ True ∧ True ∧ True)
    ⟨tt,tt,⟨tt,tt,tt,(by omega),(by omega),(by omega)⟩,tt,tt,tt⟩ ?_
   refine W.block ?_
   refine W.loop (ι := Nat × Int) (fun (x : Nat × Int) => match x with | (k,x) => (⟨[(0,.sl (.events h)),(3,.own 9 o.length),(5,.ptr 5 0),(6,.i x),(10,.sl (.events h)),(11,.i (h.length : Int)),(12,.i ((i : Nat) : Int)),(22,.sl (.events (List.take i h))),(23,.i (((List.length (List.take i h)) : Nat) : Int)),(24,.i ((k : Nat) : Int))],[(5,⟨47,.fix [.i ((h.getD i default).proc),.i ((h.getD i default).kind),.i ((h.getD i default).msg)]⟩),(9,⟨3,.row (.ints o)⟩)],[5,9,999]⟩ : St))
    (fun (x : Nat × Int) => match x with | (k,x) => (k ≤ i) ∧ (x = pastStep h (pastL h i) i k))
    (fun (x : Nat × Int) => match x with | (k,x) => (i - k : Nat)) (0,(shlI .i64 (1 : Int) ((i : Nat) : Int))) ?_ ?_ ?_
   ·exact (show (0 ≤ i) ∧ ((shlI .i64 (1 : Int) ((i : Nat) : Int)) = pastStep h (pastL h i) i 0) from ⟨(by first | assumption | omega | rfl | (intro _ hjj; omega) | (simp; done) | (simp; omega)),(by first | rfl | (rw [shl_one (by omega),← power_nat]; rfl))⟩)
   ·exact Sub.of [] (@cast (((Sd (.events h)) ∧ (((9 : Nat) = 9) ∧ (o.length = o.length) ∧ ((9 : Nat) ∈ ([5,9,999] : List Nat))) ∧ (((5 : Nat) = 5) ∧ ((0 : Nat) = 0) ∧ ((5 : Nat) ∈ ([5,9,999] : List Nat))) ∧ (Si (shlI .i64 (1 : Int) ((i : Nat) : Int))) ∧ (Sd (.events h)) ∧ (Si (h.length : Int)) ∧ (Si ((i : Nat) : Int)) ∧ (Sd (.events (List.take i h))) ∧ (Si (((List.length (List.take i h)) : Nat) : Int)) ∧ ((.int .i64 (0 : Int) : Value) = .int .i64 ((0 : Nat) : Int)) ∧ True) ∧ ((((47 : Nat) = 47) ∧ ((Si ((h.getD i default).proc)) ∧ (Si ((h.getD i default).kind)) ∧ (Si ((h.getD i default).msg)) ∧ True) ∧ ((5 : Nat) ∈ ([5,9,999] : List Nat))) ∧ (((3 : Nat) = 3) ∧ (Sd (.ints o)) ∧ ((9 : Nat) ∈ ([5,9,999] : List Nat))) ∧ True) ∧ (true = true) ∧ (true = true)) _ (by kernel_rfl) ⟨⟨rfl,⟨rfl,rfl,(by decide)⟩,⟨rfl,rfl,(by decide)⟩,rfl,rfl,rfl,rfl,rfl,rfl,(congrArg (Value.int .i64) (by first | rfl | omega | assumption | simp | simp_all)),tt⟩,⟨⟨rfl,⟨rfl,rfl,rfl,tt⟩,(by decide)⟩,⟨rfl,rfl,(by decide)⟩,tt⟩,rfl,rfl⟩)
   ·rintro ⟨k,x⟩ hC0
    have hC : (k ≤ i) ∧ (x = pastStep h (pastL h i) i k) := hC0
    clear hC0
    obtain ⟨hk,hx⟩ := hC
    refine W.to (⟨[(0,.sl (.events h)),(3,.own 9 o.length),(5,.ptr 5 0),(6,.i x),(10,.sl (.events h)),(11,.i (h.length : Int)),(12,.i ((i : Nat) : Int)),(22,.sl (.events (List.take i h))),(23,.i (((List.length (List.take i h)) : Nat) : Int)),(24,.i ((k : Nat) : Int))],[(5,⟨47,.fix [.i ((h.getD i default).proc),.i ((h.getD i default).kind),.i ((h.getD i default).msg)]⟩),(9,⟨3,.row (.ints o)⟩)],[5,9,999]⟩) rfl ?_
    refine Kk cok tab30 hnt [] [0,3,5,6,10,11,12,22,23,24,25] (⟨[(0,.sl (.events h)),(3,.own 9 o.length),(5,.ptr 5 0),(6,.i x),(10,.sl (.events h)),(11,.i (h.length : Int)),(12,.i ((i : Nat) : Int)),(22,.sl (.events (List.take i h))),(23,.i (((List.length (List.take i h)) : Nat) : Int)),(24,.i ((k : Nat) : Int)),(25,.b (decide (((k : Nat) : Int) < (((List.length (List.take i h)) : Nat) : Int))))],[(5,⟨47,.fix [.i ((h.getD i default).proc),.i ((h.getD i default).kind),.i ((h.getD i default).msg)]⟩),(9,⟨3,.row (.ints o)⟩)],[5,9,999]⟩)
     ((True ∧ True ∧ True) ∧ True)
     ⟨⟨tt,tt,tt⟩,tt⟩ ?_
    refine W.seq ?_
    refine W.ifP (((k : Nat) : Int) < (((List.length (List.take i h)) : Nat) : Int)) (.b (decide (((k : Nat) : Int) < (((List.length (List.take i h)) : Nat) : Int)))) (by kernel_rfl) rfl trivial ?_ ?_
    ·intro h25
     have h25' := h25
     simp only [List.length_append,List.length_cons,List.length_nil,List.length_take,List.length_drop,List.length_set,List.length_replicate,List.length_map] at h25'
     refine W.skip (thenQ_normal ?_)
     refine W.seq ?_
     refine W.block ?_
     refine Kk cok tab30 hnt [] [0,3,5,6,7,8,10,11,12,22,23,24] (⟨[(0,.sl (.events h)),(3,.own 9 o.length),(5,.ptr 5 0),(6,.i x),(7,.i ((k : Nat) : Int)),(8,.ptr 8 0),(10,.sl (.events h)),(11,.i (h.length : Int)),(12,.i ((i : Nat) : Int)),(22,.sl (.events (List.take i h))),(23,.i (((List.length (List.take i h)) : Nat) : Int)),(24,.i ((k : Nat) : Int))],[(5,⟨47,.fix [.i ((h.getD i default).proc),.i ((h.getD i default).kind),.i ((h.getD i default).msg)]⟩),(8,⟨47,.fix [.i ((List.getD (List.take i h) k default).proc),.i ((List.getD (List.take i h) k default).kind),.i ((List.getD (List.take i h) k default).msg)]⟩),(9,⟨3,.row (.ints o)⟩)],[8,5,9,999]⟩)
      (True ∧ (True ∧ True ∧ (0 ≤ ((k : Nat) : Int)) ∧ (((k : Nat) : Int) < (((List.length (List.take i h)) : Nat) : Int))) ∧ True ∧ True ∧ True ∧ (True ∧ True) ∧ True)
      ⟨tt,⟨tt,tt,(by omega),(by (first | omega | (simp only [List.length_set]; done) | (simp only [List.length_append,List.length_cons,List.length_nil,List.length_take,List.length_drop,List.length_set,List.length_replicate,List.length_map] at *; omega) | assumption))⟩,tt,tt,tt,⟨tt,tt⟩,tt⟩ ?_
     refine Kk cok tab30 hnt [] [0,3,5,6,7,10,11,12,22,23,24,50] (⟨[(0,.sl (.events h)),(3,.own 9 o.length),(5,.ptr 5 0),(6,.i x),(7,.i ((k : Nat) : Int)),(10,.sl (.events h)),(11,.i (h.length : Int)),(12,.i ((i : Nat) : Int)),(22,.sl (.events (List.take i h))),(23,.i (((List.length (List.take i h)) : Nat) : Int)),(24,.i ((k : Nat) : Int)),(50,.b ((decide (((List.getD (List.take i h) k default).proc) = ((h.getD i default).proc))) || (((decide (((h.getD i default).kind) = (2 : Int))) && (decide (((List.getD (List.take i h) k default).kind) = (1 : Int)))) && (decide (((List.getD (List.take i h) k default).msg) = ((h.getD i default).msg))))))],[(5,⟨47,.fix [.i ((h.getD i default).proc),.i ((h.getD i default).kind),.i ((h.getD i default).msg)]⟩),(8,⟨47,.fix [.i ((List.getD (List.take i h) k default).proc),.i ((List.getD (List.take i h) k default).kind),.i ((List.getD (List.take i h) k default).msg)]⟩),(9,⟨3,.row (.ints o)⟩)],[8,5,9,999]⟩)
      ((fun (Z1:Bool)=>((fun (Z2:Bool)=>((fun (Z3:Bool)=>((fun (Z4:Bool)=>((fun (Z5:Bool)=>((fun (Z6:Bool)=>(True ∧ (True ∧ (True ∧ (True ∧ ((True ∧ (True ∧ True)) ∧ (True ∧ ((Z4 = true → True) ∧ ((Z4 = true → ((Z4 = true) ∧ True)) ∧ ((Z4 = true → (((Z4 = true) ∧ True) ∧ (True ∧ True))) ∧ ((Z4 = true → True) ∧ ((Z5 = true → True) ∧ ((Z5 = true → ((Z5 = true) ∧ True)) ∧ ((Z5 = true → (((Z5 = true) ∧ True) ∧ (True ∧ True))) ∧ ((Z4 = true → (((Z4 = true) ∧ ((Z4 = true) ∧ True)) ∧ ((Z1 = true → (Z5 = true) ∧ True) ∧ (Z1 = false → True)))) ∧ ((Z4 = true → True) ∧ ((Z6 = true → True) ∧ ((Z6 = true → ((Z6 = true) ∧ True)) ∧ ((Z6 = true → True) ∧ ((Z6 = true → ((Z6 = true) ∧ True)) ∧ ((Z6 = true → (((Z6 = true) ∧ True) ∧ (((Z6 = true) ∧ True) ∧ True))) ∧ ((Z4 = true → (((Z4 = true) ∧ ((Z4 = true) ∧ True)) ∧ ((Z2 = true → (Z6 = true) ∧ True) ∧ (Z2 = false → True)))) ∧ ((True ∧ ((Z3 = true → True) ∧ (Z3 = false → (Z4 = true) ∧ True))) ∧ True))))))))))))))))))))))) (Z4 && (Z4 && Z2)))) (Z4 && (Z4 && Z1)))) (!Z3))) (decide (((List.getD (List.take i h) k default).proc) = ((h.getD i default).proc))))) (Z1 && (decide (((List.getD (List.take i h) k default).kind) = (1 : Int)))))) (decide (((h.getD i default).kind) = (2 : Int))))
      ⟨tt,tt,tt,tt,⟨tt,tt,tt⟩,tt,(fun _ => trivial),(fun hG => ⟨hG,tt⟩),(fun hG => ⟨⟨hG,tt⟩,tt,tt⟩),(fun _ => trivial),(fun _ => trivial),(fun hG => ⟨hG,tt⟩),(fun hG => ⟨⟨hG,tt⟩,tt,tt⟩),(fun hG => ⟨⟨hG,hG,tt⟩,(fun hp => ⟨(and_t hG (and_t hG hp)),tt⟩),(fun _ => trivial)⟩),(fun _ => trivial),(fun _ => trivial),(fun hG => ⟨hG,tt⟩),(fun _ => trivial),(fun hG => ⟨hG,tt⟩),(fun hG => ⟨⟨hG,tt⟩,⟨hG,tt⟩,tt⟩),(fun hG => ⟨⟨hG,hG,tt⟩,(fun hp => ⟨(and_t hG (and_t hG hp)),tt⟩),(fun _ => trivial)⟩),⟨tt,(fun _ => trivial),(fun hp => ⟨(not_t hp),tt⟩)⟩,tt⟩ ?_
     refine W.if' ((decide (((List.getD (List.take i h) k default).proc) = ((h.getD i default).proc))) || (((decide (((h.getD i default).kind) = (2 : Int))) && (decide (((List.getD (List.take i h) k default).kind) = (1 : Int)))) && (decide (((List.getD (List.take i h) k default).msg) = ((h.getD i default).msg))))) (.b ((decide (((List.getD (List.take i h) k default).proc) = ((h.getD i default).proc))) || (((decide (((h.getD i default).kind) = (2 : Int))) && (decide (((List.getD (List.take i h) k default).kind) = (1 : Int)))) && (decide (((List.getD (List.take i h) k default).msg) = ((h.getD i default).msg)))))) (by kernel_rfl) rfl trivial ?_ ?_
     ·intro h50
      refine Lk cok tab30 hnt [] (⟨[(0,.sl (.events h)),(3,.own 9 o.length),(5,.ptr 5 0),(6,.i (bitsI .or .i64 x (o.getD k 0))),(7,.i ((k : Nat) : Int)),(10,.sl (.events h)),(11,.i (h.length : Int)),(12,.i ((i : Nat) : Int)),(22,.sl (.events (List.take i h))),(23,.i (((List.length (List.take i h)) : Nat) : Int)),(24,.i ((k : Nat) : Int)),(50,.b ((decide (((List.getD (List.take i h) k default).proc) = ((h.getD i default).proc))) || (((decide (((h.getD i default).kind) = (2 : Int))) && (decide (((List.getD (List.take i h) k default).kind) = (1 : Int)))) && (decide (((List.getD (List.take i h) k default).msg) = ((h.getD i default).msg)))))),(51,.i x),(52,.own 9 o.length),(53,.i ((k : Nat) : Int)),(54,.pel 9 1 k 0),(55,.i (o.getD k 0)),(56,.i (bitsI .or .i64 x (o.getD k 0)))],[(5,⟨47,.fix [.i ((h.getD i default).proc),.i ((h.getD i default).kind),.i ((h.getD i default).msg)]⟩),(8,⟨47,.fix [.i ((List.getD (List.take i h) k default).proc),.i ((List.getD (List.take i h) k default).kind),.i ((List.getD (List.take i h) k default).msg)]⟩),(9,⟨3,.row (.ints o)⟩)],[8,5,9,999]⟩)
       (True ∧ True ∧ True ∧ (True ∧ True ∧ (0 ≤ ((k : Nat) : Int)) ∧ (((k : Nat) : Int) < (o.length : Int))) ∧ (True ∧ (k < o.length)) ∧ (True ∧ True ∧ True) ∧ True ∧ True)
       ⟨tt,tt,tt,⟨tt,tt,(by omega),(by omega)⟩,⟨tt,(by omega)⟩,⟨tt,tt,tt⟩,tt,tt⟩ ?_
      refine blockQ_normal (thenQ_normal ?_)
      refine Lk cok tab30 hnt [] (⟨[(0,.sl (.events h)),(3,.own 9 o.length),(5,.ptr 5 0),(6,.i (bitsI .or .i64 x (o.getD k 0))),(7,.i ((k : Nat) : Int)),(10,.sl (.events h)),(11,.i (h.length : Int)),(12,.i ((i : Nat) : Int)),(22,.sl (.events (List.take i h))),(23,.i (((List.length (List.take i h)) : Nat) : Int)),(24,.i (((k + 1) : Nat) : Int)),(50,.b ((decide (((List.getD (List.take i h) k default).proc) = ((h.getD i default).proc))) || (((decide (((h.getD i default).kind) = (2 : Int))) && (decide (((List.getD (List.take i h) k default).kind) = (1 : Int)))) && (decide (((List.getD (List.take i h) k default).msg) = ((h.getD i default).msg)))))),(51,.i x),(52,.own 9 o.length),(53,.i ((k : Nat) : Int)),(54,.pel 9 1 k 0),(55,.i (o.getD k 0)),(56,.i (bitsI .or .i64 x (o.getD k 0))),(57,.i (((k + 1) : Nat) : Int))],[(5,⟨47,.fix [.i ((h.getD i default).proc),.i ((h.getD i default).kind),.i ((h.getD i default).msg)]⟩),(8,⟨47,.fix [.i ((List.getD (List.take i h) k default).proc),.i ((List.getD (List.take i h) k default).kind),.i ((List.getD (List.take i h) k default).msg)]⟩),(9,⟨3,.row (.ints o)⟩)],[8,5,9,999]⟩)
       ((True ∧ True ∧ (Fits .i64 (((k + 1) : Nat) : Int))) ∧ True ∧ True)
       ⟨⟨tt,tt,(by exact fits_i64 (by omega) (by omega))⟩,tt,tt⟩ ?_
      refine thenQ_normal ?_
      refine ⟨((k + 1),(bitsI .or .i64 x (o.getD k 0))),(show ((k + 1) ≤ i) ∧ ((bitsI .or .i64 x (o.getD k 0)) = pastStep h (pastL h i) i (k + 1)) from ⟨(by first | assumption | omega | rfl | (intro _ hjj; omega) | (simp; done) | (simp; omega)),(by first | (rw [hx,ho]; exact (past_yes (by rw [getD_take h (default : EventD) (show k < i by omega)] at h50; exact h50)).symm) | (rw [hx]; exact (past_no (by rw [getD_take h (default : EventD) (show k < i by omega)] at n50; exact n50)).symm))⟩),(show i - (k + 1) < i - k from (by first | omega | (simp_all; omega))),?_⟩
      exact Sub.of [] (@cast (((Sd (.events h)) ∧ (((9 : Nat) = 9) ∧ (o.length = o.length) ∧ ((9 : Nat) ∈ ([5,9,999] : List Nat))) ∧ (((5 : Nat) = 5) ∧ ((0 : Nat) = 0) ∧ ((5 : Nat) ∈ ([5,9,999] : List Nat))) ∧ (Si (bitsI .or .i64 x (o.getD k 0))) ∧ (Sd (.events h)) ∧ (Si (h.length : Int)) ∧ (Si ((i : Nat) : Int)) ∧ (Sd (.events (List.take i h))) ∧ (Si (((List.length (List.take i h)) : Nat) : Int)) ∧ (Si (((k + 1) : Nat) : Int)) ∧ True) ∧ ((((47 : Nat) = 47) ∧ ((Si ((h.getD i default).proc)) ∧ (Si ((h.getD i default).kind)) ∧ (Si ((h.getD i default).msg)) ∧ True) ∧ ((5 : Nat) ∈ ([5,9,999] : List Nat))) ∧ (((3 : Nat) = 3) ∧ (Sd (.ints o)) ∧ ((9 : Nat) ∈ ([5,9,999] : List Nat))) ∧ True) ∧ (true = true) ∧ (true = true)) _ (by kernel_rfl) ⟨⟨rfl,⟨rfl,rfl,(by decide)⟩,⟨rfl,rfl,(by decide)⟩,rfl,rfl,rfl,rfl,rfl,rfl,rfl,tt⟩,⟨⟨rfl,⟨rfl,rfl,rfl,tt⟩,(by decide)⟩,⟨rfl,rfl,(by decide)⟩,tt⟩,rfl,rfl⟩)
     ·intro n50
      have n50_0 : ¬ (((List.getD (List.take i h) k default).proc) = ((h.getD i default).proc)) := of_decide_eq_false (or_l n50)
      refine W.skip (blockQ_normal (thenQ_normal ?_))
      refine Lk cok tab30 hnt [] (⟨[(0,.sl (.events h)),(3,.own 9 o.length),(5,.ptr 5 0),(6,.i x),(7,.i ((k : Nat) : Int)),(10,.sl (.events h)),(11,.i (h.length : Int)),(12,.i ((i : Nat) : Int)),(22,.sl (.events (List.take i h))),(23,.i (((List.length (List.take i h)) : Nat) : Int)),(24,.i (((k + 1) : Nat) : Int)),(50,.b ((decide (((List.getD (List.take i h) k default).proc) = ((h.getD i default).proc))) || (((decide (((h.getD i default).kind) = (2 : Int))) && (decide (((List.getD (List.take i h) k default).kind) = (1 : Int)))) && (decide (((List.getD (List.take i h) k default).msg) = ((h.getD i default).msg)))))),(57,.i (((k + 1) : Nat) : Int))],[(5,⟨47,.fix [.i ((h.getD i default).proc),.i ((h.getD i default).kind),.i ((h.getD i default).msg)]⟩),(8,⟨47,.fix [.i ((List.getD (List.take i h) k default).proc),.i ((List.getD (List.take i h) k default).kind),.i ((List.getD (List.take i h) k default).msg)]⟩),(9,⟨3,.row (.ints o)⟩)],[8,5,9,999]⟩)
       ((True ∧ True ∧ (Fits .i64 (((k + 1) : Nat) : Int))) ∧ True ∧ True)
       ⟨⟨tt,tt,(by exact fits_i64 (by omega) (by omega))⟩,tt,tt⟩ ?_
      refine thenQ_normal ?_
      refine ⟨((k + 1),x),(show ((k + 1) ≤ i) ∧ (x = pastStep h (pastL h i) i (k + 1)) from ⟨(by first | assumption | omega | rfl | (intro _ hjj; omega) | (simp; done) | (simp; omega)),(by first | (rw [hx,ho]; exact (past_yes (by rw [getD_take h (default : EventD) (show k < i by omega)] at h50; exact h50)).symm) | (rw [hx]; exact (past_no (by rw [getD_take h (default : EventD) (show k < i by omega)] at n50; exact n50)).symm))⟩),(show i - (k + 1) < i - k from (by first | omega | (simp_all; omega))),?_⟩
      exact Sub.of [] (@cast (((Sd (.events h)) ∧ (((9 : Nat) = 9) ∧ (o.length = o.length) ∧ ((9 : Nat) ∈ ([5,9,999] : List Nat))) ∧ (((5 : Nat) = 5) ∧ ((0 : Nat) = 0) ∧ ((5 : Nat) ∈ ([5,9,999] : List Nat))) ∧ (Si x) ∧ (Sd (.events h)) ∧ (Si (h.length : Int)) ∧ (Si ((i : Nat) : Int)) ∧ (Sd (.events (List.take i h))) ∧ (Si (((List.length (List.take i h)) : Nat) : Int)) ∧ (Si (((k + 1) : Nat) : Int)) ∧ True) ∧ ((((47 : Nat) = 47) ∧ ((Si ((h.getD i default).proc)) ∧ (Si ((h.getD i default).kind)) ∧ (Si ((h.getD i default).msg)) ∧ True) ∧ ((5 : Nat) ∈ ([5,9,999] : List Nat))) ∧ (((3 : Nat) = 3) ∧ (Sd (.ints o)) ∧ ((9 : Nat) ∈ ([5,9,999] : List Nat))) ∧ True) ∧ (true = true) ∧ (true = true)) _ (by kernel_rfl) ⟨⟨rfl,⟨rfl,rfl,(by decide)⟩,⟨rfl,rfl,(by decide)⟩,rfl,rfl,rfl,rfl,rfl,rfl,rfl,tt⟩,⟨⟨rfl,⟨rfl,rfl,rfl,tt⟩,(by decide)⟩,⟨rfl,rfl,(by decide)⟩,tt⟩,rfl,rfl⟩)
    ·intro n25
     have n25' := n25
     simp only [List.length_append,List.length_cons,List.length_nil,List.length_take,List.length_drop,List.length_set,List.length_replicate,List.length_map] at n25'
     refine W.exit (thenQ_exit (thenQ_exit (blockQ_hit ?_)))
     refine thenQ_normal ?_
     refine Lk cok tab30 hnt [61] (⟨[(0,.sl (.events h)),(3,.own 61 (List.length (o ++ ([x])))),(5,.ptr 5 0),(6,.i x),(10,.sl (.events h)),(11,.i (h.length : Int)),(12,.i ((i : Nat) : Int)),(22,.sl (.events (List.take i h))),(23,.i (((List.length (List.take i h)) : Nat) : Int)),(24,.i ((k : Nat) : Int)),(25,.b (decide (((k : Nat) : Int) < (((List.length (List.take i h)) : Nat) : Int)))),(58,.own 9 o.length),(59,.i x),(60,.sl (.ints ([x]))),(61,.own 61 (List.length (o ++ ([x]))))],[(5,⟨47,.fix [.i ((h.getD i default).proc),.i ((h.getD i default).kind),.i ((h.getD i default).msg)]⟩),(61,⟨3,.row (.ints (o ++ ([x])))⟩)],[61,60,5,9,999]⟩)
      (True ∧ True ∧ (True ∧ True) ∧ ((True ∧ (o.length = o.length)) ∧ True ∧ ((o.length + (List.length ([x]))) * 8 ≤ 140737488355328)) ∧ True ∧ True)
      ⟨tt,tt,⟨tt,tt⟩,⟨⟨tt,rfl⟩,tt,(by (first | omega | (simp only [List.length_set]; done) | (simp only [List.length_append,List.length_cons,List.length_nil,List.length_take,List.length_drop,List.length_set,List.length_replicate,List.length_map] at *; omega) | assumption))⟩,tt,tt⟩ ?_
     refine blockQ_normal (thenQ_normal ?_)
     refine Lk cok tab30 hnt [] (⟨[(0,.sl (.events h)),(3,.own 61 (List.length (o ++ ([x])))),(5,.ptr 5 0),(6,.i x),(10,.sl (.events h)),(11,.i (h.length : Int)),(12,.i (((i + 1) : Nat) : Int)),(22,.sl (.events (List.take i h))),(23,.i (((List.length (List.take i h)) : Nat) : Int)),(24,.i ((k : Nat) : Int)),(25,.b (decide (((k : Nat) : Int) < (((List.length (List.take i h)) : Nat) : Int)))),(58,.own 9 o.length),(59,.i x),(60,.sl (.ints ([x]))),(61,.own 61 (List.length (o ++ ([x])))),(62,.i (((i + 1) : Nat) : Int))],[(5,⟨47,.fix [.i ((h.getD i default).proc),.i ((h.getD i default).kind),.i ((h.getD i default).msg)]⟩),(61,⟨3,.row (.ints (o ++ ([x])))⟩)],[61,60,5,9,999]⟩)
      ((True ∧ True ∧ (Fits .i64 (((i + 1) : Nat) : Int))) ∧ True ∧ True)
      ⟨⟨tt,tt,(by exact fits_i64 (by omega) (by omega))⟩,tt,tt⟩ ?_
     refine thenQ_normal ?_
     refine ⟨((i + 1),(o ++ ([x]))),(show ((i + 1) ≤ h.length) ∧ ((o ++ ([x])) = pastL h (i + 1)) from ⟨(by first | assumption | omega | rfl | (intro _ hjj; omega) | (simp; done) | (simp; omega)),(by rw [ho,hx,show k = i by omega]; rfl)⟩),(show h.length - (i + 1) < h.length - i from (by first | omega | (simp_all; omega))),?_⟩
     exact Sub.of [(9,61)] (@cast (((Sd (.events h)) ∧ (((61 : Nat) = 61) ∧ ((List.length (o ++ ([x]))) = (List.length (o ++ ([x])))) ∧ ((9 : Nat) ∈ ([9,999] : List Nat))) ∧ (Sd (.events h)) ∧ (Si (h.length : Int)) ∧ (Si (((i + 1) : Nat) : Int)) ∧ True) ∧ ((((3 : Nat) = 3) ∧ (Sd (.ints (o ++ ([x])))) ∧ ((9 : Nat) ∈ ([9,999] : List Nat))) ∧ True) ∧ (true = true) ∧ (true = true)) _ (by kernel_rfl) ⟨⟨rfl,⟨rfl,rfl,(by decide)⟩,rfl,rfl,rfl,tt⟩,⟨⟨rfl,rfl,(by decide)⟩,tt⟩,rfl,rfl⟩)
  ·intro n13
   refine W.exit (thenQ_exit (thenQ_exit (blockQ_hit ?_)))
   refine thenQ_normal ?_
   refine Kk cok tab30 hnt [] [2] (⟨[(2,.own 9 o.length)],[(9,⟨3,.row (.ints o)⟩)],[9,999]⟩)
    (True ∧ True ∧ True)
    ⟨tt,tt,tt⟩ ?_
   refine W.subS [] (⟨[(2,.sl (.ints o))],[],[999]⟩) (@cast ((((o.length = o.length) ∧ (Sd (.ints o)) ∧ ((9 : Nat) ∉ ([] : List Nat))) ∧ True) ∧ True ∧ (true = true) ∧ (true = true)) _ (by kernel_rfl) ⟨⟨⟨rfl,rfl,(by decide)⟩,tt⟩,tt,rfl,rfl⟩) ?_
   refine W.ret ?_
   exact endQ_ret (.sl (.ints o)) (by kernel_rfl) (@cast ((.ints o : Dat) = .ints (pastL h h.length)) _ (by kernel_rfl) (congrArg Dat.ints (by rw [ho,show i = h.length by omega])))
theorem ent30 : Entr prog 30 := ⟨_,func30,rfl,by decide⟩
end Go.Proofs.Try

set_option linter.unusedSimpArgs false
set_option linter.unusedVariables false
namespace Go.Proofs.Try
open Go.Ab Go.RowKit
def fs31 : FnS := fnS [.s .ints,.o] [.ints,.int] (fun _ (l,s,_) => (.b (cutF l s.toNat),[],(0 ≤ s ∧ s < 4611686018427387904) ∧ (l.length ≤ 60) ∧ (∀ j,j < l.length → 0 ≤ l.getD j 0 ∧ l.getD j 0 < 4611686018427387904)))
abbrev T31 : Tab := lk []
theorem tab31 : TabOK prog T31 := TabOK.nil
set_option maxRecDepth 100000 in
set_option maxHeartbeats 1000000 in
theorem ok31 : FnOK prog 31 fs31 := by
 refine FnOK.mk cok func31 rfl rfl rfl ?_
 rintro fl ⟨(l : List Int),(s : Int),_⟩ hpre F hnt0 _
 have hnt : F.nt = 27 := hnt0.trans ntmps31
 replace hpre : (0 ≤ s ∧ s < 4611686018427387904) ∧ (l.length ≤ 60) ∧ (∀ j,j < l.length → 0 ≤ l.getD j 0 ∧ l.getD j 0 < 4611686018427387904) := hpre
 obtain ⟨hs,hn,hL⟩ := hpre
 refine W.to (⟨[(0,.sl (.ints l)),(1,.i s)],[],[999]⟩) rfl ?_
 refine W.lenOf 0 (.ints l) (by kernel_rfl) ?_
 intro hl_l; replace hl_l : List.length l ≤ 9223372036854775807 := hl_l
 refine Kk cok tab31 hnt [] [0,1] (⟨[(0,.sl (.ints l)),(1,.i s)],[],[999]⟩)
  (True ∧ True)
  ⟨tt,tt⟩ ?_
 refine W.seq ?_
 refine Kk cok tab31 hnt [] [1,7,8,9] (⟨[(1,.i s),(7,.sl (.ints l)),(8,.i (l.length : Int)),(9,.i (0 : Int))],[],[999]⟩)
  (True ∧ True ∧ True ∧ True)
  ⟨tt,tt,tt,tt⟩ ?_
 refine W.block ?_
 refine W.loop (ι := Nat) (fun (i : Nat) => (⟨[(1,.i s),(7,.sl (.ints l)),(8,.i (l.length : Int)),(9,.i ((i : Nat) : Int))],[],[999]⟩ : St))
  (fun (i : Nat) => (i ≤ l.length) ∧ (∀ j,j < i → cutAt l s.toNat j = true))
  (fun (i : Nat) => (l.length - i : Nat)) (0) ?_ ?_ ?_
 ·exact (show (0 ≤ l.length) ∧ (∀ j,j < 0 → cutAt l s.toNat j = true) from ⟨(by first | assumption | omega | rfl | (intro _ hjj; omega) | (simp; done) | (simp; omega)),(by exact upto_zero)⟩)
 ·exact Sub.of [] (@cast (((Si s) ∧ (Sd (.ints l)) ∧ (Si (l.length : Int)) ∧ ((.int .i64 (0 : Int) : Value) = .int .i64 ((0 : Nat) : Int)) ∧ True) ∧ True ∧ (true = true) ∧ (true = true)) _ (by kernel_rfl) ⟨⟨rfl,rfl,rfl,(congrArg (Value.int .i64) (by first | rfl | omega | assumption | simp | simp_all)),tt⟩,tt,rfl,rfl⟩)
 ·rintro i hC0
  have hC : (i ≤ l.length) ∧ (∀ j,j < i → cutAt l s.toNat j = true) := hC0
  clear hC0
  obtain ⟨hi,hA⟩ := hC
  refine W.to (⟨[(1,.i s),(7,.sl (.ints l)),(8,.i (l.length : Int)),(9,.i ((i : Nat) : Int))],[],[999]⟩) rfl ?_
  refine Kk cok tab31 hnt [] [1,7,8,9,10] (⟨[(1,.i s),(7,.sl (.ints l)),(8,.i (l.length : Int)),(9,.i ((i : Nat) : Int)),(10,.b (decide (((i : Nat) : Int) < (l.length : Int))))],[],[999]⟩)
   ((True ∧ True ∧ True) ∧ True)
   ⟨⟨tt,tt,tt⟩,tt⟩ ?_
  refine W.seq ?_
  refine W.ifP (((i : Nat) : Int) < (l.length : Int)) (.b (decide (((i : Nat) : Int) < (l.length : Int)))) (by kernel_rfl) rfl trivial ?_ ?_
  ·intro h10
   refine W.skip (thenQ_normal ?_)
   refine W.seq ?_
   refine W.block ?_
   refine Kk cok tab31 hnt [] [1,5,6,7,8,9] (⟨[(1,.i s),(5,.i ((i : Nat) : Int)),(6,.i (l.getD i 0)),(7,.sl (.ints l)),(8,.i (l.length : Int)),(9,.i ((i : Nat) : Int))],[],[999]⟩)
    (True ∧ (True ∧ True ∧ (0 ≤ ((i : Nat) : Int)) ∧ (((i : Nat) : Int) < (l.length : Int))) ∧ True ∧ True ∧ True ∧ True)
    ⟨tt,⟨tt,tt,(by omega),(by omega)⟩,tt,tt,tt,tt⟩ ?_
   refine Kk cok tab31 hnt [] [1,7,8,9,25] (⟨[(1,.i s),(7,.sl (.ints l)),(8,.i (l.length : Int)),(9,.i ((i : Nat) : Int)),(25,.b ((decide ((bitsI .and .i64 (shrI .i64 s ((i : Nat) : Int)) (1 : Int)) = (1 : Int))) && (decide ((bitsI .andNot .i64 (l.getD i 0) s) ≠ (0 : Int)))))],[],[999]⟩)
    ((fun (Z1:Bool)=>(True ∧ (True ∧ ((True ∧ (Fits .u64 ((i : Nat) : Int))) ∧ ((True ∧ (True ∧ (0 ≤ ((i : Nat) : Int)))) ∧ ((True ∧ (True ∧ True)) ∧ ((True ∧ (True ∧ True)) ∧ (True ∧ ((Z1 = true → True) ∧ ((Z1 = true → True) ∧ ((Z1 = true → (((Z1 = true) ∧ True) ∧ (((Z1 = true) ∧ True) ∧ True))) ∧ ((Z1 = true → (((Z1 = true) ∧ True) ∧ (True ∧ True))) ∧ ((True ∧ ((Z1 = true → (Z1 = true) ∧ True) ∧ (Z1 = false → True))) ∧ True))))))))))))) (decide ((bitsI .and .i64 (shrI .i64 s ((i : Nat) : Int)) (1 : Int)) = (1 : Int))))
    ⟨tt,tt,⟨tt,(by exact fits_u64 (by omega) (by omega))⟩,⟨tt,tt,(by omega)⟩,⟨tt,tt,tt⟩,⟨tt,tt,tt⟩,tt,(fun _ => trivial),(fun _ => trivial),(fun hG => ⟨⟨hG,tt⟩,⟨hG,tt⟩,tt⟩),(fun hG => ⟨⟨hG,tt⟩,tt,tt⟩),⟨tt,(fun hp => ⟨hp,tt⟩),(fun _ => trivial)⟩,tt⟩ ?_
   refine W.if' ((decide ((bitsI .and .i64 (shrI .i64 s ((i : Nat) : Int)) (1 : Int)) = (1 : Int))) && (decide ((bitsI .andNot .i64 (l.getD i 0) s) ≠ (0 : Int)))) (.b ((decide ((bitsI .and .i64 (shrI .i64 s ((i : Nat) : Int)) (1 : Int)) = (1 : Int))) && (decide ((bitsI .andNot .i64 (l.getD i 0) s) ≠ (0 : Int))))) (by kernel_rfl) rfl trivial ?_ ?_
   ·intro h25
    have h25_0 : (bitsI .and .i64 (shrI .i64 s ((i : Nat) : Int)) (1 : Int)) = (1 : Int) := of_decide_eq_true (and_l h25)
    have h25_1 : (bitsI .andNot .i64 (l.getD i 0) s) ≠ (0 : Int) := of_decide_eq_true (and_r h25)
    refine Kk cok tab31 hnt [] [4] (⟨[(4,.b false)],[],[999]⟩)
     (True ∧ True)
     ⟨tt,tt⟩ ?_
    refine W.ret (blockQ_ret (thenQ_ret (thenQ_ret (blockQ_ret (thenQ_ret ?_)))))
    exact endQ_ret (.b false) (by kernel_rfl) (@cast ((.bool false : Value) = .bool (cutF l s.toNat)) _ (by kernel_rfl) (congrArg Value.bool (by exact (allN_false (i := i) (by omega) (cut_impl hs (by omega) (hL i (by omega)) h25)).symm)))
   ·intro n25
    refine W.skip (blockQ_normal (thenQ_normal ?_))
    refine Lk cok tab31 hnt [] (⟨[(1,.i s),(7,.sl (.ints l)),(8,.i (l.length : Int)),(9,.i (((i + 1) : Nat) : Int)),(25,.b ((decide ((bitsI .and .i64 (shrI .i64 s ((i : Nat) : Int)) (1 : Int)) = (1 : Int))) && (decide ((bitsI .andNot .i64 (l.getD i 0) s) ≠ (0 : Int))))),(26,.i (((i + 1) : Nat) : Int))],[],[999]⟩)
     ((True ∧ True ∧ (Fits .i64 (((i + 1) : Nat) : Int))) ∧ True ∧ True)
     ⟨⟨tt,tt,(by exact fits_i64 (by omega) (by omega))⟩,tt,tt⟩ ?_
    refine thenQ_normal ?_
    refine ⟨((i + 1)),(show ((i + 1) ≤ l.length) ∧ (∀ j,j < (i + 1) → cutAt l s.toNat j = true) from ⟨(by first | assumption | omega | rfl | (intro _ hjj; omega) | (simp; done) | (simp; omega)),(by exact upto_succ hA (cut_impl hs (by omega) (hL i (by omega)) n25))⟩),(show l.length - (i + 1) < l.length - i from (by first | omega | (simp_all; omega))),?_⟩
    exact Sub.of [] (@cast (((Si s) ∧ (Sd (.ints l)) ∧ (Si (l.length : Int)) ∧ (Si (((i + 1) : Nat) : Int)) ∧ True) ∧ True ∧ (true = true) ∧ (true = true)) _ (by kernel_rfl) ⟨⟨rfl,rfl,rfl,rfl,tt⟩,tt,rfl,rfl⟩)
  ·intro n10
   refine W.exit (thenQ_exit (thenQ_exit (blockQ_hit ?_)))
   refine thenQ_normal ?_
   refine Kk cok tab31 hnt [] [4] (⟨[(4,.b true)],[],[999]⟩)
    (True ∧ True)
    ⟨tt,tt⟩ ?_
   refine W.ret ?_
   exact endQ_ret (.b true) (by kernel_rfl) (@cast ((.bool true : Value) = .bool (cutF l s.toNat)) _ (by kernel_rfl) (congrArg Value.bool (by exact (allN_true (fun j hj => hA j (by omega))).symm)))
theorem ent31 : Entr prog 31 := ⟨_,func31,rfl,by decide⟩
end Go.Proofs.Try

set_option linter.unusedSimpArgs false
set_option linter.unusedVariables false
namespace Go.Proofs.Try
open Go.Ab Go.RowKit
def fs9 : FnS := fnS [.s .events] [.events] (fun _ (h,_) => (.own 0 (List.length (cutsOf h)),[(3,.ints (cutsOf h))],True))
abbrev T9 : Tab := lk [(15,fs15),(30,fs30),(31,fs31)]
theorem tab9 : TabOK prog T9 := (TabOK.cons ok15 ent15 (TabOK.cons ok30 ent30 (TabOK.cons ok31 ent31 TabOK.nil)))
set_option maxRecDepth 100000 in
set_option maxHeartbeats 1000000 in
theorem ok9 : FnOK prog 9 fs9 := by
 refine FnOK.mk cok func9 rfl rfl rfl ?_
 rintro fl ⟨(h : List EventD),_⟩ hpre F hnt0 _
 have hnt : F.nt = 29 := hnt0.trans ntmps9
 clear hpre
 refine W.to (⟨[(0,.sl (.events h))],[],[999]⟩) rfl ?_
 refine W.lenOf 0 (.events h) (by kernel_rfl) ?_
 intro hl_h; replace hl_h : List.length h ≤ 9223372036854775807 := hl_h
 refine Kk cok tab9 hnt [] [0] (⟨[(0,.sl (.events h))],[],[999]⟩)
  (True ∧ True)
  ⟨tt,tt⟩ ?_
 refine Kk cok tab9 hnt [6] [0,3] (⟨[(0,.sl (.events h)),(3,.own 6 (List.length ([] : List Int)))],[(6,⟨3,.row (.ints ([] : List Int))⟩)],[6,999]⟩)
  (True ∧ True ∧ True)
  ⟨tt,tt,tt⟩ ?_
 refine W.seq ?_
 refine Kk cok tab9 hnt [] [0,3,9] (⟨[(0,.sl (.events h)),(3,.own 6 (List.length ([] : List Int))),(9,.b (!(validE h)))],[(6,⟨3,.row (.ints ([] : List Int))⟩)],[6,999]⟩)
  (True ∧ (True ∧ (True ∧ True) ∧ True) ∧ True ∧ True)
  ⟨tt,⟨tt,⟨tt,tt⟩,tt⟩,tt,tt⟩ ?_
 refine W.if' (!(validE h)) (.b (!(validE h))) (by kernel_rfl) rfl trivial ?_ ?_
 ·intro h9
  refine Kk cok tab9 hnt [] [2] (⟨[(2,.own 6 (List.length ([] : List Int)))],[(6,⟨3,.row (.ints ([] : List Int))⟩)],[6,999]⟩)
   (True ∧ True ∧ True)
   ⟨tt,tt,tt⟩ ?_
  refine W.ret (thenQ_ret ?_)
  exact endQ_rows [(0,6)] (.own 6 (List.length ([] : List Int))) (by kernel_rfl) (@cast (((6 : Nat) = 6) ∧ ((List.length ([] : List Int)) = (List.length (cutsOf h))) ∧ ((0 : Nat) ∈ ([0] : List Nat))) _ (by kernel_rfl) ⟨rfl,(by first | rfl | omega | assumption | (symm; assumption) | (exact congrArg List.length (by exact (cutsOf_no (not_f h9)).symm)) | (exact (cutsOf_no (not_f h9)).symm; done) | simp | simp_all),(by decide)⟩) (@cast ((((3 : Nat) = 3) ∧ ((.ints ([] : List Int) : Dat) = .ints (cutsOf h)) ∧ ((0 : Nat) ∈ ([0] : List Nat))) ∧ True) _ (by kernel_rfl) ⟨⟨rfl,(congrArg Dat.ints (by exact (cutsOf_no (not_f h9)).symm)),(by decide)⟩,tt⟩) (by kernel_rfl)
 ·intro n9
  have hv : validE h = true := not_g n9
  have hn : h.length ≤ 7 := of_decide_eq_true (and_l hv)
  have hp7 := Nat.pow_le_pow_right (show 0 < 2 by omega) hn
  have hsh := shl_one (k := h.length) (by omega)
  have hpl := pastL_len h h.length
  have hpo := pastL_ok h h.length (by omega)
  unfold okBits at hpo
  refine W.skip (thenQ_normal ?_)
  refine Kk cok tab9 hnt [] [0,3,4] (⟨[(0,.sl (.events h)),(3,.own 6 (List.length ([] : List Int))),(4,.sl (.ints (pastL h h.length)))],[(6,⟨3,.row (.ints ([] : List Int))⟩)],[6,999]⟩)
   (True ∧ (True ∧ (True ∧ True) ∧ (h.length ≤ 60)) ∧ True ∧ True)
   ⟨tt,⟨tt,⟨tt,tt⟩,(by omega)⟩,tt,tt⟩ ?_
  refine W.seq ?_
  refine Kk cok tab9 hnt [] [3,4,16,17] (⟨[(3,.own 6 (List.length ([] : List Int))),(4,.sl (.ints (pastL h h.length))),(16,.i (shlI .i64 (1 : Int) (h.length : Int))),(17,.i (0 : Int))],[(6,⟨3,.row (.ints ([] : List Int))⟩)],[6,999]⟩)
   (True ∧ True ∧ (True ∧ (Fits .u64 (h.length : Int))) ∧ (True ∧ True ∧ (0 ≤ (h.length : Int)) ∧ (Fits .i64 (shlI .i64 (1 : Int) (h.length : Int)))) ∧ True ∧ True)
   ⟨tt,tt,⟨tt,(by first | exact fits_u64 (by omega) (by omega) | exact fits_i64 (by omega) (by omega))⟩,⟨tt,tt,(by omega),(by exact fits_shl (by omega))⟩,tt,tt⟩ ?_
  refine W.block ?_
  refine W.loop (ι := (List Int) × Nat) (fun (x : (List Int) × Nat) => match x with | (o,k) => (⟨[(3,.own 6 o.length),(4,.sl (.ints (pastL h h.length))),(16,.i (shlI .i64 (1 : Int) (h.length : Int))),(17,.i ((k : Nat) : Int))],[(6,⟨3,.row (.ints o)⟩)],[6,999]⟩ : St))
   (fun (x : (List Int) × Nat) => match x with | (o,k) => (k ≤ 2 ^ h.length) ∧ (o = cutsN h k))
   (fun (x : (List Int) × Nat) => match x with | (o,k) => (2 ^ h.length - k : Nat)) (([] : List Int),0) ?_ ?_ ?_
  ·exact (show (0 ≤ 2 ^ h.length) ∧ (([] : List Int) = cutsN h 0) from ⟨(by exact Nat.zero_le _),(by rfl)⟩)
  ·exact Sub.of [] (@cast (((((6 : Nat) = 6) ∧ ((List.length ([] : List Int)) = (List.length ([] : List Int))) ∧ ((6 : Nat) ∈ ([6,999] : List Nat))) ∧ (Sd (.ints (pastL h h.length))) ∧ (Si (shlI .i64 (1 : Int) (h.length : Int))) ∧ ((.int .i64 (0 : Int) : Value) = .int .i64 ((0 : Nat) : Int)) ∧ True) ∧ ((((3 : Nat) = 3) ∧ (Sd (.ints ([] : List Int))) ∧ ((6 : Nat) ∈ ([6,999] : List Nat))) ∧ True) ∧ (true = true) ∧ (true = true)) _ (by kernel_rfl) ⟨⟨⟨rfl,rfl,(by decide)⟩,rfl,rfl,(congrArg (Value.int .i64) (by first | rfl | omega | assumption | simp | simp_all)),tt⟩,⟨⟨rfl,rfl,(by decide)⟩,tt⟩,rfl,rfl⟩)
  ·rintro ⟨o,k⟩ hC0
   have hC : (k ≤ 2 ^ h.length) ∧ (o = cutsN h k) := hC0
   clear hC0
   obtain ⟨hk,ho⟩ := hC
   refine W.to (⟨[(3,.own 6 o.length),(4,.sl (.ints (pastL h h.length))),(16,.i (shlI .i64 (1 : Int) (h.length : Int))),(17,.i ((k : Nat) : Int))],[(6,⟨3,.row (.ints o)⟩)],[6,999]⟩) rfl ?_
   have hol : o.length ≤ k := by rw [ho]; exact cutsN_len h k
   refine Kk cok tab9 hnt [] [3,4,16,17,18] (⟨[(3,.own 6 o.length),(4,.sl (.ints (pastL h h.length))),(16,.i (shlI .i64 (1 : Int) (h.length : Int))),(17,.i ((k : Nat) : Int)),(18,.b (decide (((k : Nat) : Int) < (shlI .i64 (1 : Int) (h.length : Int)))))],[(6,⟨3,.row (.ints o)⟩)],[6,999]⟩)
    ((True ∧ True ∧ True) ∧ True)
    ⟨⟨tt,tt,tt⟩,tt⟩ ?_
   refine W.seq ?_
   refine W.ifP (((k : Nat) : Int) < (shlI .i64 (1 : Int) (h.length : Int))) (.b (decide (((k : Nat) : Int) < (shlI .i64 (1 : Int) (h.length : Int))))) (by kernel_rfl) rfl trivial ?_ ?_
   ·intro h18
    refine W.skip (thenQ_normal ?_)
    refine W.seq ?_
    refine W.block ?_
    refine Kk cok tab9 hnt [] [3,4,5,16,17] (⟨[(3,.own 6 o.length),(4,.sl (.ints (pastL h h.length))),(5,.i ((k : Nat) : Int)),(16,.i (shlI .i64 (1 : Int) (h.length : Int))),(17,.i ((k : Nat) : Int))],[(6,⟨3,.row (.ints o)⟩)],[6,999]⟩)
     (True ∧ True ∧ True)
     ⟨tt,tt,tt⟩ ?_
    refine Kk cok tab9 hnt [] [3,4,5,16,17,22] (⟨[(3,.own 6 o.length),(4,.sl (.ints (pastL h h.length))),(5,.i ((k : Nat) : Int)),(16,.i (shlI .i64 (1 : Int) (h.length : Int))),(17,.i ((k : Nat) : Int)),(22,.b (cutF (pastL h h.length) ((k : Nat) : Int).toNat))],[(6,⟨3,.row (.ints o)⟩)],[6,999]⟩)
     (True ∧ True ∧ (True ∧ (True ∧ True ∧ True) ∧ (0 ≤ ((k : Nat) : Int) ∧ ((k : Nat) : Int) < 4611686018427387904) ∧ ((pastL h h.length).length ≤ 60) ∧ (∀ j,j < (pastL h h.length).length → 0 ≤ (pastL h h.length).getD j 0 ∧ (pastL h h.length).getD j 0 < 4611686018427387904)) ∧ True)
     ⟨tt,tt,⟨tt,⟨tt,tt,tt⟩,(by omega),(by omega),(by intro j hj; have h9 := hpo j (by omega); omega)⟩,tt⟩ ?_
    refine W.if' (cutF (pastL h h.length) ((k : Nat) : Int).toNat) (.b (cutF (pastL h h.length) ((k : Nat) : Int).toNat)) (by kernel_rfl) rfl trivial ?_ ?_
    ·intro h22
     refine Lk cok tab9 hnt [26] (⟨[(3,.own 26 (List.length (o ++ ([((k : Nat) : Int)])))),(4,.sl (.ints (pastL h h.length))),(5,.i ((k : Nat) : Int)),(16,.i (shlI .i64 (1 : Int) (h.length : Int))),(17,.i ((k : Nat) : Int)),(22,.b (cutF (pastL h h.length) ((k : Nat) : Int).toNat)),(23,.own 6 o.length),(24,.i ((k : Nat) : Int)),(25,.sl (.ints ([((k : Nat) : Int)]))),(26,.own 26 (List.length (o ++ ([((k : Nat) : Int)]))))],[(26,⟨3,.row (.ints (o ++ ([((k : Nat) : Int)])))⟩)],[26,25,6,999]⟩)
      (True ∧ True ∧ (True ∧ True) ∧ ((True ∧ (o.length = o.length)) ∧ True ∧ ((o.length + (List.length ([((k : Nat) : Int)]))) * 8 ≤ 140737488355328)) ∧ True ∧ True)
      ⟨tt,tt,⟨tt,tt⟩,⟨⟨tt,rfl⟩,tt,(by (first | omega | (simp only [List.length_set]; done) | (simp only [List.length_append,List.length_cons,List.length_nil,List.length_take,List.length_drop,List.length_set,List.length_replicate,List.length_map] at *; omega) | assumption))⟩,tt,tt⟩ ?_
     refine blockQ_normal (thenQ_normal ?_)
     refine Lk cok tab9 hnt [] (⟨[(3,.own 26 (List.length (o ++ ([((k : Nat) : Int)])))),(4,.sl (.ints (pastL h h.length))),(5,.i ((k : Nat) : Int)),(16,.i (shlI .i64 (1 : Int) (h.length : Int))),(17,.i (((k + 1) : Nat) : Int)),(22,.b (cutF (pastL h h.length) ((k : Nat) : Int).toNat)),(23,.own 6 o.length),(24,.i ((k : Nat) : Int)),(25,.sl (.ints ([((k : Nat) : Int)]))),(26,.own 26 (List.length (o ++ ([((k : Nat) : Int)])))),(27,.i (((k + 1) : Nat) : Int))],[(26,⟨3,.row (.ints (o ++ ([((k : Nat) : Int)])))⟩)],[26,25,6,999]⟩)
      ((True ∧ True ∧ (Fits .i64 (((k + 1) : Nat) : Int))) ∧ True ∧ True)
      ⟨⟨tt,tt,(by first | exact fits_u64 (by omega) (by omega) | exact fits_i64 (by omega) (by omega))⟩,tt,tt⟩ ?_
     refine thenQ_normal ?_
     refine ⟨((o ++ ([((k : Nat) : Int)])),(k + 1)),(show ((k + 1) ≤ 2 ^ h.length) ∧ ((o ++ ([((k : Nat) : Int)])) = cutsN h (k + 1)) from ⟨(by first | assumption | omega | rfl | (intro _ hjj; omega) | (simp; done) | (simp; omega)),(by first | (rw [ho]; exact (cutsN_yes (cut_impl2 (by omega) h22)).symm) | (rw [ho]; exact (cutsN_no (cut_impl2 (by omega) n22)).symm))⟩),(show 2 ^ h.length - (k + 1) < 2 ^ h.length - k from (by first | omega | (simp_all; omega))),?_⟩
     exact Sub.of [(6,26)] (@cast (((((26 : Nat) = 26) ∧ ((List.length (o ++ ([((k : Nat) : Int)]))) = (List.length (o ++ ([((k : Nat) : Int)])))) ∧ ((6 : Nat) ∈ ([6,999] : List Nat))) ∧ (Sd (.ints (pastL h h.length))) ∧ (Si (shlI .i64 (1 : Int) (h.length : Int))) ∧ (Si (((k + 1) : Nat) : Int)) ∧ True) ∧ ((((3 : Nat) = 3) ∧ (Sd (.ints (o ++ ([((k : Nat) : Int)])))) ∧ ((6 : Nat) ∈ ([6,999] : List Nat))) ∧ True) ∧ (true = true) ∧ (true = true)) _ (by kernel_rfl) ⟨⟨⟨rfl,rfl,(by decide)⟩,rfl,rfl,rfl,tt⟩,⟨⟨rfl,rfl,(by decide)⟩,tt⟩,rfl,rfl⟩)
    ·intro n22
     refine W.skip (blockQ_normal (thenQ_normal ?_))
     refine Lk cok tab9 hnt [] (⟨[(3,.own 6 o.length),(4,.sl (.ints (pastL h h.length))),(5,.i ((k : Nat) : Int)),(16,.i (shlI .i64 (1 : Int) (h.length : Int))),(17,.i (((k + 1) : Nat) : Int)),(22,.b (cutF (pastL h h.length) ((k : Nat) : Int).toNat)),(27,.i (((k + 1) : Nat) : Int))],[(6,⟨3,.row (.ints o)⟩)],[6,999]⟩)
      ((True ∧ True ∧ (Fits .i64 (((k + 1) : Nat) : Int))) ∧ True ∧ True)
      ⟨⟨tt,tt,(by first | exact fits_u64 (by omega) (by omega) | exact fits_i64 (by omega) (by omega))⟩,tt,tt⟩ ?_
     refine thenQ_normal ?_
     refine ⟨(o,(k + 1)),(show ((k + 1) ≤ 2 ^ h.length) ∧ (o = cutsN h (k + 1)) from ⟨(by first | assumption | omega | rfl | (intro _ hjj; omega) | (simp; done) | (simp; omega)),(by first | (rw [ho]; exact (cutsN_yes (cut_impl2 (by omega) h22)).symm) | (rw [ho]; exact (cutsN_no (cut_impl2 (by omega) n22)).symm))⟩),(show 2 ^ h.length - (k + 1) < 2 ^ h.length - k from (by first | omega | (simp_all; omega))),?_⟩
     exact Sub.of [] (@cast (((((6 : Nat) = 6) ∧ (o.length = o.length) ∧ ((6 : Nat) ∈ ([6,999] : List Nat))) ∧ (Sd (.ints (pastL h h.length))) ∧ (Si (shlI .i64 (1 : Int) (h.length : Int))) ∧ (Si (((k + 1) : Nat) : Int)) ∧ True) ∧ ((((3 : Nat) = 3) ∧ (Sd (.ints o)) ∧ ((6 : Nat) ∈ ([6,999] : List Nat))) ∧ True) ∧ (true = true) ∧ (true = true)) _ (by kernel_rfl) ⟨⟨⟨rfl,rfl,(by decide)⟩,rfl,rfl,rfl,tt⟩,⟨⟨rfl,rfl,(by decide)⟩,tt⟩,rfl,rfl⟩)
   ·intro n18
    refine W.exit (thenQ_exit (thenQ_exit (blockQ_hit ?_)))
    refine thenQ_normal ?_
    refine Kk cok tab9 hnt [] [2] (⟨[(2,.own 6 o.length)],[(6,⟨3,.row (.ints o)⟩)],[6,999]⟩)
     (True ∧ True ∧ True)
     ⟨tt,tt,tt⟩ ?_
    refine W.ret ?_
    exact endQ_rows [(0,6)] (.own 6 o.length) (by kernel_rfl) (@cast (((6 : Nat) = 6) ∧ (o.length = (List.length (cutsOf h))) ∧ ((0 : Nat) ∈ ([0] : List Nat))) _ (by kernel_rfl) ⟨rfl,(by first | rfl | omega | assumption | (symm; assumption) | (exact congrArg List.length (by rw [cutsOf_yes hv,ho,show k = 2 ^ h.length by omega])) | (rw [cutsOf_yes hv,ho,show k = 2 ^ h.length by omega]; done) | simp | simp_all),(by decide)⟩) (@cast ((((3 : Nat) = 3) ∧ ((.ints o : Dat) = .ints (cutsOf h)) ∧ ((0 : Nat) ∈ ([0] : List Nat))) ∧ True) _ (by kernel_rfl) ⟨⟨rfl,(congrArg Dat.ints (by rw [cutsOf_yes hv,ho,show k = 2 ^ h.length by omega])),(by decide)⟩,tt⟩) (by kernel_rfl)
theorem ent9 : Entr prog 9 := ⟨_,func9,rfl,by decide⟩
end Go.Proofs.Try
