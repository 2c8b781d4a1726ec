import Derived.Test.YtmjlbcgcfloefaaUF4S0
import Derived.Test.YtmjlbcgcfloefaaUF4S1
set_option linter.unusedSimpArgs false
set_option linter.unusedVariables false
namespace Go.Proofs.Try
open Go.Ab Go.RowKit
def fs44 : FnS := fnS [.s .ints,.o] [.ints,.int] (fun _ (l,n,_) => (.b (hasInt l n),[],True))
abbrev T44 : Tab := lk []
theorem tab44 : TabOK prog T44 := TabOK.nil
set_option maxRecDepth 100000 in
set_option maxHeartbeats 1000000 in
theorem ok44 : FnOK prog 44 fs44 := by
 refine FnOK.mk cok func44 rfl rfl rfl ?_
 rintro fl ⟨(l : List Int),(n : Int),_⟩ hpre F hnt0 _
 have hnt : F.nt = 18 := hnt0.trans ntmps44
 clear hpre
 refine W.to (⟨[(0,.sl (.ints l)),(1,.i n)],[],[999]⟩) rfl ?_
 refine W.lenOf 0 (.ints l) (by kernel_rfl) ?_
 intro hl_l; replace hl_l : List.length l ≤ 9223372036854775807 := hl_l
 refine Kk cok tab44 hnt [] [0,1] (⟨[(0,.sl (.ints l)),(1,.i n)],[],[999]⟩)
  (True ∧ True)
  ⟨tt,tt⟩ ?_
 refine W.seq ?_
 refine Kk cok tab44 hnt [] [0,1,5] (⟨[(0,.sl (.ints l)),(1,.i n),(5,.i (0 : Int))],[],[999]⟩)
  (True ∧ True)
  ⟨tt,tt⟩ ?_
 refine W.block ?_
 refine W.loop (ι := Nat) (fun (i : Nat) => (⟨[(0,.sl (.ints l)),(1,.i n),(5,.i ((i : Nat) : Int))],[],[999]⟩ : St))
  (fun (i : Nat) => (i ≤ l.length) ∧ (∀ j,j < i → decide (l.getD j 0 = n) = false))
  (fun (i : Nat) => (l.length - i : Nat)) (0) ?_ ?_ ?_
 ·exact (show (0 ≤ l.length) ∧ (∀ j,j < 0 → decide (l.getD j 0 = n) = false) from ⟨(by first | assumption | omega | rfl | (intro _ hjj; omega) | (simp; done) | (simp; omega)),(by exact upto_zero)⟩)
 ·exact Sub.of [] (@cast (((Sd (.ints l)) ∧ (Si n) ∧ ((.int .i64 (0 : Int) : Value) = .int .i64 ((0 : Nat) : Int)) ∧ True) ∧ True ∧ (true = true) ∧ (true = true)) _ (by kernel_rfl) ⟨⟨rfl,rfl,(congrArg (Value.int .i64) (by first | rfl | omega | assumption | simp | simp_all)),tt⟩,tt,rfl,rfl⟩)
 ·rintro i hC0
  have hC : (i ≤ l.length) ∧ (∀ j,j < i → decide (l.getD j 0 = n) = false) := hC0
  clear hC0
  obtain ⟨hi,hA⟩ := hC
  refine W.to (⟨[(0,.sl (.ints l)),(1,.i n),(5,.i ((i : Nat) : Int))],[],[999]⟩) rfl ?_
  refine W.seq ?_
  refine Kk cok tab44 hnt [] [0,1,5,9] (⟨[(0,.sl (.ints l)),(1,.i n),(5,.i ((i : Nat) : Int)),(9,.b (decide (((i : Nat) : Int) < (l.length : Int))))],[],[999]⟩)
   (True ∧ True ∧ True ∧ (True ∧ True ∧ True) ∧ True)
   ⟨tt,tt,tt,⟨tt,tt,tt⟩,tt⟩ ?_
  refine W.ifP (((i : Nat) : Int) < (l.length : Int)) (.b (decide (((i : Nat) : Int) < (l.length : Int)))) (by kernel_rfl) rfl trivial ?_ ?_
  ·intro h9
   refine W.skip (thenQ_normal ?_)
   refine W.seq ?_
   refine W.block ?_
   refine Kk cok tab44 hnt [] [0,1,5,17] (⟨[(0,.sl (.ints l)),(1,.i n),(5,.i ((i : Nat) : Int)),(17,.b (decide ((l.getD i 0) = n)))],[],[999]⟩)
    (True ∧ True ∧ (True ∧ True ∧ (0 ≤ ((i : Nat) : Int)) ∧ (((i : Nat) : Int) < (l.length : Int))) ∧ True ∧ True ∧ (True ∧ True ∧ True) ∧ True)
    ⟨tt,tt,⟨tt,tt,(by omega),(by omega)⟩,tt,tt,⟨tt,tt,tt⟩,tt⟩ ?_
   refine W.ifP ((l.getD i 0) = n) (.b (decide ((l.getD i 0) = n))) (by kernel_rfl) rfl trivial ?_ ?_
   ·intro h17
    refine Kk cok tab44 hnt [] [4] (⟨[(4,.b true)],[],[999]⟩)
     (True ∧ True)
     ⟨tt,tt⟩ ?_
    refine W.ret (blockQ_ret (thenQ_ret (thenQ_ret (blockQ_ret (thenQ_ret ?_)))))
    exact endQ_ret (.b true) (by kernel_rfl) (@cast ((.bool true : Value) = .bool (hasInt l n)) _ (by kernel_rfl) (congrArg Value.bool (by unfold hasInt; symm; exact anyN_true (i := i) (by omega) (decide_eq_true h17))))
   ·intro n17
    refine W.skip (blockQ_normal (thenQ_normal ?_))
    refine Lk cok tab44 hnt [] (⟨[(0,.sl (.ints l)),(1,.i n),(5,.i (((i + 1) : Nat) : Int)),(10,.i ((i : Nat) : Int)),(11,.i (((i + 1) : Nat) : Int)),(17,.b (decide ((l.getD i 0) = n)))],[],[999]⟩)
     (True ∧ (True ∧ True ∧ (Fits .i64 (((i + 1) : Nat) : Int))) ∧ True ∧ True)
     ⟨tt,⟨tt,tt,(by exact fits_i64 (by omega) (by omega))⟩,tt,tt⟩ ?_
    refine thenQ_normal ?_
    refine ⟨((i + 1)),(show ((i + 1) ≤ l.length) ∧ (∀ j,j < (i + 1) → decide (l.getD j 0 = n) = false) from ⟨(by first | assumption | omega | rfl | (intro _ hjj; omega) | (simp; done) | (simp; omega)),(by exact upto_succ hA (decide_eq_false n17))⟩),(show l.length - (i + 1) < l.length - i from (by first | omega | (simp_all; omega))),?_⟩
    exact Sub.of [] (@cast (((Sd (.ints l)) ∧ (Si n) ∧ (Si (((i + 1) : Nat) : Int)) ∧ True) ∧ True ∧ (true = true) ∧ (true = true)) _ (by kernel_rfl) ⟨⟨rfl,rfl,rfl,tt⟩,tt,rfl,rfl⟩)
  ·intro n9
   refine W.exit (thenQ_exit (thenQ_exit (blockQ_hit ?_)))
   refine thenQ_normal ?_
   refine Kk cok tab44 hnt [] [4] (⟨[(4,.b false)],[],[999]⟩)
    (True ∧ True)
    ⟨tt,tt⟩ ?_
   refine W.ret ?_
   exact endQ_ret (.b false) (by kernel_rfl) (@cast ((.bool false : Value) = .bool (hasInt l n)) _ (by kernel_rfl) (congrArg Value.bool (by unfold hasInt; symm; exact anyN_false (fun j hj => hA j (by omega)))))
theorem ent44 : Entr prog 44 := ⟨_,func44,rfl,by decide⟩
end Go.Proofs.Try

set_option linter.unusedSimpArgs false
set_option linter.unusedVariables false
namespace Go.Proofs.Try
open Go.Ab Go.RowKit
def fs28 : FnS := fnS [.o,.s .ints,.o] [.str,.ints,.call] (fun _ (name,state,c,_) => (.tup [.sl (.ints ((specStep name state c).1)),.b ((specStep name state c).2)],[],(state.length ≤ 1000000) ∧ (∀ x ∈ state,-1000000000 ≤ x ∧ x ≤ 1000000000) ∧ (-1000000000 ≤ c.arg ∧ c.arg ≤ 1000000000)))
abbrev T28 : Tab := lk [(44,fs44)]
theorem tab28 : TabOK prog T28 := (TabOK.cons ok44 ent44 TabOK.nil)
set_option maxRecDepth 100000 in
set_option maxHeartbeats 4000000 in
theorem ok28 : FnOK prog 28 fs28 := by
 refine FnOK.mk cok func28 rfl rfl rfl ?_
 rintro fl ⟨(name : ByteArray),(state : List Int),(c : CallD),_⟩ hpre F hnt0 _
 have hnt : F.nt = 240 := hnt0.trans ntmps28
 replace hpre : (state.length ≤ 1000000) ∧ (∀ x ∈ state,-1000000000 ≤ x ∧ x ≤ 1000000000) ∧ (-1000000000 ≤ c.arg ∧ c.arg ≤ 1000000000) := hpre
 obtain ⟨hl,hs,ha⟩ := hpre
 refine W.to (⟨[(0,.v (.string name)),(1,.sl (.ints state)),(2,.agg [.i c.proc,.i c.obj,.i c.kind,.i c.arg,.i c.ret,.i c.frm,.i c.to])],[],[999]⟩) rfl ?_
 refine W.lenOf 1 (.ints state) (by kernel_rfl) ?_
 intro hl_state; replace hl_state : List.length state ≤ 9223372036854775807 := hl_state
 refine Kk cok tab28 hnt [] [0,1,5] (⟨[(0,.v (.string name)),(1,.sl (.ints state)),(5,.ptr 5 0)],[(5,⟨46,.fix [.i c.proc,.i c.obj,.i c.kind,.i c.arg,.i c.ret,.i c.frm,.i c.to]⟩)],[5,999]⟩)
  (True ∧ True ∧ True ∧ True)
  ⟨tt,tt,tt,tt⟩ ?_
 refine Kk cok tab28 hnt [] [0,1,5,8] (⟨[(0,.v (.string name)),(1,.sl (.ints state)),(5,.ptr 5 0),(8,.i (state.length : Int))],[(5,⟨46,.fix [.i c.proc,.i c.obj,.i c.kind,.i c.arg,.i c.ret,.i c.frm,.i c.to]⟩)],[5,999]⟩)
  (True ∧ True ∧ True ∧ True)
  ⟨tt,tt,tt,tt⟩ ?_
 refine W.seq ?_
 refine Kk cok tab28 hnt [] [0,1,5,8,14] (⟨[(0,.v (.string name)),(1,.sl (.ints state)),(5,.ptr 5 0),(8,.i (state.length : Int)),(14,.b (decide (c.kind = (0 : Int))))],[(5,⟨46,.fix [.i c.proc,.i c.obj,.i c.kind,.i c.arg,.i c.ret,.i c.frm,.i c.to]⟩)],[5,999]⟩)
  (True ∧ True ∧ (True ∧ True ∧ True) ∧ True)
  ⟨tt,tt,⟨tt,tt,tt⟩,tt⟩ ?_
 refine W.ifP (c.kind = (0 : Int)) (.b (decide (c.kind = (0 : Int)))) (by kernel_rfl) rfl trivial ?_ ?_
 ·intro h14
  refine W.seq ?_
  refine Kk cok tab28 hnt [] [1,5,8,15] (⟨[(1,.sl (.ints state)),(5,.ptr 5 0),(8,.i (state.length : Int)),(15,.v (.string name))],[(5,⟨46,.fix [.i c.proc,.i c.obj,.i c.kind,.i c.arg,.i c.ret,.i c.frm,.i c.to]⟩)],[5,999]⟩)
   (True ∧ True)
   ⟨tt,tt⟩ ?_
  refine W.block ?_
  refine Kk cok tab28 hnt [] [1,5,8,15,16] (⟨[(1,.sl (.ints state)),(5,.ptr 5 0),(8,.i (state.length : Int)),(15,.v (.string name)),(16,.b (eqS name nRegister))],[(5,⟨46,.fix [.i c.proc,.i c.obj,.i c.kind,.i c.arg,.i c.ret,.i c.frm,.i c.to]⟩)],[5,999]⟩)
   ((True ∧ True ∧ True) ∧ True ∧ True)
   ⟨⟨tt,tt,tt⟩,tt,tt⟩ ?_
  refine W.if' (eqS name nRegister) (.b (eqS name nRegister)) (by kernel_rfl) rfl trivial ?_ ?_
  ·intro h16
   refine W.KA cok tab28 hnt [] [6,7] (⟨[(6,.sl (.ints ([c.arg]))),(7,.b (decide (c.ret = (0 : Int))))],[(5,⟨46,.fix [.i c.proc,.i c.obj,.i c.kind,.i c.arg,.i c.ret,.i c.frm,.i c.to]⟩)],[20,5,999]⟩)
    (True ∧ True ∧ (True ∧ True) ∧ True ∧ True ∧ (True ∧ True ∧ True) ∧ True ∧ True ∧ True) (by kernel_rfl) (by kernel_rfl)
    ⟨tt,tt,⟨tt,tt⟩,tt,tt,⟨tt,tt,tt⟩,tt,tt,tt⟩ ?_
   refine W.ret (blockQ_ret (thenQ_ret (thenQ_ret ?_)))
   exact endQ_ret (.tup [.sl (.ints ([c.arg])),.b (decide (c.ret = (0 : Int)))]) (by kernel_rfl) (@cast (((.ints ([c.arg]) : Dat) = .ints ((specStep name state c).1)) ∧ ((.bool (decide (c.ret = (0 : Int))) : Value) = .bool ((specStep name state c).2)) ∧ True) _ (by kernel_rfl) ⟨(congrArg Dat.ints (by simp only [specStep,(decide_eq_true h14),h16,cond_true,cond_false,Bool.and_true,Bool.true_and,Bool.and_false,Bool.false_and,Bool.or_true,Bool.true_or,Bool.or_false,Bool.false_or,Bool.not_true,Bool.not_false])),(congrArg Value.bool (by simp only [specStep,(decide_eq_true h14),h16,cond_true,cond_false,Bool.and_true,Bool.true_and,Bool.and_false,Bool.false_and,Bool.or_true,Bool.true_or,Bool.or_false,Bool.false_or,Bool.not_true,Bool.not_false])),tt⟩)
  ·intro n16
   refine Kk cok tab28 hnt [] [1,5,8,15,24] (⟨[(1,.sl (.ints state)),(5,.ptr 5 0),(8,.i (state.length : Int)),(15,.v (.string name)),(24,.b (eqS name nCounter))],[(5,⟨46,.fix [.i c.proc,.i c.obj,.i c.kind,.i c.arg,.i c.ret,.i c.frm,.i c.to]⟩)],[5,999]⟩)
    ((True ∧ True ∧ True) ∧ True ∧ True)
    ⟨⟨tt,tt,tt⟩,tt,tt⟩ ?_
   refine W.if' (eqS name nCounter) (.b (eqS name nCounter)) (by kernel_rfl) rfl trivial ?_ ?_
   ·intro h24
    refine W.seq ?_
    refine Kk cok tab28 hnt [] [1,5,27] (⟨[(1,.sl (.ints state)),(5,.ptr 5 0),(27,.b (decide ((state.length : Int) = (0 : Int))))],[(5,⟨46,.fix [.i c.proc,.i c.obj,.i c.kind,.i c.arg,.i c.ret,.i c.frm,.i c.to]⟩)],[5,999]⟩)
     (True ∧ (True ∧ True ∧ True) ∧ True)
     ⟨tt,⟨tt,tt,tt⟩,tt⟩ ?_
    refine W.ifP ((state.length : Int) = (0 : Int)) (.b (decide ((state.length : Int) = (0 : Int)))) (by kernel_rfl) rfl trivial ?_ ?_
    ·intro h27
     refine W.KA cok tab28 hnt [] [6,7] (⟨[(6,.sl (.ints ([c.arg]))),(7,.b (decide (c.ret = (0 : Int))))],[(5,⟨46,.fix [.i c.proc,.i c.obj,.i c.kind,.i c.arg,.i c.ret,.i c.frm,.i c.to]⟩)],[30,5,999]⟩)
      (True ∧ True ∧ (True ∧ True) ∧ True ∧ True ∧ (True ∧ True ∧ True) ∧ True ∧ True ∧ True) (by kernel_rfl) (by kernel_rfl)
      ⟨tt,tt,⟨tt,tt⟩,tt,tt,⟨tt,tt,tt⟩,tt,tt,tt⟩ ?_
     refine W.ret (thenQ_ret (blockQ_ret (thenQ_ret (thenQ_ret ?_))))
     exact endQ_ret (.tup [.sl (.ints ([c.arg])),.b (decide (c.ret = (0 : Int)))]) (by kernel_rfl) (@cast (((.ints ([c.arg]) : Dat) = .ints ((specStep name state c).1)) ∧ ((.bool (decide (c.ret = (0 : Int))) : Value) = .bool ((specStep name state c).2)) ∧ True) _ (by kernel_rfl) ⟨(congrArg Dat.ints (by simp only [specStep,(decide_eq_true h14),h24,(decide_eq_true h27),n16,cond_true,cond_false,Bool.and_true,Bool.true_and,Bool.and_false,Bool.false_and,Bool.or_true,Bool.true_or,Bool.or_false,Bool.false_or,Bool.not_true,Bool.not_false])),(congrArg Value.bool (by simp only [specStep,(decide_eq_true h14),h24,(decide_eq_true h27),n16,cond_true,cond_false,Bool.and_true,Bool.true_and,Bool.and_false,Bool.false_and,Bool.or_true,Bool.true_or,Bool.or_false,Bool.false_or,Bool.not_true,Bool.not_false])),tt⟩)
    ·intro n27
     refine W.skip (thenQ_normal ?_)
     have hs0 := hs _ (getD_mem state 0 (show 0 < state.length by omega))
     refine W.KA cok tab28 hnt [] [6,7] (⟨[(6,.sl (.ints ([((state.getD 0 0) + c.arg)]))),(7,.b (decide (c.ret = (0 : Int))))],[(5,⟨46,.fix [.i c.proc,.i c.obj,.i c.kind,.i c.arg,.i c.ret,.i c.frm,.i c.to]⟩)],[40,5,999]⟩)
      (True ∧ (True ∧ True ∧ (0 ≤ (0 : Int)) ∧ ((0 : Int) < (state.length : Int))) ∧ True ∧ True ∧ True ∧ (True ∧ True ∧ (Fits .i64 ((state.getD 0 0) + c.arg))) ∧ (True ∧ True) ∧ True ∧ True ∧ (True ∧ True ∧ True) ∧ True ∧ True ∧ True) (by kernel_rfl) (by kernel_rfl)
      ⟨tt,⟨tt,tt,(by omega),(by omega)⟩,tt,tt,tt,⟨tt,tt,(by exact fits_i64 (by (first | omega | (simp only [List.length_set]; done) | (simp only [List.length_append,List.length_cons,List.length_nil,List.length_take,List.length_drop,List.length_set,List.length_replicate,List.length_map] at *; omega) | assumption)) (by (first | omega | (simp only [List.length_set]; done) | (simp only [List.length_append,List.length_cons,List.length_nil,List.length_take,List.length_drop,List.length_set,List.length_replicate,List.length_map] at *; omega) | assumption)))⟩,⟨tt,tt⟩,tt,tt,⟨tt,tt,tt⟩,tt,tt,tt⟩ ?_
     refine W.ret (blockQ_ret (thenQ_ret (thenQ_ret ?_)))
     exact endQ_ret (.tup [.sl (.ints ([((state.getD 0 0) + c.arg)])),.b (decide (c.ret = (0 : Int)))]) (by kernel_rfl) (@cast (((.ints ([((state.getD 0 0) + c.arg)]) : Dat) = .ints ((specStep name state c).1)) ∧ ((.bool (decide (c.ret = (0 : Int))) : Value) = .bool ((specStep name state c).2)) ∧ True) _ (by kernel_rfl) ⟨(congrArg Dat.ints (by simp only [specStep,(decide_eq_true h14),h24,n16,(decide_eq_false n27),cond_true,cond_false,Bool.and_true,Bool.true_and,Bool.and_false,Bool.false_and,Bool.or_true,Bool.true_or,Bool.or_false,Bool.false_or,Bool.not_true,Bool.not_false])),(congrArg Value.bool (by simp only [specStep,(decide_eq_true h14),h24,n16,(decide_eq_false n27),cond_true,cond_false,Bool.and_true,Bool.true_and,Bool.and_false,Bool.false_and,Bool.or_true,Bool.true_or,Bool.or_false,Bool.false_or,Bool.not_true,Bool.not_false])),tt⟩)
   ·intro n24
    refine Kk cok tab28 hnt [] [1,5,8,15,44] (⟨[(1,.sl (.ints state)),(5,.ptr 5 0),(8,.i (state.length : Int)),(15,.v (.string name)),(44,.b (eqS name nMost))],[(5,⟨46,.fix [.i c.proc,.i c.obj,.i c.kind,.i c.arg,.i c.ret,.i c.frm,.i c.to]⟩)],[5,999]⟩)
     ((True ∧ True ∧ True) ∧ True ∧ True)
     ⟨⟨tt,tt,tt⟩,tt,tt⟩ ?_
    refine W.if' (eqS name nMost) (.b (eqS name nMost)) (by kernel_rfl) rfl trivial ?_ ?_
    ·intro h44
     refine W.seq ?_
     refine W.KA cok tab28 hnt [] [1,5,55] (⟨[(1,.sl (.ints state)),(5,.ptr 5 0),(55,.b ((decide ((0 : Int) < (state.length : Int))) && (decide (c.arg < (state.getD 0 0)))))],[(5,⟨46,.fix [.i c.proc,.i c.obj,.i c.kind,.i c.arg,.i c.ret,.i c.frm,.i c.to]⟩)],[5,999]⟩)
      ((fun (Z1:Bool)=>(True ∧ ((True ∧ (True ∧ True)) ∧ (True ∧ ((Z1 = true → True) ∧ ((Z1 = true → (((Z1 = true) ∧ True) ∧ (True ∧ ((0 ≤ (0 : Int)) ∧ ((0 : Int) < (state.length : Int)))))) ∧ ((Z1 = true → ((Z1 = true) ∧ True)) ∧ ((Z1 = true → True) ∧ ((Z1 = true → ((Z1 = true) ∧ True)) ∧ ((Z1 = true → (((Z1 = true) ∧ True) ∧ (((Z1 = true) ∧ True) ∧ True))) ∧ ((True ∧ ((Z1 = true → (Z1 = true) ∧ True) ∧ (Z1 = false → True))) ∧ True))))))))))) (decide ((0 : Int) < (state.length : Int)))) (by kernel_rfl) (by kernel_rfl)
      ⟨tt,⟨tt,tt,tt⟩,tt,(fun _ => trivial),(fun hG => ⟨⟨hG,tt⟩,tt,(by have hg0 : (0 : Int) < (state.length : Int) := of_decide_eq_true hG; omega),(by have hg0 : (0 : Int) < (state.length : Int) := of_decide_eq_true hG; omega)⟩),(fun hG => ⟨hG,tt⟩),(fun _ => trivial),(fun hG => ⟨hG,tt⟩),(fun hG => ⟨⟨hG,tt⟩,⟨hG,tt⟩,tt⟩),⟨tt,(fun hp => ⟨hp,tt⟩),(fun _ => trivial)⟩,tt⟩ ?_
     refine W.if' ((decide ((0 : Int) < (state.length : Int))) && (decide (c.arg < (state.getD 0 0)))) (.b ((decide ((0 : Int) < (state.length : Int))) && (decide (c.arg < (state.getD 0 0))))) (by kernel_rfl) rfl trivial ?_ ?_
     ·intro h55
      have h55_0 : (0 : Int) < (state.length : Int) := of_decide_eq_true (and_l h55)
      have h55_1 : c.arg < (state.getD 0 0) := of_decide_eq_true (and_r h55)
      refine W.KA cok tab28 hnt [] [6,7] (⟨[(6,.sl (.ints state)),(7,.b (decide (c.ret = (0 : Int))))],[(5,⟨46,.fix [.i c.proc,.i c.obj,.i c.kind,.i c.arg,.i c.ret,.i c.frm,.i c.to]⟩)],[5,999]⟩)
       (True ∧ True ∧ True ∧ (True ∧ True ∧ True) ∧ True ∧ True ∧ True) (by kernel_rfl) (by kernel_rfl)
       ⟨tt,tt,tt,⟨tt,tt,tt⟩,tt,tt,tt⟩ ?_
      refine W.ret (thenQ_ret (blockQ_ret (thenQ_ret (thenQ_ret ?_))))
      exact endQ_ret (.tup [.sl (.ints state),.b (decide (c.ret = (0 : Int)))]) (by kernel_rfl) (@cast (((.ints state : Dat) = .ints ((specStep name state c).1)) ∧ ((.bool (decide (c.ret = (0 : Int))) : Value) = .bool ((specStep name state c).2)) ∧ True) _ (by kernel_rfl) ⟨(congrArg Dat.ints (by simp only [specStep,(decide_eq_true h14),h44,h55,(and_l h55),(and_r h55),n16,n24,cond_true,cond_false,Bool.and_true,Bool.true_and,Bool.and_false,Bool.false_and,Bool.or_true,Bool.true_or,Bool.or_false,Bool.false_or,Bool.not_true,Bool.not_false])),(congrArg Value.bool (by simp only [specStep,(decide_eq_true h14),h44,h55,(and_l h55),(and_r h55),n16,n24,cond_true,cond_false,Bool.and_true,Bool.true_and,Bool.and_false,Bool.false_and,Bool.or_true,Bool.true_or,Bool.or_false,Bool.false_or,Bool.not_true,Bool.not_false])),tt⟩)
     ·intro n55
      refine W.skip (thenQ_normal ?_)
      refine W.KA cok tab28 hnt [] [6,7] (⟨[(6,.sl (.ints ([c.arg]))),(7,.b (decide (c.ret = (0 : Int))))],[(5,⟨46,.fix [.i c.proc,.i c.obj,.i c.kind,.i c.arg,.i c.ret,.i c.frm,.i c.to]⟩)],[62,5,999]⟩)
       (True ∧ True ∧ (True ∧ True) ∧ True ∧ True ∧ (True ∧ True ∧ True) ∧ True ∧ True ∧ True) (by kernel_rfl) (by kernel_rfl)
       ⟨tt,tt,⟨tt,tt⟩,tt,tt,⟨tt,tt,tt⟩,tt,tt,tt⟩ ?_
      refine W.ret (blockQ_ret (thenQ_ret (thenQ_ret ?_)))
      exact endQ_ret (.tup [.sl (.ints ([c.arg])),.b (decide (c.ret = (0 : Int)))]) (by kernel_rfl) (@cast (((.ints ([c.arg]) : Dat) = .ints ((specStep name state c).1)) ∧ ((.bool (decide (c.ret = (0 : Int))) : Value) = .bool ((specStep name state c).2)) ∧ True) _ (by kernel_rfl) ⟨(congrArg Dat.ints (by simp only [specStep,(decide_eq_true h14),h44,n16,n24,n55,cond_true,cond_false,Bool.and_true,Bool.true_and,Bool.and_false,Bool.false_and,Bool.or_true,Bool.true_or,Bool.or_false,Bool.false_or,Bool.not_true,Bool.not_false])),(congrArg Value.bool (by simp only [specStep,(decide_eq_true h14),h44,n16,n24,n55,cond_true,cond_false,Bool.and_true,Bool.true_and,Bool.and_false,Bool.false_and,Bool.or_true,Bool.true_or,Bool.or_false,Bool.false_or,Bool.not_true,Bool.not_false])),tt⟩)
    ·intro n44
     refine Kk cok tab28 hnt [] [1,5,66] (⟨[(1,.sl (.ints state)),(5,.ptr 5 0),(66,.b (eqS name nSet))],[(5,⟨46,.fix [.i c.proc,.i c.obj,.i c.kind,.i c.arg,.i c.ret,.i c.frm,.i c.to]⟩)],[5,999]⟩)
      ((True ∧ True ∧ True) ∧ True ∧ True)
      ⟨⟨tt,tt,tt⟩,tt,tt⟩ ?_
     refine W.if' (eqS name nSet) (.b (eqS name nSet)) (by kernel_rfl) rfl trivial ?_ ?_
     ·intro h66
      refine W.seq ?_
      refine Kk cok tab28 hnt [] [1,5,71] (⟨[(1,.sl (.ints state)),(5,.ptr 5 0),(71,.b (hasInt state c.arg))],[(5,⟨46,.fix [.i c.proc,.i c.obj,.i c.kind,.i c.arg,.i c.ret,.i c.frm,.i c.to]⟩)],[5,999]⟩)
       (True ∧ True ∧ True ∧ (True ∧ (True ∧ True ∧ True) ∧ True) ∧ True)
       ⟨tt,tt,tt,⟨tt,⟨tt,tt,tt⟩,tt⟩,tt⟩ ?_
      refine W.if' (hasInt state c.arg) (.b (hasInt state c.arg)) (by kernel_rfl) rfl trivial ?_ ?_
      ·intro h71
       refine W.KA cok tab28 hnt [] [6,7] (⟨[(6,.sl (.ints state)),(7,.b (decide (c.ret = (0 : Int))))],[(5,⟨46,.fix [.i c.proc,.i c.obj,.i c.kind,.i c.arg,.i c.ret,.i c.frm,.i c.to]⟩)],[5,999]⟩)
        (True ∧ True ∧ True ∧ (True ∧ True ∧ True) ∧ True ∧ True ∧ True) (by kernel_rfl) (by kernel_rfl)
        ⟨tt,tt,tt,⟨tt,tt,tt⟩,tt,tt,tt⟩ ?_
       refine W.ret (thenQ_ret (blockQ_ret (thenQ_ret (thenQ_ret ?_))))
       exact endQ_ret (.tup [.sl (.ints state),.b (decide (c.ret = (0 : Int)))]) (by kernel_rfl) (@cast (((.ints state : Dat) = .ints ((specStep name state c).1)) ∧ ((.bool (decide (c.ret = (0 : Int))) : Value) = .bool ((specStep name state c).2)) ∧ True) _ (by kernel_rfl) ⟨(congrArg Dat.ints (by simp only [specStep,(decide_eq_true h14),h66,h71,n16,n24,n44,cond_true,cond_false,Bool.and_true,Bool.true_and,Bool.and_false,Bool.false_and,Bool.or_true,Bool.true_or,Bool.or_false,Bool.false_or,Bool.not_true,Bool.not_false])),(congrArg Value.bool (by simp only [specStep,(decide_eq_true h14),h66,h71,n16,n24,n44,cond_true,cond_false,Bool.and_true,Bool.true_and,Bool.and_false,Bool.false_and,Bool.or_true,Bool.true_or,Bool.or_false,Bool.false_or,Bool.not_true,Bool.not_false])),tt⟩)
      ·intro n71
       refine W.skip (thenQ_normal ?_)
       refine W.KA cok tab28 hnt [76,78] [6,7] (⟨[(6,.sl (.ints (state ++ ([c.arg])))),(7,.b (decide (c.ret = (1 : Int))))],[(5,⟨46,.fix [.i c.proc,.i c.obj,.i c.kind,.i c.arg,.i c.ret,.i c.frm,.i c.to]⟩)],[82,81,78,76,5,999]⟩)
        (True ∧ True ∧ ((True ∧ ((List.length ([] : List Int)) = (List.length ([] : List Int)))) ∧ True ∧ (((List.length ([] : List Int)) + state.length) * 8 ≤ 140737488355328)) ∧ True ∧ True ∧ (True ∧ True) ∧ ((True ∧ (state.length = state.length)) ∧ True ∧ ((state.length + (List.length ([c.arg]))) * 8 ≤ 140737488355328)) ∧ True ∧ True ∧ (True ∧ True ∧ True) ∧ True ∧ True ∧ True) (by kernel_rfl) (by kernel_rfl)
        ⟨tt,tt,⟨⟨tt,rfl⟩,tt,(by (first | omega | (simp only [List.length_set]; done) | (simp only [List.length_append,List.length_cons,List.length_nil,List.length_take,List.length_drop,List.length_set,List.length_replicate,List.length_map] at *; omega) | assumption))⟩,tt,tt,⟨tt,tt⟩,⟨⟨tt,rfl⟩,tt,(by (first | omega | (simp only [List.length_set]; done) | (simp only [List.length_append,List.length_cons,List.length_nil,List.length_take,List.length_drop,List.length_set,List.length_replicate,List.length_map] at *; omega) | assumption))⟩,tt,tt,⟨tt,tt,tt⟩,tt,tt,tt⟩ ?_
       refine W.ret (blockQ_ret (thenQ_ret (thenQ_ret ?_)))
       exact endQ_ret (.tup [.sl (.ints (state ++ ([c.arg]))),.b (decide (c.ret = (1 : Int)))]) (by kernel_rfl) (@cast (((.ints (state ++ ([c.arg])) : Dat) = .ints ((specStep name state c).1)) ∧ ((.bool (decide (c.ret = (1 : Int))) : Value) = .bool ((specStep name state c).2)) ∧ True) _ (by kernel_rfl) ⟨(congrArg Dat.ints (by simp only [specStep,(decide_eq_true h14),h66,n16,n24,n44,n71,cond_true,cond_false,Bool.and_true,Bool.true_and,Bool.and_false,Bool.false_and,Bool.or_true,Bool.true_or,Bool.or_false,Bool.false_or,Bool.not_true,Bool.not_false])),(congrArg Value.bool (by simp only [specStep,(decide_eq_true h14),h66,n16,n24,n44,n71,cond_true,cond_false,Bool.and_true,Bool.true_and,Bool.and_false,Bool.false_and,Bool.or_true,Bool.true_or,Bool.or_false,Bool.false_or,Bool.not_true,Bool.not_false])),tt⟩)
     ·intro n66
      refine W.skip (blockQ_normal (thenQ_normal ?_))
      refine W.KA cok tab28 hnt [86,88] [6,7] (⟨[(6,.sl (.ints (state ++ ([c.arg])))),(7,.b (decide (c.ret = (0 : Int))))],[(5,⟨46,.fix [.i c.proc,.i c.obj,.i c.kind,.i c.arg,.i c.ret,.i c.frm,.i c.to]⟩)],[92,91,88,86,5,999]⟩)
       (True ∧ True ∧ ((True ∧ ((List.length ([] : List Int)) = (List.length ([] : List Int)))) ∧ True ∧ (((List.length ([] : List Int)) + state.length) * 8 ≤ 140737488355328)) ∧ True ∧ True ∧ (True ∧ True) ∧ ((True ∧ (state.length = state.length)) ∧ True ∧ ((state.length + (List.length ([c.arg]))) * 8 ≤ 140737488355328)) ∧ True ∧ True ∧ (True ∧ True ∧ True) ∧ True ∧ True ∧ True) (by kernel_rfl) (by kernel_rfl)
       ⟨tt,tt,⟨⟨tt,rfl⟩,tt,(by (first | omega | (simp only [List.length_set]; done) | (simp only [List.length_append,List.length_cons,List.length_nil,List.length_take,List.length_drop,List.length_set,List.length_replicate,List.length_map] at *; omega) | assumption))⟩,tt,tt,⟨tt,tt⟩,⟨⟨tt,rfl⟩,tt,(by (first | omega | (simp only [List.length_set]; done) | (simp only [List.length_append,List.length_cons,List.length_nil,List.length_take,List.length_drop,List.length_set,List.length_replicate,List.length_map] at *; omega) | assumption))⟩,tt,tt,⟨tt,tt,tt⟩,tt,tt,tt⟩ ?_
      refine W.ret (thenQ_ret ?_)
      exact endQ_ret (.tup [.sl (.ints (state ++ ([c.arg]))),.b (decide (c.ret = (0 : Int)))]) (by kernel_rfl) (@cast (((.ints (state ++ ([c.arg])) : Dat) = .ints ((specStep name state c).1)) ∧ ((.bool (decide (c.ret = (0 : Int))) : Value) = .bool ((specStep name state c).2)) ∧ True) _ (by kernel_rfl) ⟨(congrArg Dat.ints (by simp only [specStep,(decide_eq_true h14),n16,n24,n44,n66,cond_true,cond_false,Bool.and_true,Bool.true_and,Bool.and_false,Bool.false_and,Bool.or_true,Bool.true_or,Bool.or_false,Bool.false_or,Bool.not_true,Bool.not_false])),(congrArg Value.bool (by simp only [specStep,(decide_eq_true h14),n16,n24,n44,n66,cond_true,cond_false,Bool.and_true,Bool.true_and,Bool.and_false,Bool.false_and,Bool.or_true,Bool.true_or,Bool.or_false,Bool.false_or,Bool.not_true,Bool.not_false])),tt⟩)
 ·intro n14
  refine W.skip (thenQ_normal ?_)
  refine W.seq ?_
  refine Kk cok tab28 hnt [] [0,1,5,8,98] (⟨[(0,.v (.string name)),(1,.sl (.ints state)),(5,.ptr 5 0),(8,.i (state.length : Int)),(98,.b (decide (c.kind = (2 : Int))))],[(5,⟨46,.fix [.i c.proc,.i c.obj,.i c.kind,.i c.arg,.i c.ret,.i c.frm,.i c.to]⟩)],[5,999]⟩)
   (True ∧ True ∧ (True ∧ True ∧ True) ∧ True)
   ⟨tt,tt,⟨tt,tt,tt⟩,tt⟩ ?_
  refine W.ifP (c.kind = (2 : Int)) (.b (decide (c.kind = (2 : Int)))) (by kernel_rfl) rfl trivial ?_ ?_
  ·intro h98
   refine W.seq ?_
   refine Kk cok tab28 hnt [] [1,5,8,99] (⟨[(1,.sl (.ints state)),(5,.ptr 5 0),(8,.i (state.length : Int)),(99,.v (.string name))],[(5,⟨46,.fix [.i c.proc,.i c.obj,.i c.kind,.i c.arg,.i c.ret,.i c.frm,.i c.to]⟩)],[5,999]⟩)
    (True ∧ True)
    ⟨tt,tt⟩ ?_
   refine W.block ?_
   refine Kk cok tab28 hnt [] [1,5,8,99,100] (⟨[(1,.sl (.ints state)),(5,.ptr 5 0),(8,.i (state.length : Int)),(99,.v (.string name)),(100,.b (eqS name nQueue))],[(5,⟨46,.fix [.i c.proc,.i c.obj,.i c.kind,.i c.arg,.i c.ret,.i c.frm,.i c.to]⟩)],[5,999]⟩)
    ((True ∧ True ∧ True) ∧ True ∧ True)
    ⟨⟨tt,tt,tt⟩,tt,tt⟩ ?_
   refine W.if' (eqS name nQueue) (.b (eqS name nQueue)) (by kernel_rfl) rfl trivial ?_ ?_
   ·intro h100
    refine W.seq ?_
    refine Kk cok tab28 hnt [] [1,5,103] (⟨[(1,.sl (.ints state)),(5,.ptr 5 0),(103,.b (decide ((state.length : Int) = (0 : Int))))],[(5,⟨46,.fix [.i c.proc,.i c.obj,.i c.kind,.i c.arg,.i c.ret,.i c.frm,.i c.to]⟩)],[5,999]⟩)
     (True ∧ (True ∧ True ∧ True) ∧ True)
     ⟨tt,⟨tt,tt,tt⟩,tt⟩ ?_
    refine W.ifP ((state.length : Int) = (0 : Int)) (.b (decide ((state.length : Int) = (0 : Int)))) (by kernel_rfl) rfl trivial ?_ ?_
    ·intro h103
     refine W.KA cok tab28 hnt [] [6,7] (⟨[(6,.sl (.ints state)),(7,.b (decide (c.ret = (-1 : Int))))],[(5,⟨46,.fix [.i c.proc,.i c.obj,.i c.kind,.i c.arg,.i c.ret,.i c.frm,.i c.to]⟩)],[5,999]⟩)
      (True ∧ True ∧ True ∧ (True ∧ True ∧ True) ∧ True ∧ True ∧ True) (by kernel_rfl) (by kernel_rfl)
      ⟨tt,tt,tt,⟨tt,tt,tt⟩,tt,tt,tt⟩ ?_
     refine W.ret (thenQ_ret (blockQ_ret (thenQ_ret (thenQ_ret ?_))))
     exact endQ_ret (.tup [.sl (.ints state),.b (decide (c.ret = (-1 : Int)))]) (by kernel_rfl) (@cast (((.ints state : Dat) = .ints ((specStep name state c).1)) ∧ ((.bool (decide (c.ret = (-1 : Int))) : Value) = .bool ((specStep name state c).2)) ∧ True) _ (by kernel_rfl) ⟨(congrArg Dat.ints (by simp only [specStep,(decide_eq_true h98),h100,(decide_eq_true h103),(decide_eq_false n14),cond_true,cond_false,Bool.and_true,Bool.true_and,Bool.and_false,Bool.false_and,Bool.or_true,Bool.true_or,Bool.or_false,Bool.false_or,Bool.not_true,Bool.not_false])),(congrArg Value.bool (by simp only [specStep,(decide_eq_true h98),h100,(decide_eq_true h103),(decide_eq_false n14),cond_true,cond_false,Bool.and_true,Bool.true_and,Bool.and_false,Bool.false_and,Bool.or_true,Bool.true_or,Bool.or_false,Bool.false_or,Bool.not_true,Bool.not_false])),tt⟩)
    ·intro n103
     refine W.skip (thenQ_normal ?_)
     refine W.KA cok tab28 hnt [] [6,7] (⟨[(6,.sl (.ints state)),(7,.b (decide (c.ret = (state.getD 0 0))))],[(5,⟨46,.fix [.i c.proc,.i c.obj,.i c.kind,.i c.arg,.i c.ret,.i c.frm,.i c.to]⟩)],[5,999]⟩)
      (True ∧ True ∧ True ∧ True ∧ (True ∧ True ∧ (0 ≤ (0 : Int)) ∧ ((0 : Int) < (state.length : Int))) ∧ True ∧ (True ∧ True ∧ True) ∧ True ∧ True ∧ True) (by kernel_rfl) (by kernel_rfl)
      ⟨tt,tt,tt,tt,⟨tt,tt,(by omega),(by omega)⟩,tt,⟨tt,tt,tt⟩,tt,tt,tt⟩ ?_
     refine W.ret (blockQ_ret (thenQ_ret (thenQ_ret ?_)))
     exact endQ_ret (.tup [.sl (.ints state),.b (decide (c.ret = (state.getD 0 0)))]) (by kernel_rfl) (@cast (((.ints state : Dat) = .ints ((specStep name state c).1)) ∧ ((.bool (decide (c.ret = (state.getD 0 0))) : Value) = .bool ((specStep name state c).2)) ∧ True) _ (by kernel_rfl) ⟨(congrArg Dat.ints (by simp only [specStep,(decide_eq_true h98),h100,(decide_eq_false n14),(decide_eq_false n103),cond_true,cond_false,Bool.and_true,Bool.true_and,Bool.and_false,Bool.false_and,Bool.or_true,Bool.true_or,Bool.or_false,Bool.false_or,Bool.not_true,Bool.not_false])),(congrArg Value.bool (by simp only [specStep,(decide_eq_true h98),h100,(decide_eq_false n14),(decide_eq_false n103),cond_true,cond_false,Bool.and_true,Bool.true_and,Bool.and_false,Bool.false_and,Bool.or_true,Bool.true_or,Bool.or_false,Bool.false_or,Bool.not_true,Bool.not_false])),tt⟩)
   ·intro n100
    refine Kk cok tab28 hnt [] [1,5,8,99,115] (⟨[(1,.sl (.ints state)),(5,.ptr 5 0),(8,.i (state.length : Int)),(99,.v (.string name)),(115,.b (eqS name nStack))],[(5,⟨46,.fix [.i c.proc,.i c.obj,.i c.kind,.i c.arg,.i c.ret,.i c.frm,.i c.to]⟩)],[5,999]⟩)
     ((True ∧ True ∧ True) ∧ True ∧ True)
     ⟨⟨tt,tt,tt⟩,tt,tt⟩ ?_
    refine W.if' (eqS name nStack) (.b (eqS name nStack)) (by kernel_rfl) rfl trivial ?_ ?_
    ·intro h115
     refine W.seq ?_
     refine Kk cok tab28 hnt [] [1,5,8,118] (⟨[(1,.sl (.ints state)),(5,.ptr 5 0),(8,.i (state.length : Int)),(118,.b (decide ((state.length : Int) = (0 : Int))))],[(5,⟨46,.fix [.i c.proc,.i c.obj,.i c.kind,.i c.arg,.i c.ret,.i c.frm,.i c.to]⟩)],[5,999]⟩)
      (True ∧ (True ∧ True ∧ True) ∧ True)
      ⟨tt,⟨tt,tt,tt⟩,tt⟩ ?_
     refine W.ifP ((state.length : Int) = (0 : Int)) (.b (decide ((state.length : Int) = (0 : Int)))) (by kernel_rfl) rfl trivial ?_ ?_
     ·intro h118
      refine W.KA cok tab28 hnt [] [6,7] (⟨[(6,.sl (.ints state)),(7,.b (decide (c.ret = (-1 : Int))))],[(5,⟨46,.fix [.i c.proc,.i c.obj,.i c.kind,.i c.arg,.i c.ret,.i c.frm,.i c.to]⟩)],[5,999]⟩)
       (True ∧ True ∧ True ∧ (True ∧ True ∧ True) ∧ True ∧ True ∧ True) (by kernel_rfl) (by kernel_rfl)
       ⟨tt,tt,tt,⟨tt,tt,tt⟩,tt,tt,tt⟩ ?_
      refine W.ret (thenQ_ret (blockQ_ret (thenQ_ret (thenQ_ret ?_))))
      exact endQ_ret (.tup [.sl (.ints state),.b (decide (c.ret = (-1 : Int)))]) (by kernel_rfl) (@cast (((.ints state : Dat) = .ints ((specStep name state c).1)) ∧ ((.bool (decide (c.ret = (-1 : Int))) : Value) = .bool ((specStep name state c).2)) ∧ True) _ (by kernel_rfl) ⟨(congrArg Dat.ints (by simp only [specStep,(decide_eq_true h98),h115,(decide_eq_true h118),(decide_eq_false n14),n100,cond_true,cond_false,Bool.and_true,Bool.true_and,Bool.and_false,Bool.false_and,Bool.or_true,Bool.true_or,Bool.or_false,Bool.false_or,Bool.not_true,Bool.not_false])),(congrArg Value.bool (by simp only [specStep,(decide_eq_true h98),h115,(decide_eq_true h118),(decide_eq_false n14),n100,cond_true,cond_false,Bool.and_true,Bool.true_and,Bool.and_false,Bool.false_and,Bool.or_true,Bool.true_or,Bool.or_false,Bool.false_or,Bool.not_true,Bool.not_false])),tt⟩)
     ·intro n118
      refine W.skip (thenQ_normal ?_)
      refine W.KA cok tab28 hnt [] [6,7] (⟨[(6,.sl (.ints state)),(7,.b (decide (c.ret = (state.getD (Int.toNat ((state.length : Int) - (1 : Int))) 0))))],[(5,⟨46,.fix [.i c.proc,.i c.obj,.i c.kind,.i c.arg,.i c.ret,.i c.frm,.i c.to]⟩)],[5,999]⟩)
       (True ∧ True ∧ True ∧ True ∧ True ∧ (True ∧ True ∧ (Fits .i64 ((state.length : Int) - (1 : Int)))) ∧ (True ∧ True ∧ (0 ≤ ((state.length : Int) - (1 : Int))) ∧ (((state.length : Int) - (1 : Int)) < (state.length : Int))) ∧ True ∧ (True ∧ True ∧ True) ∧ True ∧ True ∧ True) (by kernel_rfl) (by kernel_rfl)
       ⟨tt,tt,tt,tt,tt,⟨tt,tt,(by exact fits_i64 (by omega) (by omega))⟩,⟨tt,tt,(by omega),(by omega)⟩,tt,⟨tt,tt,tt⟩,tt,tt,tt⟩ ?_
      refine W.ret (blockQ_ret (thenQ_ret (thenQ_ret ?_)))
      exact endQ_ret (.tup [.sl (.ints state),.b (decide (c.ret = (state.getD (Int.toNat ((state.length : Int) - (1 : Int))) 0)))]) (by kernel_rfl) (@cast (((.ints state : Dat) = .ints ((specStep name state c).1)) ∧ ((.bool (decide (c.ret = (state.getD (Int.toNat ((state.length : Int) - (1 : Int))) 0))) : Value) = .bool ((specStep name state c).2)) ∧ True) _ (by kernel_rfl) ⟨(congrArg Dat.ints (by first | (rw [show Int.toNat (((List.length state : Nat) : Int) - (1 : Int)) = state.length - 1 by omega]; simp only [specStep,(decide_eq_true h98),h115,(decide_eq_false n14),n100,(decide_eq_false n118),cond_true,cond_false,Bool.and_true,Bool.true_and,Bool.and_false,Bool.false_and,Bool.or_true,Bool.true_or,Bool.or_false,Bool.false_or,Bool.not_true,Bool.not_false]; done) | simp only [specStep,(decide_eq_true h98),h115,(decide_eq_false n14),n100,(decide_eq_false n118),cond_true,cond_false,Bool.and_true,Bool.true_and,Bool.and_false,Bool.false_and,Bool.or_true,Bool.true_or,Bool.or_false,Bool.false_or,Bool.not_true,Bool.not_false])),(congrArg Value.bool (by first | (rw [show Int.toNat (((List.length state : Nat) : Int) - (1 : Int)) = state.length - 1 by omega]; simp only [specStep,(decide_eq_true h98),h115,(decide_eq_false n14),n100,(decide_eq_false n118),cond_true,cond_false,Bool.and_true,Bool.true_and,Bool.and_false,Bool.false_and,Bool.or_true,Bool.true_or,Bool.or_false,Bool.false_or,Bool.not_true,Bool.not_false]; done) | simp only [specStep,(decide_eq_true h98),h115,(decide_eq_false n14),n100,(decide_eq_false n118),cond_true,cond_false,Bool.and_true,Bool.true_and,Bool.and_false,Bool.false_and,Bool.or_true,Bool.true_or,Bool.or_false,Bool.false_or,Bool.not_true,Bool.not_false])),tt⟩)
    ·intro n115
     refine Kk cok tab28 hnt [] [1,5,8,132] (⟨[(1,.sl (.ints state)),(5,.ptr 5 0),(8,.i (state.length : Int)),(132,.b (eqS name nSet))],[(5,⟨46,.fix [.i c.proc,.i c.obj,.i c.kind,.i c.arg,.i c.ret,.i c.frm,.i c.to]⟩)],[5,999]⟩)
      ((True ∧ True ∧ True) ∧ True ∧ True)
      ⟨⟨tt,tt,tt⟩,tt,tt⟩ ?_
     refine W.if' (eqS name nSet) (.b (eqS name nSet)) (by kernel_rfl) rfl trivial ?_ ?_
     ·intro h132
      refine W.seq ?_
      refine Kk cok tab28 hnt [] [1,5,137] (⟨[(1,.sl (.ints state)),(5,.ptr 5 0),(137,.b (hasInt state c.arg))],[(5,⟨46,.fix [.i c.proc,.i c.obj,.i c.kind,.i c.arg,.i c.ret,.i c.frm,.i c.to]⟩)],[5,999]⟩)
       (True ∧ True ∧ True ∧ (True ∧ (True ∧ True ∧ True) ∧ True) ∧ True)
       ⟨tt,tt,tt,⟨tt,⟨tt,tt,tt⟩,tt⟩,tt⟩ ?_
      refine W.if' (hasInt state c.arg) (.b (hasInt state c.arg)) (by kernel_rfl) rfl trivial ?_ ?_
      ·intro h137
       refine W.KA cok tab28 hnt [] [6,7] (⟨[(6,.sl (.ints state)),(7,.b (decide (c.ret = (1 : Int))))],[(5,⟨46,.fix [.i c.proc,.i c.obj,.i c.kind,.i c.arg,.i c.ret,.i c.frm,.i c.to]⟩)],[5,999]⟩)
        (True ∧ True ∧ True ∧ (True ∧ True ∧ True) ∧ True ∧ True ∧ True) (by kernel_rfl) (by kernel_rfl)
        ⟨tt,tt,tt,⟨tt,tt,tt⟩,tt,tt,tt⟩ ?_
       refine W.ret (thenQ_ret (blockQ_ret (thenQ_ret (thenQ_ret ?_))))
       exact endQ_ret (.tup [.sl (.ints state),.b (decide (c.ret = (1 : Int)))]) (by kernel_rfl) (@cast (((.ints state : Dat) = .ints ((specStep name state c).1)) ∧ ((.bool (decide (c.ret = (1 : Int))) : Value) = .bool ((specStep name state c).2)) ∧ True) _ (by kernel_rfl) ⟨(congrArg Dat.ints (by simp only [specStep,(decide_eq_true h98),h132,h137,(decide_eq_false n14),n100,n115,cond_true,cond_false,Bool.and_true,Bool.true_and,Bool.and_false,Bool.false_and,Bool.or_true,Bool.true_or,Bool.or_false,Bool.false_or,Bool.not_true,Bool.not_false])),(congrArg Value.bool (by simp only [specStep,(decide_eq_true h98),h132,h137,(decide_eq_false n14),n100,n115,cond_true,cond_false,Bool.and_true,Bool.true_and,Bool.and_false,Bool.false_and,Bool.or_true,Bool.true_or,Bool.or_false,Bool.false_or,Bool.not_true,Bool.not_false])),tt⟩)
      ·intro n137
       refine W.skip (thenQ_normal ?_)
       refine W.KA cok tab28 hnt [] [6,7] (⟨[(6,.sl (.ints state)),(7,.b (decide (c.ret = (0 : Int))))],[(5,⟨46,.fix [.i c.proc,.i c.obj,.i c.kind,.i c.arg,.i c.ret,.i c.frm,.i c.to]⟩)],[5,999]⟩)
        (True ∧ True ∧ True ∧ (True ∧ True ∧ True) ∧ True ∧ True ∧ True) (by kernel_rfl) (by kernel_rfl)
        ⟨tt,tt,tt,⟨tt,tt,tt⟩,tt,tt,tt⟩ ?_
       refine W.ret (blockQ_ret (thenQ_ret (thenQ_ret ?_)))
       exact endQ_ret (.tup [.sl (.ints state),.b (decide (c.ret = (0 : Int)))]) (by kernel_rfl) (@cast (((.ints state : Dat) = .ints ((specStep name state c).1)) ∧ ((.bool (decide (c.ret = (0 : Int))) : Value) = .bool ((specStep name state c).2)) ∧ True) _ (by kernel_rfl) ⟨(congrArg Dat.ints (by simp only [specStep,(decide_eq_true h98),h132,(decide_eq_false n14),n100,n115,n137,cond_true,cond_false,Bool.and_true,Bool.true_and,Bool.and_false,Bool.false_and,Bool.or_true,Bool.true_or,Bool.or_false,Bool.false_or,Bool.not_true,Bool.not_false])),(congrArg Value.bool (by simp only [specStep,(decide_eq_true h98),h132,(decide_eq_false n14),n100,n115,n137,cond_true,cond_false,Bool.and_true,Bool.true_and,Bool.and_false,Bool.false_and,Bool.or_true,Bool.true_or,Bool.or_false,Bool.false_or,Bool.not_true,Bool.not_false])),tt⟩)
     ·intro n132
      refine W.skip (blockQ_normal (thenQ_normal ?_))
      refine W.seq ?_
      refine Kk cok tab28 hnt [] [1,5,147] (⟨[(1,.sl (.ints state)),(5,.ptr 5 0),(147,.b (decide ((state.length : Int) = (0 : Int))))],[(5,⟨46,.fix [.i c.proc,.i c.obj,.i c.kind,.i c.arg,.i c.ret,.i c.frm,.i c.to]⟩)],[5,999]⟩)
       (True ∧ (True ∧ True ∧ True) ∧ True)
       ⟨tt,⟨tt,tt,tt⟩,tt⟩ ?_
      refine W.ifP ((state.length : Int) = (0 : Int)) (.b (decide ((state.length : Int) = (0 : Int)))) (by kernel_rfl) rfl trivial ?_ ?_
      ·intro h147
       refine W.KA cok tab28 hnt [] [6,7] (⟨[(6,.sl (.ints state)),(7,.b (decide (c.ret = (0 : Int))))],[(5,⟨46,.fix [.i c.proc,.i c.obj,.i c.kind,.i c.arg,.i c.ret,.i c.frm,.i c.to]⟩)],[5,999]⟩)
        (True ∧ True ∧ True ∧ (True ∧ True ∧ True) ∧ True ∧ True ∧ True) (by kernel_rfl) (by kernel_rfl)
        ⟨tt,tt,tt,⟨tt,tt,tt⟩,tt,tt,tt⟩ ?_
       refine W.ret (thenQ_ret (thenQ_ret ?_))
       exact endQ_ret (.tup [.sl (.ints state),.b (decide (c.ret = (0 : Int)))]) (by kernel_rfl) (@cast (((.ints state : Dat) = .ints ((specStep name state c).1)) ∧ ((.bool (decide (c.ret = (0 : Int))) : Value) = .bool ((specStep name state c).2)) ∧ True) _ (by kernel_rfl) ⟨(congrArg Dat.ints (by simp only [specStep,(decide_eq_true h98),(decide_eq_true h147),(decide_eq_false n14),n100,n115,n132,cond_true,cond_false,Bool.and_true,Bool.true_and,Bool.and_false,Bool.false_and,Bool.or_true,Bool.true_or,Bool.or_false,Bool.false_or,Bool.not_true,Bool.not_false])),(congrArg Value.bool (by simp only [specStep,(decide_eq_true h98),(decide_eq_true h147),(decide_eq_false n14),n100,n115,n132,cond_true,cond_false,Bool.and_true,Bool.true_and,Bool.and_false,Bool.false_and,Bool.or_true,Bool.true_or,Bool.or_false,Bool.false_or,Bool.not_true,Bool.not_false])),tt⟩)
      ·intro n147
       refine W.skip (thenQ_normal ?_)
       refine W.KA cok tab28 hnt [] [6,7] (⟨[(6,.sl (.ints state)),(7,.b (decide (c.ret = (state.getD 0 0))))],[(5,⟨46,.fix [.i c.proc,.i c.obj,.i c.kind,.i c.arg,.i c.ret,.i c.frm,.i c.to]⟩)],[5,999]⟩)
        (True ∧ True ∧ True ∧ True ∧ (True ∧ True ∧ (0 ≤ (0 : Int)) ∧ ((0 : Int) < (state.length : Int))) ∧ True ∧ (True ∧ True ∧ True) ∧ True ∧ True ∧ True) (by kernel_rfl) (by kernel_rfl)
        ⟨tt,tt,tt,tt,⟨tt,tt,(by omega),(by omega)⟩,tt,⟨tt,tt,tt⟩,tt,tt,tt⟩ ?_
       refine W.ret (thenQ_ret ?_)
       exact endQ_ret (.tup [.sl (.ints state),.b (decide (c.ret = (state.getD 0 0)))]) (by kernel_rfl) (@cast (((.ints state : Dat) = .ints ((specStep name state c).1)) ∧ ((.bool (decide (c.ret = (state.getD 0 0))) : Value) = .bool ((specStep name state c).2)) ∧ True) _ (by kernel_rfl) ⟨(congrArg Dat.ints (by simp only [specStep,(decide_eq_true h98),(decide_eq_false n14),n100,n115,n132,(decide_eq_false n147),cond_true,cond_false,Bool.and_true,Bool.true_and,Bool.and_false,Bool.false_and,Bool.or_true,Bool.true_or,Bool.or_false,Bool.false_or,Bool.not_true,Bool.not_false])),(congrArg Value.bool (by simp only [specStep,(decide_eq_true h98),(decide_eq_false n14),n100,n115,n132,(decide_eq_false n147),cond_true,cond_false,Bool.and_true,Bool.true_and,Bool.and_false,Bool.false_and,Bool.or_true,Bool.true_or,Bool.or_false,Bool.false_or,Bool.not_true,Bool.not_false])),tt⟩)
  ·intro n98
   refine W.skip (thenQ_normal ?_)
   refine W.seq ?_
   refine Kk cok tab28 hnt [] [1,5,8,159] (⟨[(1,.sl (.ints state)),(5,.ptr 5 0),(8,.i (state.length : Int)),(159,.v (.string name))],[(5,⟨46,.fix [.i c.proc,.i c.obj,.i c.kind,.i c.arg,.i c.ret,.i c.frm,.i c.to]⟩)],[5,999]⟩)
    (True ∧ True)
    ⟨tt,tt⟩ ?_
   refine W.block ?_
   refine Kk cok tab28 hnt [] [1,5,8,159,160] (⟨[(1,.sl (.ints state)),(5,.ptr 5 0),(8,.i (state.length : Int)),(159,.v (.string name)),(160,.b (eqS name nQueue))],[(5,⟨46,.fix [.i c.proc,.i c.obj,.i c.kind,.i c.arg,.i c.ret,.i c.frm,.i c.to]⟩)],[5,999]⟩)
    ((True ∧ True ∧ True) ∧ True ∧ True)
    ⟨⟨tt,tt,tt⟩,tt,tt⟩ ?_
   refine W.if' (eqS name nQueue) (.b (eqS name nQueue)) (by kernel_rfl) rfl trivial ?_ ?_
   ·intro h160
    refine W.seq ?_
    refine Kk cok tab28 hnt [] [1,5,163] (⟨[(1,.sl (.ints state)),(5,.ptr 5 0),(163,.b (decide ((state.length : Int) = (0 : Int))))],[(5,⟨46,.fix [.i c.proc,.i c.obj,.i c.kind,.i c.arg,.i c.ret,.i c.frm,.i c.to]⟩)],[5,999]⟩)
     (True ∧ (True ∧ True ∧ True) ∧ True)
     ⟨tt,⟨tt,tt,tt⟩,tt⟩ ?_
    refine W.ifP ((state.length : Int) = (0 : Int)) (.b (decide ((state.length : Int) = (0 : Int)))) (by kernel_rfl) rfl trivial ?_ ?_
    ·intro h163
     refine W.KA cok tab28 hnt [] [6,7] (⟨[(6,.sl (.ints state)),(7,.b (decide (c.ret = (-1 : Int))))],[(5,⟨46,.fix [.i c.proc,.i c.obj,.i c.kind,.i c.arg,.i c.ret,.i c.frm,.i c.to]⟩)],[5,999]⟩)
      (True ∧ True ∧ True ∧ (True ∧ True ∧ True) ∧ True ∧ True ∧ True) (by kernel_rfl) (by kernel_rfl)
      ⟨tt,tt,tt,⟨tt,tt,tt⟩,tt,tt,tt⟩ ?_
     refine W.ret (thenQ_ret (blockQ_ret (thenQ_ret ?_)))
     exact endQ_ret (.tup [.sl (.ints state),.b (decide (c.ret = (-1 : Int)))]) (by kernel_rfl) (@cast (((.ints state : Dat) = .ints ((specStep name state c).1)) ∧ ((.bool (decide (c.ret = (-1 : Int))) : Value) = .bool ((specStep name state c).2)) ∧ True) _ (by kernel_rfl) ⟨(congrArg Dat.ints (by simp only [specStep,h160,(decide_eq_true h163),(decide_eq_false n14),(decide_eq_false n98),cond_true,cond_false,Bool.and_true,Bool.true_and,Bool.and_false,Bool.false_and,Bool.or_true,Bool.true_or,Bool.or_false,Bool.false_or,Bool.not_true,Bool.not_false])),(congrArg Value.bool (by simp only [specStep,h160,(decide_eq_true h163),(decide_eq_false n14),(decide_eq_false n98),cond_true,cond_false,Bool.and_true,Bool.true_and,Bool.and_false,Bool.false_and,Bool.or_true,Bool.true_or,Bool.or_false,Bool.false_or,Bool.not_true,Bool.not_false])),tt⟩)
    ·intro n163
     refine W.skip (thenQ_normal ?_)
     refine W.KA cok tab28 hnt [] [6,7] (⟨[(6,.sl (.ints (List.drop 1 (List.take state.length state)))),(7,.b (decide (c.ret = (state.getD 0 0))))],[(5,⟨46,.fix [.i c.proc,.i c.obj,.i c.kind,.i c.arg,.i c.ret,.i c.frm,.i c.to]⟩)],[5,999]⟩)
      (True ∧ (True ∧ True ∧ True ∧ (0 ≤ (1 : Int)) ∧ ((1 : Int) ≤ (state.length : Int)) ∧ ((state.length : Int) ≤ (state.length : Int))) ∧ True ∧ True ∧ True ∧ (True ∧ True ∧ (0 ≤ (0 : Int)) ∧ ((0 : Int) < (state.length : Int))) ∧ True ∧ (True ∧ True ∧ True) ∧ True ∧ True ∧ True) (by kernel_rfl) (by kernel_rfl)
      ⟨tt,⟨tt,tt,tt,(by omega),(by omega),(by omega)⟩,tt,tt,tt,⟨tt,tt,(by omega),(by omega)⟩,tt,⟨tt,tt,tt⟩,tt,tt,tt⟩ ?_
     refine W.ret (blockQ_ret (thenQ_ret ?_))
     exact endQ_ret (.tup [.sl (.ints (List.drop 1 (List.take state.length state))),.b (decide (c.ret = (state.getD 0 0)))]) (by kernel_rfl) (@cast (((.ints (List.drop 1 (List.take state.length state)) : Dat) = .ints ((specStep name state c).1)) ∧ ((.bool (decide (c.ret = (state.getD 0 0))) : Value) = .bool ((specStep name state c).2)) ∧ True) _ (by kernel_rfl) ⟨(congrArg Dat.ints (by first | (simp only [specStep,h160,(decide_eq_false n14),(decide_eq_false n98),(decide_eq_false n163),cond_true,cond_false,Bool.and_true,Bool.true_and,Bool.and_false,Bool.false_and,Bool.or_true,Bool.true_or,Bool.or_false,Bool.false_or,Bool.not_true,Bool.not_false,List.take_length]; done) | simp only [specStep,h160,(decide_eq_false n14),(decide_eq_false n98),(decide_eq_false n163),cond_true,cond_false,Bool.and_true,Bool.true_and,Bool.and_false,Bool.false_and,Bool.or_true,Bool.true_or,Bool.or_false,Bool.false_or,Bool.not_true,Bool.not_false])),(congrArg Value.bool (by first | (simp only [specStep,h160,(decide_eq_false n14),(decide_eq_false n98),(decide_eq_false n163),cond_true,cond_false,Bool.and_true,Bool.true_and,Bool.and_false,Bool.false_and,Bool.or_true,Bool.true_or,Bool.or_false,Bool.false_or,Bool.not_true,Bool.not_false,List.take_length]; done) | simp only [specStep,h160,(decide_eq_false n14),(decide_eq_false n98),(decide_eq_false n163),cond_true,cond_false,Bool.and_true,Bool.true_and,Bool.and_false,Bool.false_and,Bool.or_true,Bool.true_or,Bool.or_false,Bool.false_or,Bool.not_true,Bool.not_false])),tt⟩)
   ·intro n160
    refine Kk cok tab28 hnt [] [1,5,8,159,176] (⟨[(1,.sl (.ints state)),(5,.ptr 5 0),(8,.i (state.length : Int)),(159,.v (.string name)),(176,.b (eqS name nStack))],[(5,⟨46,.fix [.i c.proc,.i c.obj,.i c.kind,.i c.arg,.i c.ret,.i c.frm,.i c.to]⟩)],[5,999]⟩)
     ((True ∧ True ∧ True) ∧ True ∧ True)
     ⟨⟨tt,tt,tt⟩,tt,tt⟩ ?_
    refine W.if' (eqS name nStack) (.b (eqS name nStack)) (by kernel_rfl) rfl trivial ?_ ?_
    ·intro h176
     refine W.seq ?_
     refine Kk cok tab28 hnt [] [1,5,8,179] (⟨[(1,.sl (.ints state)),(5,.ptr 5 0),(8,.i (state.length : Int)),(179,.b (decide ((state.length : Int) = (0 : Int))))],[(5,⟨46,.fix [.i c.proc,.i c.obj,.i c.kind,.i c.arg,.i c.ret,.i c.frm,.i c.to]⟩)],[5,999]⟩)
      (True ∧ (True ∧ True ∧ True) ∧ True)
      ⟨tt,⟨tt,tt,tt⟩,tt⟩ ?_
     refine W.ifP ((state.length : Int) = (0 : Int)) (.b (decide ((state.length : Int) = (0 : Int)))) (by kernel_rfl) rfl trivial ?_ ?_
     ·intro h179
      refine W.KA cok tab28 hnt [] [6,7] (⟨[(6,.sl (.ints state)),(7,.b (decide (c.ret = (-1 : Int))))],[(5,⟨46,.fix [.i c.proc,.i c.obj,.i c.kind,.i c.arg,.i c.ret,.i c.frm,.i c.to]⟩)],[5,999]⟩)
       (True ∧ True ∧ True ∧ (True ∧ True ∧ True) ∧ True ∧ True ∧ True) (by kernel_rfl) (by kernel_rfl)
       ⟨tt,tt,tt,⟨tt,tt,tt⟩,tt,tt,tt⟩ ?_
      refine W.ret (thenQ_ret (blockQ_ret (thenQ_ret ?_)))
      exact endQ_ret (.tup [.sl (.ints state),.b (decide (c.ret = (-1 : Int)))]) (by kernel_rfl) (@cast (((.ints state : Dat) = .ints ((specStep name state c).1)) ∧ ((.bool (decide (c.ret = (-1 : Int))) : Value) = .bool ((specStep name state c).2)) ∧ True) _ (by kernel_rfl) ⟨(congrArg Dat.ints (by simp only [specStep,h176,(decide_eq_true h179),(decide_eq_false n14),(decide_eq_false n98),n160,cond_true,cond_false,Bool.and_true,Bool.true_and,Bool.and_false,Bool.false_and,Bool.or_true,Bool.true_or,Bool.or_false,Bool.false_or,Bool.not_true,Bool.not_false])),(congrArg Value.bool (by simp only [specStep,h176,(decide_eq_true h179),(decide_eq_false n14),(decide_eq_false n98),n160,cond_true,cond_false,Bool.and_true,Bool.true_and,Bool.and_false,Bool.false_and,Bool.or_true,Bool.true_or,Bool.or_false,Bool.false_or,Bool.not_true,Bool.not_false])),tt⟩)
     ·intro n179
      refine W.skip (thenQ_normal ?_)
      refine W.KA cok tab28 hnt [] [6,7] (⟨[(6,.sl (.ints (List.take (Int.toNat ((state.length : Int) - (1 : Int))) state))),(7,.b (decide (c.ret = (state.getD (Int.toNat ((state.length : Int) - (1 : Int))) 0))))],[(5,⟨46,.fix [.i c.proc,.i c.obj,.i c.kind,.i c.arg,.i c.ret,.i c.frm,.i c.to]⟩)],[5,999]⟩)
       (True ∧ True ∧ (True ∧ True ∧ (Fits .i64 ((state.length : Int) - (1 : Int)))) ∧ (True ∧ True ∧ True ∧ (0 ≤ (0 : Int)) ∧ ((0 : Int) ≤ ((state.length : Int) - (1 : Int))) ∧ (((state.length : Int) - (1 : Int)) ≤ (state.length : Int))) ∧ True ∧ True ∧ True ∧ True ∧ (True ∧ True ∧ (Fits .i64 ((state.length : Int) - (1 : Int)))) ∧ (True ∧ True ∧ (0 ≤ ((state.length : Int) - (1 : Int))) ∧ (((state.length : Int) - (1 : Int)) < (state.length : Int))) ∧ True ∧ (True ∧ True ∧ True) ∧ True ∧ True ∧ True) (by kernel_rfl) (by kernel_rfl)
       ⟨tt,tt,⟨tt,tt,(by exact fits_i64 (by omega) (by omega))⟩,⟨tt,tt,tt,(by omega),(by omega),(by omega)⟩,tt,tt,tt,tt,⟨tt,tt,(by exact fits_i64 (by omega) (by omega))⟩,⟨tt,tt,(by omega),(by omega)⟩,tt,⟨tt,tt,tt⟩,tt,tt,tt⟩ ?_
      refine W.ret (blockQ_ret (thenQ_ret ?_))
      exact endQ_ret (.tup [.sl (.ints (List.take (Int.toNat ((state.length : Int) - (1 : Int))) state)),.b (decide (c.ret = (state.getD (Int.toNat ((state.length : Int) - (1 : Int))) 0)))]) (by kernel_rfl) (@cast (((.ints (List.take (Int.toNat ((state.length : Int) - (1 : Int))) state) : Dat) = .ints ((specStep name state c).1)) ∧ ((.bool (decide (c.ret = (state.getD (Int.toNat ((state.length : Int) - (1 : Int))) 0))) : Value) = .bool ((specStep name state c).2)) ∧ True) _ (by kernel_rfl) ⟨(congrArg Dat.ints (by first | (rw [show Int.toNat (((List.length state : Nat) : Int) - (1 : Int)) = state.length - 1 by omega]; simp only [specStep,h176,(decide_eq_false n14),(decide_eq_false n98),n160,(decide_eq_false n179),cond_true,cond_false,Bool.and_true,Bool.true_and,Bool.and_false,Bool.false_and,Bool.or_true,Bool.true_or,Bool.or_false,Bool.false_or,Bool.not_true,Bool.not_false]; done) | simp only [specStep,h176,(decide_eq_false n14),(decide_eq_false n98),n160,(decide_eq_false n179),cond_true,cond_false,Bool.and_true,Bool.true_and,Bool.and_false,Bool.false_and,Bool.or_true,Bool.true_or,Bool.or_false,Bool.false_or,Bool.not_true,Bool.not_false])),(congrArg Value.bool (by first | (rw [show Int.toNat (((List.length state : Nat) : Int) - (1 : Int)) = state.length - 1 by omega]; simp only [specStep,h176,(decide_eq_false n14),(decide_eq_false n98),n160,(decide_eq_false n179),cond_true,cond_false,Bool.and_true,Bool.true_and,Bool.and_false,Bool.false_and,Bool.or_true,Bool.true_or,Bool.or_false,Bool.false_or,Bool.not_true,Bool.not_false]; done) | simp only [specStep,h176,(decide_eq_false n14),(decide_eq_false n98),n160,(decide_eq_false n179),cond_true,cond_false,Bool.and_true,Bool.true_and,Bool.and_false,Bool.false_and,Bool.or_true,Bool.true_or,Bool.or_false,Bool.false_or,Bool.not_true,Bool.not_false])),tt⟩)
    ·intro n176
     refine Kk cok tab28 hnt [] [1,5,8,196] (⟨[(1,.sl (.ints state)),(5,.ptr 5 0),(8,.i (state.length : Int)),(196,.b (eqS name nSet))],[(5,⟨46,.fix [.i c.proc,.i c.obj,.i c.kind,.i c.arg,.i c.ret,.i c.frm,.i c.to]⟩)],[5,999]⟩)
      ((True ∧ True ∧ True) ∧ True ∧ True)
      ⟨⟨tt,tt,tt⟩,tt,tt⟩ ?_
     refine W.if' (eqS name nSet) (.b (eqS name nSet)) (by kernel_rfl) rfl trivial ?_ ?_
     ·intro h196
      refine W.seq ?_
      refine Kk cok tab28 hnt [] [1,5,8,9] (⟨[(1,.sl (.ints state)),(5,.ptr 5 0),(8,.i (state.length : Int)),(9,.i (0 : Int))],[(5,⟨46,.fix [.i c.proc,.i c.obj,.i c.kind,.i c.arg,.i c.ret,.i c.frm,.i c.to]⟩)],[5,999]⟩)
       (True ∧ True)
       ⟨tt,tt⟩ ?_
      refine W.block ?_
      refine W.loop (ι := Nat) (fun (i : Nat) => (⟨[(1,.sl (.ints state)),(5,.ptr 5 0),(8,.i (state.length : Int)),(9,.i ((i : Nat) : Int))],[(5,⟨46,.fix [.i c.proc,.i c.obj,.i c.kind,.i c.arg,.i c.ret,.i c.frm,.i c.to]⟩)],[5,999]⟩ : St))
       (fun (i : Nat) => (i ≤ state.length) ∧ (∀ j,j < i → ¬ state.getD j 0 = c.arg))
       (fun (i : Nat) => (state.length - i : Nat)) (0) ?_ ?_ ?_
      ·exact (show (0 ≤ state.length) ∧ (∀ j,j < 0 → ¬ state.getD j 0 = c.arg) from ⟨(by first | assumption | omega | rfl | (intro _ hjj; omega) | (simp; done) | (simp; omega)),(by exact upto_zero)⟩)
      ·exact Sub.of [] (@cast (((Sd (.ints state)) ∧ (((5 : Nat) = 5) ∧ ((0 : Nat) = 0) ∧ ((5 : Nat) ∈ ([5,999] : List Nat))) ∧ (Si (state.length : Int)) ∧ ((.int .i64 (0 : Int) : Value) = .int .i64 ((0 : Nat) : Int)) ∧ True) ∧ ((((46 : Nat) = 46) ∧ ((Si c.proc) ∧ (Si c.obj) ∧ (Si c.kind) ∧ (Si c.arg) ∧ (Si c.ret) ∧ (Si c.frm) ∧ (Si c.to) ∧ True) ∧ ((5 : Nat) ∈ ([5,999] : List Nat))) ∧ True) ∧ (true = true) ∧ (true = true)) _ (by kernel_rfl) ⟨⟨rfl,⟨rfl,rfl,(by decide)⟩,rfl,(congrArg (Value.int .i64) (by first | rfl | omega | assumption | simp | simp_all)),tt⟩,⟨⟨rfl,⟨rfl,rfl,rfl,rfl,rfl,rfl,rfl,tt⟩,(by decide)⟩,tt⟩,rfl,rfl⟩)
      ·rintro i hC0
       have hC : (i ≤ state.length) ∧ (∀ j,j < i → ¬ state.getD j 0 = c.arg) := hC0
       clear hC0
       obtain ⟨hi,hA⟩ := hC
       refine W.to (⟨[(1,.sl (.ints state)),(5,.ptr 5 0),(8,.i (state.length : Int)),(9,.i ((i : Nat) : Int))],[(5,⟨46,.fix [.i c.proc,.i c.obj,.i c.kind,.i c.arg,.i c.ret,.i c.frm,.i c.to]⟩)],[5,999]⟩) rfl ?_
       refine W.seq ?_
       refine Kk cok tab28 hnt [] [1,5,8,9,200] (⟨[(1,.sl (.ints state)),(5,.ptr 5 0),(8,.i (state.length : Int)),(9,.i ((i : Nat) : Int)),(200,.b (decide (((i : Nat) : Int) < (state.length : Int))))],[(5,⟨46,.fix [.i c.proc,.i c.obj,.i c.kind,.i c.arg,.i c.ret,.i c.frm,.i c.to]⟩)],[5,999]⟩)
        (True ∧ True ∧ (True ∧ True ∧ True) ∧ True)
        ⟨tt,tt,⟨tt,tt,tt⟩,tt⟩ ?_
       refine W.ifP (((i : Nat) : Int) < (state.length : Int)) (.b (decide (((i : Nat) : Int) < (state.length : Int)))) (by kernel_rfl) rfl trivial ?_ ?_
       ·intro h200
        refine W.skip (thenQ_normal ?_)
        refine W.seq ?_
        refine W.block ?_
        refine W.KA cok tab28 hnt [] [1,5,8,9,209] (⟨[(1,.sl (.ints state)),(5,.ptr 5 0),(8,.i (state.length : Int)),(9,.i ((i : Nat) : Int)),(209,.b (decide ((state.getD i 0) = c.arg)))],[(5,⟨46,.fix [.i c.proc,.i c.obj,.i c.kind,.i c.arg,.i c.ret,.i c.frm,.i c.to]⟩)],[5,999]⟩)
         (True ∧ True ∧ (True ∧ True ∧ (0 ≤ ((i : Nat) : Int)) ∧ (((i : Nat) : Int) < (state.length : Int))) ∧ True ∧ True ∧ True ∧ (True ∧ True ∧ True) ∧ True) (by kernel_rfl) (by kernel_rfl)
         ⟨tt,tt,⟨tt,tt,(by omega),(by omega)⟩,tt,tt,tt,⟨tt,tt,tt⟩,tt⟩ ?_
        refine W.ifP ((state.getD i 0) = c.arg) (.b (decide ((state.getD i 0) = c.arg))) (by kernel_rfl) rfl trivial ?_ ?_
        ·intro h209
         refine W.KA cok tab28 hnt [210,214] [6,7] (⟨[(6,.sl (.ints ((List.take i state) ++ (List.drop (i + 1) (List.take state.length state))))),(7,.b (decide (c.ret = (1 : Int))))],[(5,⟨46,.fix [.i c.proc,.i c.obj,.i c.kind,.i c.arg,.i c.ret,.i c.frm,.i c.to]⟩)],[219,214,210,5,999]⟩)
          (True ∧ True ∧ True ∧ (True ∧ True ∧ True ∧ (0 ≤ (0 : Int)) ∧ ((0 : Int) ≤ ((i : Nat) : Int)) ∧ (((i : Nat) : Int) ≤ (state.length : Int))) ∧ ((True ∧ ((List.length ([] : List Int)) = (List.length ([] : List Int)))) ∧ True ∧ (((List.length ([] : List Int)) + (List.length (List.take i state))) * 8 ≤ 140737488355328)) ∧ True ∧ True ∧ (True ∧ True ∧ (Fits .i64 (((i + 1) : Nat) : Int))) ∧ (True ∧ True ∧ True ∧ (0 ≤ (((i + 1) : Nat) : Int)) ∧ ((((i + 1) : Nat) : Int) ≤ (state.length : Int)) ∧ ((state.length : Int) ≤ (state.length : Int))) ∧ ((True ∧ ((List.length (List.take i state)) = (List.length (List.take i state)))) ∧ True ∧ (((List.length (List.take i state)) + (List.length (List.drop (i + 1) (List.take state.length state)))) * 8 ≤ 140737488355328)) ∧ True ∧ True ∧ (True ∧ True ∧ True) ∧ True ∧ True ∧ True) (by kernel_rfl) (by kernel_rfl)
          ⟨tt,tt,tt,⟨tt,tt,tt,(by omega),(by omega),(by omega)⟩,⟨⟨tt,rfl⟩,tt,(by (first | omega | (simp only [List.length_set]; done) | (simp only [List.length_append,List.length_cons,List.length_nil,List.length_take,List.length_drop,List.length_set,List.length_replicate,List.length_map] at *; omega) | assumption))⟩,tt,tt,⟨tt,tt,(by exact fits_i64 (by omega) (by omega))⟩,⟨tt,tt,tt,(by omega),(by omega),(by omega)⟩,⟨⟨tt,rfl⟩,tt,(by (first | omega | (simp only [List.length_set]; done) | (simp only [List.length_append,List.length_cons,List.length_nil,List.length_take,List.length_drop,List.length_set,List.length_replicate,List.length_map] at *; omega) | assumption))⟩,tt,tt,⟨tt,tt,tt⟩,tt,tt,tt⟩ ?_
         refine W.ret (blockQ_ret (thenQ_ret (thenQ_ret (blockQ_ret (thenQ_ret (blockQ_ret (thenQ_ret ?_)))))))
         exact endQ_ret (.tup [.sl (.ints ((List.take i state) ++ (List.drop (i + 1) (List.take state.length state)))),.b (decide (c.ret = (1 : Int)))]) (by kernel_rfl) (@cast (((.ints ((List.take i state) ++ (List.drop (i + 1) (List.take state.length state))) : Dat) = .ints ((specStep name state c).1)) ∧ ((.bool (decide (c.ret = (1 : Int))) : Value) = .bool ((specStep name state c).2)) ∧ True) _ (by kernel_rfl) ⟨(congrArg Dat.ints (by have hh : hasInt state c.arg = true := anyN_true (i := i) (by omega) (decide_eq_true h209); have he := erase_at state c.arg i (by omega) h209 hA; first | (simp only [specStep,hh,h196,(decide_eq_true h200),(decide_eq_true h209),(decide_eq_false n14),(decide_eq_false n98),n160,n176,cond_true,cond_false,Bool.and_true,Bool.true_and,Bool.and_false,Bool.false_and,Bool.or_true,Bool.true_or,Bool.or_false,Bool.false_or,Bool.not_true,Bool.not_false]; done) | (rw [List.take_length,he]; simp only [specStep,hh,h196,(decide_eq_true h200),(decide_eq_true h209),(decide_eq_false n14),(decide_eq_false n98),n160,n176,cond_true,cond_false,Bool.and_true,Bool.true_and,Bool.and_false,Bool.false_and,Bool.or_true,Bool.true_or,Bool.or_false,Bool.false_or,Bool.not_true,Bool.not_false]))),(congrArg Value.bool (by have hh : hasInt state c.arg = true := anyN_true (i := i) (by omega) (decide_eq_true h209); have he := erase_at state c.arg i (by omega) h209 hA; first | (simp only [specStep,hh,h196,(decide_eq_true h200),(decide_eq_true h209),(decide_eq_false n14),(decide_eq_false n98),n160,n176,cond_true,cond_false,Bool.and_true,Bool.true_and,Bool.and_false,Bool.false_and,Bool.or_true,Bool.true_or,Bool.or_false,Bool.false_or,Bool.not_true,Bool.not_false]; done) | (rw [List.take_length,he]; simp only [specStep,hh,h196,(decide_eq_true h200),(decide_eq_true h209),(decide_eq_false n14),(decide_eq_false n98),n160,n176,cond_true,cond_false,Bool.and_true,Bool.true_and,Bool.and_false,Bool.false_and,Bool.or_true,Bool.true_or,Bool.or_false,Bool.false_or,Bool.not_true,Bool.not_false]))),tt⟩)
        ·intro n209
         refine W.skip (blockQ_normal (thenQ_normal ?_))
         refine Lk cok tab28 hnt [] (⟨[(1,.sl (.ints state)),(5,.ptr 5 0),(8,.i (state.length : Int)),(9,.i (((i + 1) : Nat) : Int)),(201,.i ((i : Nat) : Int)),(202,.i (((i + 1) : Nat) : Int)),(209,.b (decide ((state.getD i 0) = c.arg)))],[(5,⟨46,.fix [.i c.proc,.i c.obj,.i c.kind,.i c.arg,.i c.ret,.i c.frm,.i c.to]⟩)],[5,999]⟩)
          (True ∧ (True ∧ True ∧ (Fits .i64 (((i + 1) : Nat) : Int))) ∧ True ∧ True)
          ⟨tt,⟨tt,tt,(by exact fits_i64 (by omega) (by omega))⟩,tt,tt⟩ ?_
         refine thenQ_normal ?_
         refine ⟨((i + 1)),(show ((i + 1) ≤ state.length) ∧ (∀ j,j < (i + 1) → ¬ state.getD j 0 = c.arg) from ⟨(by first | assumption | omega | rfl | (intro _ hjj; omega) | (simp; done) | (simp; omega)),(by exact upto_succ hA n209)⟩),(show state.length - (i + 1) < state.length - i from (by first | omega | (simp_all; omega))),?_⟩
         exact Sub.of [] (@cast (((Sd (.ints state)) ∧ (((5 : Nat) = 5) ∧ ((0 : Nat) = 0) ∧ ((5 : Nat) ∈ ([5,999] : List Nat))) ∧ (Si (state.length : Int)) ∧ (Si (((i + 1) : Nat) : Int)) ∧ True) ∧ ((((46 : Nat) = 46) ∧ ((Si c.proc) ∧ (Si c.obj) ∧ (Si c.kind) ∧ (Si c.arg) ∧ (Si c.ret) ∧ (Si c.frm) ∧ (Si c.to) ∧ True) ∧ ((5 : Nat) ∈ ([5,999] : List Nat))) ∧ True) ∧ (true = true) ∧ (true = true)) _ (by kernel_rfl) ⟨⟨rfl,⟨rfl,rfl,(by decide)⟩,rfl,rfl,tt⟩,⟨⟨rfl,⟨rfl,rfl,rfl,rfl,rfl,rfl,rfl,tt⟩,(by decide)⟩,tt⟩,rfl,rfl⟩)
       ·intro n200
        refine W.exit (thenQ_exit (thenQ_exit (blockQ_hit ?_)))
        refine thenQ_normal ?_
        refine W.KA cok tab28 hnt [] [6,7] (⟨[(6,.sl (.ints state)),(7,.b (decide (c.ret = (0 : Int))))],[(5,⟨46,.fix [.i c.proc,.i c.obj,.i c.kind,.i c.arg,.i c.ret,.i c.frm,.i c.to]⟩)],[5,999]⟩)
         (True ∧ True ∧ True ∧ (True ∧ True ∧ True) ∧ True ∧ True ∧ True) (by kernel_rfl) (by kernel_rfl)
         ⟨tt,tt,tt,⟨tt,tt,tt⟩,tt,tt,tt⟩ ?_
        refine W.ret (blockQ_ret (thenQ_ret ?_))
        exact endQ_ret (.tup [.sl (.ints state),.b (decide (c.ret = (0 : Int)))]) (by kernel_rfl) (@cast (((.ints state : Dat) = .ints ((specStep name state c).1)) ∧ ((.bool (decide (c.ret = (0 : Int))) : Value) = .bool ((specStep name state c).2)) ∧ True) _ (by kernel_rfl) ⟨(congrArg Dat.ints (by have hh : hasInt state c.arg = false := anyN_false (fun j hj => decide_eq_false (hA j (by omega))); simp only [specStep,hh,h196,(decide_eq_false n14),(decide_eq_false n98),n160,n176,(decide_eq_false n200),cond_true,cond_false,Bool.and_true,Bool.true_and,Bool.and_false,Bool.false_and,Bool.or_true,Bool.true_or,Bool.or_false,Bool.false_or,Bool.not_true,Bool.not_false])),(congrArg Value.bool (by have hh : hasInt state c.arg = false := anyN_false (fun j hj => decide_eq_false (hA j (by omega))); simp only [specStep,hh,h196,(decide_eq_false n14),(decide_eq_false n98),n160,n176,(decide_eq_false n200),cond_true,cond_false,Bool.and_true,Bool.true_and,Bool.and_false,Bool.false_and,Bool.or_true,Bool.true_or,Bool.or_false,Bool.false_or,Bool.not_true,Bool.not_false])),tt⟩)
     ·intro n196
      refine W.skip (blockQ_normal (thenQ_normal ?_))
      refine W.seq ?_
      refine Kk cok tab28 hnt [] [1,5,228] (⟨[(1,.sl (.ints state)),(5,.ptr 5 0),(228,.b (decide ((state.length : Int) = (0 : Int))))],[(5,⟨46,.fix [.i c.proc,.i c.obj,.i c.kind,.i c.arg,.i c.ret,.i c.frm,.i c.to]⟩)],[5,999]⟩)
       (True ∧ (True ∧ True ∧ True) ∧ True)
       ⟨tt,⟨tt,tt,tt⟩,tt⟩ ?_
      refine W.ifP ((state.length : Int) = (0 : Int)) (.b (decide ((state.length : Int) = (0 : Int)))) (by kernel_rfl) rfl trivial ?_ ?_
      ·intro h228
       refine W.KA cok tab28 hnt [] [6,7] (⟨[(6,.sl (.ints ([] : List Int))),(7,.b (decide (c.ret = (0 : Int))))],[(5,⟨46,.fix [.i c.proc,.i c.obj,.i c.kind,.i c.arg,.i c.ret,.i c.frm,.i c.to]⟩)],[229,5,999]⟩)
        (True ∧ True ∧ True ∧ (True ∧ True ∧ True) ∧ True ∧ True ∧ True) (by kernel_rfl) (by kernel_rfl)
        ⟨tt,tt,tt,⟨tt,tt,tt⟩,tt,tt,tt⟩ ?_
       refine W.ret (thenQ_ret ?_)
       exact endQ_ret (.tup [.sl (.ints ([] : List Int)),.b (decide (c.ret = (0 : Int)))]) (by kernel_rfl) (@cast (((.ints ([] : List Int) : Dat) = .ints ((specStep name state c).1)) ∧ ((.bool (decide (c.ret = (0 : Int))) : Value) = .bool ((specStep name state c).2)) ∧ True) _ (by kernel_rfl) ⟨(congrArg Dat.ints (by simp only [specStep,(decide_eq_true h228),(decide_eq_false n14),(decide_eq_false n98),n160,n176,n196,cond_true,cond_false,Bool.and_true,Bool.true_and,Bool.and_false,Bool.false_and,Bool.or_true,Bool.true_or,Bool.or_false,Bool.false_or,Bool.not_true,Bool.not_false])),(congrArg Value.bool (by simp only [specStep,(decide_eq_true h228),(decide_eq_false n14),(decide_eq_false n98),n160,n176,n196,cond_true,cond_false,Bool.and_true,Bool.true_and,Bool.and_false,Bool.false_and,Bool.or_true,Bool.true_or,Bool.or_false,Bool.false_or,Bool.not_true,Bool.not_false])),tt⟩)
      ·intro n228
       refine W.skip (thenQ_normal ?_)
       refine W.KA cok tab28 hnt [] [6,7] (⟨[(6,.sl (.ints ([] : List Int))),(7,.b (decide (c.ret = (state.getD 0 0))))],[(5,⟨46,.fix [.i c.proc,.i c.obj,.i c.kind,.i c.arg,.i c.ret,.i c.frm,.i c.to]⟩)],[233,5,999]⟩)
        (True ∧ True ∧ True ∧ True ∧ (True ∧ True ∧ (0 ≤ (0 : Int)) ∧ ((0 : Int) < (state.length : Int))) ∧ True ∧ (True ∧ True ∧ True) ∧ True ∧ True ∧ True) (by kernel_rfl) (by kernel_rfl)
        ⟨tt,tt,tt,tt,⟨tt,tt,(by omega),(by omega)⟩,tt,⟨tt,tt,tt⟩,tt,tt,tt⟩ ?_
       refine W.ret ?_
       exact endQ_ret (.tup [.sl (.ints ([] : List Int)),.b (decide (c.ret = (state.getD 0 0)))]) (by kernel_rfl) (@cast (((.ints ([] : List Int) : Dat) = .ints ((specStep name state c).1)) ∧ ((.bool (decide (c.ret = (state.getD 0 0))) : Value) = .bool ((specStep name state c).2)) ∧ True) _ (by kernel_rfl) ⟨(congrArg Dat.ints (by simp only [specStep,(decide_eq_false n14),(decide_eq_false n98),n160,n176,n196,(decide_eq_false n228),cond_true,cond_false,Bool.and_true,Bool.true_and,Bool.and_false,Bool.false_and,Bool.or_true,Bool.true_or,Bool.or_false,Bool.false_or,Bool.not_true,Bool.not_false])),(congrArg Value.bool (by simp only [specStep,(decide_eq_false n14),(decide_eq_false n98),n160,n176,n196,(decide_eq_false n228),cond_true,cond_false,Bool.and_true,Bool.true_and,Bool.and_false,Bool.false_and,Bool.or_true,Bool.true_or,Bool.or_false,Bool.false_or,Bool.not_true,Bool.not_false])),tt⟩)
theorem ent28 : Entr prog 28 := ⟨_,func28,rfl,by decide⟩
end Go.Proofs.Try

set_option linter.unusedSimpArgs false
set_option linter.unusedVariables false
namespace Go.Proofs.Try
open Go.Ab Go.RowKit
def fs26 : FnS := fnS [.o,.s .calls,.s .ints] [.str,.calls,.ints] (fun _ (s,h,o,_) => (.b (runsB s h o),[],(isObject s = true) ∧ (validHistory h = true) ∧ (inH h o) ∧ (o.length ≤ 6)))
abbrev T26 : Tab := lk [(28,fs28)]
theorem tab26 : TabOK prog T26 := (TabOK.cons ok28 ent28 TabOK.nil)
set_option maxRecDepth 100000 in
set_option maxHeartbeats 1000000 in
theorem ok26 : FnOK prog 26 fs26 := by
 refine FnOK.mk cok func26 rfl rfl rfl ?_
 rintro fl ⟨(s : ByteArray),(h : List CallD),(o : List Int),_⟩ hpre F hnt0 _
 have hnt : F.nt = 46 := hnt0.trans ntmps26
 replace hpre : (isObject s = true) ∧ (validHistory h = true) ∧ (inH h o) ∧ (o.length ≤ 6) := hpre
 obtain ⟨hs,hv,ho,h6⟩ := hpre
 refine W.to (⟨[(0,.v (.string s)),(1,.sl (.calls h)),(2,.sl (.ints o))],[],[999]⟩) rfl ?_
 refine W.lenOf 1 (.calls h) (by kernel_rfl) ?_
 intro hl_h; replace hl_h : List.length h ≤ 9223372036854775807 := hl_h
 refine W.lenOf 2 (.ints o) (by kernel_rfl) ?_
 intro hl_o; replace hl_o : List.length o ≤ 9223372036854775807 := hl_o
 refine Kk cok tab26 hnt [] [0,1,2] (⟨[(0,.v (.string s)),(1,.sl (.calls h)),(2,.sl (.ints o))],[],[999]⟩)
  (True ∧ True)
  ⟨tt,tt⟩ ?_
 refine Kk cok tab26 hnt [14] [0,1,2,7] (⟨[(0,.v (.string s)),(1,.sl (.calls h)),(2,.sl (.ints o)),(7,.own 14 (List.length ([([] : List Int),([] : List Int)])))],[(14,⟨23,.row (.intss ([([] : List Int),([] : List Int)]))⟩)],[14,13,12,999]⟩)
  (True ∧ True ∧ (True ∧ True ∧ True) ∧ True ∧ True)
  ⟨tt,tt,⟨tt,tt,tt⟩,tt,tt⟩ ?_
 refine W.seq ?_
 refine Kk cok tab26 hnt [] [0,1,2,7,8] (⟨[(0,.v (.string s)),(1,.sl (.calls h)),(2,.sl (.ints o)),(7,.own 14 (List.length ([([] : List Int),([] : List Int)]))),(8,.i (0 : Int))],[(14,⟨23,.row (.intss ([([] : List Int),([] : List Int)]))⟩)],[14,13,12,999]⟩)
  (True ∧ True)
  ⟨tt,tt⟩ ?_
 refine W.block ?_
 refine W.loop (ι := Nat × (List (List Int))) (fun (x : Nat × (List (List Int))) => match x with | (i,ss) => (⟨[(0,.v (.string s)),(1,.sl (.calls h)),(2,.sl (.ints o)),(7,.own 14 ss.length),(8,.i ((i : Nat) : Int))],[(14,⟨23,.row (.intss ss)⟩)],[14,999]⟩ : St))
  (fun (x : Nat × (List (List Int))) => match x with | (i,ss) => (i ≤ o.length) ∧ (ss = sts s h o i) ∧ (∀ j,j < i → okAt s h o j = true))
  (fun (x : Nat × (List (List Int))) => match x with | (i,ss) => (o.length - i : Nat)) (0,([([] : List Int),([] : List Int)])) ?_ ?_ ?_
 ·exact (show (0 ≤ o.length) ∧ (([([] : List Int),([] : List Int)]) = sts s h o 0) ∧ (∀ j,j < 0 → okAt s h o j = true) from ⟨(by first | assumption | omega | rfl | (intro _ hjj; omega) | (simp; done) | (simp; omega)),(by rfl),(by exact upto_zero)⟩)
 ·exact Sub.of [] (@cast (((((.string s) : Value) = (.string s)) ∧ (Sd (.calls h)) ∧ (Sd (.ints o)) ∧ (((14 : Nat) = 14) ∧ ((List.length ([([] : List Int),([] : List Int)])) = (List.length ([([] : List Int),([] : List Int)]))) ∧ ((14 : Nat) ∈ ([14,999] : List Nat))) ∧ ((.int .i64 (0 : Int) : Value) = .int .i64 ((0 : Nat) : Int)) ∧ True) ∧ ((((23 : Nat) = 23) ∧ (Sd (.intss ([([] : List Int),([] : List Int)]))) ∧ ((14 : Nat) ∈ ([14,999] : List Nat))) ∧ True) ∧ (true = true) ∧ (true = true)) _ (by kernel_rfl) ⟨⟨rfl,rfl,rfl,⟨rfl,rfl,(by decide)⟩,(congrArg (Value.int .i64) (by first | rfl | omega | assumption | simp | simp_all)),tt⟩,⟨⟨rfl,rfl,(by decide)⟩,tt⟩,rfl,rfl⟩)
 ·rintro ⟨i,ss⟩ hC0
  have hC : (i ≤ o.length) ∧ (ss = sts s h o i) ∧ (∀ j,j < i → okAt s h o j = true) := hC0
  clear hC0
  obtain ⟨hi,hss,hA⟩ := hC
  refine W.to (⟨[(0,.v (.string s)),(1,.sl (.calls h)),(2,.sl (.ints o)),(7,.own 14 ss.length),(8,.i ((i : Nat) : Int))],[(14,⟨23,.row (.intss ss)⟩)],[14,999]⟩) rfl ?_
  have hsl : ss.length = 2 := by rw [hss]; exact sts_len s h o i
  have hri := ho i
  have hcl := fun hi => isCall_iff.1 (ord_call hv ho (i := i) hi)
  unfold ordAt callAt at hcl
  refine W.seq ?_
  refine Kk cok tab26 hnt [] [0,1,2,7,8,18] (⟨[(0,.v (.string s)),(1,.sl (.calls h)),(2,.sl (.ints o)),(7,.own 14 ss.length),(8,.i ((i : Nat) : Int)),(18,.b (decide (((i : Nat) : Int) < (o.length : Int))))],[(14,⟨23,.row (.intss ss)⟩)],[14,999]⟩)
   (True ∧ True ∧ True ∧ (True ∧ True ∧ True) ∧ True)
   ⟨tt,tt,tt,⟨tt,tt,tt⟩,tt⟩ ?_
  refine W.ifP (((i : Nat) : Int) < (o.length : Int)) (.b (decide (((i : Nat) : Int) < (o.length : Int)))) (by kernel_rfl) rfl trivial ?_ ?_
  ·intro h18
   refine W.skip (thenQ_normal ?_)
   refine W.seq ?_
   refine W.block ?_
   refine Kk cok tab26 hnt [] [0,1,2,7,8,9] (⟨[(0,.v (.string s)),(1,.sl (.calls h)),(2,.sl (.ints o)),(7,.own 14 ss.length),(8,.i ((i : Nat) : Int)),(9,.ptr 9 0)],[(9,⟨46,.fix [.i ((h.getD (Int.toNat (o.getD i 0)) default).proc),.i ((h.getD (Int.toNat (o.getD i 0)) default).obj),.i ((h.getD (Int.toNat (o.getD i 0)) default).kind),.i ((h.getD (Int.toNat (o.getD i 0)) default).arg),.i ((h.getD (Int.toNat (o.getD i 0)) default).ret),.i ((h.getD (Int.toNat (o.getD i 0)) default).frm),.i ((h.getD (Int.toNat (o.getD i 0)) default).to)]⟩),(14,⟨23,.row (.intss ss)⟩)],[9,14,999]⟩)
    (True ∧ True ∧ True ∧ (True ∧ True ∧ (0 ≤ ((i : Nat) : Int)) ∧ (((i : Nat) : Int) < (o.length : Int))) ∧ True ∧ (True ∧ True ∧ (0 ≤ (o.getD i 0)) ∧ ((o.getD i 0) < (h.length : Int))) ∧ True ∧ True ∧ (True ∧ True) ∧ True)
    ⟨tt,tt,tt,⟨tt,tt,(by omega),(by have hh := hcl (by omega); omega)⟩,tt,⟨tt,tt,(by (first | omega | (simp only [List.length_set]; done) | (simp only [List.length_append,List.length_cons,List.length_nil,List.length_take,List.length_drop,List.length_set,List.length_replicate,List.length_map] at *; omega) | assumption)),(by have hh := hcl (by omega); omega)⟩,tt,tt,⟨tt,tt⟩,tt⟩ ?_
   refine W.KA cok tab26 hnt [] [0,1,2,7,8,9,10,11] (⟨[(0,.v (.string s)),(1,.sl (.calls h)),(2,.sl (.ints o)),(7,.own 14 ss.length),(8,.i ((i : Nat) : Int)),(9,.ptr 9 0),(10,.sl (.ints ((specStep s (ss.getD (Int.toNat ((h.getD (Int.toNat (o.getD i 0)) default).obj)) []) (h.getD (Int.toNat (o.getD i 0)) default)).1))),(11,.b ((specStep s (ss.getD (Int.toNat ((h.getD (Int.toNat (o.getD i 0)) default).obj)) []) (h.getD (Int.toNat (o.getD i 0)) default)).2))],[(9,⟨46,.fix [.i ((h.getD (Int.toNat (o.getD i 0)) default).proc),.i ((h.getD (Int.toNat (o.getD i 0)) default).obj),.i ((h.getD (Int.toNat (o.getD i 0)) default).kind),.i ((h.getD (Int.toNat (o.getD i 0)) default).arg),.i ((h.getD (Int.toNat (o.getD i 0)) default).ret),.i ((h.getD (Int.toNat (o.getD i 0)) default).frm),.i ((h.getD (Int.toNat (o.getD i 0)) default).to)]⟩),(14,⟨23,.row (.intss ss)⟩)],[9,14,999]⟩)
    (True ∧ True ∧ True ∧ True ∧ (True ∧ True ∧ (0 ≤ ((h.getD (Int.toNat (o.getD i 0)) default).obj)) ∧ (((h.getD (Int.toNat (o.getD i 0)) default).obj) < (ss.length : Int))) ∧ (True ∧ ((Int.toNat ((h.getD (Int.toNat (o.getD i 0)) default).obj)) < ss.length)) ∧ True ∧ (True ∧ (True ∧ True ∧ True ∧ True) ∧ ((ss.getD (Int.toNat ((h.getD (Int.toNat (o.getD i 0)) default).obj)) []).length ≤ 1000000) ∧ (∀ x ∈ (ss.getD (Int.toNat ((h.getD (Int.toNat (o.getD i 0)) default).obj)) []),-1000000000 ≤ x ∧ x ≤ 1000000000) ∧ -1000000000 ≤ (h.getD (Int.toNat (o.getD i 0)) default).arg ∧ (h.getD (Int.toNat (o.getD i 0)) default).arg ≤ 1000000000) ∧ True ∧ True ∧ True ∧ True ∧ True ∧ True) (by kernel_rfl) (by kernel_rfl)
    ⟨tt,tt,tt,tt,⟨tt,tt,(by have hh := hcl (by omega); omega),(by have hh := hcl (by omega); omega)⟩,⟨tt,(by have hh := hcl (by omega); omega)⟩,tt,⟨tt,⟨tt,tt,tt,tt⟩,(by have hh := (sts_at hs hv ho (i := i) (by omega) (by omega)).2.1; unfold ordAt callAt at hh; rw [hss]; omega),(by have hh := (sts_at hs hv ho (i := i) (by omega) (by omega)).2.2; unfold ordAt callAt at hh; rw [hss]; intro x hx; have := hh x hx; omega),(by have hh := hcl (by omega); omega)⟩,tt,tt,tt,tt,tt,tt⟩ ?_
   refine W.seq ?_
   refine Kk cok tab26 hnt [] [0,1,2,7,8,9,10,40] (⟨[(0,.v (.string s)),(1,.sl (.calls h)),(2,.sl (.ints o)),(7,.own 14 ss.length),(8,.i ((i : Nat) : Int)),(9,.ptr 9 0),(10,.sl (.ints ((specStep s (ss.getD (Int.toNat ((h.getD (Int.toNat (o.getD i 0)) default).obj)) []) (h.getD (Int.toNat (o.getD i 0)) default)).1))),(40,.b (!((specStep s (ss.getD (Int.toNat ((h.getD (Int.toNat (o.getD i 0)) default).obj)) []) (h.getD (Int.toNat (o.getD i 0)) default)).2)))],[(9,⟨46,.fix [.i ((h.getD (Int.toNat (o.getD i 0)) default).proc),.i ((h.getD (Int.toNat (o.getD i 0)) default).obj),.i ((h.getD (Int.toNat (o.getD i 0)) default).kind),.i ((h.getD (Int.toNat (o.getD i 0)) default).arg),.i ((h.getD (Int.toNat (o.getD i 0)) default).ret),.i ((h.getD (Int.toNat (o.getD i 0)) default).frm),.i ((h.getD (Int.toNat (o.getD i 0)) default).to)]⟩),(14,⟨23,.row (.intss ss)⟩)],[9,14,999]⟩)
    (True ∧ True ∧ True)
    ⟨tt,tt,tt⟩ ?_
   refine W.if' (!((specStep s (ss.getD (Int.toNat ((h.getD (Int.toNat (o.getD i 0)) default).obj)) []) (h.getD (Int.toNat (o.getD i 0)) default)).2)) (.b (!((specStep s (ss.getD (Int.toNat ((h.getD (Int.toNat (o.getD i 0)) default).obj)) []) (h.getD (Int.toNat (o.getD i 0)) default)).2))) (by kernel_rfl) rfl trivial ?_ ?_
   ·intro h40
    refine Kk cok tab26 hnt [] [6] (⟨[(6,.b false)],[(9,⟨46,.fix [.i ((h.getD (Int.toNat (o.getD i 0)) default).proc),.i ((h.getD (Int.toNat (o.getD i 0)) default).obj),.i ((h.getD (Int.toNat (o.getD i 0)) default).kind),.i ((h.getD (Int.toNat (o.getD i 0)) default).arg),.i ((h.getD (Int.toNat (o.getD i 0)) default).ret),.i ((h.getD (Int.toNat (o.getD i 0)) default).frm),.i ((h.getD (Int.toNat (o.getD i 0)) default).to)]⟩),(14,⟨23,.row (.intss ss)⟩)],[9,14,999]⟩)
     (True ∧ True)
     ⟨tt,tt⟩ ?_
    refine W.ret (thenQ_ret (blockQ_ret (thenQ_ret (thenQ_ret (blockQ_ret (thenQ_ret ?_))))))
    exact endQ_ret (.b false) (by kernel_rfl) (@cast ((.bool false : Value) = .bool (runsB s h o)) _ (by kernel_rfl) (congrArg Value.bool (by exact (allN_false (i := i) (by omega) (by rw [hss] at h40; exact not_f h40)).symm)))
   ·intro n40
    refine W.skip (thenQ_normal ?_)
    refine Lk cok tab26 hnt [] (⟨[(0,.v (.string s)),(1,.sl (.calls h)),(2,.sl (.ints o)),(7,.own 14 ss.length),(8,.i ((i : Nat) : Int)),(9,.ptr 9 0),(10,.sl (.ints ((specStep s (ss.getD (Int.toNat ((h.getD (Int.toNat (o.getD i 0)) default).obj)) []) (h.getD (Int.toNat (o.getD i 0)) default)).1))),(40,.b (!((specStep s (ss.getD (Int.toNat ((h.getD (Int.toNat (o.getD i 0)) default).obj)) []) (h.getD (Int.toNat (o.getD i 0)) default)).2))),(41,.own 14 ss.length),(42,.ptr 9 1),(43,.i ((h.getD (Int.toNat (o.getD i 0)) default).obj)),(44,.sl (.ints ((specStep s (ss.getD (Int.toNat ((h.getD (Int.toNat (o.getD i 0)) default).obj)) []) (h.getD (Int.toNat (o.getD i 0)) default)).1))),(45,.pel 14 1 (Int.toNat ((h.getD (Int.toNat (o.getD i 0)) default).obj)) 0)],[(9,⟨46,.fix [.i ((h.getD (Int.toNat (o.getD i 0)) default).proc),.i ((h.getD (Int.toNat (o.getD i 0)) default).obj),.i ((h.getD (Int.toNat (o.getD i 0)) default).kind),.i ((h.getD (Int.toNat (o.getD i 0)) default).arg),.i ((h.getD (Int.toNat (o.getD i 0)) default).ret),.i ((h.getD (Int.toNat (o.getD i 0)) default).frm),.i ((h.getD (Int.toNat (o.getD i 0)) default).to)]⟩),(14,⟨23,.row (.intss (List.set ss (Int.toNat ((h.getD (Int.toNat (o.getD i 0)) default).obj)) ((specStep s (ss.getD (Int.toNat ((h.getD (Int.toNat (o.getD i 0)) default).obj)) []) (h.getD (Int.toNat (o.getD i 0)) default)).1)))⟩)],[9,14,999]⟩)
     (True ∧ True ∧ True ∧ True ∧ (True ∧ True ∧ (0 ≤ ((h.getD (Int.toNat (o.getD i 0)) default).obj)) ∧ (((h.getD (Int.toNat (o.getD i 0)) default).obj) < (ss.length : Int))) ∧ (True ∧ True ∧ ((Int.toNat ((h.getD (Int.toNat (o.getD i 0)) default).obj)) < ss.length)) ∧ True)
     ⟨tt,tt,tt,tt,⟨tt,tt,(by have hh := hcl (by omega); omega),(by have hh := hcl (by omega); omega)⟩,⟨tt,tt,(by have hh := hcl (by omega); omega)⟩,tt⟩ ?_
    refine blockQ_normal (thenQ_normal ?_)
    refine Lk cok tab26 hnt [] (⟨[(0,.v (.string s)),(1,.sl (.calls h)),(2,.sl (.ints o)),(7,.own 14 ss.length),(8,.i (((i + 1) : Nat) : Int)),(9,.ptr 9 0),(10,.sl (.ints ((specStep s (ss.getD (Int.toNat ((h.getD (Int.toNat (o.getD i 0)) default).obj)) []) (h.getD (Int.toNat (o.getD i 0)) default)).1))),(19,.i ((i : Nat) : Int)),(20,.i (((i + 1) : Nat) : Int)),(40,.b (!((specStep s (ss.getD (Int.toNat ((h.getD (Int.toNat (o.getD i 0)) default).obj)) []) (h.getD (Int.toNat (o.getD i 0)) default)).2))),(41,.own 14 ss.length),(42,.ptr 9 1),(43,.i ((h.getD (Int.toNat (o.getD i 0)) default).obj)),(44,.sl (.ints ((specStep s (ss.getD (Int.toNat ((h.getD (Int.toNat (o.getD i 0)) default).obj)) []) (h.getD (Int.toNat (o.getD i 0)) default)).1))),(45,.pel 14 1 (Int.toNat ((h.getD (Int.toNat (o.getD i 0)) default).obj)) 0)],[(9,⟨46,.fix [.i ((h.getD (Int.toNat (o.getD i 0)) default).proc),.i ((h.getD (Int.toNat (o.getD i 0)) default).obj),.i ((h.getD (Int.toNat (o.getD i 0)) default).kind),.i ((h.getD (Int.toNat (o.getD i 0)) default).arg),.i ((h.getD (Int.toNat (o.getD i 0)) default).ret),.i ((h.getD (Int.toNat (o.getD i 0)) default).frm),.i ((h.getD (Int.toNat (o.getD i 0)) default).to)]⟩),(14,⟨23,.row (.intss (List.set ss (Int.toNat ((h.getD (Int.toNat (o.getD i 0)) default).obj)) ((specStep s (ss.getD (Int.toNat ((h.getD (Int.toNat (o.getD i 0)) default).obj)) []) (h.getD (Int.toNat (o.getD i 0)) default)).1)))⟩)],[9,14,999]⟩)
     (True ∧ (True ∧ True ∧ (Fits .i64 (((i + 1) : Nat) : Int))) ∧ True ∧ True)
     ⟨tt,⟨tt,tt,(by exact fits_i64 (by omega) (by omega))⟩,tt,tt⟩ ?_
    refine thenQ_normal ?_
    refine ⟨((i + 1),(List.set ss (Int.toNat ((h.getD (Int.toNat (o.getD i 0)) default).obj)) ((specStep s (ss.getD (Int.toNat ((h.getD (Int.toNat (o.getD i 0)) default).obj)) []) (h.getD (Int.toNat (o.getD i 0)) default)).1))),(show ((i + 1) ≤ o.length) ∧ ((List.set ss (Int.toNat ((h.getD (Int.toNat (o.getD i 0)) default).obj)) ((specStep s (ss.getD (Int.toNat ((h.getD (Int.toNat (o.getD i 0)) default).obj)) []) (h.getD (Int.toNat (o.getD i 0)) default)).1)) = sts s h o (i + 1)) ∧ (∀ j,j < (i + 1) → okAt s h o j = true) from ⟨(by first | assumption | omega | rfl | (intro _ hjj; omega) | (simp; done) | (simp; omega)),(by rw [hss]; rfl),(by exact upto_succ hA (by rw [hss] at n40; exact not_g n40))⟩),(show o.length - (i + 1) < o.length - i from (by first | omega | (simp_all; omega))),?_⟩
    exact Sub.of [] (@cast (((((.string s) : Value) = (.string s)) ∧ (Sd (.calls h)) ∧ (Sd (.ints o)) ∧ (((14 : Nat) = 14) ∧ (ss.length = (List.length (List.set ss (Int.toNat ((h.getD (Int.toNat (o.getD i 0)) default).obj)) ((specStep s (ss.getD (Int.toNat ((h.getD (Int.toNat (o.getD i 0)) default).obj)) []) (h.getD (Int.toNat (o.getD i 0)) default)).1)))) ∧ ((14 : Nat) ∈ ([14,999] : List Nat))) ∧ (Si (((i + 1) : Nat) : Int)) ∧ True) ∧ ((((23 : Nat) = 23) ∧ (Sd (.intss (List.set ss (Int.toNat ((h.getD (Int.toNat (o.getD i 0)) default).obj)) ((specStep s (ss.getD (Int.toNat ((h.getD (Int.toNat (o.getD i 0)) default).obj)) []) (h.getD (Int.toNat (o.getD i 0)) default)).1)))) ∧ ((14 : Nat) ∈ ([14,999] : List Nat))) ∧ True) ∧ (true = true) ∧ (true = true)) _ (by kernel_rfl) ⟨⟨rfl,rfl,rfl,⟨rfl,(by first | rfl | omega | assumption | (symm; assumption) | simp | simp_all),(by decide)⟩,rfl,tt⟩,⟨⟨rfl,rfl,(by decide)⟩,tt⟩,rfl,rfl⟩)
  ·intro n18
   refine W.exit (thenQ_exit (thenQ_exit (blockQ_hit ?_)))
   refine thenQ_normal ?_
   refine Kk cok tab26 hnt [] [6] (⟨[(6,.b true)],[(14,⟨23,.row (.intss ss)⟩)],[14,999]⟩)
    (True ∧ True)
    ⟨tt,tt⟩ ?_
   refine W.ret ?_
   exact endQ_ret (.b true) (by kernel_rfl) (@cast ((.bool true : Value) = .bool (runsB s h o)) _ (by kernel_rfl) (congrArg Value.bool (by exact (allN_true (fun j hj => hA j (by omega))).symm)))
theorem ent26 : Entr prog 26 := ⟨_,func26,rfl,by decide⟩
end Go.Proofs.Try

set_option linter.unusedSimpArgs false
set_option linter.unusedVariables false
namespace Go.Proofs.Try
open Go.Ab Go.RowKit
def fs48 : FnS := fnS [.o,.o] [.int,.int] (fun _ (x,j,_) => (.i (bitOf x j),[],(j ≤ 60) ∧ (0 ≤ x ∧ x ≤ 4611686018427387904)))
abbrev T48 : Tab := lk [(47,fs47)]
theorem tab48 : TabOK prog T48 := (TabOK.cons ok47 ent47 TabOK.nil)
set_option maxRecDepth 100000 in
set_option maxHeartbeats 1000000 in
theorem ok48 : FnOK prog 48 fs48 := by
 refine FnOK.mk cok func48 rfl rfl rfl ?_
 rintro fl ⟨(x : Int),(j : Int),_⟩ hpre F hnt0 _
 have hnt : F.nt = 10 := hnt0.trans ntmps48
 replace hpre : (j ≤ 60) ∧ (0 ≤ x ∧ x ≤ 4611686018427387904) := hpre
 obtain ⟨hj,hx⟩ := hpre
 refine W.to (⟨[(0,.i x),(1,.i j)],[],[999]⟩) rfl ?_
 refine Kk cok tab48 hnt [] [0,1] (⟨[(0,.i x),(1,.i j)],[],[999]⟩)
  (True ∧ True)
  ⟨tt,tt⟩ ?_
 have hp := power_pos j
 refine Kk cok tab48 hnt [] [4] (⟨[(4,.i (Int.tmod (Int.tdiv x (power j)) (2 : Int)))],[],[999]⟩)
  (True ∧ True ∧ (True ∧ (True ∧ True) ∧ (j ≤ 60)) ∧ (True ∧ True ∧ ((power j) ≠ 0) ∧ (Fits .i64 (Int.tdiv x (power j)))) ∧ (True ∧ True ∧ ((2 : Int) ≠ 0)) ∧ True ∧ True)
  ⟨tt,tt,⟨tt,⟨tt,tt⟩,(by omega)⟩,⟨tt,tt,(by omega),(by exact fits_i64 (Int.le_trans (by omega) (Int.tdiv_nonneg (by omega) (by omega))) (Int.le_trans (Int.tdiv_le_self _ (by omega)) (by omega)))⟩,⟨tt,tt,(by decide)⟩,tt,tt⟩ ?_
 refine W.ret ?_
 exact endQ_ret (.i (Int.tmod (Int.tdiv x (power j)) (2 : Int))) (by kernel_rfl) (@cast ((.int .i64 (Int.tmod (Int.tdiv x (power j)) (2 : Int)) : Value) = .int .i64 (bitOf x j)) _ (by kernel_rfl) (congrArg (Value.int .i64) (by first | rfl | simp_all)))
theorem ent48 : Entr prog 48 := ⟨_,func48,rfl,by decide⟩
end Go.Proofs.Try
