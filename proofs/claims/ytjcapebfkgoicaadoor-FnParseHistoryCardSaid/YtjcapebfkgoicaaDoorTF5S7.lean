import Derived.Test.YtjcapebfkgoicaaDoorTF5S0
import Derived.Test.YtjcapebfkgoicaaDoorTF5S6
set_option linter.unusedSimpArgs false
set_option linter.unusedVariables false
namespace Go.Proofs.Tryd
open Go.Ab Go.RowKit
def fs68 : FnS := fnS [.o,.s .ints,.o] [.str,.ints,.call] (fun _ (name,state,c,_) => (.tup [.sl (.ints ((specStep name state c).1)),.b ((specStep name state c).2)],[],(state.length ≤ 1000000) ∧ (∀ x ∈ state,-1000000000 ≤ x ∧ x ≤ 1000000000) ∧ (-1000000000 ≤ c.arg ∧ c.arg ≤ 1000000000)))
abbrev T68 : Tab := lk [(83,fs83)]
theorem tab68 : TabOK prog T68 := (TabOK.cons ok83 ent83 TabOK.nil)
set_option maxRecDepth 100000 in
set_option maxHeartbeats 4000000 in
theorem ok68 : FnOK prog 68 fs68 := by
 refine FnOK.mk cok func68 rfl rfl rfl ?_
 rintro fl ⟨(name : ByteArray),(state : List Int),(c : CallD),_⟩ hpre F hnt0 _
 have hnt : F.nt = 240 := hnt0.trans ntmps68
 replace hpre : (state.length ≤ 1000000) ∧ (∀ x ∈ state,-1000000000 ≤ x ∧ x ≤ 1000000000) ∧ (-1000000000 ≤ c.arg ∧ c.arg ≤ 1000000000) := hpre
 obtain ⟨hl,hs,ha⟩ := hpre
 refine W.to (⟨[(0,.v (.string name)),(1,.sl (.ints state)),(2,.agg [.i c.proc,.i c.obj,.i c.kind,.i c.arg,.i c.ret,.i c.frm,.i c.to])],[],[999]⟩) rfl ?_
 refine W.lenOf 1 (.ints state) (by kernel_rfl) ?_
 intro hl_state; replace hl_state : List.length state ≤ 9223372036854775807 := hl_state
 refine Kk cok tab68 hnt [] [0,1,5] (⟨[(0,.v (.string name)),(1,.sl (.ints state)),(5,.ptr 5 0)],[(5,⟨40,.fix [.i c.proc,.i c.obj,.i c.kind,.i c.arg,.i c.ret,.i c.frm,.i c.to]⟩)],[5,999]⟩)
  (True ∧ True ∧ True ∧ True)
  ⟨tt,tt,tt,tt⟩ ?_
 refine Kk cok tab68 hnt [] [0,1,5,8] (⟨[(0,.v (.string name)),(1,.sl (.ints state)),(5,.ptr 5 0),(8,.i (state.length : Int))],[(5,⟨40,.fix [.i c.proc,.i c.obj,.i c.kind,.i c.arg,.i c.ret,.i c.frm,.i c.to]⟩)],[5,999]⟩)
  (True ∧ True ∧ True ∧ True)
  ⟨tt,tt,tt,tt⟩ ?_
 refine W.seq ?_
 refine Kk cok tab68 hnt [] [0,1,5,8,14] (⟨[(0,.v (.string name)),(1,.sl (.ints state)),(5,.ptr 5 0),(8,.i (state.length : Int)),(14,.b (decide (c.kind = (0 : Int))))],[(5,⟨40,.fix [.i c.proc,.i c.obj,.i c.kind,.i c.arg,.i c.ret,.i c.frm,.i c.to]⟩)],[5,999]⟩)
  (True ∧ True ∧ (True ∧ True ∧ True) ∧ True)
  ⟨tt,tt,⟨tt,tt,tt⟩,tt⟩ ?_
 refine W.ifP (c.kind = (0 : Int)) (.b (decide (c.kind = (0 : Int)))) (by kernel_rfl) rfl trivial ?_ ?_
 ·intro h14
  refine W.seq ?_
  refine Kk cok tab68 hnt [] [1,5,8,15] (⟨[(1,.sl (.ints state)),(5,.ptr 5 0),(8,.i (state.length : Int)),(15,.v (.string name))],[(5,⟨40,.fix [.i c.proc,.i c.obj,.i c.kind,.i c.arg,.i c.ret,.i c.frm,.i c.to]⟩)],[5,999]⟩)
   (True ∧ True)
   ⟨tt,tt⟩ ?_
  refine W.block ?_
  refine Kk cok tab68 hnt [] [1,5,8,15,16] (⟨[(1,.sl (.ints state)),(5,.ptr 5 0),(8,.i (state.length : Int)),(15,.v (.string name)),(16,.b (eqS name nRegister))],[(5,⟨40,.fix [.i c.proc,.i c.obj,.i c.kind,.i c.arg,.i c.ret,.i c.frm,.i c.to]⟩)],[5,999]⟩)
   ((True ∧ True ∧ True) ∧ True ∧ True)
   ⟨⟨tt,tt,tt⟩,tt,tt⟩ ?_
  refine W.if' (eqS name nRegister) (.b (eqS name nRegister)) (by kernel_rfl) rfl trivial ?_ ?_
  ·intro h16
   refine W.KA cok tab68 hnt [] [6,7] (⟨[(6,.sl (.ints ([c.arg]))),(7,.b (decide (c.ret = (0 : Int))))],[(5,⟨40,.fix [.i c.proc,.i c.obj,.i c.kind,.i c.arg,.i c.ret,.i c.frm,.i c.to]⟩)],[20,5,999]⟩)
    (True ∧ True ∧ (True ∧ True) ∧ True ∧ True ∧ (True ∧ True ∧ True) ∧ True ∧ True ∧ True) (by kernel_rfl) (by kernel_rfl)
    ⟨tt,tt,⟨tt,tt⟩,tt,tt,⟨tt,tt,tt⟩,tt,tt,tt⟩ ?_
   refine W.ret (blockQ_ret (thenQ_ret (thenQ_ret ?_)))
   exact endQ_ret (.tup [.sl (.ints ([c.arg])),.b (decide (c.ret = (0 : Int)))]) (by kernel_rfl) (@cast (((.ints ([c.arg]) : Dat) = .ints ((specStep name state c).1)) ∧ ((.bool (decide (c.ret = (0 : Int))) : Value) = .bool ((specStep name state c).2)) ∧ True) _ (by kernel_rfl) ⟨(congrArg Dat.ints (by simp only [specStep,(decide_eq_true h14),h16,cond_true,cond_false,Bool.and_true,Bool.true_and,Bool.and_false,Bool.false_and,Bool.or_true,Bool.true_or,Bool.or_false,Bool.false_or,Bool.not_true,Bool.not_false])),(congrArg Value.bool (by simp only [specStep,(decide_eq_true h14),h16,cond_true,cond_false,Bool.and_true,Bool.true_and,Bool.and_false,Bool.false_and,Bool.or_true,Bool.true_or,Bool.or_false,Bool.false_or,Bool.not_true,Bool.not_false])),tt⟩)
  ·intro n16
   refine Kk cok tab68 hnt [] [1,5,8,15,24] (⟨[(1,.sl (.ints state)),(5,.ptr 5 0),(8,.i (state.length : Int)),(15,.v (.string name)),(24,.b (eqS name nCounter))],[(5,⟨40,.fix [.i c.proc,.i c.obj,.i c.kind,.i c.arg,.i c.ret,.i c.frm,.i c.to]⟩)],[5,999]⟩)
    ((True ∧ True ∧ True) ∧ True ∧ True)
    ⟨⟨tt,tt,tt⟩,tt,tt⟩ ?_
   refine W.if' (eqS name nCounter) (.b (eqS name nCounter)) (by kernel_rfl) rfl trivial ?_ ?_
   ·intro h24
    refine W.seq ?_
    refine Kk cok tab68 hnt [] [1,5,27] (⟨[(1,.sl (.ints state)),(5,.ptr 5 0),(27,.b (decide ((state.length : Int) = (0 : Int))))],[(5,⟨40,.fix [.i c.proc,.i c.obj,.i c.kind,.i c.arg,.i c.ret,.i c.frm,.i c.to]⟩)],[5,999]⟩)
     (True ∧ (True ∧ True ∧ True) ∧ True)
     ⟨tt,⟨tt,tt,tt⟩,tt⟩ ?_
    refine W.ifP ((state.length : Int) = (0 : Int)) (.b (decide ((state.length : Int) = (0 : Int)))) (by kernel_rfl) rfl trivial ?_ ?_
    ·intro h27
     refine W.KA cok tab68 hnt [] [6,7] (⟨[(6,.sl (.ints ([c.arg]))),(7,.b (decide (c.ret = (0 : Int))))],[(5,⟨40,.fix [.i c.proc,.i c.obj,.i c.kind,.i c.arg,.i c.ret,.i c.frm,.i c.to]⟩)],[30,5,999]⟩)
      (True ∧ True ∧ (True ∧ True) ∧ True ∧ True ∧ (True ∧ True ∧ True) ∧ True ∧ True ∧ True) (by kernel_rfl) (by kernel_rfl)
      ⟨tt,tt,⟨tt,tt⟩,tt,tt,⟨tt,tt,tt⟩,tt,tt,tt⟩ ?_
     refine W.ret (thenQ_ret (blockQ_ret (thenQ_ret (thenQ_ret ?_))))
     exact endQ_ret (.tup [.sl (.ints ([c.arg])),.b (decide (c.ret = (0 : Int)))]) (by kernel_rfl) (@cast (((.ints ([c.arg]) : Dat) = .ints ((specStep name state c).1)) ∧ ((.bool (decide (c.ret = (0 : Int))) : Value) = .bool ((specStep name state c).2)) ∧ True) _ (by kernel_rfl) ⟨(congrArg Dat.ints (by simp only [specStep,(decide_eq_true h14),h24,(decide_eq_true h27),n16,cond_true,cond_false,Bool.and_true,Bool.true_and,Bool.and_false,Bool.false_and,Bool.or_true,Bool.true_or,Bool.or_false,Bool.false_or,Bool.not_true,Bool.not_false])),(congrArg Value.bool (by simp only [specStep,(decide_eq_true h14),h24,(decide_eq_true h27),n16,cond_true,cond_false,Bool.and_true,Bool.true_and,Bool.and_false,Bool.false_and,Bool.or_true,Bool.true_or,Bool.or_false,Bool.false_or,Bool.not_true,Bool.not_false])),tt⟩)
    ·intro n27
     refine W.skip (thenQ_normal ?_)
     have hs0 := hs _ (getD_mem state 0 (show 0 < state.length by omega))
     refine W.KA cok tab68 hnt [] [6,7] (⟨[(6,.sl (.ints ([((state.getD 0 0) + c.arg)]))),(7,.b (decide (c.ret = (0 : Int))))],[(5,⟨40,.fix [.i c.proc,.i c.obj,.i c.kind,.i c.arg,.i c.ret,.i c.frm,.i c.to]⟩)],[40,5,999]⟩)
      (True ∧ (True ∧ True ∧ (0 ≤ (0 : Int)) ∧ ((0 : Int) < (state.length : Int))) ∧ True ∧ True ∧ True ∧ (True ∧ True ∧ (Fits .i64 ((state.getD 0 0) + c.arg))) ∧ (True ∧ True) ∧ True ∧ True ∧ (True ∧ True ∧ True) ∧ True ∧ True ∧ True) (by kernel_rfl) (by kernel_rfl)
      ⟨tt,⟨tt,tt,(by omega),(by omega)⟩,tt,tt,tt,⟨tt,tt,(by exact fits_i64 (by (first | omega | (simp only [List.length_set]; done) | (simp only [List.length_append,List.length_cons,List.length_nil,List.length_take,List.length_drop,List.length_set,List.length_replicate,List.length_map] at *; omega) | assumption)) (by (first | omega | (simp only [List.length_set]; done) | (simp only [List.length_append,List.length_cons,List.length_nil,List.length_take,List.length_drop,List.length_set,List.length_replicate,List.length_map] at *; omega) | assumption)))⟩,⟨tt,tt⟩,tt,tt,⟨tt,tt,tt⟩,tt,tt,tt⟩ ?_
     refine W.ret (blockQ_ret (thenQ_ret (thenQ_ret ?_)))
     exact endQ_ret (.tup [.sl (.ints ([((state.getD 0 0) + c.arg)])),.b (decide (c.ret = (0 : Int)))]) (by kernel_rfl) (@cast (((.ints ([((state.getD 0 0) + c.arg)]) : Dat) = .ints ((specStep name state c).1)) ∧ ((.bool (decide (c.ret = (0 : Int))) : Value) = .bool ((specStep name state c).2)) ∧ True) _ (by kernel_rfl) ⟨(congrArg Dat.ints (by simp only [specStep,(decide_eq_true h14),h24,n16,(decide_eq_false n27),cond_true,cond_false,Bool.and_true,Bool.true_and,Bool.and_false,Bool.false_and,Bool.or_true,Bool.true_or,Bool.or_false,Bool.false_or,Bool.not_true,Bool.not_false])),(congrArg Value.bool (by simp only [specStep,(decide_eq_true h14),h24,n16,(decide_eq_false n27),cond_true,cond_false,Bool.and_true,Bool.true_and,Bool.and_false,Bool.false_and,Bool.or_true,Bool.true_or,Bool.or_false,Bool.false_or,Bool.not_true,Bool.not_false])),tt⟩)
   ·intro n24
    refine Kk cok tab68 hnt [] [1,5,8,15,44] (⟨[(1,.sl (.ints state)),(5,.ptr 5 0),(8,.i (state.length : Int)),(15,.v (.string name)),(44,.b (eqS name nMost))],[(5,⟨40,.fix [.i c.proc,.i c.obj,.i c.kind,.i c.arg,.i c.ret,.i c.frm,.i c.to]⟩)],[5,999]⟩)
     ((True ∧ True ∧ True) ∧ True ∧ True)
     ⟨⟨tt,tt,tt⟩,tt,tt⟩ ?_
    refine W.if' (eqS name nMost) (.b (eqS name nMost)) (by kernel_rfl) rfl trivial ?_ ?_
    ·intro h44
     refine W.seq ?_
     refine W.KA cok tab68 hnt [] [1,5,55] (⟨[(1,.sl (.ints state)),(5,.ptr 5 0),(55,.b ((decide ((0 : Int) < (state.length : Int))) && (decide (c.arg < (state.getD 0 0)))))],[(5,⟨40,.fix [.i c.proc,.i c.obj,.i c.kind,.i c.arg,.i c.ret,.i c.frm,.i c.to]⟩)],[5,999]⟩)
      ((fun (Z1:Bool)=>(True ∧ ((True ∧ (True ∧ True)) ∧ (True ∧ ((Z1 = true → True) ∧ ((Z1 = true → (((Z1 = true) ∧ True) ∧ (True ∧ ((0 ≤ (0 : Int)) ∧ ((0 : Int) < (state.length : Int)))))) ∧ ((Z1 = true → ((Z1 = true) ∧ True)) ∧ ((Z1 = true → True) ∧ ((Z1 = true → ((Z1 = true) ∧ True)) ∧ ((Z1 = true → (((Z1 = true) ∧ True) ∧ (((Z1 = true) ∧ True) ∧ True))) ∧ ((True ∧ ((Z1 = true → (Z1 = true) ∧ True) ∧ (Z1 = false → True))) ∧ True))))))))))) (decide ((0 : Int) < (state.length : Int)))) (by kernel_rfl) (by kernel_rfl)
      ⟨tt,⟨tt,tt,tt⟩,tt,(fun _ => trivial),(fun hG => ⟨⟨hG,tt⟩,tt,(by have hg0 : (0 : Int) < (state.length : Int) := of_decide_eq_true hG; omega),(by have hg0 : (0 : Int) < (state.length : Int) := of_decide_eq_true hG; omega)⟩),(fun hG => ⟨hG,tt⟩),(fun _ => trivial),(fun hG => ⟨hG,tt⟩),(fun hG => ⟨⟨hG,tt⟩,⟨hG,tt⟩,tt⟩),⟨tt,(fun hp => ⟨hp,tt⟩),(fun _ => trivial)⟩,tt⟩ ?_
     refine W.if' ((decide ((0 : Int) < (state.length : Int))) && (decide (c.arg < (state.getD 0 0)))) (.b ((decide ((0 : Int) < (state.length : Int))) && (decide (c.arg < (state.getD 0 0))))) (by kernel_rfl) rfl trivial ?_ ?_
     ·intro h55
      have h55_0 : (0 : Int) < (state.length : Int) := of_decide_eq_true (and_l h55)
      have h55_1 : c.arg < (state.getD 0 0) := of_decide_eq_true (and_r h55)
      refine W.KA cok tab68 hnt [] [6,7] (⟨[(6,.sl (.ints state)),(7,.b (decide (c.ret = (0 : Int))))],[(5,⟨40,.fix [.i c.proc,.i c.obj,.i c.kind,.i c.arg,.i c.ret,.i c.frm,.i c.to]⟩)],[5,999]⟩)
       (True ∧ True ∧ True ∧ (True ∧ True ∧ True) ∧ True ∧ True ∧ True) (by kernel_rfl) (by kernel_rfl)
       ⟨tt,tt,tt,⟨tt,tt,tt⟩,tt,tt,tt⟩ ?_
      refine W.ret (thenQ_ret (blockQ_ret (thenQ_ret (thenQ_ret ?_))))
      exact endQ_ret (.tup [.sl (.ints state),.b (decide (c.ret = (0 : Int)))]) (by kernel_rfl) (@cast (((.ints state : Dat) = .ints ((specStep name state c).1)) ∧ ((.bool (decide (c.ret = (0 : Int))) : Value) = .bool ((specStep name state c).2)) ∧ True) _ (by kernel_rfl) ⟨(congrArg Dat.ints (by simp only [specStep,(decide_eq_true h14),h44,h55,(and_l h55),(and_r h55),n16,n24,cond_true,cond_false,Bool.and_true,Bool.true_and,Bool.and_false,Bool.false_and,Bool.or_true,Bool.true_or,Bool.or_false,Bool.false_or,Bool.not_true,Bool.not_false])),(congrArg Value.bool (by simp only [specStep,(decide_eq_true h14),h44,h55,(and_l h55),(and_r h55),n16,n24,cond_true,cond_false,Bool.and_true,Bool.true_and,Bool.and_false,Bool.false_and,Bool.or_true,Bool.true_or,Bool.or_false,Bool.false_or,Bool.not_true,Bool.not_false])),tt⟩)
     ·intro n55
      refine W.skip (thenQ_normal ?_)
      refine W.KA cok tab68 hnt [] [6,7] (⟨[(6,.sl (.ints ([c.arg]))),(7,.b (decide (c.ret = (0 : Int))))],[(5,⟨40,.fix [.i c.proc,.i c.obj,.i c.kind,.i c.arg,.i c.ret,.i c.frm,.i c.to]⟩)],[62,5,999]⟩)
       (True ∧ True ∧ (True ∧ True) ∧ True ∧ True ∧ (True ∧ True ∧ True) ∧ True ∧ True ∧ True) (by kernel_rfl) (by kernel_rfl)
       ⟨tt,tt,⟨tt,tt⟩,tt,tt,⟨tt,tt,tt⟩,tt,tt,tt⟩ ?_
      refine W.ret (blockQ_ret (thenQ_ret (thenQ_ret ?_)))
      exact endQ_ret (.tup [.sl (.ints ([c.arg])),.b (decide (c.ret = (0 : Int)))]) (by kernel_rfl) (@cast (((.ints ([c.arg]) : Dat) = .ints ((specStep name state c).1)) ∧ ((.bool (decide (c.ret = (0 : Int))) : Value) = .bool ((specStep name state c).2)) ∧ True) _ (by kernel_rfl) ⟨(congrArg Dat.ints (by simp only [specStep,(decide_eq_true h14),h44,n16,n24,n55,cond_true,cond_false,Bool.and_true,Bool.true_and,Bool.and_false,Bool.false_and,Bool.or_true,Bool.true_or,Bool.or_false,Bool.false_or,Bool.not_true,Bool.not_false])),(congrArg Value.bool (by simp only [specStep,(decide_eq_true h14),h44,n16,n24,n55,cond_true,cond_false,Bool.and_true,Bool.true_and,Bool.and_false,Bool.false_and,Bool.or_true,Bool.true_or,Bool.or_false,Bool.false_or,Bool.not_true,Bool.not_false])),tt⟩)
    ·intro n44
     refine Kk cok tab68 hnt [] [1,5,66] (⟨[(1,.sl (.ints state)),(5,.ptr 5 0),(66,.b (eqS name nSet))],[(5,⟨40,.fix [.i c.proc,.i c.obj,.i c.kind,.i c.arg,.i c.ret,.i c.frm,.i c.to]⟩)],[5,999]⟩)
      ((True ∧ True ∧ True) ∧ True ∧ True)
      ⟨⟨tt,tt,tt⟩,tt,tt⟩ ?_
     refine W.if' (eqS name nSet) (.b (eqS name nSet)) (by kernel_rfl) rfl trivial ?_ ?_
     ·intro h66
      refine W.seq ?_
      refine Kk cok tab68 hnt [] [1,5,71] (⟨[(1,.sl (.ints state)),(5,.ptr 5 0),(71,.b (hasInt state c.arg))],[(5,⟨40,.fix [.i c.proc,.i c.obj,.i c.kind,.i c.arg,.i c.ret,.i c.frm,.i c.to]⟩)],[5,999]⟩)
       (True ∧ True ∧ True ∧ (True ∧ (True ∧ True ∧ True) ∧ True) ∧ True)
       ⟨tt,tt,tt,⟨tt,⟨tt,tt,tt⟩,tt⟩,tt⟩ ?_
      refine W.if' (hasInt state c.arg) (.b (hasInt state c.arg)) (by kernel_rfl) rfl trivial ?_ ?_
      ·intro h71
       refine W.KA cok tab68 hnt [] [6,7] (⟨[(6,.sl (.ints state)),(7,.b (decide (c.ret = (0 : Int))))],[(5,⟨40,.fix [.i c.proc,.i c.obj,.i c.kind,.i c.arg,.i c.ret,.i c.frm,.i c.to]⟩)],[5,999]⟩)
        (True ∧ True ∧ True ∧ (True ∧ True ∧ True) ∧ True ∧ True ∧ True) (by kernel_rfl) (by kernel_rfl)
        ⟨tt,tt,tt,⟨tt,tt,tt⟩,tt,tt,tt⟩ ?_
       refine W.ret (thenQ_ret (blockQ_ret (thenQ_ret (thenQ_ret ?_))))
       exact endQ_ret (.tup [.sl (.ints state),.b (decide (c.ret = (0 : Int)))]) (by kernel_rfl) (@cast (((.ints state : Dat) = .ints ((specStep name state c).1)) ∧ ((.bool (decide (c.ret = (0 : Int))) : Value) = .bool ((specStep name state c).2)) ∧ True) _ (by kernel_rfl) ⟨(congrArg Dat.ints (by simp only [specStep,(decide_eq_true h14),h66,h71,n16,n24,n44,cond_true,cond_false,Bool.and_true,Bool.true_and,Bool.and_false,Bool.false_and,Bool.or_true,Bool.true_or,Bool.or_false,Bool.false_or,Bool.not_true,Bool.not_false])),(congrArg Value.bool (by simp only [specStep,(decide_eq_true h14),h66,h71,n16,n24,n44,cond_true,cond_false,Bool.and_true,Bool.true_and,Bool.and_false,Bool.false_and,Bool.or_true,Bool.true_or,Bool.or_false,Bool.false_or,Bool.not_true,Bool.not_false])),tt⟩)
      ·intro n71
       refine W.skip (thenQ_normal ?_)
       refine W.KA cok tab68 hnt [76,78] [6,7] (⟨[(6,.sl (.ints (state ++ ([c.arg])))),(7,.b (decide (c.ret = (1 : Int))))],[(5,⟨40,.fix [.i c.proc,.i c.obj,.i c.kind,.i c.arg,.i c.ret,.i c.frm,.i c.to]⟩)],[82,81,78,76,5,999]⟩)
        (True ∧ True ∧ ((True ∧ ((List.length ([] : List Int)) = (List.length ([] : List Int)))) ∧ True ∧ (((List.length ([] : List Int)) + state.length) * 8 ≤ 140737488355328)) ∧ True ∧ True ∧ (True ∧ True) ∧ ((True ∧ (state.length = state.length)) ∧ True ∧ ((state.length + (List.length ([c.arg]))) * 8 ≤ 140737488355328)) ∧ True ∧ True ∧ (True ∧ True ∧ True) ∧ True ∧ True ∧ True) (by kernel_rfl) (by kernel_rfl)
        ⟨tt,tt,⟨⟨tt,rfl⟩,tt,(by (first | omega | (simp only [List.length_set]; done) | (simp only [List.length_append,List.length_cons,List.length_nil,List.length_take,List.length_drop,List.length_set,List.length_replicate,List.length_map] at *; omega) | assumption))⟩,tt,tt,⟨tt,tt⟩,⟨⟨tt,rfl⟩,tt,(by (first | omega | (simp only [List.length_set]; done) | (simp only [List.length_append,List.length_cons,List.length_nil,List.length_take,List.length_drop,List.length_set,List.length_replicate,List.length_map] at *; omega) | assumption))⟩,tt,tt,⟨tt,tt,tt⟩,tt,tt,tt⟩ ?_
       refine W.ret (blockQ_ret (thenQ_ret (thenQ_ret ?_)))
       exact endQ_ret (.tup [.sl (.ints (state ++ ([c.arg]))),.b (decide (c.ret = (1 : Int)))]) (by kernel_rfl) (@cast (((.ints (state ++ ([c.arg])) : Dat) = .ints ((specStep name state c).1)) ∧ ((.bool (decide (c.ret = (1 : Int))) : Value) = .bool ((specStep name state c).2)) ∧ True) _ (by kernel_rfl) ⟨(congrArg Dat.ints (by simp only [specStep,(decide_eq_true h14),h66,n16,n24,n44,n71,cond_true,cond_false,Bool.and_true,Bool.true_and,Bool.and_false,Bool.false_and,Bool.or_true,Bool.true_or,Bool.or_false,Bool.false_or,Bool.not_true,Bool.not_false])),(congrArg Value.bool (by simp only [specStep,(decide_eq_true h14),h66,n16,n24,n44,n71,cond_true,cond_false,Bool.and_true,Bool.true_and,Bool.and_false,Bool.false_and,Bool.or_true,Bool.true_or,Bool.or_false,Bool.false_or,Bool.not_true,Bool.not_false])),tt⟩)
     ·intro n66
      refine W.skip (blockQ_normal (thenQ_normal ?_))
      refine W.KA cok tab68 hnt [86,88] [6,7] (⟨[(6,.sl (.ints (state ++ ([c.arg])))),(7,.b (decide (c.ret = (0 : Int))))],[(5,⟨40,.fix [.i c.proc,.i c.obj,.i c.kind,.i c.arg,.i c.ret,.i c.frm,.i c.to]⟩)],[92,91,88,86,5,999]⟩)
       (True ∧ True ∧ ((True ∧ ((List.length ([] : List Int)) = (List.length ([] : List Int)))) ∧ True ∧ (((List.length ([] : List Int)) + state.length) * 8 ≤ 140737488355328)) ∧ True ∧ True ∧ (True ∧ True) ∧ ((True ∧ (state.length = state.length)) ∧ True ∧ ((state.length + (List.length ([c.arg]))) * 8 ≤ 140737488355328)) ∧ True ∧ True ∧ (True ∧ True ∧ True) ∧ True ∧ True ∧ True) (by kernel_rfl) (by kernel_rfl)
       ⟨tt,tt,⟨⟨tt,rfl⟩,tt,(by (first | omega | (simp only [List.length_set]; done) | (simp only [List.length_append,List.length_cons,List.length_nil,List.length_take,List.length_drop,List.length_set,List.length_replicate,List.length_map] at *; omega) | assumption))⟩,tt,tt,⟨tt,tt⟩,⟨⟨tt,rfl⟩,tt,(by (first | omega | (simp only [List.length_set]; done) | (simp only [List.length_append,List.length_cons,List.length_nil,List.length_take,List.length_drop,List.length_set,List.length_replicate,List.length_map] at *; omega) | assumption))⟩,tt,tt,⟨tt,tt,tt⟩,tt,tt,tt⟩ ?_
      refine W.ret (thenQ_ret ?_)
      exact endQ_ret (.tup [.sl (.ints (state ++ ([c.arg]))),.b (decide (c.ret = (0 : Int)))]) (by kernel_rfl) (@cast (((.ints (state ++ ([c.arg])) : Dat) = .ints ((specStep name state c).1)) ∧ ((.bool (decide (c.ret = (0 : Int))) : Value) = .bool ((specStep name state c).2)) ∧ True) _ (by kernel_rfl) ⟨(congrArg Dat.ints (by simp only [specStep,(decide_eq_true h14),n16,n24,n44,n66,cond_true,cond_false,Bool.and_true,Bool.true_and,Bool.and_false,Bool.false_and,Bool.or_true,Bool.true_or,Bool.or_false,Bool.false_or,Bool.not_true,Bool.not_false])),(congrArg Value.bool (by simp only [specStep,(decide_eq_true h14),n16,n24,n44,n66,cond_true,cond_false,Bool.and_true,Bool.true_and,Bool.and_false,Bool.false_and,Bool.or_true,Bool.true_or,Bool.or_false,Bool.false_or,Bool.not_true,Bool.not_false])),tt⟩)
 ·intro n14
  refine W.skip (thenQ_normal ?_)
  refine W.seq ?_
  refine Kk cok tab68 hnt [] [0,1,5,8,98] (⟨[(0,.v (.string name)),(1,.sl (.ints state)),(5,.ptr 5 0),(8,.i (state.length : Int)),(98,.b (decide (c.kind = (2 : Int))))],[(5,⟨40,.fix [.i c.proc,.i c.obj,.i c.kind,.i c.arg,.i c.ret,.i c.frm,.i c.to]⟩)],[5,999]⟩)
   (True ∧ True ∧ (True ∧ True ∧ True) ∧ True)
   ⟨tt,tt,⟨tt,tt,tt⟩,tt⟩ ?_
  refine W.ifP (c.kind = (2 : Int)) (.b (decide (c.kind = (2 : Int)))) (by kernel_rfl) rfl trivial ?_ ?_
  ·intro h98
   refine W.seq ?_
   refine Kk cok tab68 hnt [] [1,5,8,99] (⟨[(1,.sl (.ints state)),(5,.ptr 5 0),(8,.i (state.length : Int)),(99,.v (.string name))],[(5,⟨40,.fix [.i c.proc,.i c.obj,.i c.kind,.i c.arg,.i c.ret,.i c.frm,.i c.to]⟩)],[5,999]⟩)
    (True ∧ True)
    ⟨tt,tt⟩ ?_
   refine W.block ?_
   refine Kk cok tab68 hnt [] [1,5,8,99,100] (⟨[(1,.sl (.ints state)),(5,.ptr 5 0),(8,.i (state.length : Int)),(99,.v (.string name)),(100,.b (eqS name nQueue))],[(5,⟨40,.fix [.i c.proc,.i c.obj,.i c.kind,.i c.arg,.i c.ret,.i c.frm,.i c.to]⟩)],[5,999]⟩)
    ((True ∧ True ∧ True) ∧ True ∧ True)
    ⟨⟨tt,tt,tt⟩,tt,tt⟩ ?_
   refine W.if' (eqS name nQueue) (.b (eqS name nQueue)) (by kernel_rfl) rfl trivial ?_ ?_
   ·intro h100
    refine W.seq ?_
    refine Kk cok tab68 hnt [] [1,5,103] (⟨[(1,.sl (.ints state)),(5,.ptr 5 0),(103,.b (decide ((state.length : Int) = (0 : Int))))],[(5,⟨40,.fix [.i c.proc,.i c.obj,.i c.kind,.i c.arg,.i c.ret,.i c.frm,.i c.to]⟩)],[5,999]⟩)
     (True ∧ (True ∧ True ∧ True) ∧ True)
     ⟨tt,⟨tt,tt,tt⟩,tt⟩ ?_
    refine W.ifP ((state.length : Int) = (0 : Int)) (.b (decide ((state.length : Int) = (0 : Int)))) (by kernel_rfl) rfl trivial ?_ ?_
    ·intro h103
     refine W.KA cok tab68 hnt [] [6,7] (⟨[(6,.sl (.ints state)),(7,.b (decide (c.ret = (-1 : Int))))],[(5,⟨40,.fix [.i c.proc,.i c.obj,.i c.kind,.i c.arg,.i c.ret,.i c.frm,.i c.to]⟩)],[5,999]⟩)
      (True ∧ True ∧ True ∧ (True ∧ True ∧ True) ∧ True ∧ True ∧ True) (by kernel_rfl) (by kernel_rfl)
      ⟨tt,tt,tt,⟨tt,tt,tt⟩,tt,tt,tt⟩ ?_
     refine W.ret (thenQ_ret (blockQ_ret (thenQ_ret (thenQ_ret ?_))))
     exact endQ_ret (.tup [.sl (.ints state),.b (decide (c.ret = (-1 : Int)))]) (by kernel_rfl) (@cast (((.ints state : Dat) = .ints ((specStep name state c).1)) ∧ ((.bool (decide (c.ret = (-1 : Int))) : Value) = .bool ((specStep name state c).2)) ∧ True) _ (by kernel_rfl) ⟨(congrArg Dat.ints (by simp only [specStep,(decide_eq_true h98),h100,(decide_eq_true h103),(decide_eq_false n14),cond_true,cond_false,Bool.and_true,Bool.true_and,Bool.and_false,Bool.false_and,Bool.or_true,Bool.true_or,Bool.or_false,Bool.false_or,Bool.not_true,Bool.not_false])),(congrArg Value.bool (by simp only [specStep,(decide_eq_true h98),h100,(decide_eq_true h103),(decide_eq_false n14),cond_true,cond_false,Bool.and_true,Bool.true_and,Bool.and_false,Bool.false_and,Bool.or_true,Bool.true_or,Bool.or_false,Bool.false_or,Bool.not_true,Bool.not_false])),tt⟩)
    ·intro n103
     refine W.skip (thenQ_normal ?_)
     refine W.KA cok tab68 hnt [] [6,7] (⟨[(6,.sl (.ints state)),(7,.b (decide (c.ret = (state.getD 0 0))))],[(5,⟨40,.fix [.i c.proc,.i c.obj,.i c.kind,.i c.arg,.i c.ret,.i c.frm,.i c.to]⟩)],[5,999]⟩)
      (True ∧ True ∧ True ∧ True ∧ (True ∧ True ∧ (0 ≤ (0 : Int)) ∧ ((0 : Int) < (state.length : Int))) ∧ True ∧ (True ∧ True ∧ True) ∧ True ∧ True ∧ True) (by kernel_rfl) (by kernel_rfl)
      ⟨tt,tt,tt,tt,⟨tt,tt,(by omega),(by omega)⟩,tt,⟨tt,tt,tt⟩,tt,tt,tt⟩ ?_
     refine W.ret (blockQ_ret (thenQ_ret (thenQ_ret ?_)))
     exact endQ_ret (.tup [.sl (.ints state),.b (decide (c.ret = (state.getD 0 0)))]) (by kernel_rfl) (@cast (((.ints state : Dat) = .ints ((specStep name state c).1)) ∧ ((.bool (decide (c.ret = (state.getD 0 0))) : Value) = .bool ((specStep name state c).2)) ∧ True) _ (by kernel_rfl) ⟨(congrArg Dat.ints (by simp only [specStep,(decide_eq_true h98),h100,(decide_eq_false n14),(decide_eq_false n103),cond_true,cond_false,Bool.and_true,Bool.true_and,Bool.and_false,Bool.false_and,Bool.or_true,Bool.true_or,Bool.or_false,Bool.false_or,Bool.not_true,Bool.not_false])),(congrArg Value.bool (by simp only [specStep,(decide_eq_true h98),h100,(decide_eq_false n14),(decide_eq_false n103),cond_true,cond_false,Bool.and_true,Bool.true_and,Bool.and_false,Bool.false_and,Bool.or_true,Bool.true_or,Bool.or_false,Bool.false_or,Bool.not_true,Bool.not_false])),tt⟩)
   ·intro n100
    refine Kk cok tab68 hnt [] [1,5,8,99,115] (⟨[(1,.sl (.ints state)),(5,.ptr 5 0),(8,.i (state.length : Int)),(99,.v (.string name)),(115,.b (eqS name nStack))],[(5,⟨40,.fix [.i c.proc,.i c.obj,.i c.kind,.i c.arg,.i c.ret,.i c.frm,.i c.to]⟩)],[5,999]⟩)
     ((True ∧ True ∧ True) ∧ True ∧ True)
     ⟨⟨tt,tt,tt⟩,tt,tt⟩ ?_
    refine W.if' (eqS name nStack) (.b (eqS name nStack)) (by kernel_rfl) rfl trivial ?_ ?_
    ·intro h115
     refine W.seq ?_
     refine Kk cok tab68 hnt [] [1,5,8,118] (⟨[(1,.sl (.ints state)),(5,.ptr 5 0),(8,.i (state.length : Int)),(118,.b (decide ((state.length : Int) = (0 : Int))))],[(5,⟨40,.fix [.i c.proc,.i c.obj,.i c.kind,.i c.arg,.i c.ret,.i c.frm,.i c.to]⟩)],[5,999]⟩)
      (True ∧ (True ∧ True ∧ True) ∧ True)
      ⟨tt,⟨tt,tt,tt⟩,tt⟩ ?_
     refine W.ifP ((state.length : Int) = (0 : Int)) (.b (decide ((state.length : Int) = (0 : Int)))) (by kernel_rfl) rfl trivial ?_ ?_
     ·intro h118
      refine W.KA cok tab68 hnt [] [6,7] (⟨[(6,.sl (.ints state)),(7,.b (decide (c.ret = (-1 : Int))))],[(5,⟨40,.fix [.i c.proc,.i c.obj,.i c.kind,.i c.arg,.i c.ret,.i c.frm,.i c.to]⟩)],[5,999]⟩)
       (True ∧ True ∧ True ∧ (True ∧ True ∧ True) ∧ True ∧ True ∧ True) (by kernel_rfl) (by kernel_rfl)
       ⟨tt,tt,tt,⟨tt,tt,tt⟩,tt,tt,tt⟩ ?_
      refine W.ret (thenQ_ret (blockQ_ret (thenQ_ret (thenQ_ret ?_))))
      exact endQ_ret (.tup [.sl (.ints state),.b (decide (c.ret = (-1 : Int)))]) (by kernel_rfl) (@cast (((.ints state : Dat) = .ints ((specStep name state c).1)) ∧ ((.bool (decide (c.ret = (-1 : Int))) : Value) = .bool ((specStep name state c).2)) ∧ True) _ (by kernel_rfl) ⟨(congrArg Dat.ints (by simp only [specStep,(decide_eq_true h98),h115,(decide_eq_true h118),(decide_eq_false n14),n100,cond_true,cond_false,Bool.and_true,Bool.true_and,Bool.and_false,Bool.false_and,Bool.or_true,Bool.true_or,Bool.or_false,Bool.false_or,Bool.not_true,Bool.not_false])),(congrArg Value.bool (by simp only [specStep,(decide_eq_true h98),h115,(decide_eq_true h118),(decide_eq_false n14),n100,cond_true,cond_false,Bool.and_true,Bool.true_and,Bool.and_false,Bool.false_and,Bool.or_true,Bool.true_or,Bool.or_false,Bool.false_or,Bool.not_true,Bool.not_false])),tt⟩)
     ·intro n118
      refine W.skip (thenQ_normal ?_)
      refine W.KA cok tab68 hnt [] [6,7] (⟨[(6,.sl (.ints state)),(7,.b (decide (c.ret = (state.getD (Int.toNat ((state.length : Int) - (1 : Int))) 0))))],[(5,⟨40,.fix [.i c.proc,.i c.obj,.i c.kind,.i c.arg,.i c.ret,.i c.frm,.i c.to]⟩)],[5,999]⟩)
       (True ∧ True ∧ True ∧ True ∧ True ∧ (True ∧ True ∧ (Fits .i64 ((state.length : Int) - (1 : Int)))) ∧ (True ∧ True ∧ (0 ≤ ((state.length : Int) - (1 : Int))) ∧ (((state.length : Int) - (1 : Int)) < (state.length : Int))) ∧ True ∧ (True ∧ True ∧ True) ∧ True ∧ True ∧ True) (by kernel_rfl) (by kernel_rfl)
       ⟨tt,tt,tt,tt,tt,⟨tt,tt,(by exact fits_i64 (by omega) (by omega))⟩,⟨tt,tt,(by omega),(by omega)⟩,tt,⟨tt,tt,tt⟩,tt,tt,tt⟩ ?_
      refine W.ret (blockQ_ret (thenQ_ret (thenQ_ret ?_)))
      exact endQ_ret (.tup [.sl (.ints state),.b (decide (c.ret = (state.getD (Int.toNat ((state.length : Int) - (1 : Int))) 0)))]) (by kernel_rfl) (@cast (((.ints state : Dat) = .ints ((specStep name state c).1)) ∧ ((.bool (decide (c.ret = (state.getD (Int.toNat ((state.length : Int) - (1 : Int))) 0))) : Value) = .bool ((specStep name state c).2)) ∧ True) _ (by kernel_rfl) ⟨(congrArg Dat.ints (by first | (rw [show Int.toNat (((List.length state : Nat) : Int) - (1 : Int)) = state.length - 1 by omega]; simp only [specStep,(decide_eq_true h98),h115,(decide_eq_false n14),n100,(decide_eq_false n118),cond_true,cond_false,Bool.and_true,Bool.true_and,Bool.and_false,Bool.false_and,Bool.or_true,Bool.true_or,Bool.or_false,Bool.false_or,Bool.not_true,Bool.not_false]; done) | simp only [specStep,(decide_eq_true h98),h115,(decide_eq_false n14),n100,(decide_eq_false n118),cond_true,cond_false,Bool.and_true,Bool.true_and,Bool.and_false,Bool.false_and,Bool.or_true,Bool.true_or,Bool.or_false,Bool.false_or,Bool.not_true,Bool.not_false])),(congrArg Value.bool (by first | (rw [show Int.toNat (((List.length state : Nat) : Int) - (1 : Int)) = state.length - 1 by omega]; simp only [specStep,(decide_eq_true h98),h115,(decide_eq_false n14),n100,(decide_eq_false n118),cond_true,cond_false,Bool.and_true,Bool.true_and,Bool.and_false,Bool.false_and,Bool.or_true,Bool.true_or,Bool.or_false,Bool.false_or,Bool.not_true,Bool.not_false]; done) | simp only [specStep,(decide_eq_true h98),h115,(decide_eq_false n14),n100,(decide_eq_false n118),cond_true,cond_false,Bool.and_true,Bool.true_and,Bool.and_false,Bool.false_and,Bool.or_true,Bool.true_or,Bool.or_false,Bool.false_or,Bool.not_true,Bool.not_false])),tt⟩)
    ·intro n115
     refine Kk cok tab68 hnt [] [1,5,8,132] (⟨[(1,.sl (.ints state)),(5,.ptr 5 0),(8,.i (state.length : Int)),(132,.b (eqS name nSet))],[(5,⟨40,.fix [.i c.proc,.i c.obj,.i c.kind,.i c.arg,.i c.ret,.i c.frm,.i c.to]⟩)],[5,999]⟩)
      ((True ∧ True ∧ True) ∧ True ∧ True)
      ⟨⟨tt,tt,tt⟩,tt,tt⟩ ?_
     refine W.if' (eqS name nSet) (.b (eqS name nSet)) (by kernel_rfl) rfl trivial ?_ ?_
     ·intro h132
      refine W.seq ?_
      refine Kk cok tab68 hnt [] [1,5,137] (⟨[(1,.sl (.ints state)),(5,.ptr 5 0),(137,.b (hasInt state c.arg))],[(5,⟨40,.fix [.i c.proc,.i c.obj,.i c.kind,.i c.arg,.i c.ret,.i c.frm,.i c.to]⟩)],[5,999]⟩)
       (True ∧ True ∧ True ∧ (True ∧ (True ∧ True ∧ True) ∧ True) ∧ True)
       ⟨tt,tt,tt,⟨tt,⟨tt,tt,tt⟩,tt⟩,tt⟩ ?_
      refine W.if' (hasInt state c.arg) (.b (hasInt state c.arg)) (by kernel_rfl) rfl trivial ?_ ?_
      ·intro h137
       refine W.KA cok tab68 hnt [] [6,7] (⟨[(6,.sl (.ints state)),(7,.b (decide (c.ret = (1 : Int))))],[(5,⟨40,.fix [.i c.proc,.i c.obj,.i c.kind,.i c.arg,.i c.ret,.i c.frm,.i c.to]⟩)],[5,999]⟩)
        (True ∧ True ∧ True ∧ (True ∧ True ∧ True) ∧ True ∧ True ∧ True) (by kernel_rfl) (by kernel_rfl)
        ⟨tt,tt,tt,⟨tt,tt,tt⟩,tt,tt,tt⟩ ?_
       refine W.ret (thenQ_ret (blockQ_ret (thenQ_ret (thenQ_ret ?_))))
       exact endQ_ret (.tup [.sl (.ints state),.b (decide (c.ret = (1 : Int)))]) (by kernel_rfl) (@cast (((.ints state : Dat) = .ints ((specStep name state c).1)) ∧ ((.bool (decide (c.ret = (1 : Int))) : Value) = .bool ((specStep name state c).2)) ∧ True) _ (by kernel_rfl) ⟨(congrArg Dat.ints (by simp only [specStep,(decide_eq_true h98),h132,h137,(decide_eq_false n14),n100,n115,cond_true,cond_false,Bool.and_true,Bool.true_and,Bool.and_false,Bool.false_and,Bool.or_true,Bool.true_or,Bool.or_false,Bool.false_or,Bool.not_true,Bool.not_false])),(congrArg Value.bool (by simp only [specStep,(decide_eq_true h98),h132,h137,(decide_eq_false n14),n100,n115,cond_true,cond_false,Bool.and_true,Bool.true_and,Bool.and_false,Bool.false_and,Bool.or_true,Bool.true_or,Bool.or_false,Bool.false_or,Bool.not_true,Bool.not_false])),tt⟩)
      ·intro n137
       refine W.skip (thenQ_normal ?_)
       refine W.KA cok tab68 hnt [] [6,7] (⟨[(6,.sl (.ints state)),(7,.b (decide (c.ret = (0 : Int))))],[(5,⟨40,.fix [.i c.proc,.i c.obj,.i c.kind,.i c.arg,.i c.ret,.i c.frm,.i c.to]⟩)],[5,999]⟩)
        (True ∧ True ∧ True ∧ (True ∧ True ∧ True) ∧ True ∧ True ∧ True) (by kernel_rfl) (by kernel_rfl)
        ⟨tt,tt,tt,⟨tt,tt,tt⟩,tt,tt,tt⟩ ?_
       refine W.ret (blockQ_ret (thenQ_ret (thenQ_ret ?_)))
       exact endQ_ret (.tup [.sl (.ints state),.b (decide (c.ret = (0 : Int)))]) (by kernel_rfl) (@cast (((.ints state : Dat) = .ints ((specStep name state c).1)) ∧ ((.bool (decide (c.ret = (0 : Int))) : Value) = .bool ((specStep name state c).2)) ∧ True) _ (by kernel_rfl) ⟨(congrArg Dat.ints (by simp only [specStep,(decide_eq_true h98),h132,(decide_eq_false n14),n100,n115,n137,cond_true,cond_false,Bool.and_true,Bool.true_and,Bool.and_false,Bool.false_and,Bool.or_true,Bool.true_or,Bool.or_false,Bool.false_or,Bool.not_true,Bool.not_false])),(congrArg Value.bool (by simp only [specStep,(decide_eq_true h98),h132,(decide_eq_false n14),n100,n115,n137,cond_true,cond_false,Bool.and_true,Bool.true_and,Bool.and_false,Bool.false_and,Bool.or_true,Bool.true_or,Bool.or_false,Bool.false_or,Bool.not_true,Bool.not_false])),tt⟩)
     ·intro n132
      refine W.skip (blockQ_normal (thenQ_normal ?_))
      refine W.seq ?_
      refine Kk cok tab68 hnt [] [1,5,147] (⟨[(1,.sl (.ints state)),(5,.ptr 5 0),(147,.b (decide ((state.length : Int) = (0 : Int))))],[(5,⟨40,.fix [.i c.proc,.i c.obj,.i c.kind,.i c.arg,.i c.ret,.i c.frm,.i c.to]⟩)],[5,999]⟩)
       (True ∧ (True ∧ True ∧ True) ∧ True)
       ⟨tt,⟨tt,tt,tt⟩,tt⟩ ?_
      refine W.ifP ((state.length : Int) = (0 : Int)) (.b (decide ((state.length : Int) = (0 : Int)))) (by kernel_rfl) rfl trivial ?_ ?_
      ·intro h147
       refine W.KA cok tab68 hnt [] [6,7] (⟨[(6,.sl (.ints state)),(7,.b (decide (c.ret = (0 : Int))))],[(5,⟨40,.fix [.i c.proc,.i c.obj,.i c.kind,.i c.arg,.i c.ret,.i c.frm,.i c.to]⟩)],[5,999]⟩)
        (True ∧ True ∧ True ∧ (True ∧ True ∧ True) ∧ True ∧ True ∧ True) (by kernel_rfl) (by kernel_rfl)
        ⟨tt,tt,tt,⟨tt,tt,tt⟩,tt,tt,tt⟩ ?_
       refine W.ret (thenQ_ret (thenQ_ret ?_))
       exact endQ_ret (.tup [.sl (.ints state),.b (decide (c.ret = (0 : Int)))]) (by kernel_rfl) (@cast (((.ints state : Dat) = .ints ((specStep name state c).1)) ∧ ((.bool (decide (c.ret = (0 : Int))) : Value) = .bool ((specStep name state c).2)) ∧ True) _ (by kernel_rfl) ⟨(congrArg Dat.ints (by simp only [specStep,(decide_eq_true h98),(decide_eq_true h147),(decide_eq_false n14),n100,n115,n132,cond_true,cond_false,Bool.and_true,Bool.true_and,Bool.and_false,Bool.false_and,Bool.or_true,Bool.true_or,Bool.or_false,Bool.false_or,Bool.not_true,Bool.not_false])),(congrArg Value.bool (by simp only [specStep,(decide_eq_true h98),(decide_eq_true h147),(decide_eq_false n14),n100,n115,n132,cond_true,cond_false,Bool.and_true,Bool.true_and,Bool.and_false,Bool.false_and,Bool.or_true,Bool.true_or,Bool.or_false,Bool.false_or,Bool.not_true,Bool.not_false])),tt⟩)
      ·intro n147
       refine W.skip (thenQ_normal ?_)
       refine W.KA cok tab68 hnt [] [6,7] (⟨[(6,.sl (.ints state)),(7,.b (decide (c.ret = (state.getD 0 0))))],[(5,⟨40,.fix [.i c.proc,.i c.obj,.i c.kind,.i c.arg,.i c.ret,.i c.frm,.i c.to]⟩)],[5,999]⟩)
        (True ∧ True ∧ True ∧ True ∧ (True ∧ True ∧ (0 ≤ (0 : Int)) ∧ ((0 : Int) < (state.length : Int))) ∧ True ∧ (True ∧ True ∧ True) ∧ True ∧ True ∧ True) (by kernel_rfl) (by kernel_rfl)
        ⟨tt,tt,tt,tt,⟨tt,tt,(by omega),(by omega)⟩,tt,⟨tt,tt,tt⟩,tt,tt,tt⟩ ?_
       refine W.ret (thenQ_ret ?_)
       exact endQ_ret (.tup [.sl (.ints state),.b (decide (c.ret = (state.getD 0 0)))]) (by kernel_rfl) (@cast (((.ints state : Dat) = .ints ((specStep name state c).1)) ∧ ((.bool (decide (c.ret = (state.getD 0 0))) : Value) = .bool ((specStep name state c).2)) ∧ True) _ (by kernel_rfl) ⟨(congrArg Dat.ints (by simp only [specStep,(decide_eq_true h98),(decide_eq_false n14),n100,n115,n132,(decide_eq_false n147),cond_true,cond_false,Bool.and_true,Bool.true_and,Bool.and_false,Bool.false_and,Bool.or_true,Bool.true_or,Bool.or_false,Bool.false_or,Bool.not_true,Bool.not_false])),(congrArg Value.bool (by simp only [specStep,(decide_eq_true h98),(decide_eq_false n14),n100,n115,n132,(decide_eq_false n147),cond_true,cond_false,Bool.and_true,Bool.true_and,Bool.and_false,Bool.false_and,Bool.or_true,Bool.true_or,Bool.or_false,Bool.false_or,Bool.not_true,Bool.not_false])),tt⟩)
  ·intro n98
   refine W.skip (thenQ_normal ?_)
   refine W.seq ?_
   refine Kk cok tab68 hnt [] [1,5,8,159] (⟨[(1,.sl (.ints state)),(5,.ptr 5 0),(8,.i (state.length : Int)),(159,.v (.string name))],[(5,⟨40,.fix [.i c.proc,.i c.obj,.i c.kind,.i c.arg,.i c.ret,.i c.frm,.i c.to]⟩)],[5,999]⟩)
    (True ∧ True)
    ⟨tt,tt⟩ ?_
   refine W.block ?_
   refine Kk cok tab68 hnt [] [1,5,8,159,160] (⟨[(1,.sl (.ints state)),(5,.ptr 5 0),(8,.i (state.length : Int)),(159,.v (.string name)),(160,.b (eqS name nQueue))],[(5,⟨40,.fix [.i c.proc,.i c.obj,.i c.kind,.i c.arg,.i c.ret,.i c.frm,.i c.to]⟩)],[5,999]⟩)
    ((True ∧ True ∧ True) ∧ True ∧ True)
    ⟨⟨tt,tt,tt⟩,tt,tt⟩ ?_
   refine W.if' (eqS name nQueue) (.b (eqS name nQueue)) (by kernel_rfl) rfl trivial ?_ ?_
   ·intro h160
    refine W.seq ?_
    refine Kk cok tab68 hnt [] [1,5,163] (⟨[(1,.sl (.ints state)),(5,.ptr 5 0),(163,.b (decide ((state.length : Int) = (0 : Int))))],[(5,⟨40,.fix [.i c.proc,.i c.obj,.i c.kind,.i c.arg,.i c.ret,.i c.frm,.i c.to]⟩)],[5,999]⟩)
     (True ∧ (True ∧ True ∧ True) ∧ True)
     ⟨tt,⟨tt,tt,tt⟩,tt⟩ ?_
    refine W.ifP ((state.length : Int) = (0 : Int)) (.b (decide ((state.length : Int) = (0 : Int)))) (by kernel_rfl) rfl trivial ?_ ?_
    ·intro h163
     refine W.KA cok tab68 hnt [] [6,7] (⟨[(6,.sl (.ints state)),(7,.b (decide (c.ret = (-1 : Int))))],[(5,⟨40,.fix [.i c.proc,.i c.obj,.i c.kind,.i c.arg,.i c.ret,.i c.frm,.i c.to]⟩)],[5,999]⟩)
      (True ∧ True ∧ True ∧ (True ∧ True ∧ True) ∧ True ∧ True ∧ True) (by kernel_rfl) (by kernel_rfl)
      ⟨tt,tt,tt,⟨tt,tt,tt⟩,tt,tt,tt⟩ ?_
     refine W.ret (thenQ_ret (blockQ_ret (thenQ_ret ?_)))
     exact endQ_ret (.tup [.sl (.ints state),.b (decide (c.ret = (-1 : Int)))]) (by kernel_rfl) (@cast (((.ints state : Dat) = .ints ((specStep name state c).1)) ∧ ((.bool (decide (c.ret = (-1 : Int))) : Value) = .bool ((specStep name state c).2)) ∧ True) _ (by kernel_rfl) ⟨(congrArg Dat.ints (by simp only [specStep,h160,(decide_eq_true h163),(decide_eq_false n14),(decide_eq_false n98),cond_true,cond_false,Bool.and_true,Bool.true_and,Bool.and_false,Bool.false_and,Bool.or_true,Bool.true_or,Bool.or_false,Bool.false_or,Bool.not_true,Bool.not_false])),(congrArg Value.bool (by simp only [specStep,h160,(decide_eq_true h163),(decide_eq_false n14),(decide_eq_false n98),cond_true,cond_false,Bool.and_true,Bool.true_and,Bool.and_false,Bool.false_and,Bool.or_true,Bool.true_or,Bool.or_false,Bool.false_or,Bool.not_true,Bool.not_false])),tt⟩)
    ·intro n163
     refine W.skip (thenQ_normal ?_)
     refine W.KA cok tab68 hnt [] [6,7] (⟨[(6,.sl (.ints (List.drop 1 (List.take state.length state)))),(7,.b (decide (c.ret = (state.getD 0 0))))],[(5,⟨40,.fix [.i c.proc,.i c.obj,.i c.kind,.i c.arg,.i c.ret,.i c.frm,.i c.to]⟩)],[5,999]⟩)
      (True ∧ (True ∧ True ∧ True ∧ (0 ≤ (1 : Int)) ∧ ((1 : Int) ≤ (state.length : Int)) ∧ ((state.length : Int) ≤ (state.length : Int))) ∧ True ∧ True ∧ True ∧ (True ∧ True ∧ (0 ≤ (0 : Int)) ∧ ((0 : Int) < (state.length : Int))) ∧ True ∧ (True ∧ True ∧ True) ∧ True ∧ True ∧ True) (by kernel_rfl) (by kernel_rfl)
      ⟨tt,⟨tt,tt,tt,(by omega),(by omega),(by omega)⟩,tt,tt,tt,⟨tt,tt,(by omega),(by omega)⟩,tt,⟨tt,tt,tt⟩,tt,tt,tt⟩ ?_
     refine W.ret (blockQ_ret (thenQ_ret ?_))
     exact endQ_ret (.tup [.sl (.ints (List.drop 1 (List.take state.length state))),.b (decide (c.ret = (state.getD 0 0)))]) (by kernel_rfl) (@cast (((.ints (List.drop 1 (List.take state.length state)) : Dat) = .ints ((specStep name state c).1)) ∧ ((.bool (decide (c.ret = (state.getD 0 0))) : Value) = .bool ((specStep name state c).2)) ∧ True) _ (by kernel_rfl) ⟨(congrArg Dat.ints (by first | (simp only [specStep,h160,(decide_eq_false n14),(decide_eq_false n98),(decide_eq_false n163),cond_true,cond_false,Bool.and_true,Bool.true_and,Bool.and_false,Bool.false_and,Bool.or_true,Bool.true_or,Bool.or_false,Bool.false_or,Bool.not_true,Bool.not_false,List.take_length]; done) | simp only [specStep,h160,(decide_eq_false n14),(decide_eq_false n98),(decide_eq_false n163),cond_true,cond_false,Bool.and_true,Bool.true_and,Bool.and_false,Bool.false_and,Bool.or_true,Bool.true_or,Bool.or_false,Bool.false_or,Bool.not_true,Bool.not_false])),(congrArg Value.bool (by first | (simp only [specStep,h160,(decide_eq_false n14),(decide_eq_false n98),(decide_eq_false n163),cond_true,cond_false,Bool.and_true,Bool.true_and,Bool.and_false,Bool.false_and,Bool.or_true,Bool.true_or,Bool.or_false,Bool.false_or,Bool.not_true,Bool.not_false,List.take_length]; done) | simp only [specStep,h160,(decide_eq_false n14),(decide_eq_false n98),(decide_eq_false n163),cond_true,cond_false,Bool.and_true,Bool.true_and,Bool.and_false,Bool.false_and,Bool.or_true,Bool.true_or,Bool.or_false,Bool.false_or,Bool.not_true,Bool.not_false])),tt⟩)
   ·intro n160
    refine Kk cok tab68 hnt [] [1,5,8,159,176] (⟨[(1,.sl (.ints state)),(5,.ptr 5 0),(8,.i (state.length : Int)),(159,.v (.string name)),(176,.b (eqS name nStack))],[(5,⟨40,.fix [.i c.proc,.i c.obj,.i c.kind,.i c.arg,.i c.ret,.i c.frm,.i c.to]⟩)],[5,999]⟩)
     ((True ∧ True ∧ True) ∧ True ∧ True)
     ⟨⟨tt,tt,tt⟩,tt,tt⟩ ?_
    refine W.if' (eqS name nStack) (.b (eqS name nStack)) (by kernel_rfl) rfl trivial ?_ ?_
    ·intro h176
     refine W.seq ?_
     refine Kk cok tab68 hnt [] [1,5,8,179] (⟨[(1,.sl (.ints state)),(5,.ptr 5 0),(8,.i (state.length : Int)),(179,.b (decide ((state.length : Int) = (0 : Int))))],[(5,⟨40,.fix [.i c.proc,.i c.obj,.i c.kind,.i c.arg,.i c.ret,.i c.frm,.i c.to]⟩)],[5,999]⟩)
      (True ∧ (True ∧ True ∧ True) ∧ True)
      ⟨tt,⟨tt,tt,tt⟩,tt⟩ ?_
     refine W.ifP ((state.length : Int) = (0 : Int)) (.b (decide ((state.length : Int) = (0 : Int)))) (by kernel_rfl) rfl trivial ?_ ?_
     ·intro h179
      refine W.KA cok tab68 hnt [] [6,7] (⟨[(6,.sl (.ints state)),(7,.b (decide (c.ret = (-1 : Int))))],[(5,⟨40,.fix [.i c.proc,.i c.obj,.i c.kind,.i c.arg,.i c.ret,.i c.frm,.i c.to]⟩)],[5,999]⟩)
       (True ∧ True ∧ True ∧ (True ∧ True ∧ True) ∧ True ∧ True ∧ True) (by kernel_rfl) (by kernel_rfl)
       ⟨tt,tt,tt,⟨tt,tt,tt⟩,tt,tt,tt⟩ ?_
      refine W.ret (thenQ_ret (blockQ_ret (thenQ_ret ?_)))
      exact endQ_ret (.tup [.sl (.ints state),.b (decide (c.ret = (-1 : Int)))]) (by kernel_rfl) (@cast (((.ints state : Dat) = .ints ((specStep name state c).1)) ∧ ((.bool (decide (c.ret = (-1 : Int))) : Value) = .bool ((specStep name state c).2)) ∧ True) _ (by kernel_rfl) ⟨(congrArg Dat.ints (by simp only [specStep,h176,(decide_eq_true h179),(decide_eq_false n14),(decide_eq_false n98),n160,cond_true,cond_false,Bool.and_true,Bool.true_and,Bool.and_false,Bool.false_and,Bool.or_true,Bool.true_or,Bool.or_false,Bool.false_or,Bool.not_true,Bool.not_false])),(congrArg Value.bool (by simp only [specStep,h176,(decide_eq_true h179),(decide_eq_false n14),(decide_eq_false n98),n160,cond_true,cond_false,Bool.and_true,Bool.true_and,Bool.and_false,Bool.false_and,Bool.or_true,Bool.true_or,Bool.or_false,Bool.false_or,Bool.not_true,Bool.not_false])),tt⟩)
     ·intro n179
      refine W.skip (thenQ_normal ?_)
      refine W.KA cok tab68 hnt [] [6,7] (⟨[(6,.sl (.ints (List.take (Int.toNat ((state.length : Int) - (1 : Int))) state))),(7,.b (decide (c.ret = (state.getD (Int.toNat ((state.length : Int) - (1 : Int))) 0))))],[(5,⟨40,.fix [.i c.proc,.i c.obj,.i c.kind,.i c.arg,.i c.ret,.i c.frm,.i c.to]⟩)],[5,999]⟩)
       (True ∧ True ∧ (True ∧ True ∧ (Fits .i64 ((state.length : Int) - (1 : Int)))) ∧ (True ∧ True ∧ True ∧ (0 ≤ (0 : Int)) ∧ ((0 : Int) ≤ ((state.length : Int) - (1 : Int))) ∧ (((state.length : Int) - (1 : Int)) ≤ (state.length : Int))) ∧ True ∧ True ∧ True ∧ True ∧ (True ∧ True ∧ (Fits .i64 ((state.length : Int) - (1 : Int)))) ∧ (True ∧ True ∧ (0 ≤ ((state.length : Int) - (1 : Int))) ∧ (((state.length : Int) - (1 : Int)) < (state.length : Int))) ∧ True ∧ (True ∧ True ∧ True) ∧ True ∧ True ∧ True) (by kernel_rfl) (by kernel_rfl)
       ⟨tt,tt,⟨tt,tt,(by exact fits_i64 (by omega) (by omega))⟩,⟨tt,tt,tt,(by omega),(by omega),(by omega)⟩,tt,tt,tt,tt,⟨tt,tt,(by exact fits_i64 (by omega) (by omega))⟩,⟨tt,tt,(by omega),(by omega)⟩,tt,⟨tt,tt,tt⟩,tt,tt,tt⟩ ?_
      refine W.ret (blockQ_ret (thenQ_ret ?_))
      exact endQ_ret (.tup [.sl (.ints (List.take (Int.toNat ((state.length : Int) - (1 : Int))) state)),.b (decide (c.ret = (state.getD (Int.toNat ((state.length : Int) - (1 : Int))) 0)))]) (by kernel_rfl) (@cast (((.ints (List.take (Int.toNat ((state.length : Int) - (1 : Int))) state) : Dat) = .ints ((specStep name state c).1)) ∧ ((.bool (decide (c.ret = (state.getD (Int.toNat ((state.length : Int) - (1 : Int))) 0))) : Value) = .bool ((specStep name state c).2)) ∧ True) _ (by kernel_rfl) ⟨(congrArg Dat.ints (by first | (rw [show Int.toNat (((List.length state : Nat) : Int) - (1 : Int)) = state.length - 1 by omega]; simp only [specStep,h176,(decide_eq_false n14),(decide_eq_false n98),n160,(decide_eq_false n179),cond_true,cond_false,Bool.and_true,Bool.true_and,Bool.and_false,Bool.false_and,Bool.or_true,Bool.true_or,Bool.or_false,Bool.false_or,Bool.not_true,Bool.not_false]; done) | simp only [specStep,h176,(decide_eq_false n14),(decide_eq_false n98),n160,(decide_eq_false n179),cond_true,cond_false,Bool.and_true,Bool.true_and,Bool.and_false,Bool.false_and,Bool.or_true,Bool.true_or,Bool.or_false,Bool.false_or,Bool.not_true,Bool.not_false])),(congrArg Value.bool (by first | (rw [show Int.toNat (((List.length state : Nat) : Int) - (1 : Int)) = state.length - 1 by omega]; simp only [specStep,h176,(decide_eq_false n14),(decide_eq_false n98),n160,(decide_eq_false n179),cond_true,cond_false,Bool.and_true,Bool.true_and,Bool.and_false,Bool.false_and,Bool.or_true,Bool.true_or,Bool.or_false,Bool.false_or,Bool.not_true,Bool.not_false]; done) | simp only [specStep,h176,(decide_eq_false n14),(decide_eq_false n98),n160,(decide_eq_false n179),cond_true,cond_false,Bool.and_true,Bool.true_and,Bool.and_false,Bool.false_and,Bool.or_true,Bool.true_or,Bool.or_false,Bool.false_or,Bool.not_true,Bool.not_false])),tt⟩)
    ·intro n176
     refine Kk cok tab68 hnt [] [1,5,8,196] (⟨[(1,.sl (.ints state)),(5,.ptr 5 0),(8,.i (state.length : Int)),(196,.b (eqS name nSet))],[(5,⟨40,.fix [.i c.proc,.i c.obj,.i c.kind,.i c.arg,.i c.ret,.i c.frm,.i c.to]⟩)],[5,999]⟩)
      ((True ∧ True ∧ True) ∧ True ∧ True)
      ⟨⟨tt,tt,tt⟩,tt,tt⟩ ?_
     refine W.if' (eqS name nSet) (.b (eqS name nSet)) (by kernel_rfl) rfl trivial ?_ ?_
     ·intro h196
      refine W.seq ?_
      refine Kk cok tab68 hnt [] [1,5,8,9] (⟨[(1,.sl (.ints state)),(5,.ptr 5 0),(8,.i (state.length : Int)),(9,.i (0 : Int))],[(5,⟨40,.fix [.i c.proc,.i c.obj,.i c.kind,.i c.arg,.i c.ret,.i c.frm,.i c.to]⟩)],[5,999]⟩)
       (True ∧ True)
       ⟨tt,tt⟩ ?_
      refine W.block ?_
      refine W.loop (ι := Nat) (fun (i : Nat) => (⟨[(1,.sl (.ints state)),(5,.ptr 5 0),(8,.i (state.length : Int)),(9,.i ((i : Nat) : Int))],[(5,⟨40,.fix [.i c.proc,.i c.obj,.i c.kind,.i c.arg,.i c.ret,.i c.frm,.i c.to]⟩)],[5,999]⟩ : St))
       (fun (i : Nat) => (i ≤ state.length) ∧ (∀ j,j < i → ¬ state.getD j 0 = c.arg))
       (fun (i : Nat) => (state.length - i : Nat)) (0) ?_ ?_ ?_
      ·exact (show (0 ≤ state.length) ∧ (∀ j,j < 0 → ¬ state.getD j 0 = c.arg) from ⟨(by first | assumption | omega | rfl | (intro _ hjj; omega) | (simp; done) | (simp; omega)),(by exact upto_zero)⟩)
      ·exact Sub.of [] (@cast (((Sd (.ints state)) ∧ (((5 : Nat) = 5) ∧ ((0 : Nat) = 0) ∧ ((5 : Nat) ∈ ([5,999] : List Nat))) ∧ (Si (state.length : Int)) ∧ ((.int .i64 (0 : Int) : Value) = .int .i64 ((0 : Nat) : Int)) ∧ True) ∧ ((((40 : Nat) = 40) ∧ ((Si c.proc) ∧ (Si c.obj) ∧ (Si c.kind) ∧ (Si c.arg) ∧ (Si c.ret) ∧ (Si c.frm) ∧ (Si c.to) ∧ True) ∧ ((5 : Nat) ∈ ([5,999] : List Nat))) ∧ True) ∧ (true = true) ∧ (true = true)) _ (by kernel_rfl) ⟨⟨rfl,⟨rfl,rfl,(by decide)⟩,rfl,(congrArg (Value.int .i64) (by first | rfl | omega | assumption | simp | simp_all)),tt⟩,⟨⟨rfl,⟨rfl,rfl,rfl,rfl,rfl,rfl,rfl,tt⟩,(by decide)⟩,tt⟩,rfl,rfl⟩)
      ·rintro i hC0
       have hC : (i ≤ state.length) ∧ (∀ j,j < i → ¬ state.getD j 0 = c.arg) := hC0
       clear hC0
       obtain ⟨hi,hA⟩ := hC
       refine W.to (⟨[(1,.sl (.ints state)),(5,.ptr 5 0),(8,.i (state.length : Int)),(9,.i ((i : Nat) : Int))],[(5,⟨40,.fix [.i c.proc,.i c.obj,.i c.kind,.i c.arg,.i c.ret,.i c.frm,.i c.to]⟩)],[5,999]⟩) rfl ?_
       refine W.seq ?_
       refine Kk cok tab68 hnt [] [1,5,8,9,200] (⟨[(1,.sl (.ints state)),(5,.ptr 5 0),(8,.i (state.length : Int)),(9,.i ((i : Nat) : Int)),(200,.b (decide (((i : Nat) : Int) < (state.length : Int))))],[(5,⟨40,.fix [.i c.proc,.i c.obj,.i c.kind,.i c.arg,.i c.ret,.i c.frm,.i c.to]⟩)],[5,999]⟩)
        (True ∧ True ∧ (True ∧ True ∧ True) ∧ True)
        ⟨tt,tt,⟨tt,tt,tt⟩,tt⟩ ?_
       refine W.ifP (((i : Nat) : Int) < (state.length : Int)) (.b (decide (((i : Nat) : Int) < (state.length : Int)))) (by kernel_rfl) rfl trivial ?_ ?_
       ·intro h200
        refine W.skip (thenQ_normal ?_)
        refine W.seq ?_
        refine W.block ?_
        refine W.KA cok tab68 hnt [] [1,5,8,9,209] (⟨[(1,.sl (.ints state)),(5,.ptr 5 0),(8,.i (state.length : Int)),(9,.i ((i : Nat) : Int)),(209,.b (decide ((state.getD i 0) = c.arg)))],[(5,⟨40,.fix [.i c.proc,.i c.obj,.i c.kind,.i c.arg,.i c.ret,.i c.frm,.i c.to]⟩)],[5,999]⟩)
         (True ∧ True ∧ (True ∧ True ∧ (0 ≤ ((i : Nat) : Int)) ∧ (((i : Nat) : Int) < (state.length : Int))) ∧ True ∧ True ∧ True ∧ (True ∧ True ∧ True) ∧ True) (by kernel_rfl) (by kernel_rfl)
         ⟨tt,tt,⟨tt,tt,(by omega),(by omega)⟩,tt,tt,tt,⟨tt,tt,tt⟩,tt⟩ ?_
        refine W.ifP ((state.getD i 0) = c.arg) (.b (decide ((state.getD i 0) = c.arg))) (by kernel_rfl) rfl trivial ?_ ?_
        ·intro h209
         refine W.KA cok tab68 hnt [210,214] [6,7] (⟨[(6,.sl (.ints ((List.take i state) ++ (List.drop (i + 1) (List.take state.length state))))),(7,.b (decide (c.ret = (1 : Int))))],[(5,⟨40,.fix [.i c.proc,.i c.obj,.i c.kind,.i c.arg,.i c.ret,.i c.frm,.i c.to]⟩)],[219,214,210,5,999]⟩)
          (True ∧ True ∧ True ∧ (True ∧ True ∧ True ∧ (0 ≤ (0 : Int)) ∧ ((0 : Int) ≤ ((i : Nat) : Int)) ∧ (((i : Nat) : Int) ≤ (state.length : Int))) ∧ ((True ∧ ((List.length ([] : List Int)) = (List.length ([] : List Int)))) ∧ True ∧ (((List.length ([] : List Int)) + (List.length (List.take i state))) * 8 ≤ 140737488355328)) ∧ True ∧ True ∧ (True ∧ True ∧ (Fits .i64 (((i + 1) : Nat) : Int))) ∧ (True ∧ True ∧ True ∧ (0 ≤ (((i + 1) : Nat) : Int)) ∧ ((((i + 1) : Nat) : Int) ≤ (state.length : Int)) ∧ ((state.length : Int) ≤ (state.length : Int))) ∧ ((True ∧ ((List.length (List.take i state)) = (List.length (List.take i state)))) ∧ True ∧ (((List.length (List.take i state)) + (List.length (List.drop (i + 1) (List.take state.length state)))) * 8 ≤ 140737488355328)) ∧ True ∧ True ∧ (True ∧ True ∧ True) ∧ True ∧ True ∧ True) (by kernel_rfl) (by kernel_rfl)
          ⟨tt,tt,tt,⟨tt,tt,tt,(by omega),(by omega),(by omega)⟩,⟨⟨tt,rfl⟩,tt,(by (first | omega | (simp only [List.length_set]; done) | (simp only [List.length_append,List.length_cons,List.length_nil,List.length_take,List.length_drop,List.length_set,List.length_replicate,List.length_map] at *; omega) | assumption))⟩,tt,tt,⟨tt,tt,(by exact fits_i64 (by omega) (by omega))⟩,⟨tt,tt,tt,(by omega),(by omega),(by omega)⟩,⟨⟨tt,rfl⟩,tt,(by (first | omega | (simp only [List.length_set]; done) | (simp only [List.length_append,List.length_cons,List.length_nil,List.length_take,List.length_drop,List.length_set,List.length_replicate,List.length_map] at *; omega) | assumption))⟩,tt,tt,⟨tt,tt,tt⟩,tt,tt,tt⟩ ?_
         refine W.ret (blockQ_ret (thenQ_ret (thenQ_ret (blockQ_ret (thenQ_ret (blockQ_ret (thenQ_ret ?_)))))))
         exact endQ_ret (.tup [.sl (.ints ((List.take i state) ++ (List.drop (i + 1) (List.take state.length state)))),.b (decide (c.ret = (1 : Int)))]) (by kernel_rfl) (@cast (((.ints ((List.take i state) ++ (List.drop (i + 1) (List.take state.length state))) : Dat) = .ints ((specStep name state c).1)) ∧ ((.bool (decide (c.ret = (1 : Int))) : Value) = .bool ((specStep name state c).2)) ∧ True) _ (by kernel_rfl) ⟨(congrArg Dat.ints (by have hh : hasInt state c.arg = true := anyN_true (i := i) (by omega) (decide_eq_true h209); have he := erase_at state c.arg i (by omega) h209 hA; first | (simp only [specStep,hh,h196,(decide_eq_true h200),(decide_eq_true h209),(decide_eq_false n14),(decide_eq_false n98),n160,n176,cond_true,cond_false,Bool.and_true,Bool.true_and,Bool.and_false,Bool.false_and,Bool.or_true,Bool.true_or,Bool.or_false,Bool.false_or,Bool.not_true,Bool.not_false]; done) | (rw [List.take_length,he]; simp only [specStep,hh,h196,(decide_eq_true h200),(decide_eq_true h209),(decide_eq_false n14),(decide_eq_false n98),n160,n176,cond_true,cond_false,Bool.and_true,Bool.true_and,Bool.and_false,Bool.false_and,Bool.or_true,Bool.true_or,Bool.or_false,Bool.false_or,Bool.not_true,Bool.not_false]))),(congrArg Value.bool (by have hh : hasInt state c.arg = true := anyN_true (i := i) (by omega) (decide_eq_true h209); have he := erase_at state c.arg i (by omega) h209 hA; first | (simp only [specStep,hh,h196,(decide_eq_true h200),(decide_eq_true h209),(decide_eq_false n14),(decide_eq_false n98),n160,n176,cond_true,cond_false,Bool.and_true,Bool.true_and,Bool.and_false,Bool.false_and,Bool.or_true,Bool.true_or,Bool.or_false,Bool.false_or,Bool.not_true,Bool.not_false]; done) | (rw [List.take_length,he]; simp only [specStep,hh,h196,(decide_eq_true h200),(decide_eq_true h209),(decide_eq_false n14),(decide_eq_false n98),n160,n176,cond_true,cond_false,Bool.and_true,Bool.true_and,Bool.and_false,Bool.false_and,Bool.or_true,Bool.true_or,Bool.or_false,Bool.false_or,Bool.not_true,Bool.not_false]))),tt⟩)
        ·intro n209
         refine W.skip (blockQ_normal (thenQ_normal ?_))
         refine Lk cok tab68 hnt [] (⟨[(1,.sl (.ints state)),(5,.ptr 5 0),(8,.i (state.length : Int)),(9,.i (((i + 1) : Nat) : Int)),(201,.i ((i : Nat) : Int)),(202,.i (((i + 1) : Nat) : Int)),(209,.b (decide ((state.getD i 0) = c.arg)))],[(5,⟨40,.fix [.i c.proc,.i c.obj,.i c.kind,.i c.arg,.i c.ret,.i c.frm,.i c.to]⟩)],[5,999]⟩)
          (True ∧ (True ∧ True ∧ (Fits .i64 (((i + 1) : Nat) : Int))) ∧ True ∧ True)
          ⟨tt,⟨tt,tt,(by exact fits_i64 (by omega) (by omega))⟩,tt,tt⟩ ?_
         refine thenQ_normal ?_
         refine ⟨((i + 1)),(show ((i + 1) ≤ state.length) ∧ (∀ j,j < (i + 1) → ¬ state.getD j 0 = c.arg) from ⟨(by first | assumption | omega | rfl | (intro _ hjj; omega) | (simp; done) | (simp; omega)),(by exact upto_succ hA n209)⟩),(show state.length - (i + 1) < state.length - i from (by first | omega | (simp_all; omega))),?_⟩
         exact Sub.of [] (@cast (((Sd (.ints state)) ∧ (((5 : Nat) = 5) ∧ ((0 : Nat) = 0) ∧ ((5 : Nat) ∈ ([5,999] : List Nat))) ∧ (Si (state.length : Int)) ∧ (Si (((i + 1) : Nat) : Int)) ∧ True) ∧ ((((40 : Nat) = 40) ∧ ((Si c.proc) ∧ (Si c.obj) ∧ (Si c.kind) ∧ (Si c.arg) ∧ (Si c.ret) ∧ (Si c.frm) ∧ (Si c.to) ∧ True) ∧ ((5 : Nat) ∈ ([5,999] : List Nat))) ∧ True) ∧ (true = true) ∧ (true = true)) _ (by kernel_rfl) ⟨⟨rfl,⟨rfl,rfl,(by decide)⟩,rfl,rfl,tt⟩,⟨⟨rfl,⟨rfl,rfl,rfl,rfl,rfl,rfl,rfl,tt⟩,(by decide)⟩,tt⟩,rfl,rfl⟩)
       ·intro n200
        refine W.exit (thenQ_exit (thenQ_exit (blockQ_hit ?_)))
        refine thenQ_normal ?_
        refine W.KA cok tab68 hnt [] [6,7] (⟨[(6,.sl (.ints state)),(7,.b (decide (c.ret = (0 : Int))))],[(5,⟨40,.fix [.i c.proc,.i c.obj,.i c.kind,.i c.arg,.i c.ret,.i c.frm,.i c.to]⟩)],[5,999]⟩)
         (True ∧ True ∧ True ∧ (True ∧ True ∧ True) ∧ True ∧ True ∧ True) (by kernel_rfl) (by kernel_rfl)
         ⟨tt,tt,tt,⟨tt,tt,tt⟩,tt,tt,tt⟩ ?_
        refine W.ret (blockQ_ret (thenQ_ret ?_))
        exact endQ_ret (.tup [.sl (.ints state),.b (decide (c.ret = (0 : Int)))]) (by kernel_rfl) (@cast (((.ints state : Dat) = .ints ((specStep name state c).1)) ∧ ((.bool (decide (c.ret = (0 : Int))) : Value) = .bool ((specStep name state c).2)) ∧ True) _ (by kernel_rfl) ⟨(congrArg Dat.ints (by have hh : hasInt state c.arg = false := anyN_false (fun j hj => decide_eq_false (hA j (by omega))); simp only [specStep,hh,h196,(decide_eq_false n14),(decide_eq_false n98),n160,n176,(decide_eq_false n200),cond_true,cond_false,Bool.and_true,Bool.true_and,Bool.and_false,Bool.false_and,Bool.or_true,Bool.true_or,Bool.or_false,Bool.false_or,Bool.not_true,Bool.not_false])),(congrArg Value.bool (by have hh : hasInt state c.arg = false := anyN_false (fun j hj => decide_eq_false (hA j (by omega))); simp only [specStep,hh,h196,(decide_eq_false n14),(decide_eq_false n98),n160,n176,(decide_eq_false n200),cond_true,cond_false,Bool.and_true,Bool.true_and,Bool.and_false,Bool.false_and,Bool.or_true,Bool.true_or,Bool.or_false,Bool.false_or,Bool.not_true,Bool.not_false])),tt⟩)
     ·intro n196
      refine W.skip (blockQ_normal (thenQ_normal ?_))
      refine W.seq ?_
      refine Kk cok tab68 hnt [] [1,5,228] (⟨[(1,.sl (.ints state)),(5,.ptr 5 0),(228,.b (decide ((state.length : Int) = (0 : Int))))],[(5,⟨40,.fix [.i c.proc,.i c.obj,.i c.kind,.i c.arg,.i c.ret,.i c.frm,.i c.to]⟩)],[5,999]⟩)
       (True ∧ (True ∧ True ∧ True) ∧ True)
       ⟨tt,⟨tt,tt,tt⟩,tt⟩ ?_
      refine W.ifP ((state.length : Int) = (0 : Int)) (.b (decide ((state.length : Int) = (0 : Int)))) (by kernel_rfl) rfl trivial ?_ ?_
      ·intro h228
       refine W.KA cok tab68 hnt [] [6,7] (⟨[(6,.sl (.ints ([] : List Int))),(7,.b (decide (c.ret = (0 : Int))))],[(5,⟨40,.fix [.i c.proc,.i c.obj,.i c.kind,.i c.arg,.i c.ret,.i c.frm,.i c.to]⟩)],[229,5,999]⟩)
        (True ∧ True ∧ True ∧ (True ∧ True ∧ True) ∧ True ∧ True ∧ True) (by kernel_rfl) (by kernel_rfl)
        ⟨tt,tt,tt,⟨tt,tt,tt⟩,tt,tt,tt⟩ ?_
       refine W.ret (thenQ_ret ?_)
       exact endQ_ret (.tup [.sl (.ints ([] : List Int)),.b (decide (c.ret = (0 : Int)))]) (by kernel_rfl) (@cast (((.ints ([] : List Int) : Dat) = .ints ((specStep name state c).1)) ∧ ((.bool (decide (c.ret = (0 : Int))) : Value) = .bool ((specStep name state c).2)) ∧ True) _ (by kernel_rfl) ⟨(congrArg Dat.ints (by simp only [specStep,(decide_eq_true h228),(decide_eq_false n14),(decide_eq_false n98),n160,n176,n196,cond_true,cond_false,Bool.and_true,Bool.true_and,Bool.and_false,Bool.false_and,Bool.or_true,Bool.true_or,Bool.or_false,Bool.false_or,Bool.not_true,Bool.not_false])),(congrArg Value.bool (by simp only [specStep,(decide_eq_true h228),(decide_eq_false n14),(decide_eq_false n98),n160,n176,n196,cond_true,cond_false,Bool.and_true,Bool.true_and,Bool.and_false,Bool.false_and,Bool.or_true,Bool.true_or,Bool.or_false,Bool.false_or,Bool.not_true,Bool.not_false])),tt⟩)
      ·intro n228
       refine W.skip (thenQ_normal ?_)
       refine W.KA cok tab68 hnt [] [6,7] (⟨[(6,.sl (.ints ([] : List Int))),(7,.b (decide (c.ret = (state.getD 0 0))))],[(5,⟨40,.fix [.i c.proc,.i c.obj,.i c.kind,.i c.arg,.i c.ret,.i c.frm,.i c.to]⟩)],[233,5,999]⟩)
        (True ∧ True ∧ True ∧ True ∧ (True ∧ True ∧ (0 ≤ (0 : Int)) ∧ ((0 : Int) < (state.length : Int))) ∧ True ∧ (True ∧ True ∧ True) ∧ True ∧ True ∧ True) (by kernel_rfl) (by kernel_rfl)
        ⟨tt,tt,tt,tt,⟨tt,tt,(by omega),(by omega)⟩,tt,⟨tt,tt,tt⟩,tt,tt,tt⟩ ?_
       refine W.ret ?_
       exact endQ_ret (.tup [.sl (.ints ([] : List Int)),.b (decide (c.ret = (state.getD 0 0)))]) (by kernel_rfl) (@cast (((.ints ([] : List Int) : Dat) = .ints ((specStep name state c).1)) ∧ ((.bool (decide (c.ret = (state.getD 0 0))) : Value) = .bool ((specStep name state c).2)) ∧ True) _ (by kernel_rfl) ⟨(congrArg Dat.ints (by simp only [specStep,(decide_eq_false n14),(decide_eq_false n98),n160,n176,n196,(decide_eq_false n228),cond_true,cond_false,Bool.and_true,Bool.true_and,Bool.and_false,Bool.false_and,Bool.or_true,Bool.true_or,Bool.or_false,Bool.false_or,Bool.not_true,Bool.not_false])),(congrArg Value.bool (by simp only [specStep,(decide_eq_false n14),(decide_eq_false n98),n160,n176,n196,(decide_eq_false n228),cond_true,cond_false,Bool.and_true,Bool.true_and,Bool.and_false,Bool.false_and,Bool.or_true,Bool.true_or,Bool.or_false,Bool.false_or,Bool.not_true,Bool.not_false])),tt⟩)
theorem ent68 : Entr prog 68 := ⟨_,func68,rfl,by decide⟩
end Go.Proofs.Tryd

set_option linter.unusedSimpArgs false
set_option linter.unusedVariables false
namespace Go.Proofs.Tryd
open Go.Ab Go.RowKit
def pre59 : List AV → List AV → Prop := preP [.ints] [.bytes,.int] (fun (xs,_) (l,p,_) => (0 ≤ p ∧ p ≤ 1000000) ∧ (0 < xs.length) ∧ (xs.length ≤ 1000))
def rel59 : RelS := relP [.ints] [.bytes,.int] (ι := Int × Int) (fun (xs,_) (l,p,_) (v,q) => (v ∈ xs) ∧ (q = p + 1)) (fun (xs,_) (l,p,_) (v,q) => (.i v,[],[.sl (.bytes l),.i q]))
abbrev T59 : Tab := lk []
theorem tab59 : TabOK prog T59 := TabOK.nil
set_option maxRecDepth 100000 in
set_option maxHeartbeats 1000000 in
theorem rok59 : RelOK prog 59 (some 68) [.s .ints] pre59 rel59 := by
 refine RelOK.mk cok func59 rfl rfl rfl ?_
 rintro ⟨(xs : List Int),_⟩ ⟨(l : List UInt8),(p : Int),_⟩ hpre F hnt0
 have hnt : F.nt = 12 := hnt0.trans ntmps59
 replace hpre : (0 ≤ p ∧ p ≤ 1000000) ∧ (0 < xs.length) ∧ (xs.length ≤ 1000) := hpre
 obtain ⟨hp,hx,hx2⟩ := hpre
 refine W.to (⟨[(0,.ptr 998 0),(1,.sl (.ints xs))],[(998,⟨68,.fix [.sl (.bytes l),.i p]⟩)],[998,999]⟩) rfl ?_
 refine Kk cok tab59 hnt [] [0,1] (⟨[(0,.ptr 998 0),(1,.sl (.ints xs))],[(998,⟨68,.fix [.sl (.bytes l),.i p]⟩)],[998,999]⟩)
  (True ∧ True)
  ⟨tt,tt⟩ ?_
 refine W.seq (W.wi ?_)
 refine WI.runT cok tab59 hnt [] 4 4 (⟨[(0,.ptr 998 0),(1,.sl (.ints xs)),(5,.sl (.ints xs)),(6,.ptr 998 0),(7,.sl (.ints xs)),(8,.i (xs.length : Int))],[(998,⟨68,.fix [.sl (.bytes l),.i p]⟩)],[998,999]⟩)
  (True ∧ True ∧ True ∧ True ∧ True) (by kernel_rfl) rfl
  ⟨tt,tt,tt,tt,tt⟩ ?_
 refine WI.call [.ptr 998 0,.i (xs.length : Int)] [.sl (.bytes l),.i p] [.i (xs.length : Int)] [.i (xs.length : Int)] (some (68,998)) (True) (True ∧ True) none rok34 ent34 hnt rfl rfl (wanted_none rfl) (by kernel_rfl) (by kernel_rfl) (by kernel_rfl) ⟨tt,tt,tt⟩
  (@cast (0 ≤ p ∧ p ≤ 1000000) _ (by kernel_rfl) (by omega)) (Or.inl rfl) rfl ?_
 rintro r bl fx2 hR
 obtain ⟨⟨v9,q9⟩,hq9,rfl,rfl,rfl⟩ := (@cast _ (∃ x : Int × Int,((0 ≤ x.1 ∧ x.1 < max (xs.length : Int) 1) ∧ (x.2 = p + 1)) ∧ r = (.i x.1) ∧ bl = ([]) ∧ fx2 = ([.sl (.bytes l),.i x.2])) (by kernel_rfl) hR)
 clear hR
 replace hq9 : (0 ≤ v9 ∧ v9 < max (xs.length : Int) 1) ∧ (q9 = p + 1) := hq9
 obtain ⟨hv9,hq19⟩ := hq9
 refine ⟨by kernel_rfl,WI.to (⟨[(0,.ptr 998 0),(1,.sl (.ints xs)),(5,.sl (.ints xs)),(6,.ptr 998 0),(7,.sl (.ints xs)),(8,.i (xs.length : Int)),(9,.i v9)],[(998,⟨68,.fix [.sl (.bytes l),.i q9]⟩)],[9,998,999]⟩) 5 (by kernel_rfl) rfl ?_⟩
 refine WI.runT cok tab59 hnt [] 3 8 (⟨[(0,.ptr 998 0),(1,.sl (.ints xs)),(4,.i (xs.getD (Int.toNat v9) 0)),(5,.sl (.ints xs)),(6,.ptr 998 0),(7,.sl (.ints xs)),(8,.i (xs.length : Int)),(9,.i v9),(10,.ep [.i (xs.getD (Int.toNat v9) 0)]),(11,.i (xs.getD (Int.toNat v9) 0))],[(998,⟨68,.fix [.sl (.bytes l),.i q9]⟩)],[9,998,999]⟩)
  ((True ∧ True ∧ (0 ≤ v9) ∧ (v9 < (xs.length : Int))) ∧ True ∧ True ∧ True) (by kernel_rfl) rfl
  ⟨⟨tt,tt,(by omega),(by omega)⟩,tt,tt,tt⟩ ?_
 refine WI.nil rfl (thenQ_normal ?_)
 refine W.keepE [4] [(4,.i (xs.getD (Int.toNat v9) 0))] (by kernel_rfl) ?_
 refine W.to (⟨[(4,.i (xs.getD (Int.toNat v9) 0))],[(998,⟨68,.fix [.sl (.bytes l),.i q9]⟩)],[9,998,999]⟩) rfl ?_
 refine W.ret ?_
 exact endP_ret ((xs.getD (Int.toNat v9) 0),q9) (show ((xs.getD (Int.toNat v9) 0) ∈ xs) ∧ (q9 = p + 1) from ⟨(by exact getD_mem xs 0 (by omega)),(by first | assumption | omega | rfl | (simp; done) | (simp; omega))⟩) [(0,998)] (.i (xs.getD (Int.toNat v9) 0)) (by kernel_rfl) (@cast ((Si (xs.getD (Int.toNat v9) 0)) ∧ ((((68 : Nat) = 68) ∧ ((Sd (.bytes l)) ∧ (Si q9) ∧ True) ∧ ((0 : Nat) ∈ ([0] : List Nat))) ∧ True) ∧ (true = true) ∧ ((([] : List Nat) = []) ∧ True) ∧ (true = true → (998 : Nat) = 998)) _ (by kernel_rfl) ⟨rfl,⟨⟨rfl,⟨rfl,rfl,tt⟩,(by decide)⟩,tt⟩,rfl,⟨rfl,tt⟩,(fun _ => rfl)⟩)
theorem ent59 : Entr prog 59 := ⟨_,func59,rfl,by decide⟩
end Go.Proofs.Tryd
