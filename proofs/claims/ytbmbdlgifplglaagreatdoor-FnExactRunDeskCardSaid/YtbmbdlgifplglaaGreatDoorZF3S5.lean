import Derived.Test.YtbmbdlgifplglaaGreatDoorZF3S0
import Derived.Test.YtbmbdlgifplglaaGreatDoorZF3S4
import Derived.Test.YtbmbdlgifplglaaGreatDoorZF3S1
set_option maxRecDepth 100000
set_option maxHeartbeats 1000000
set_option linter.unusedSimpArgs false
set_option linter.unusedVariables false
namespace Go.Proofs.Tryz
open Go.Ab Go.RowKit
def fs62 : FnS := fnS [.o,.s .ints,.o] [.str,.ints,.call] (fun _ (name,state,c,_)=>(.tup [.sl (.ints ((specStep name state c).1)),.b ((specStep name state c).2)],[],(state.length≤1000000)∧(∀ x ∈ state,-1000000000≤x∧x≤1000000000)∧(-1000000000≤c.arg∧c.arg≤1000000000)))
abbrev T62 : Tab := lk [(88,fs88)]
theorem tab62 : TabOK prog T62 := (TabOK.cons ok88 ent88 TabOK.nil)
set_option maxRecDepth 100000 in
set_option maxHeartbeats 4000000 in
theorem ok62 : FnOK prog 62 fs62 := by
 refine FnOK.mk cok func62 rfl rfl rfl ?_
 rintro fl ⟨(name:ByteArray),(state : List Int),(c:CallD),_⟩ hpre F hnt0 _
 have hnt : F.nt=240 := hnt0.trans ntmps62
 replace hpre : (state.length≤1000000)∧(∀ x ∈ state,-1000000000≤x∧x≤1000000000)∧(-1000000000≤c.arg∧c.arg≤1000000000) := hpre
 obtain ⟨hl,hs,ha⟩ := hpre
 refine W.to (⟨[(0,.v (.string name)),(1,.sl (.ints state)),(2,.agg [.i c.proc,.i c.obj,.i c.kind,.i c.arg,.i c.ret,.i c.frm,.i c.to])],[],[999]⟩) rfl ?_
 refine W.lenOf 1 (.ints state) (by kernel_rfl) ?_
 intro hl_state; replace hl_state : List.length state≤9223372036854775807 := hl_state
 refine Kk cok tab62 hnt [] [0,1,5] (⟨[(0,.v (.string name)),(1,.sl (.ints state)),(5,.ptr 5 0)],[(5,⟨59,.fix [.i c.proc,.i c.obj,.i c.kind,.i c.arg,.i c.ret,.i c.frm,.i c.to]⟩)],[5,999]⟩)
  (Y∧Y∧Y∧Y)
  ⟨tt,tt,tt,tt⟩ ?_
 refine Kk cok tab62 hnt [] [0,1,5,8] (⟨[(0,.v (.string name)),(1,.sl (.ints state)),(5,.ptr 5 0),(8,.i (state.length:Int))],[(5,⟨59,.fix [.i c.proc,.i c.obj,.i c.kind,.i c.arg,.i c.ret,.i c.frm,.i c.to]⟩)],[5,999]⟩)
  (Y∧Y∧Y∧Y)
  ⟨tt,tt,tt,tt⟩ ?_
 refine W.seq ?_
 refine Kk cok tab62 hnt [] [0,1,5,8,14] (⟨[(0,.v (.string name)),(1,.sl (.ints state)),(5,.ptr 5 0),(8,.i (state.length:Int)),(14,.b (decide (c.kind=(0:Int))))],[(5,⟨59,.fix [.i c.proc,.i c.obj,.i c.kind,.i c.arg,.i c.ret,.i c.frm,.i c.to]⟩)],[5,999]⟩)
  (Y∧Y∧(Y∧Y∧Y)∧Y)
  ⟨tt,tt,⟨tt,tt,tt⟩,tt⟩ ?_
 refine W.ifP (c.kind=(0:Int)) (.b (decide (c.kind=(0:Int)))) (by kernel_rfl) rfl trivial ?_ ?_
 ·intro h14
  refine W.seq ?_
  refine Kk cok tab62 hnt [] [1,5,8,15] (⟨[(1,.sl (.ints state)),(5,.ptr 5 0),(8,.i (state.length:Int)),(15,.v (.string name))],[(5,⟨59,.fix [.i c.proc,.i c.obj,.i c.kind,.i c.arg,.i c.ret,.i c.frm,.i c.to]⟩)],[5,999]⟩)
   (Y∧Y)
   ⟨tt,tt⟩ ?_
  refine W.block ?_
  refine Kk cok tab62 hnt [] [1,5,8,15,16] (⟨[(1,.sl (.ints state)),(5,.ptr 5 0),(8,.i (state.length:Int)),(15,.v (.string name)),(16,.b (eqS name nRegister))],[(5,⟨59,.fix [.i c.proc,.i c.obj,.i c.kind,.i c.arg,.i c.ret,.i c.frm,.i c.to]⟩)],[5,999]⟩)
   ((Y∧Y∧Y)∧Y∧Y)
   ⟨⟨tt,tt,tt⟩,tt,tt⟩ ?_
  refine W.if' (eqS name nRegister) (.b (eqS name nRegister)) (by kernel_rfl) rfl trivial ?_ ?_
  ·intro h16
   refine W.KA cok tab62 hnt [] [6,7] (⟨[(6,.sl (.ints ([c.arg]))),(7,.b (decide (c.ret=(0:Int))))],[(5,⟨59,.fix [.i c.proc,.i c.obj,.i c.kind,.i c.arg,.i c.ret,.i c.frm,.i c.to]⟩)],[20,5,999]⟩)
    (Y∧Y∧(Y∧Y)∧Y∧Y∧(Y∧Y∧Y)∧Y∧Y∧Y) (by kernel_rfl) (by kernel_rfl)
    ⟨tt,tt,⟨tt,tt⟩,tt,tt,⟨tt,tt,tt⟩,tt,tt,tt⟩ ?_
   refine W.ret (blockQ_ret (thenQ_ret (thenQ_ret ?_)))
   exact endQ_ret (.tup [.sl (.ints ([c.arg])),.b (decide (c.ret=(0:Int)))]) (by kernel_rfl) (@cast (((.ints ([c.arg]):Dat)=.ints ((specStep name state c).1))∧((.bool (decide (c.ret=(0:Int))):Value)=.bool ((specStep name state c).2))∧Y) _ (by kernel_rfl) ⟨(congrArg Dat.ints (by simp only [specStep,(decide_eq_true h14),h16,bb])),(congrArg Value.bool (by simp only [specStep,(decide_eq_true h14),h16,bb])),tt⟩)
  ·intro n16
   refine Kk cok tab62 hnt [] [1,5,8,15,24] (⟨[(1,.sl (.ints state)),(5,.ptr 5 0),(8,.i (state.length:Int)),(15,.v (.string name)),(24,.b (eqS name nCounter))],[(5,⟨59,.fix [.i c.proc,.i c.obj,.i c.kind,.i c.arg,.i c.ret,.i c.frm,.i c.to]⟩)],[5,999]⟩)
    ((Y∧Y∧Y)∧Y∧Y)
    ⟨⟨tt,tt,tt⟩,tt,tt⟩ ?_
   refine W.if' (eqS name nCounter) (.b (eqS name nCounter)) (by kernel_rfl) rfl trivial ?_ ?_
   ·intro h24
    refine W.seq ?_
    refine Kk cok tab62 hnt [] [1,5,27] (⟨[(1,.sl (.ints state)),(5,.ptr 5 0),(27,.b (decide ((state.length:Int)=(0:Int))))],[(5,⟨59,.fix [.i c.proc,.i c.obj,.i c.kind,.i c.arg,.i c.ret,.i c.frm,.i c.to]⟩)],[5,999]⟩)
     (Y∧(Y∧Y∧Y)∧Y)
     ⟨tt,⟨tt,tt,tt⟩,tt⟩ ?_
    refine W.ifP ((state.length:Int)=(0:Int)) (.b (decide ((state.length:Int)=(0:Int)))) (by kernel_rfl) rfl trivial ?_ ?_
    ·intro h27
     refine W.KA cok tab62 hnt [] [6,7] (⟨[(6,.sl (.ints ([c.arg]))),(7,.b (decide (c.ret=(0:Int))))],[(5,⟨59,.fix [.i c.proc,.i c.obj,.i c.kind,.i c.arg,.i c.ret,.i c.frm,.i c.to]⟩)],[30,5,999]⟩)
      (Y∧Y∧(Y∧Y)∧Y∧Y∧(Y∧Y∧Y)∧Y∧Y∧Y) (by kernel_rfl) (by kernel_rfl)
      ⟨tt,tt,⟨tt,tt⟩,tt,tt,⟨tt,tt,tt⟩,tt,tt,tt⟩ ?_
     refine W.ret (thenQ_ret (blockQ_ret (thenQ_ret (thenQ_ret ?_))))
     exact endQ_ret (.tup [.sl (.ints ([c.arg])),.b (decide (c.ret=(0:Int)))]) (by kernel_rfl) (@cast (((.ints ([c.arg]):Dat)=.ints ((specStep name state c).1))∧((.bool (decide (c.ret=(0:Int))):Value)=.bool ((specStep name state c).2))∧Y) _ (by kernel_rfl) ⟨(congrArg Dat.ints (by simp only [specStep,(decide_eq_true h14),h24,(decide_eq_true h27),n16,bb])),(congrArg Value.bool (by simp only [specStep,(decide_eq_true h14),h24,(decide_eq_true h27),n16,bb])),tt⟩)
    ·intro n27
     refine W.skip (thenQ_normal ?_)
     have hs0 := hs _ (getD_mem state 0 (show 0<state.length by omega))
     refine W.KA cok tab62 hnt [] [6,7] (⟨[(6,.sl (.ints ([((state.getD 0 0)+c.arg)]))),(7,.b (decide (c.ret=(0:Int))))],[(5,⟨59,.fix [.i c.proc,.i c.obj,.i c.kind,.i c.arg,.i c.ret,.i c.frm,.i c.to]⟩)],[40,5,999]⟩)
      (Y∧(Y∧Y∧(0≤(0:Int))∧((0:Int)<(state.length:Int)))∧Y∧Y∧Y∧(Y∧Y∧(Fits .i64 ((state.getD 0 0)+c.arg)))∧(Y∧Y)∧Y∧Y∧(Y∧Y∧Y)∧Y∧Y∧Y) (by kernel_rfl) (by kernel_rfl)
      ⟨tt,⟨tt,tt,(by omega),(by omega)⟩,tt,tt,tt,⟨tt,tt,(by exact fits_i64 (by (first | omega | (simp only [List.length_set]; done) | (simp only [ln] at *; omega) | assumption)) (by (first | omega | (simp only [List.length_set]; done) | (simp only [ln] at *; omega) | assumption)))⟩,⟨tt,tt⟩,tt,tt,⟨tt,tt,tt⟩,tt,tt,tt⟩ ?_
     refine W.ret (blockQ_ret (thenQ_ret (thenQ_ret ?_)))
     exact endQ_ret (.tup [.sl (.ints ([((state.getD 0 0)+c.arg)])),.b (decide (c.ret=(0:Int)))]) (by kernel_rfl) (@cast (((.ints ([((state.getD 0 0)+c.arg)]):Dat)=.ints ((specStep name state c).1))∧((.bool (decide (c.ret=(0:Int))):Value)=.bool ((specStep name state c).2))∧Y) _ (by kernel_rfl) ⟨(congrArg Dat.ints (by simp only [specStep,(decide_eq_true h14),h24,n16,(decide_eq_false n27),bb])),(congrArg Value.bool (by simp only [specStep,(decide_eq_true h14),h24,n16,(decide_eq_false n27),bb])),tt⟩)
   ·intro n24
    refine Kk cok tab62 hnt [] [1,5,8,15,44] (⟨[(1,.sl (.ints state)),(5,.ptr 5 0),(8,.i (state.length:Int)),(15,.v (.string name)),(44,.b (eqS name nMost))],[(5,⟨59,.fix [.i c.proc,.i c.obj,.i c.kind,.i c.arg,.i c.ret,.i c.frm,.i c.to]⟩)],[5,999]⟩)
     ((Y∧Y∧Y)∧Y∧Y)
     ⟨⟨tt,tt,tt⟩,tt,tt⟩ ?_
    refine W.if' (eqS name nMost) (.b (eqS name nMost)) (by kernel_rfl) rfl trivial ?_ ?_
    ·intro h44
     refine W.seq ?_
     refine W.KA cok tab62 hnt [] [1,5,55] (⟨[(1,.sl (.ints state)),(5,.ptr 5 0),(55,.b ((decide ((0:Int)<(state.length:Int))) && (decide (c.arg<(state.getD 0 0)))))],[(5,⟨59,.fix [.i c.proc,.i c.obj,.i c.kind,.i c.arg,.i c.ret,.i c.frm,.i c.to]⟩)],[5,999]⟩)
      ((fun (Z1:Bool)=>(Y∧((Y∧(Y∧Y))∧(Y∧((Z1=true→Y)∧((Z1=true→(((Z1=true)∧Y)∧(Y∧((0≤(0:Int))∧((0:Int)<(state.length:Int))))))∧((Z1=true→((Z1=true)∧Y))∧((Z1=true→Y)∧((Z1=true→((Z1=true)∧Y))∧((Z1=true→(((Z1=true)∧Y)∧(((Z1=true)∧Y)∧Y)))∧((Y∧((Z1=true→(Z1=true)∧Y)∧(Z1=false→Y)))∧Y))))))))))) (decide ((0:Int)<(state.length:Int)))) (by kernel_rfl) (by kernel_rfl)
      ⟨tt,⟨tt,tt,tt⟩,tt,(fun _=>trivial),(fun hG=>⟨⟨hG,tt⟩,tt,(by have hg0 : (0:Int)<(state.length:Int) := of_decide_eq_true hG; omega),(by have hg0 : (0:Int)<(state.length:Int) := of_decide_eq_true hG; omega)⟩),(fun hG=>⟨hG,tt⟩),(fun _=>trivial),(fun hG=>⟨hG,tt⟩),(fun hG=>⟨⟨hG,tt⟩,⟨hG,tt⟩,tt⟩),⟨tt,(fun hp=>⟨hp,tt⟩),(fun _=>trivial)⟩,tt⟩ ?_
     refine W.if' ((decide ((0:Int)<(state.length:Int))) && (decide (c.arg<(state.getD 0 0)))) (.b ((decide ((0:Int)<(state.length:Int))) && (decide (c.arg<(state.getD 0 0))))) (by kernel_rfl) rfl trivial ?_ ?_
     ·intro h55
      have h55_0 : (0:Int)<(state.length:Int) := of_decide_eq_true (and_l h55)
      have h55_1 : c.arg<(state.getD 0 0) := of_decide_eq_true (and_r h55)
      refine W.KA cok tab62 hnt [] [6,7] (⟨[(6,.sl (.ints state)),(7,.b (decide (c.ret=(0:Int))))],[(5,⟨59,.fix [.i c.proc,.i c.obj,.i c.kind,.i c.arg,.i c.ret,.i c.frm,.i c.to]⟩)],[5,999]⟩)
       (Y∧Y∧Y∧(Y∧Y∧Y)∧Y∧Y∧Y) (by kernel_rfl) (by kernel_rfl)
       ⟨tt,tt,tt,⟨tt,tt,tt⟩,tt,tt,tt⟩ ?_
      refine W.ret (thenQ_ret (blockQ_ret (thenQ_ret (thenQ_ret ?_))))
      exact endQ_ret (.tup [.sl (.ints state),.b (decide (c.ret=(0:Int)))]) (by kernel_rfl) (@cast (((.ints state:Dat)=.ints ((specStep name state c).1))∧((.bool (decide (c.ret=(0:Int))):Value)=.bool ((specStep name state c).2))∧Y) _ (by kernel_rfl) ⟨(congrArg Dat.ints (by simp only [specStep,(decide_eq_true h14),h44,h55,(and_l h55),(and_r h55),n16,n24,bb])),(congrArg Value.bool (by simp only [specStep,(decide_eq_true h14),h44,h55,(and_l h55),(and_r h55),n16,n24,bb])),tt⟩)
     ·intro n55
      refine W.skip (thenQ_normal ?_)
      refine W.KA cok tab62 hnt [] [6,7] (⟨[(6,.sl (.ints ([c.arg]))),(7,.b (decide (c.ret=(0:Int))))],[(5,⟨59,.fix [.i c.proc,.i c.obj,.i c.kind,.i c.arg,.i c.ret,.i c.frm,.i c.to]⟩)],[62,5,999]⟩)
       (Y∧Y∧(Y∧Y)∧Y∧Y∧(Y∧Y∧Y)∧Y∧Y∧Y) (by kernel_rfl) (by kernel_rfl)
       ⟨tt,tt,⟨tt,tt⟩,tt,tt,⟨tt,tt,tt⟩,tt,tt,tt⟩ ?_
      refine W.ret (blockQ_ret (thenQ_ret (thenQ_ret ?_)))
      exact endQ_ret (.tup [.sl (.ints ([c.arg])),.b (decide (c.ret=(0:Int)))]) (by kernel_rfl) (@cast (((.ints ([c.arg]):Dat)=.ints ((specStep name state c).1))∧((.bool (decide (c.ret=(0:Int))):Value)=.bool ((specStep name state c).2))∧Y) _ (by kernel_rfl) ⟨(congrArg Dat.ints (by simp only [specStep,(decide_eq_true h14),h44,n16,n24,n55,bb])),(congrArg Value.bool (by simp only [specStep,(decide_eq_true h14),h44,n16,n24,n55,bb])),tt⟩)
    ·intro n44
     refine Kk cok tab62 hnt [] [1,5,66] (⟨[(1,.sl (.ints state)),(5,.ptr 5 0),(66,.b (eqS name nSet))],[(5,⟨59,.fix [.i c.proc,.i c.obj,.i c.kind,.i c.arg,.i c.ret,.i c.frm,.i c.to]⟩)],[5,999]⟩)
      ((Y∧Y∧Y)∧Y∧Y)
      ⟨⟨tt,tt,tt⟩,tt,tt⟩ ?_
     refine W.if' (eqS name nSet) (.b (eqS name nSet)) (by kernel_rfl) rfl trivial ?_ ?_
     ·intro h66
      refine W.seq ?_
      refine Kk cok tab62 hnt [] [1,5,71] (⟨[(1,.sl (.ints state)),(5,.ptr 5 0),(71,.b (hasInt state c.arg))],[(5,⟨59,.fix [.i c.proc,.i c.obj,.i c.kind,.i c.arg,.i c.ret,.i c.frm,.i c.to]⟩)],[5,999]⟩)
       (Y∧Y∧Y∧(Y∧(Y∧Y∧Y)∧Y)∧Y)
       ⟨tt,tt,tt,⟨tt,⟨tt,tt,tt⟩,tt⟩,tt⟩ ?_
      refine W.if' (hasInt state c.arg) (.b (hasInt state c.arg)) (by kernel_rfl) rfl trivial ?_ ?_
      ·intro h71
       refine W.KA cok tab62 hnt [] [6,7] (⟨[(6,.sl (.ints state)),(7,.b (decide (c.ret=(0:Int))))],[(5,⟨59,.fix [.i c.proc,.i c.obj,.i c.kind,.i c.arg,.i c.ret,.i c.frm,.i c.to]⟩)],[5,999]⟩)
        (Y∧Y∧Y∧(Y∧Y∧Y)∧Y∧Y∧Y) (by kernel_rfl) (by kernel_rfl)
        ⟨tt,tt,tt,⟨tt,tt,tt⟩,tt,tt,tt⟩ ?_
       refine W.ret (thenQ_ret (blockQ_ret (thenQ_ret (thenQ_ret ?_))))
       exact endQ_ret (.tup [.sl (.ints state),.b (decide (c.ret=(0:Int)))]) (by kernel_rfl) (@cast (((.ints state:Dat)=.ints ((specStep name state c).1))∧((.bool (decide (c.ret=(0:Int))):Value)=.bool ((specStep name state c).2))∧Y) _ (by kernel_rfl) ⟨(congrArg Dat.ints (by simp only [specStep,(decide_eq_true h14),h66,h71,n16,n24,n44,bb])),(congrArg Value.bool (by simp only [specStep,(decide_eq_true h14),h66,h71,n16,n24,n44,bb])),tt⟩)
      ·intro n71
       refine W.skip (thenQ_normal ?_)
       refine W.KA cok tab62 hnt [76,78] [6,7] (⟨[(6,.sl (.ints (state++([c.arg])))),(7,.b (decide (c.ret=(1:Int))))],[(5,⟨59,.fix [.i c.proc,.i c.obj,.i c.kind,.i c.arg,.i c.ret,.i c.frm,.i c.to]⟩)],[82,81,78,76,5,999]⟩)
        (Y∧Y∧((Y∧((List.length ([] : List Int))=(List.length ([] : List Int))))∧Y∧(((List.length ([] : List Int))+state.length) * 8≤140737488355328))∧Y∧Y∧(Y∧Y)∧((Y∧(state.length=state.length))∧Y∧((state.length+(List.length ([c.arg]))) * 8≤140737488355328))∧Y∧Y∧(Y∧Y∧Y)∧Y∧Y∧Y) (by kernel_rfl) (by kernel_rfl)
        ⟨tt,tt,⟨⟨tt,rfl⟩,tt,(by (first | omega | (simp only [List.length_set]; done) | (simp only [ln] at *; omega) | assumption))⟩,tt,tt,⟨tt,tt⟩,⟨⟨tt,rfl⟩,tt,(by (first | omega | (simp only [List.length_set]; done) | (simp only [ln] at *; omega) | assumption))⟩,tt,tt,⟨tt,tt,tt⟩,tt,tt,tt⟩ ?_
       refine W.ret (blockQ_ret (thenQ_ret (thenQ_ret ?_)))
       exact endQ_ret (.tup [.sl (.ints (state++([c.arg]))),.b (decide (c.ret=(1:Int)))]) (by kernel_rfl) (@cast (((.ints (state++([c.arg])):Dat)=.ints ((specStep name state c).1))∧((.bool (decide (c.ret=(1:Int))):Value)=.bool ((specStep name state c).2))∧Y) _ (by kernel_rfl) ⟨(congrArg Dat.ints (by simp only [specStep,(decide_eq_true h14),h66,n16,n24,n44,n71,bb])),(congrArg Value.bool (by simp only [specStep,(decide_eq_true h14),h66,n16,n24,n44,n71,bb])),tt⟩)
     ·intro n66
      refine W.skip (blockQ_normal (thenQ_normal ?_))
      refine W.KA cok tab62 hnt [86,88] [6,7] (⟨[(6,.sl (.ints (state++([c.arg])))),(7,.b (decide (c.ret=(0:Int))))],[(5,⟨59,.fix [.i c.proc,.i c.obj,.i c.kind,.i c.arg,.i c.ret,.i c.frm,.i c.to]⟩)],[92,91,88,86,5,999]⟩)
       (Y∧Y∧((Y∧((List.length ([] : List Int))=(List.length ([] : List Int))))∧Y∧(((List.length ([] : List Int))+state.length) * 8≤140737488355328))∧Y∧Y∧(Y∧Y)∧((Y∧(state.length=state.length))∧Y∧((state.length+(List.length ([c.arg]))) * 8≤140737488355328))∧Y∧Y∧(Y∧Y∧Y)∧Y∧Y∧Y) (by kernel_rfl) (by kernel_rfl)
       ⟨tt,tt,⟨⟨tt,rfl⟩,tt,(by (first | omega | (simp only [List.length_set]; done) | (simp only [ln] at *; omega) | assumption))⟩,tt,tt,⟨tt,tt⟩,⟨⟨tt,rfl⟩,tt,(by (first | omega | (simp only [List.length_set]; done) | (simp only [ln] at *; omega) | assumption))⟩,tt,tt,⟨tt,tt,tt⟩,tt,tt,tt⟩ ?_
      refine W.ret (thenQ_ret ?_)
      exact endQ_ret (.tup [.sl (.ints (state++([c.arg]))),.b (decide (c.ret=(0:Int)))]) (by kernel_rfl) (@cast (((.ints (state++([c.arg])):Dat)=.ints ((specStep name state c).1))∧((.bool (decide (c.ret=(0:Int))):Value)=.bool ((specStep name state c).2))∧Y) _ (by kernel_rfl) ⟨(congrArg Dat.ints (by simp only [specStep,(decide_eq_true h14),n16,n24,n44,n66,bb])),(congrArg Value.bool (by simp only [specStep,(decide_eq_true h14),n16,n24,n44,n66,bb])),tt⟩)
 ·intro n14
  refine W.skip (thenQ_normal ?_)
  refine W.seq ?_
  refine Kk cok tab62 hnt [] [0,1,5,8,98] (⟨[(0,.v (.string name)),(1,.sl (.ints state)),(5,.ptr 5 0),(8,.i (state.length:Int)),(98,.b (decide (c.kind=(2:Int))))],[(5,⟨59,.fix [.i c.proc,.i c.obj,.i c.kind,.i c.arg,.i c.ret,.i c.frm,.i c.to]⟩)],[5,999]⟩)
   (Y∧Y∧(Y∧Y∧Y)∧Y)
   ⟨tt,tt,⟨tt,tt,tt⟩,tt⟩ ?_
  refine W.ifP (c.kind=(2:Int)) (.b (decide (c.kind=(2:Int)))) (by kernel_rfl) rfl trivial ?_ ?_
  ·intro h98
   refine W.seq ?_
   refine Kk cok tab62 hnt [] [1,5,8,99] (⟨[(1,.sl (.ints state)),(5,.ptr 5 0),(8,.i (state.length:Int)),(99,.v (.string name))],[(5,⟨59,.fix [.i c.proc,.i c.obj,.i c.kind,.i c.arg,.i c.ret,.i c.frm,.i c.to]⟩)],[5,999]⟩)
    (Y∧Y)
    ⟨tt,tt⟩ ?_
   refine W.block ?_
   refine Kk cok tab62 hnt [] [1,5,8,99,100] (⟨[(1,.sl (.ints state)),(5,.ptr 5 0),(8,.i (state.length:Int)),(99,.v (.string name)),(100,.b (eqS name nQueue))],[(5,⟨59,.fix [.i c.proc,.i c.obj,.i c.kind,.i c.arg,.i c.ret,.i c.frm,.i c.to]⟩)],[5,999]⟩)
    ((Y∧Y∧Y)∧Y∧Y)
    ⟨⟨tt,tt,tt⟩,tt,tt⟩ ?_
   refine W.if' (eqS name nQueue) (.b (eqS name nQueue)) (by kernel_rfl) rfl trivial ?_ ?_
   ·intro h100
    refine W.seq ?_
    refine Kk cok tab62 hnt [] [1,5,103] (⟨[(1,.sl (.ints state)),(5,.ptr 5 0),(103,.b (decide ((state.length:Int)=(0:Int))))],[(5,⟨59,.fix [.i c.proc,.i c.obj,.i c.kind,.i c.arg,.i c.ret,.i c.frm,.i c.to]⟩)],[5,999]⟩)
     (Y∧(Y∧Y∧Y)∧Y)
     ⟨tt,⟨tt,tt,tt⟩,tt⟩ ?_
    refine W.ifP ((state.length:Int)=(0:Int)) (.b (decide ((state.length:Int)=(0:Int)))) (by kernel_rfl) rfl trivial ?_ ?_
    ·intro h103
     refine W.KA cok tab62 hnt [] [6,7] (⟨[(6,.sl (.ints state)),(7,.b (decide (c.ret=(-1:Int))))],[(5,⟨59,.fix [.i c.proc,.i c.obj,.i c.kind,.i c.arg,.i c.ret,.i c.frm,.i c.to]⟩)],[5,999]⟩)
      (Y∧Y∧Y∧(Y∧Y∧Y)∧Y∧Y∧Y) (by kernel_rfl) (by kernel_rfl)
      ⟨tt,tt,tt,⟨tt,tt,tt⟩,tt,tt,tt⟩ ?_
     refine W.ret (thenQ_ret (blockQ_ret (thenQ_ret (thenQ_ret ?_))))
     exact endQ_ret (.tup [.sl (.ints state),.b (decide (c.ret=(-1:Int)))]) (by kernel_rfl) (@cast (((.ints state:Dat)=.ints ((specStep name state c).1))∧((.bool (decide (c.ret=(-1:Int))):Value)=.bool ((specStep name state c).2))∧Y) _ (by kernel_rfl) ⟨(congrArg Dat.ints (by simp only [specStep,(decide_eq_true h98),h100,(decide_eq_true h103),(decide_eq_false n14),bb])),(congrArg Value.bool (by simp only [specStep,(decide_eq_true h98),h100,(decide_eq_true h103),(decide_eq_false n14),bb])),tt⟩)
    ·intro n103
     refine W.skip (thenQ_normal ?_)
     refine W.KA cok tab62 hnt [] [6,7] (⟨[(6,.sl (.ints state)),(7,.b (decide (c.ret=(state.getD 0 0))))],[(5,⟨59,.fix [.i c.proc,.i c.obj,.i c.kind,.i c.arg,.i c.ret,.i c.frm,.i c.to]⟩)],[5,999]⟩)
      (Y∧Y∧Y∧Y∧(Y∧Y∧(0≤(0:Int))∧((0:Int)<(state.length:Int)))∧Y∧(Y∧Y∧Y)∧Y∧Y∧Y) (by kernel_rfl) (by kernel_rfl)
      ⟨tt,tt,tt,tt,⟨tt,tt,(by omega),(by omega)⟩,tt,⟨tt,tt,tt⟩,tt,tt,tt⟩ ?_
     refine W.ret (blockQ_ret (thenQ_ret (thenQ_ret ?_)))
     exact endQ_ret (.tup [.sl (.ints state),.b (decide (c.ret=(state.getD 0 0)))]) (by kernel_rfl) (@cast (((.ints state:Dat)=.ints ((specStep name state c).1))∧((.bool (decide (c.ret=(state.getD 0 0))):Value)=.bool ((specStep name state c).2))∧Y) _ (by kernel_rfl) ⟨(congrArg Dat.ints (by simp only [specStep,(decide_eq_true h98),h100,(decide_eq_false n14),(decide_eq_false n103),bb])),(congrArg Value.bool (by simp only [specStep,(decide_eq_true h98),h100,(decide_eq_false n14),(decide_eq_false n103),bb])),tt⟩)
   ·intro n100
    refine Kk cok tab62 hnt [] [1,5,8,99,115] (⟨[(1,.sl (.ints state)),(5,.ptr 5 0),(8,.i (state.length:Int)),(99,.v (.string name)),(115,.b (eqS name nStack))],[(5,⟨59,.fix [.i c.proc,.i c.obj,.i c.kind,.i c.arg,.i c.ret,.i c.frm,.i c.to]⟩)],[5,999]⟩)
     ((Y∧Y∧Y)∧Y∧Y)
     ⟨⟨tt,tt,tt⟩,tt,tt⟩ ?_
    refine W.if' (eqS name nStack) (.b (eqS name nStack)) (by kernel_rfl) rfl trivial ?_ ?_
    ·intro h115
     refine W.seq ?_
     refine Kk cok tab62 hnt [] [1,5,8,118] (⟨[(1,.sl (.ints state)),(5,.ptr 5 0),(8,.i (state.length:Int)),(118,.b (decide ((state.length:Int)=(0:Int))))],[(5,⟨59,.fix [.i c.proc,.i c.obj,.i c.kind,.i c.arg,.i c.ret,.i c.frm,.i c.to]⟩)],[5,999]⟩)
      (Y∧(Y∧Y∧Y)∧Y)
      ⟨tt,⟨tt,tt,tt⟩,tt⟩ ?_
     refine W.ifP ((state.length:Int)=(0:Int)) (.b (decide ((state.length:Int)=(0:Int)))) (by kernel_rfl) rfl trivial ?_ ?_
     ·intro h118
      refine W.KA cok tab62 hnt [] [6,7] (⟨[(6,.sl (.ints state)),(7,.b (decide (c.ret=(-1:Int))))],[(5,⟨59,.fix [.i c.proc,.i c.obj,.i c.kind,.i c.arg,.i c.ret,.i c.frm,.i c.to]⟩)],[5,999]⟩)
       (Y∧Y∧Y∧(Y∧Y∧Y)∧Y∧Y∧Y) (by kernel_rfl) (by kernel_rfl)
       ⟨tt,tt,tt,⟨tt,tt,tt⟩,tt,tt,tt⟩ ?_
      refine W.ret (thenQ_ret (blockQ_ret (thenQ_ret (thenQ_ret ?_))))
      exact endQ_ret (.tup [.sl (.ints state),.b (decide (c.ret=(-1:Int)))]) (by kernel_rfl) (@cast (((.ints state:Dat)=.ints ((specStep name state c).1))∧((.bool (decide (c.ret=(-1:Int))):Value)=.bool ((specStep name state c).2))∧Y) _ (by kernel_rfl) ⟨(congrArg Dat.ints (by simp only [specStep,(decide_eq_true h98),h115,(decide_eq_true h118),(decide_eq_false n14),n100,bb])),(congrArg Value.bool (by simp only [specStep,(decide_eq_true h98),h115,(decide_eq_true h118),(decide_eq_false n14),n100,bb])),tt⟩)
     ·intro n118
      refine W.skip (thenQ_normal ?_)
      refine W.KA cok tab62 hnt [] [6,7] (⟨[(6,.sl (.ints state)),(7,.b (decide (c.ret=(state.getD (Int.toNat ((state.length:Int) - (1:Int))) 0))))],[(5,⟨59,.fix [.i c.proc,.i c.obj,.i c.kind,.i c.arg,.i c.ret,.i c.frm,.i c.to]⟩)],[5,999]⟩)
       (Y∧Y∧Y∧Y∧Y∧(Y∧Y∧(Fits .i64 ((state.length:Int) - (1:Int))))∧(Y∧Y∧(0≤((state.length:Int) - (1:Int)))∧(((state.length:Int) - (1:Int))<(state.length:Int)))∧Y∧(Y∧Y∧Y)∧Y∧Y∧Y) (by kernel_rfl) (by kernel_rfl)
       ⟨tt,tt,tt,tt,tt,⟨tt,tt,(by exact fits_i64 (by omega) (by omega))⟩,⟨tt,tt,(by omega),(by omega)⟩,tt,⟨tt,tt,tt⟩,tt,tt,tt⟩ ?_
      refine W.ret (blockQ_ret (thenQ_ret (thenQ_ret ?_)))
      exact endQ_ret (.tup [.sl (.ints state),.b (decide (c.ret=(state.getD (Int.toNat ((state.length:Int) - (1:Int))) 0)))]) (by kernel_rfl) (@cast (((.ints state:Dat)=.ints ((specStep name state c).1))∧((.bool (decide (c.ret=(state.getD (Int.toNat ((state.length:Int) - (1:Int))) 0))):Value)=.bool ((specStep name state c).2))∧Y) _ (by kernel_rfl) ⟨(congrArg Dat.ints (by first | (rw [show Int.toNat (((List.length state:Nat):Int) - (1:Int))=state.length - 1 by omega]; simp only [specStep,(decide_eq_true h98),h115,(decide_eq_false n14),n100,(decide_eq_false n118),bb]; done) | simp only [specStep,(decide_eq_true h98),h115,(decide_eq_false n14),n100,(decide_eq_false n118),bb])),(congrArg Value.bool (by first | (rw [show Int.toNat (((List.length state:Nat):Int) - (1:Int))=state.length - 1 by omega]; simp only [specStep,(decide_eq_true h98),h115,(decide_eq_false n14),n100,(decide_eq_false n118),bb]; done) | simp only [specStep,(decide_eq_true h98),h115,(decide_eq_false n14),n100,(decide_eq_false n118),bb])),tt⟩)
    ·intro n115
     refine Kk cok tab62 hnt [] [1,5,8,132] (⟨[(1,.sl (.ints state)),(5,.ptr 5 0),(8,.i (state.length:Int)),(132,.b (eqS name nSet))],[(5,⟨59,.fix [.i c.proc,.i c.obj,.i c.kind,.i c.arg,.i c.ret,.i c.frm,.i c.to]⟩)],[5,999]⟩)
      ((Y∧Y∧Y)∧Y∧Y)
      ⟨⟨tt,tt,tt⟩,tt,tt⟩ ?_
     refine W.if' (eqS name nSet) (.b (eqS name nSet)) (by kernel_rfl) rfl trivial ?_ ?_
     ·intro h132
      refine W.seq ?_
      refine Kk cok tab62 hnt [] [1,5,137] (⟨[(1,.sl (.ints state)),(5,.ptr 5 0),(137,.b (hasInt state c.arg))],[(5,⟨59,.fix [.i c.proc,.i c.obj,.i c.kind,.i c.arg,.i c.ret,.i c.frm,.i c.to]⟩)],[5,999]⟩)
       (Y∧Y∧Y∧(Y∧(Y∧Y∧Y)∧Y)∧Y)
       ⟨tt,tt,tt,⟨tt,⟨tt,tt,tt⟩,tt⟩,tt⟩ ?_
      refine W.if' (hasInt state c.arg) (.b (hasInt state c.arg)) (by kernel_rfl) rfl trivial ?_ ?_
      ·intro h137
       refine W.KA cok tab62 hnt [] [6,7] (⟨[(6,.sl (.ints state)),(7,.b (decide (c.ret=(1:Int))))],[(5,⟨59,.fix [.i c.proc,.i c.obj,.i c.kind,.i c.arg,.i c.ret,.i c.frm,.i c.to]⟩)],[5,999]⟩)
        (Y∧Y∧Y∧(Y∧Y∧Y)∧Y∧Y∧Y) (by kernel_rfl) (by kernel_rfl)
        ⟨tt,tt,tt,⟨tt,tt,tt⟩,tt,tt,tt⟩ ?_
       refine W.ret (thenQ_ret (blockQ_ret (thenQ_ret (thenQ_ret ?_))))
       exact endQ_ret (.tup [.sl (.ints state),.b (decide (c.ret=(1:Int)))]) (by kernel_rfl) (@cast (((.ints state:Dat)=.ints ((specStep name state c).1))∧((.bool (decide (c.ret=(1:Int))):Value)=.bool ((specStep name state c).2))∧Y) _ (by kernel_rfl) ⟨(congrArg Dat.ints (by simp only [specStep,(decide_eq_true h98),h132,h137,(decide_eq_false n14),n100,n115,bb])),(congrArg Value.bool (by simp only [specStep,(decide_eq_true h98),h132,h137,(decide_eq_false n14),n100,n115,bb])),tt⟩)
      ·intro n137
       refine W.skip (thenQ_normal ?_)
       refine W.KA cok tab62 hnt [] [6,7] (⟨[(6,.sl (.ints state)),(7,.b (decide (c.ret=(0:Int))))],[(5,⟨59,.fix [.i c.proc,.i c.obj,.i c.kind,.i c.arg,.i c.ret,.i c.frm,.i c.to]⟩)],[5,999]⟩)
        (Y∧Y∧Y∧(Y∧Y∧Y)∧Y∧Y∧Y) (by kernel_rfl) (by kernel_rfl)
        ⟨tt,tt,tt,⟨tt,tt,tt⟩,tt,tt,tt⟩ ?_
       refine W.ret (blockQ_ret (thenQ_ret (thenQ_ret ?_)))
       exact endQ_ret (.tup [.sl (.ints state),.b (decide (c.ret=(0:Int)))]) (by kernel_rfl) (@cast (((.ints state:Dat)=.ints ((specStep name state c).1))∧((.bool (decide (c.ret=(0:Int))):Value)=.bool ((specStep name state c).2))∧Y) _ (by kernel_rfl) ⟨(congrArg Dat.ints (by simp only [specStep,(decide_eq_true h98),h132,(decide_eq_false n14),n100,n115,n137,bb])),(congrArg Value.bool (by simp only [specStep,(decide_eq_true h98),h132,(decide_eq_false n14),n100,n115,n137,bb])),tt⟩)
     ·intro n132
      refine W.skip (blockQ_normal (thenQ_normal ?_))
      refine W.seq ?_
      refine Kk cok tab62 hnt [] [1,5,147] (⟨[(1,.sl (.ints state)),(5,.ptr 5 0),(147,.b (decide ((state.length:Int)=(0:Int))))],[(5,⟨59,.fix [.i c.proc,.i c.obj,.i c.kind,.i c.arg,.i c.ret,.i c.frm,.i c.to]⟩)],[5,999]⟩)
       (Y∧(Y∧Y∧Y)∧Y)
       ⟨tt,⟨tt,tt,tt⟩,tt⟩ ?_
      refine W.ifP ((state.length:Int)=(0:Int)) (.b (decide ((state.length:Int)=(0:Int)))) (by kernel_rfl) rfl trivial ?_ ?_
      ·intro h147
       refine W.KA cok tab62 hnt [] [6,7] (⟨[(6,.sl (.ints state)),(7,.b (decide (c.ret=(0:Int))))],[(5,⟨59,.fix [.i c.proc,.i c.obj,.i c.kind,.i c.arg,.i c.ret,.i c.frm,.i c.to]⟩)],[5,999]⟩)
        (Y∧Y∧Y∧(Y∧Y∧Y)∧Y∧Y∧Y) (by kernel_rfl) (by kernel_rfl)
        ⟨tt,tt,tt,⟨tt,tt,tt⟩,tt,tt,tt⟩ ?_
       refine W.ret (thenQ_ret (thenQ_ret ?_))
       exact endQ_ret (.tup [.sl (.ints state),.b (decide (c.ret=(0:Int)))]) (by kernel_rfl) (@cast (((.ints state:Dat)=.ints ((specStep name state c).1))∧((.bool (decide (c.ret=(0:Int))):Value)=.bool ((specStep name state c).2))∧Y) _ (by kernel_rfl) ⟨(congrArg Dat.ints (by simp only [specStep,(decide_eq_true h98),(decide_eq_true h147),(decide_eq_false n14),n100,n115,n132,bb])),(congrArg Value.bool (by simp only [specStep,(decide_eq_true h98),(decide_eq_true h147),(decide_eq_false n14),n100,n115,n132,bb])),tt⟩)
      ·intro n147
       refine W.skip (thenQ_normal ?_)
       refine W.KA cok tab62 hnt [] [6,7] (⟨[(6,.sl (.ints state)),(7,.b (decide (c.ret=(state.getD 0 0))))],[(5,⟨59,.fix [.i c.proc,.i c.obj,.i c.kind,.i c.arg,.i c.ret,.i c.frm,.i c.to]⟩)],[5,999]⟩)
        (Y∧Y∧Y∧Y∧(Y∧Y∧(0≤(0:Int))∧((0:Int)<(state.length:Int)))∧Y∧(Y∧Y∧Y)∧Y∧Y∧Y) (by kernel_rfl) (by kernel_rfl)
        ⟨tt,tt,tt,tt,⟨tt,tt,(by omega),(by omega)⟩,tt,⟨tt,tt,tt⟩,tt,tt,tt⟩ ?_
       refine W.ret (thenQ_ret ?_)
       exact endQ_ret (.tup [.sl (.ints state),.b (decide (c.ret=(state.getD 0 0)))]) (by kernel_rfl) (@cast (((.ints state:Dat)=.ints ((specStep name state c).1))∧((.bool (decide (c.ret=(state.getD 0 0))):Value)=.bool ((specStep name state c).2))∧Y) _ (by kernel_rfl) ⟨(congrArg Dat.ints (by simp only [specStep,(decide_eq_true h98),(decide_eq_false n14),n100,n115,n132,(decide_eq_false n147),bb])),(congrArg Value.bool (by simp only [specStep,(decide_eq_true h98),(decide_eq_false n14),n100,n115,n132,(decide_eq_false n147),bb])),tt⟩)
  ·intro n98
   refine W.skip (thenQ_normal ?_)
   refine W.seq ?_
   refine Kk cok tab62 hnt [] [1,5,8,159] (⟨[(1,.sl (.ints state)),(5,.ptr 5 0),(8,.i (state.length:Int)),(159,.v (.string name))],[(5,⟨59,.fix [.i c.proc,.i c.obj,.i c.kind,.i c.arg,.i c.ret,.i c.frm,.i c.to]⟩)],[5,999]⟩)
    (Y∧Y)
    ⟨tt,tt⟩ ?_
   refine W.block ?_
   refine Kk cok tab62 hnt [] [1,5,8,159,160] (⟨[(1,.sl (.ints state)),(5,.ptr 5 0),(8,.i (state.length:Int)),(159,.v (.string name)),(160,.b (eqS name nQueue))],[(5,⟨59,.fix [.i c.proc,.i c.obj,.i c.kind,.i c.arg,.i c.ret,.i c.frm,.i c.to]⟩)],[5,999]⟩)
    ((Y∧Y∧Y)∧Y∧Y)
    ⟨⟨tt,tt,tt⟩,tt,tt⟩ ?_
   refine W.if' (eqS name nQueue) (.b (eqS name nQueue)) (by kernel_rfl) rfl trivial ?_ ?_
   ·intro h160
    refine W.seq ?_
    refine Kk cok tab62 hnt [] [1,5,163] (⟨[(1,.sl (.ints state)),(5,.ptr 5 0),(163,.b (decide ((state.length:Int)=(0:Int))))],[(5,⟨59,.fix [.i c.proc,.i c.obj,.i c.kind,.i c.arg,.i c.ret,.i c.frm,.i c.to]⟩)],[5,999]⟩)
     (Y∧(Y∧Y∧Y)∧Y)
     ⟨tt,⟨tt,tt,tt⟩,tt⟩ ?_
    refine W.ifP ((state.length:Int)=(0:Int)) (.b (decide ((state.length:Int)=(0:Int)))) (by kernel_rfl) rfl trivial ?_ ?_
    ·intro h163
     refine W.KA cok tab62 hnt [] [6,7] (⟨[(6,.sl (.ints state)),(7,.b (decide (c.ret=(-1:Int))))],[(5,⟨59,.fix [.i c.proc,.i c.obj,.i c.kind,.i c.arg,.i c.ret,.i c.frm,.i c.to]⟩)],[5,999]⟩)
      (Y∧Y∧Y∧(Y∧Y∧Y)∧Y∧Y∧Y) (by kernel_rfl) (by kernel_rfl)
      ⟨tt,tt,tt,⟨tt,tt,tt⟩,tt,tt,tt⟩ ?_
     refine W.ret (thenQ_ret (blockQ_ret (thenQ_ret ?_)))
     exact endQ_ret (.tup [.sl (.ints state),.b (decide (c.ret=(-1:Int)))]) (by kernel_rfl) (@cast (((.ints state:Dat)=.ints ((specStep name state c).1))∧((.bool (decide (c.ret=(-1:Int))):Value)=.bool ((specStep name state c).2))∧Y) _ (by kernel_rfl) ⟨(congrArg Dat.ints (by simp only [specStep,h160,(decide_eq_true h163),(decide_eq_false n14),(decide_eq_false n98),bb])),(congrArg Value.bool (by simp only [specStep,h160,(decide_eq_true h163),(decide_eq_false n14),(decide_eq_false n98),bb])),tt⟩)
    ·intro n163
     refine W.skip (thenQ_normal ?_)
     refine W.KA cok tab62 hnt [] [6,7] (⟨[(6,.sl (.ints (List.drop 1 (List.take state.length state)))),(7,.b (decide (c.ret=(state.getD 0 0))))],[(5,⟨59,.fix [.i c.proc,.i c.obj,.i c.kind,.i c.arg,.i c.ret,.i c.frm,.i c.to]⟩)],[5,999]⟩)
      (Y∧(Y∧Y∧Y∧(0≤(1:Int))∧((1:Int)≤(state.length:Int))∧((state.length:Int)≤(state.length:Int)))∧Y∧Y∧Y∧(Y∧Y∧(0≤(0:Int))∧((0:Int)<(state.length:Int)))∧Y∧(Y∧Y∧Y)∧Y∧Y∧Y) (by kernel_rfl) (by kernel_rfl)
      ⟨tt,⟨tt,tt,tt,(by omega),(by omega),(by omega)⟩,tt,tt,tt,⟨tt,tt,(by omega),(by omega)⟩,tt,⟨tt,tt,tt⟩,tt,tt,tt⟩ ?_
     refine W.ret (blockQ_ret (thenQ_ret ?_))
     exact endQ_ret (.tup [.sl (.ints (List.drop 1 (List.take state.length state))),.b (decide (c.ret=(state.getD 0 0)))]) (by kernel_rfl) (@cast (((.ints (List.drop 1 (List.take state.length state)):Dat)=.ints ((specStep name state c).1))∧((.bool (decide (c.ret=(state.getD 0 0))):Value)=.bool ((specStep name state c).2))∧Y) _ (by kernel_rfl) ⟨(congrArg Dat.ints (by first | (simp only [specStep,h160,(decide_eq_false n14),(decide_eq_false n98),(decide_eq_false n163),bb,List.take_length]; done) | simp only [specStep,h160,(decide_eq_false n14),(decide_eq_false n98),(decide_eq_false n163),bb])),(congrArg Value.bool (by first | (simp only [specStep,h160,(decide_eq_false n14),(decide_eq_false n98),(decide_eq_false n163),bb,List.take_length]; done) | simp only [specStep,h160,(decide_eq_false n14),(decide_eq_false n98),(decide_eq_false n163),bb])),tt⟩)
   ·intro n160
    refine Kk cok tab62 hnt [] [1,5,8,159,176] (⟨[(1,.sl (.ints state)),(5,.ptr 5 0),(8,.i (state.length:Int)),(159,.v (.string name)),(176,.b (eqS name nStack))],[(5,⟨59,.fix [.i c.proc,.i c.obj,.i c.kind,.i c.arg,.i c.ret,.i c.frm,.i c.to]⟩)],[5,999]⟩)
     ((Y∧Y∧Y)∧Y∧Y)
     ⟨⟨tt,tt,tt⟩,tt,tt⟩ ?_
    refine W.if' (eqS name nStack) (.b (eqS name nStack)) (by kernel_rfl) rfl trivial ?_ ?_
    ·intro h176
     refine W.seq ?_
     refine Kk cok tab62 hnt [] [1,5,8,179] (⟨[(1,.sl (.ints state)),(5,.ptr 5 0),(8,.i (state.length:Int)),(179,.b (decide ((state.length:Int)=(0:Int))))],[(5,⟨59,.fix [.i c.proc,.i c.obj,.i c.kind,.i c.arg,.i c.ret,.i c.frm,.i c.to]⟩)],[5,999]⟩)
      (Y∧(Y∧Y∧Y)∧Y)
      ⟨tt,⟨tt,tt,tt⟩,tt⟩ ?_
     refine W.ifP ((state.length:Int)=(0:Int)) (.b (decide ((state.length:Int)=(0:Int)))) (by kernel_rfl) rfl trivial ?_ ?_
     ·intro h179
      refine W.KA cok tab62 hnt [] [6,7] (⟨[(6,.sl (.ints state)),(7,.b (decide (c.ret=(-1:Int))))],[(5,⟨59,.fix [.i c.proc,.i c.obj,.i c.kind,.i c.arg,.i c.ret,.i c.frm,.i c.to]⟩)],[5,999]⟩)
       (Y∧Y∧Y∧(Y∧Y∧Y)∧Y∧Y∧Y) (by kernel_rfl) (by kernel_rfl)
       ⟨tt,tt,tt,⟨tt,tt,tt⟩,tt,tt,tt⟩ ?_
      refine W.ret (thenQ_ret (blockQ_ret (thenQ_ret ?_)))
      exact endQ_ret (.tup [.sl (.ints state),.b (decide (c.ret=(-1:Int)))]) (by kernel_rfl) (@cast (((.ints state:Dat)=.ints ((specStep name state c).1))∧((.bool (decide (c.ret=(-1:Int))):Value)=.bool ((specStep name state c).2))∧Y) _ (by kernel_rfl) ⟨(congrArg Dat.ints (by simp only [specStep,h176,(decide_eq_true h179),(decide_eq_false n14),(decide_eq_false n98),n160,bb])),(congrArg Value.bool (by simp only [specStep,h176,(decide_eq_true h179),(decide_eq_false n14),(decide_eq_false n98),n160,bb])),tt⟩)
     ·intro n179
      refine W.skip (thenQ_normal ?_)
      refine W.KA cok tab62 hnt [] [6,7] (⟨[(6,.sl (.ints (List.take (Int.toNat ((state.length:Int) - (1:Int))) state))),(7,.b (decide (c.ret=(state.getD (Int.toNat ((state.length:Int) - (1:Int))) 0))))],[(5,⟨59,.fix [.i c.proc,.i c.obj,.i c.kind,.i c.arg,.i c.ret,.i c.frm,.i c.to]⟩)],[5,999]⟩)
       (Y∧Y∧(Y∧Y∧(Fits .i64 ((state.length:Int) - (1:Int))))∧(Y∧Y∧Y∧(0≤(0:Int))∧((0:Int)≤((state.length:Int) - (1:Int)))∧(((state.length:Int) - (1:Int))≤(state.length:Int)))∧Y∧Y∧Y∧Y∧(Y∧Y∧(Fits .i64 ((state.length:Int) - (1:Int))))∧(Y∧Y∧(0≤((state.length:Int) - (1:Int)))∧(((state.length:Int) - (1:Int))<(state.length:Int)))∧Y∧(Y∧Y∧Y)∧Y∧Y∧Y) (by kernel_rfl) (by kernel_rfl)
       ⟨tt,tt,⟨tt,tt,(by exact fits_i64 (by omega) (by omega))⟩,⟨tt,tt,tt,(by omega),(by omega),(by omega)⟩,tt,tt,tt,tt,⟨tt,tt,(by exact fits_i64 (by omega) (by omega))⟩,⟨tt,tt,(by omega),(by omega)⟩,tt,⟨tt,tt,tt⟩,tt,tt,tt⟩ ?_
      refine W.ret (blockQ_ret (thenQ_ret ?_))
      exact endQ_ret (.tup [.sl (.ints (List.take (Int.toNat ((state.length:Int) - (1:Int))) state)),.b (decide (c.ret=(state.getD (Int.toNat ((state.length:Int) - (1:Int))) 0)))]) (by kernel_rfl) (@cast (((.ints (List.take (Int.toNat ((state.length:Int) - (1:Int))) state):Dat)=.ints ((specStep name state c).1))∧((.bool (decide (c.ret=(state.getD (Int.toNat ((state.length:Int) - (1:Int))) 0))):Value)=.bool ((specStep name state c).2))∧Y) _ (by kernel_rfl) ⟨(congrArg Dat.ints (by first | (rw [show Int.toNat (((List.length state:Nat):Int) - (1:Int))=state.length - 1 by omega]; simp only [specStep,h176,(decide_eq_false n14),(decide_eq_false n98),n160,(decide_eq_false n179),bb]; done) | simp only [specStep,h176,(decide_eq_false n14),(decide_eq_false n98),n160,(decide_eq_false n179),bb])),(congrArg Value.bool (by first | (rw [show Int.toNat (((List.length state:Nat):Int) - (1:Int))=state.length - 1 by omega]; simp only [specStep,h176,(decide_eq_false n14),(decide_eq_false n98),n160,(decide_eq_false n179),bb]; done) | simp only [specStep,h176,(decide_eq_false n14),(decide_eq_false n98),n160,(decide_eq_false n179),bb])),tt⟩)
    ·intro n176
     refine Kk cok tab62 hnt [] [1,5,8,196] (⟨[(1,.sl (.ints state)),(5,.ptr 5 0),(8,.i (state.length:Int)),(196,.b (eqS name nSet))],[(5,⟨59,.fix [.i c.proc,.i c.obj,.i c.kind,.i c.arg,.i c.ret,.i c.frm,.i c.to]⟩)],[5,999]⟩)
      ((Y∧Y∧Y)∧Y∧Y)
      ⟨⟨tt,tt,tt⟩,tt,tt⟩ ?_
     refine W.if' (eqS name nSet) (.b (eqS name nSet)) (by kernel_rfl) rfl trivial ?_ ?_
     ·intro h196
      refine W.seq ?_
      refine Kk cok tab62 hnt [] [1,5,8,9] (⟨[(1,.sl (.ints state)),(5,.ptr 5 0),(8,.i (state.length:Int)),(9,.i (0:Int))],[(5,⟨59,.fix [.i c.proc,.i c.obj,.i c.kind,.i c.arg,.i c.ret,.i c.frm,.i c.to]⟩)],[5,999]⟩)
       (Y∧Y)
       ⟨tt,tt⟩ ?_
      refine W.block ?_
      refine W.loop (ι := Nat) (fun (i:Nat)=>(⟨[(1,.sl (.ints state)),(5,.ptr 5 0),(8,.i (state.length:Int)),(9,.i ((i:Nat):Int))],[(5,⟨59,.fix [.i c.proc,.i c.obj,.i c.kind,.i c.arg,.i c.ret,.i c.frm,.i c.to]⟩)],[5,999]⟩:St))
       (fun (i:Nat)=>(i≤state.length)∧(∀ j,j<i→¬ state.getD j 0=c.arg))
       (fun (i:Nat)=>(state.length - i:Nat)) (0) ?_ ?_ ?_
      ·exact (show (0≤state.length)∧(∀ j,j<0→¬ state.getD j 0=c.arg) from ⟨(by first | assumption | omega | rfl | (intro _ hjj; omega) | (simp; done) | (simp; omega)),(by exact upto_zero)⟩)
      ·exact Sub.of [] (@cast (((Sd (.ints state))∧(((5:Nat)=5)∧((0:Nat)=0)∧((5:Nat) ∈ ([5,999] : List Nat)))∧(Si (state.length:Int))∧((.int .i64 (0:Int):Value)=.int .i64 ((0:Nat):Int))∧Y)∧((((59:Nat)=59)∧((Si c.proc)∧(Si c.obj)∧(Si c.kind)∧(Si c.arg)∧(Si c.ret)∧(Si c.frm)∧(Si c.to)∧Y)∧((5:Nat) ∈ ([5,999] : List Nat)))∧Y)∧(true=true)∧(true=true)) _ (by kernel_rfl) ⟨⟨rfl,⟨rfl,rfl,(by decide)⟩,rfl,(congrArg (Value.int .i64) (by first | rfl | omega | assumption | simp | simp_all)),tt⟩,⟨⟨rfl,⟨rfl,rfl,rfl,rfl,rfl,rfl,rfl,tt⟩,(by decide)⟩,tt⟩,rfl,rfl⟩)
      ·rintro i hC0
       have hC : (i≤state.length)∧(∀ j,j<i→¬ state.getD j 0=c.arg) := hC0
       clear hC0
       obtain ⟨hi,hA⟩ := hC
       refine W.to (⟨[(1,.sl (.ints state)),(5,.ptr 5 0),(8,.i (state.length:Int)),(9,.i ((i:Nat):Int))],[(5,⟨59,.fix [.i c.proc,.i c.obj,.i c.kind,.i c.arg,.i c.ret,.i c.frm,.i c.to]⟩)],[5,999]⟩) rfl ?_
       refine W.seq ?_
       refine Kk cok tab62 hnt [] [1,5,8,9,200] (⟨[(1,.sl (.ints state)),(5,.ptr 5 0),(8,.i (state.length:Int)),(9,.i ((i:Nat):Int)),(200,.b (decide (((i:Nat):Int)<(state.length:Int))))],[(5,⟨59,.fix [.i c.proc,.i c.obj,.i c.kind,.i c.arg,.i c.ret,.i c.frm,.i c.to]⟩)],[5,999]⟩)
        (Y∧Y∧(Y∧Y∧Y)∧Y)
        ⟨tt,tt,⟨tt,tt,tt⟩,tt⟩ ?_
       refine W.ifP (((i:Nat):Int)<(state.length:Int)) (.b (decide (((i:Nat):Int)<(state.length:Int)))) (by kernel_rfl) rfl trivial ?_ ?_
       ·intro h200
        refine W.skip (thenQ_normal ?_)
        refine W.seq ?_
        refine W.block ?_
        refine W.KA cok tab62 hnt [] [1,5,8,9,209] (⟨[(1,.sl (.ints state)),(5,.ptr 5 0),(8,.i (state.length:Int)),(9,.i ((i:Nat):Int)),(209,.b (decide ((state.getD i 0)=c.arg)))],[(5,⟨59,.fix [.i c.proc,.i c.obj,.i c.kind,.i c.arg,.i c.ret,.i c.frm,.i c.to]⟩)],[5,999]⟩)
         (Y∧Y∧(Y∧Y∧(0≤((i:Nat):Int))∧(((i:Nat):Int)<(state.length:Int)))∧Y∧Y∧Y∧(Y∧Y∧Y)∧Y) (by kernel_rfl) (by kernel_rfl)
         ⟨tt,tt,⟨tt,tt,(by omega),(by omega)⟩,tt,tt,tt,⟨tt,tt,tt⟩,tt⟩ ?_
        refine W.ifP ((state.getD i 0)=c.arg) (.b (decide ((state.getD i 0)=c.arg))) (by kernel_rfl) rfl trivial ?_ ?_
        ·intro h209
         refine W.KA cok tab62 hnt [210,214] [6,7] (⟨[(6,.sl (.ints ((List.take i state)++(List.drop (i+1) (List.take state.length state))))),(7,.b (decide (c.ret=(1:Int))))],[(5,⟨59,.fix [.i c.proc,.i c.obj,.i c.kind,.i c.arg,.i c.ret,.i c.frm,.i c.to]⟩)],[219,214,210,5,999]⟩)
          (Y∧Y∧Y∧(Y∧Y∧Y∧(0≤(0:Int))∧((0:Int)≤((i:Nat):Int))∧(((i:Nat):Int)≤(state.length:Int)))∧((Y∧((List.length ([] : List Int))=(List.length ([] : List Int))))∧Y∧(((List.length ([] : List Int))+(List.length (List.take i state))) * 8≤140737488355328))∧Y∧Y∧(Y∧Y∧(Fits .i64 (((i+1):Nat):Int)))∧(Y∧Y∧Y∧(0≤(((i+1):Nat):Int))∧((((i+1):Nat):Int)≤(state.length:Int))∧((state.length:Int)≤(state.length:Int)))∧((Y∧((List.length (List.take i state))=(List.length (List.take i state))))∧Y∧(((List.length (List.take i state))+(List.length (List.drop (i+1) (List.take state.length state)))) * 8≤140737488355328))∧Y∧Y∧(Y∧Y∧Y)∧Y∧Y∧Y) (by kernel_rfl) (by kernel_rfl)
          ⟨tt,tt,tt,⟨tt,tt,tt,(by omega),(by omega),(by omega)⟩,⟨⟨tt,rfl⟩,tt,(by (first | omega | (simp only [List.length_set]; done) | (simp only [ln] at *; omega) | assumption))⟩,tt,tt,⟨tt,tt,(by exact fits_i64 (by omega) (by omega))⟩,⟨tt,tt,tt,(by omega),(by omega),(by omega)⟩,⟨⟨tt,rfl⟩,tt,(by (first | omega | (simp only [List.length_set]; done) | (simp only [ln] at *; omega) | assumption))⟩,tt,tt,⟨tt,tt,tt⟩,tt,tt,tt⟩ ?_
         refine W.ret (blockQ_ret (thenQ_ret (thenQ_ret (blockQ_ret (thenQ_ret (blockQ_ret (thenQ_ret ?_)))))))
         exact endQ_ret (.tup [.sl (.ints ((List.take i state)++(List.drop (i+1) (List.take state.length state)))),.b (decide (c.ret=(1:Int)))]) (by kernel_rfl) (@cast (((.ints ((List.take i state)++(List.drop (i+1) (List.take state.length state))):Dat)=.ints ((specStep name state c).1))∧((.bool (decide (c.ret=(1:Int))):Value)=.bool ((specStep name state c).2))∧Y) _ (by kernel_rfl) ⟨(congrArg Dat.ints (by have hh : hasInt state c.arg=true := anyN_true (i := i) (by omega) (decide_eq_true h209); have he := erase_at state c.arg i (by omega) h209 hA; first | (simp only [specStep,hh,h196,(decide_eq_true h200),(decide_eq_true h209),(decide_eq_false n14),(decide_eq_false n98),n160,n176,bb]; done) | (rw [List.take_length,he]; simp only [specStep,hh,h196,(decide_eq_true h200),(decide_eq_true h209),(decide_eq_false n14),(decide_eq_false n98),n160,n176,bb]))),(congrArg Value.bool (by have hh : hasInt state c.arg=true := anyN_true (i := i) (by omega) (decide_eq_true h209); have he := erase_at state c.arg i (by omega) h209 hA; first | (simp only [specStep,hh,h196,(decide_eq_true h200),(decide_eq_true h209),(decide_eq_false n14),(decide_eq_false n98),n160,n176,bb]; done) | (rw [List.take_length,he]; simp only [specStep,hh,h196,(decide_eq_true h200),(decide_eq_true h209),(decide_eq_false n14),(decide_eq_false n98),n160,n176,bb]))),tt⟩)
        ·intro n209
         refine W.skip (blockQ_normal (thenQ_normal ?_))
         refine Lk cok tab62 hnt [] (⟨[(1,.sl (.ints state)),(5,.ptr 5 0),(8,.i (state.length:Int)),(9,.i (((i+1):Nat):Int)),(201,.i ((i:Nat):Int)),(202,.i (((i+1):Nat):Int)),(209,.b (decide ((state.getD i 0)=c.arg)))],[(5,⟨59,.fix [.i c.proc,.i c.obj,.i c.kind,.i c.arg,.i c.ret,.i c.frm,.i c.to]⟩)],[5,999]⟩)
          (Y∧(Y∧Y∧(Fits .i64 (((i+1):Nat):Int)))∧Y∧Y)
          ⟨tt,⟨tt,tt,(by exact fits_i64 (by omega) (by omega))⟩,tt,tt⟩ ?_
         refine thenQ_normal ?_
         refine ⟨((i+1)),(show ((i+1)≤state.length)∧(∀ j,j<(i+1)→¬ state.getD j 0=c.arg) from ⟨(by first | assumption | omega | rfl | (intro _ hjj; omega) | (simp; done) | (simp; omega)),(by exact upto_succ hA n209)⟩),(show state.length - (i+1)<state.length - i from (by first | omega | (simp_all; omega))),?_⟩
         exact Sub.of [] (@cast (((Sd (.ints state))∧(((5:Nat)=5)∧((0:Nat)=0)∧((5:Nat) ∈ ([5,999] : List Nat)))∧(Si (state.length:Int))∧(Si (((i+1):Nat):Int))∧Y)∧((((59:Nat)=59)∧((Si c.proc)∧(Si c.obj)∧(Si c.kind)∧(Si c.arg)∧(Si c.ret)∧(Si c.frm)∧(Si c.to)∧Y)∧((5:Nat) ∈ ([5,999] : List Nat)))∧Y)∧(true=true)∧(true=true)) _ (by kernel_rfl) ⟨⟨rfl,⟨rfl,rfl,(by decide)⟩,rfl,rfl,tt⟩,⟨⟨rfl,⟨rfl,rfl,rfl,rfl,rfl,rfl,rfl,tt⟩,(by decide)⟩,tt⟩,rfl,rfl⟩)
       ·intro n200
        refine W.exit (thenQ_exit (thenQ_exit (blockQ_hit ?_)))
        refine thenQ_normal ?_
        refine W.KA cok tab62 hnt [] [6,7] (⟨[(6,.sl (.ints state)),(7,.b (decide (c.ret=(0:Int))))],[(5,⟨59,.fix [.i c.proc,.i c.obj,.i c.kind,.i c.arg,.i c.ret,.i c.frm,.i c.to]⟩)],[5,999]⟩)
         (Y∧Y∧Y∧(Y∧Y∧Y)∧Y∧Y∧Y) (by kernel_rfl) (by kernel_rfl)
         ⟨tt,tt,tt,⟨tt,tt,tt⟩,tt,tt,tt⟩ ?_
        refine W.ret (blockQ_ret (thenQ_ret ?_))
        exact endQ_ret (.tup [.sl (.ints state),.b (decide (c.ret=(0:Int)))]) (by kernel_rfl) (@cast (((.ints state:Dat)=.ints ((specStep name state c).1))∧((.bool (decide (c.ret=(0:Int))):Value)=.bool ((specStep name state c).2))∧Y) _ (by kernel_rfl) ⟨(congrArg Dat.ints (by have hh : hasInt state c.arg=false := anyN_false (fun j hj=>decide_eq_false (hA j (by omega))); simp only [specStep,hh,h196,(decide_eq_false n14),(decide_eq_false n98),n160,n176,(decide_eq_false n200),bb])),(congrArg Value.bool (by have hh : hasInt state c.arg=false := anyN_false (fun j hj=>decide_eq_false (hA j (by omega))); simp only [specStep,hh,h196,(decide_eq_false n14),(decide_eq_false n98),n160,n176,(decide_eq_false n200),bb])),tt⟩)
     ·intro n196
      refine W.skip (blockQ_normal (thenQ_normal ?_))
      refine W.seq ?_
      refine Kk cok tab62 hnt [] [1,5,228] (⟨[(1,.sl (.ints state)),(5,.ptr 5 0),(228,.b (decide ((state.length:Int)=(0:Int))))],[(5,⟨59,.fix [.i c.proc,.i c.obj,.i c.kind,.i c.arg,.i c.ret,.i c.frm,.i c.to]⟩)],[5,999]⟩)
       (Y∧(Y∧Y∧Y)∧Y)
       ⟨tt,⟨tt,tt,tt⟩,tt⟩ ?_
      refine W.ifP ((state.length:Int)=(0:Int)) (.b (decide ((state.length:Int)=(0:Int)))) (by kernel_rfl) rfl trivial ?_ ?_
      ·intro h228
       refine W.KA cok tab62 hnt [] [6,7] (⟨[(6,.sl (.ints ([] : List Int))),(7,.b (decide (c.ret=(0:Int))))],[(5,⟨59,.fix [.i c.proc,.i c.obj,.i c.kind,.i c.arg,.i c.ret,.i c.frm,.i c.to]⟩)],[229,5,999]⟩)
        (Y∧Y∧Y∧(Y∧Y∧Y)∧Y∧Y∧Y) (by kernel_rfl) (by kernel_rfl)
        ⟨tt,tt,tt,⟨tt,tt,tt⟩,tt,tt,tt⟩ ?_
       refine W.ret (thenQ_ret ?_)
       exact endQ_ret (.tup [.sl (.ints ([] : List Int)),.b (decide (c.ret=(0:Int)))]) (by kernel_rfl) (@cast (((.ints ([] : List Int):Dat)=.ints ((specStep name state c).1))∧((.bool (decide (c.ret=(0:Int))):Value)=.bool ((specStep name state c).2))∧Y) _ (by kernel_rfl) ⟨(congrArg Dat.ints (by simp only [specStep,(decide_eq_true h228),(decide_eq_false n14),(decide_eq_false n98),n160,n176,n196,bb])),(congrArg Value.bool (by simp only [specStep,(decide_eq_true h228),(decide_eq_false n14),(decide_eq_false n98),n160,n176,n196,bb])),tt⟩)
      ·intro n228
       refine W.skip (thenQ_normal ?_)
       refine W.KA cok tab62 hnt [] [6,7] (⟨[(6,.sl (.ints ([] : List Int))),(7,.b (decide (c.ret=(state.getD 0 0))))],[(5,⟨59,.fix [.i c.proc,.i c.obj,.i c.kind,.i c.arg,.i c.ret,.i c.frm,.i c.to]⟩)],[233,5,999]⟩)
        (Y∧Y∧Y∧Y∧(Y∧Y∧(0≤(0:Int))∧((0:Int)<(state.length:Int)))∧Y∧(Y∧Y∧Y)∧Y∧Y∧Y) (by kernel_rfl) (by kernel_rfl)
        ⟨tt,tt,tt,tt,⟨tt,tt,(by omega),(by omega)⟩,tt,⟨tt,tt,tt⟩,tt,tt,tt⟩ ?_
       refine W.ret ?_
       exact endQ_ret (.tup [.sl (.ints ([] : List Int)),.b (decide (c.ret=(state.getD 0 0)))]) (by kernel_rfl) (@cast (((.ints ([] : List Int):Dat)=.ints ((specStep name state c).1))∧((.bool (decide (c.ret=(state.getD 0 0))):Value)=.bool ((specStep name state c).2))∧Y) _ (by kernel_rfl) ⟨(congrArg Dat.ints (by simp only [specStep,(decide_eq_false n14),(decide_eq_false n98),n160,n176,n196,(decide_eq_false n228),bb])),(congrArg Value.bool (by simp only [specStep,(decide_eq_false n14),(decide_eq_false n98),n160,n176,n196,(decide_eq_false n228),bb])),tt⟩)
theorem ent62 : Entr prog 62 := ⟨_,func62,rfl,by decide⟩
end Go.Proofs.Tryz

set_option linter.unusedSimpArgs false
set_option linter.unusedVariables false
namespace Go.Proofs.Tryz
open Go.Ab Go.RowKit
def fs64 : FnS := fnS [.o,.s .calls,.s .ints] [.str,.calls,.ints] (fun _ (s,h,o,_)=>(.b (runsB s h o),[],(isObject s=true)∧(validHistory h=true)∧(inH h o)∧(o.length≤6)))
abbrev T64 : Tab := lk [(62,fs62)]
theorem tab64 : TabOK prog T64 := (TabOK.cons ok62 ent62 TabOK.nil)
theorem ok64 : FnOK prog 64 fs64 := by
 refine FnOK.mk cok func64 rfl rfl rfl ?_
 rintro fl ⟨(s:ByteArray),(h : List CallD),(o : List Int),_⟩ hpre F hnt0 _
 have hnt : F.nt=46 := hnt0.trans ntmps64
 replace hpre : (isObject s=true)∧(validHistory h=true)∧(inH h o)∧(o.length≤6) := hpre
 obtain ⟨hs,hv,ho,h6⟩ := hpre
 refine W.to (⟨[(0,.v (.string s)),(1,.sl (.calls h)),(2,.sl (.ints o))],[],[999]⟩) rfl ?_
 refine W.lenOf 1 (.calls h) (by kernel_rfl) ?_
 intro hl_h; replace hl_h : List.length h≤9223372036854775807 := hl_h
 refine W.lenOf 2 (.ints o) (by kernel_rfl) ?_
 intro hl_o; replace hl_o : List.length o≤9223372036854775807 := hl_o
 refine Kk cok tab64 hnt [] [0,1,2] (⟨[(0,.v (.string s)),(1,.sl (.calls h)),(2,.sl (.ints o))],[],[999]⟩)
  (Y∧Y)
  ⟨tt,tt⟩ ?_
 refine Kk cok tab64 hnt [14] [0,1,2,7] (⟨[(0,.v (.string s)),(1,.sl (.calls h)),(2,.sl (.ints o)),(7,.own 14 (List.length ([([] : List Int),([] : List Int)])))],[(14,⟨36,.row (.intss ([([] : List Int),([] : List Int)]))⟩)],[14,13,12,999]⟩)
  (Y∧Y∧(Y∧Y∧Y)∧Y∧Y)
  ⟨tt,tt,⟨tt,tt,tt⟩,tt,tt⟩ ?_
 refine W.seq ?_
 refine Kk cok tab64 hnt [] [0,1,2,7,8] (⟨[(0,.v (.string s)),(1,.sl (.calls h)),(2,.sl (.ints o)),(7,.own 14 (List.length ([([] : List Int),([] : List Int)]))),(8,.i (0:Int))],[(14,⟨36,.row (.intss ([([] : List Int),([] : List Int)]))⟩)],[14,13,12,999]⟩)
  (Y∧Y)
  ⟨tt,tt⟩ ?_
 refine W.block ?_
 refine W.loop (ι := Nat × (List (List Int))) (fun (x : Nat × (List (List Int)))=>match x with | (i,ss)=>(⟨[(0,.v (.string s)),(1,.sl (.calls h)),(2,.sl (.ints o)),(7,.own 14 ss.length),(8,.i ((i:Nat):Int))],[(14,⟨36,.row (.intss ss)⟩)],[14,999]⟩:St))
  (fun (x : Nat × (List (List Int)))=>match x with | (i,ss)=>(i≤o.length)∧(ss=sts s h o i)∧(∀ j,j<i→okAt s h o j=true))
  (fun (x : Nat × (List (List Int)))=>match x with | (i,ss)=>(o.length - i:Nat)) (0,([([] : List Int),([] : List Int)])) ?_ ?_ ?_
 ·exact (show (0≤o.length)∧(([([] : List Int),([] : List Int)])=sts s h o 0)∧(∀ j,j<0→okAt s h o j=true) from ⟨(by first | assumption | omega | rfl | (intro _ hjj; omega) | (simp; done) | (simp; omega)),(by rfl),(by exact upto_zero)⟩)
 ·exact Sub.of [] (@cast (((((.string s):Value)=(.string s))∧(Sd (.calls h))∧(Sd (.ints o))∧(((14:Nat)=14)∧((List.length ([([] : List Int),([] : List Int)]))=(List.length ([([] : List Int),([] : List Int)])))∧((14:Nat) ∈ ([14,999] : List Nat)))∧((.int .i64 (0:Int):Value)=.int .i64 ((0:Nat):Int))∧Y)∧((((36:Nat)=36)∧(Sd (.intss ([([] : List Int),([] : List Int)])))∧((14:Nat) ∈ ([14,999] : List Nat)))∧Y)∧(true=true)∧(true=true)) _ (by kernel_rfl) ⟨⟨rfl,rfl,rfl,⟨rfl,rfl,(by decide)⟩,(congrArg (Value.int .i64) (by first | rfl | omega | assumption | simp | simp_all)),tt⟩,⟨⟨rfl,rfl,(by decide)⟩,tt⟩,rfl,rfl⟩)
 ·rintro ⟨i,ss⟩ hC0
  have hC : (i≤o.length)∧(ss=sts s h o i)∧(∀ j,j<i→okAt s h o j=true) := hC0
  clear hC0
  obtain ⟨hi,hss,hA⟩ := hC
  refine W.to (⟨[(0,.v (.string s)),(1,.sl (.calls h)),(2,.sl (.ints o)),(7,.own 14 ss.length),(8,.i ((i:Nat):Int))],[(14,⟨36,.row (.intss ss)⟩)],[14,999]⟩) rfl ?_
  have hsl : ss.length=2 := by rw [hss]; exact sts_len s h o i
  have hri := ho i
  have hcl := fun hi=>isCall_iff.1 (ord_call hv ho (i := i) hi)
  unfold ordAt callAt at hcl
  refine W.seq ?_
  refine Kk cok tab64 hnt [] [0,1,2,7,8,18] (⟨[(0,.v (.string s)),(1,.sl (.calls h)),(2,.sl (.ints o)),(7,.own 14 ss.length),(8,.i ((i:Nat):Int)),(18,.b (decide (((i:Nat):Int)<(o.length:Int))))],[(14,⟨36,.row (.intss ss)⟩)],[14,999]⟩)
   (Y∧Y∧Y∧(Y∧Y∧Y)∧Y)
   ⟨tt,tt,tt,⟨tt,tt,tt⟩,tt⟩ ?_
  refine W.ifP (((i:Nat):Int)<(o.length:Int)) (.b (decide (((i:Nat):Int)<(o.length:Int)))) (by kernel_rfl) rfl trivial ?_ ?_
  ·intro h18
   refine W.skip (thenQ_normal ?_)
   refine W.seq ?_
   refine W.block ?_
   refine Kk cok tab64 hnt [] [0,1,2,7,8,9] (⟨[(0,.v (.string s)),(1,.sl (.calls h)),(2,.sl (.ints o)),(7,.own 14 ss.length),(8,.i ((i:Nat):Int)),(9,.ptr 9 0)],[(9,⟨59,.fix [.i ((h.getD (Int.toNat (o.getD i 0)) default).proc),.i ((h.getD (Int.toNat (o.getD i 0)) default).obj),.i ((h.getD (Int.toNat (o.getD i 0)) default).kind),.i ((h.getD (Int.toNat (o.getD i 0)) default).arg),.i ((h.getD (Int.toNat (o.getD i 0)) default).ret),.i ((h.getD (Int.toNat (o.getD i 0)) default).frm),.i ((h.getD (Int.toNat (o.getD i 0)) default).to)]⟩),(14,⟨36,.row (.intss ss)⟩)],[9,14,999]⟩)
    (Y∧Y∧Y∧(Y∧Y∧(0≤((i:Nat):Int))∧(((i:Nat):Int)<(o.length:Int)))∧Y∧(Y∧Y∧(0≤(o.getD i 0))∧((o.getD i 0)<(h.length:Int)))∧Y∧Y∧(Y∧Y)∧Y)
    ⟨tt,tt,tt,⟨tt,tt,(by omega),(by have hh := hcl (by omega); omega)⟩,tt,⟨tt,tt,(by (first | omega | (simp only [List.length_set]; done) | (simp only [ln] at *; omega) | assumption)),(by have hh := hcl (by omega); omega)⟩,tt,tt,⟨tt,tt⟩,tt⟩ ?_
   refine W.KA cok tab64 hnt [] [0,1,2,7,8,9,10,11] (⟨[(0,.v (.string s)),(1,.sl (.calls h)),(2,.sl (.ints o)),(7,.own 14 ss.length),(8,.i ((i:Nat):Int)),(9,.ptr 9 0),(10,.sl (.ints ((specStep s (ss.getD (Int.toNat ((h.getD (Int.toNat (o.getD i 0)) default).obj)) []) (h.getD (Int.toNat (o.getD i 0)) default)).1))),(11,.b ((specStep s (ss.getD (Int.toNat ((h.getD (Int.toNat (o.getD i 0)) default).obj)) []) (h.getD (Int.toNat (o.getD i 0)) default)).2))],[(9,⟨59,.fix [.i ((h.getD (Int.toNat (o.getD i 0)) default).proc),.i ((h.getD (Int.toNat (o.getD i 0)) default).obj),.i ((h.getD (Int.toNat (o.getD i 0)) default).kind),.i ((h.getD (Int.toNat (o.getD i 0)) default).arg),.i ((h.getD (Int.toNat (o.getD i 0)) default).ret),.i ((h.getD (Int.toNat (o.getD i 0)) default).frm),.i ((h.getD (Int.toNat (o.getD i 0)) default).to)]⟩),(14,⟨36,.row (.intss ss)⟩)],[9,14,999]⟩)
    (Y∧Y∧Y∧Y∧(Y∧Y∧(0≤((h.getD (Int.toNat (o.getD i 0)) default).obj))∧(((h.getD (Int.toNat (o.getD i 0)) default).obj)<(ss.length:Int)))∧(Y∧((Int.toNat ((h.getD (Int.toNat (o.getD i 0)) default).obj))<ss.length))∧Y∧(Y∧(Y∧Y∧Y∧Y)∧((ss.getD (Int.toNat ((h.getD (Int.toNat (o.getD i 0)) default).obj)) []).length≤1000000)∧(∀ x ∈ (ss.getD (Int.toNat ((h.getD (Int.toNat (o.getD i 0)) default).obj)) []),-1000000000≤x∧x≤1000000000)∧-1000000000≤(h.getD (Int.toNat (o.getD i 0)) default).arg∧(h.getD (Int.toNat (o.getD i 0)) default).arg≤1000000000)∧Y∧Y∧Y∧Y∧Y∧Y) (by kernel_rfl) (by kernel_rfl)
    ⟨tt,tt,tt,tt,⟨tt,tt,(by have hh := hcl (by omega); omega),(by have hh := hcl (by omega); omega)⟩,⟨tt,(by have hh := hcl (by omega); omega)⟩,tt,⟨tt,⟨tt,tt,tt,tt⟩,(by have hh := (sts_at hs hv ho (i := i) (by omega) (by omega)).2.1; unfold ordAt callAt at hh; rw [hss]; omega),(by have hh := (sts_at hs hv ho (i := i) (by omega) (by omega)).2.2; unfold ordAt callAt at hh; rw [hss]; intro x hx; have := hh x hx; omega),(by have hh := hcl (by omega); omega)⟩,tt,tt,tt,tt,tt,tt⟩ ?_
   refine W.seq ?_
   refine Kk cok tab64 hnt [] [0,1,2,7,8,9,10,40] (⟨[(0,.v (.string s)),(1,.sl (.calls h)),(2,.sl (.ints o)),(7,.own 14 ss.length),(8,.i ((i:Nat):Int)),(9,.ptr 9 0),(10,.sl (.ints ((specStep s (ss.getD (Int.toNat ((h.getD (Int.toNat (o.getD i 0)) default).obj)) []) (h.getD (Int.toNat (o.getD i 0)) default)).1))),(40,.b (!((specStep s (ss.getD (Int.toNat ((h.getD (Int.toNat (o.getD i 0)) default).obj)) []) (h.getD (Int.toNat (o.getD i 0)) default)).2)))],[(9,⟨59,.fix [.i ((h.getD (Int.toNat (o.getD i 0)) default).proc),.i ((h.getD (Int.toNat (o.getD i 0)) default).obj),.i ((h.getD (Int.toNat (o.getD i 0)) default).kind),.i ((h.getD (Int.toNat (o.getD i 0)) default).arg),.i ((h.getD (Int.toNat (o.getD i 0)) default).ret),.i ((h.getD (Int.toNat (o.getD i 0)) default).frm),.i ((h.getD (Int.toNat (o.getD i 0)) default).to)]⟩),(14,⟨36,.row (.intss ss)⟩)],[9,14,999]⟩)
    (Y∧Y∧Y)
    ⟨tt,tt,tt⟩ ?_
   refine W.if' (!((specStep s (ss.getD (Int.toNat ((h.getD (Int.toNat (o.getD i 0)) default).obj)) []) (h.getD (Int.toNat (o.getD i 0)) default)).2)) (.b (!((specStep s (ss.getD (Int.toNat ((h.getD (Int.toNat (o.getD i 0)) default).obj)) []) (h.getD (Int.toNat (o.getD i 0)) default)).2))) (by kernel_rfl) rfl trivial ?_ ?_
   ·intro h40
    refine Kk cok tab64 hnt [] [6] (⟨[(6,.b false)],[(9,⟨59,.fix [.i ((h.getD (Int.toNat (o.getD i 0)) default).proc),.i ((h.getD (Int.toNat (o.getD i 0)) default).obj),.i ((h.getD (Int.toNat (o.getD i 0)) default).kind),.i ((h.getD (Int.toNat (o.getD i 0)) default).arg),.i ((h.getD (Int.toNat (o.getD i 0)) default).ret),.i ((h.getD (Int.toNat (o.getD i 0)) default).frm),.i ((h.getD (Int.toNat (o.getD i 0)) default).to)]⟩),(14,⟨36,.row (.intss ss)⟩)],[9,14,999]⟩)
     (Y∧Y)
     ⟨tt,tt⟩ ?_
    refine W.ret (thenQ_ret (blockQ_ret (thenQ_ret (thenQ_ret (blockQ_ret (thenQ_ret ?_))))))
    exact endQ_ret (.b false) (by kernel_rfl) (@cast ((.bool false:Value)=.bool (runsB s h o)) _ (by kernel_rfl) (congrArg Value.bool (by exact (allN_false (i := i) (by omega) (by rw [hss] at h40; exact not_f h40)).symm)))
   ·intro n40
    refine W.skip (thenQ_normal ?_)
    refine Lk cok tab64 hnt [] (⟨[(0,.v (.string s)),(1,.sl (.calls h)),(2,.sl (.ints o)),(7,.own 14 ss.length),(8,.i ((i:Nat):Int)),(9,.ptr 9 0),(10,.sl (.ints ((specStep s (ss.getD (Int.toNat ((h.getD (Int.toNat (o.getD i 0)) default).obj)) []) (h.getD (Int.toNat (o.getD i 0)) default)).1))),(40,.b (!((specStep s (ss.getD (Int.toNat ((h.getD (Int.toNat (o.getD i 0)) default).obj)) []) (h.getD (Int.toNat (o.getD i 0)) default)).2))),(41,.own 14 ss.length),(42,.ptr 9 1),(43,.i ((h.getD (Int.toNat (o.getD i 0)) default).obj)),(44,.sl (.ints ((specStep s (ss.getD (Int.toNat ((h.getD (Int.toNat (o.getD i 0)) default).obj)) []) (h.getD (Int.toNat (o.getD i 0)) default)).1))),(45,.pel 14 1 (Int.toNat ((h.getD (Int.toNat (o.getD i 0)) default).obj)) 0)],[(9,⟨59,.fix [.i ((h.getD (Int.toNat (o.getD i 0)) default).proc),.i ((h.getD (Int.toNat (o.getD i 0)) default).obj),.i ((h.getD (Int.toNat (o.getD i 0)) default).kind),.i ((h.getD (Int.toNat (o.getD i 0)) default).arg),.i ((h.getD (Int.toNat (o.getD i 0)) default).ret),.i ((h.getD (Int.toNat (o.getD i 0)) default).frm),.i ((h.getD (Int.toNat (o.getD i 0)) default).to)]⟩),(14,⟨36,.row (.intss (List.set ss (Int.toNat ((h.getD (Int.toNat (o.getD i 0)) default).obj)) ((specStep s (ss.getD (Int.toNat ((h.getD (Int.toNat (o.getD i 0)) default).obj)) []) (h.getD (Int.toNat (o.getD i 0)) default)).1)))⟩)],[9,14,999]⟩)
     (Y∧Y∧Y∧Y∧(Y∧Y∧(0≤((h.getD (Int.toNat (o.getD i 0)) default).obj))∧(((h.getD (Int.toNat (o.getD i 0)) default).obj)<(ss.length:Int)))∧(Y∧Y∧((Int.toNat ((h.getD (Int.toNat (o.getD i 0)) default).obj))<ss.length))∧Y)
     ⟨tt,tt,tt,tt,⟨tt,tt,(by have hh := hcl (by omega); omega),(by have hh := hcl (by omega); omega)⟩,⟨tt,tt,(by have hh := hcl (by omega); omega)⟩,tt⟩ ?_
    refine blockQ_normal (thenQ_normal ?_)
    refine Lk cok tab64 hnt [] (⟨[(0,.v (.string s)),(1,.sl (.calls h)),(2,.sl (.ints o)),(7,.own 14 ss.length),(8,.i (((i+1):Nat):Int)),(9,.ptr 9 0),(10,.sl (.ints ((specStep s (ss.getD (Int.toNat ((h.getD (Int.toNat (o.getD i 0)) default).obj)) []) (h.getD (Int.toNat (o.getD i 0)) default)).1))),(19,.i ((i:Nat):Int)),(20,.i (((i+1):Nat):Int)),(40,.b (!((specStep s (ss.getD (Int.toNat ((h.getD (Int.toNat (o.getD i 0)) default).obj)) []) (h.getD (Int.toNat (o.getD i 0)) default)).2))),(41,.own 14 ss.length),(42,.ptr 9 1),(43,.i ((h.getD (Int.toNat (o.getD i 0)) default).obj)),(44,.sl (.ints ((specStep s (ss.getD (Int.toNat ((h.getD (Int.toNat (o.getD i 0)) default).obj)) []) (h.getD (Int.toNat (o.getD i 0)) default)).1))),(45,.pel 14 1 (Int.toNat ((h.getD (Int.toNat (o.getD i 0)) default).obj)) 0)],[(9,⟨59,.fix [.i ((h.getD (Int.toNat (o.getD i 0)) default).proc),.i ((h.getD (Int.toNat (o.getD i 0)) default).obj),.i ((h.getD (Int.toNat (o.getD i 0)) default).kind),.i ((h.getD (Int.toNat (o.getD i 0)) default).arg),.i ((h.getD (Int.toNat (o.getD i 0)) default).ret),.i ((h.getD (Int.toNat (o.getD i 0)) default).frm),.i ((h.getD (Int.toNat (o.getD i 0)) default).to)]⟩),(14,⟨36,.row (.intss (List.set ss (Int.toNat ((h.getD (Int.toNat (o.getD i 0)) default).obj)) ((specStep s (ss.getD (Int.toNat ((h.getD (Int.toNat (o.getD i 0)) default).obj)) []) (h.getD (Int.toNat (o.getD i 0)) default)).1)))⟩)],[9,14,999]⟩)
     (Y∧(Y∧Y∧(Fits .i64 (((i+1):Nat):Int)))∧Y∧Y)
     ⟨tt,⟨tt,tt,(by exact fits_i64 (by omega) (by omega))⟩,tt,tt⟩ ?_
    refine thenQ_normal ?_
    refine ⟨((i+1),(List.set ss (Int.toNat ((h.getD (Int.toNat (o.getD i 0)) default).obj)) ((specStep s (ss.getD (Int.toNat ((h.getD (Int.toNat (o.getD i 0)) default).obj)) []) (h.getD (Int.toNat (o.getD i 0)) default)).1))),(show ((i+1)≤o.length)∧((List.set ss (Int.toNat ((h.getD (Int.toNat (o.getD i 0)) default).obj)) ((specStep s (ss.getD (Int.toNat ((h.getD (Int.toNat (o.getD i 0)) default).obj)) []) (h.getD (Int.toNat (o.getD i 0)) default)).1))=sts s h o (i+1))∧(∀ j,j<(i+1)→okAt s h o j=true) from ⟨(by first | assumption | omega | rfl | (intro _ hjj; omega) | (simp; done) | (simp; omega)),(by rw [hss]; rfl),(by exact upto_succ hA (by rw [hss] at n40; exact not_g n40))⟩),(show o.length - (i+1)<o.length - i from (by first | omega | (simp_all; omega))),?_⟩
    exact Sub.of [] (@cast (((((.string s):Value)=(.string s))∧(Sd (.calls h))∧(Sd (.ints o))∧(((14:Nat)=14)∧(ss.length=(List.length (List.set ss (Int.toNat ((h.getD (Int.toNat (o.getD i 0)) default).obj)) ((specStep s (ss.getD (Int.toNat ((h.getD (Int.toNat (o.getD i 0)) default).obj)) []) (h.getD (Int.toNat (o.getD i 0)) default)).1))))∧((14:Nat) ∈ ([14,999] : List Nat)))∧(Si (((i+1):Nat):Int))∧Y)∧((((36:Nat)=36)∧(Sd (.intss (List.set ss (Int.toNat ((h.getD (Int.toNat (o.getD i 0)) default).obj)) ((specStep s (ss.getD (Int.toNat ((h.getD (Int.toNat (o.getD i 0)) default).obj)) []) (h.getD (Int.toNat (o.getD i 0)) default)).1))))∧((14:Nat) ∈ ([14,999] : List Nat)))∧Y)∧(true=true)∧(true=true)) _ (by kernel_rfl) ⟨⟨rfl,rfl,rfl,⟨rfl,(by first | rfl | omega | assumption | (symm; assumption) | simp | simp_all),(by decide)⟩,rfl,tt⟩,⟨⟨rfl,rfl,(by decide)⟩,tt⟩,rfl,rfl⟩)
  ·intro n18
   refine W.exit (thenQ_exit (thenQ_exit (blockQ_hit ?_)))
   refine thenQ_normal ?_
   refine Kk cok tab64 hnt [] [6] (⟨[(6,.b true)],[(14,⟨36,.row (.intss ss)⟩)],[14,999]⟩)
    (Y∧Y)
    ⟨tt,tt⟩ ?_
   refine W.ret ?_
   exact endQ_ret (.b true) (by kernel_rfl) (@cast ((.bool true:Value)=.bool (runsB s h o)) _ (by kernel_rfl) (congrArg Value.bool (by exact (allN_true (fun j hj=>hA j (by omega))).symm)))
theorem ent64 : Entr prog 64 := ⟨_,func64,rfl,by decide⟩
end Go.Proofs.Tryz

set_option linter.unusedSimpArgs false
set_option linter.unusedVariables false
namespace Go.Proofs.Tryz
open Go.Ab Go.RowKit
def fs66 : FnS := fnS [.o,.o] [.int,.int] (fun _ (x,j,_)=>(.i (bitOf x j),[],(j≤60)∧(0≤x∧x≤4611686018427387904)))
abbrev T66 : Tab := lk [(65,fs65)]
theorem tab66 : TabOK prog T66 := (TabOK.cons ok65 ent65 TabOK.nil)
theorem ok66 : FnOK prog 66 fs66 := by
 refine FnOK.mk cok func66 rfl rfl rfl ?_
 rintro fl ⟨(x:Int),(j:Int),_⟩ hpre F hnt0 _
 have hnt : F.nt=10 := hnt0.trans ntmps66
 replace hpre : (j≤60)∧(0≤x∧x≤4611686018427387904) := hpre
 obtain ⟨hj,hx⟩ := hpre
 refine W.to (⟨[(0,.i x),(1,.i j)],[],[999]⟩) rfl ?_
 refine Kk cok tab66 hnt [] [0,1] (⟨[(0,.i x),(1,.i j)],[],[999]⟩)
  (Y∧Y)
  ⟨tt,tt⟩ ?_
 have hp := power_pos j
 refine Kk cok tab66 hnt [] [4] (⟨[(4,.i (Int.tmod (Int.tdiv x (power j)) (2:Int)))],[],[999]⟩)
  (Y∧Y∧(Y∧(Y∧Y)∧(j≤60))∧(Y∧Y∧((power j)≠0)∧(Fits .i64 (Int.tdiv x (power j))))∧(Y∧Y∧((2:Int)≠0))∧Y∧Y)
  ⟨tt,tt,⟨tt,⟨tt,tt⟩,(by omega)⟩,⟨tt,tt,(by omega),(by exact fits_i64 (Int.le_trans (by omega) (Int.tdiv_nonneg (by omega) (by omega))) (Int.le_trans (Int.tdiv_le_self _ (by omega)) (by omega)))⟩,⟨tt,tt,(by decide)⟩,tt,tt⟩ ?_
 refine W.ret ?_
 exact endQ_ret (.i (Int.tmod (Int.tdiv x (power j)) (2:Int))) (by kernel_rfl) (@cast ((.int .i64 (Int.tmod (Int.tdiv x (power j)) (2:Int)):Value)=.int .i64 (bitOf x j)) _ (by kernel_rfl) (congrArg (Value.int .i64) (by first | rfl | simp_all)))
theorem ent66 : Entr prog 66 := ⟨_,func66,rfl,by decide⟩
end Go.Proofs.Tryz

set_option linter.unusedSimpArgs false
set_option linter.unusedVariables false
namespace Go.Proofs.Tryz
open Go.Ab Go.RowKit
def out45 : Bool→ATy [.str,.calls,.ints,.ints]→AV × List (TypeId × Dat) × Prop := fun _ (s,h,rows,o,_)=>(.sl (.intss (ordersF s h (bitF rows) (h.length - o.length) o)),[],(isObject s=true)∧(validHistory h=true)∧(rows=rowsOf h.length (bitF rows))∧(headO h o))
def mu45 : ATy [.str,.calls,.ints,.ints]→Nat := fun (s,h,rows,o,_)=>h.length - o.length
def fs45 : FnS := fnS [.o,.s .calls,.s .ints,.s .ints] [.str,.calls,.ints,.ints] out45
abbrev fsN45 (n:Nat) : FnS := fnS [.o,.s .calls,.s .ints,.s .ints] [.str,.calls,.ints,.ints] (lim out45 mu45 n)
theorem ent45 : Entr prog 45 := ⟨_,func45,rfl,by decide⟩
abbrev T45 (nn:Nat) : Tab := lk [(45,fsN45 nn),(64,fs64),(65,fs65),(66,fs66)]
theorem tab45 {nn : Nat} (ih : FnOK prog 45 (fsN45 nn)) : TabOK prog (T45 nn) := (TabOK.cons ih ent45 (TabOK.cons ok64 ent64 (TabOK.cons ok65 ent65 (TabOK.cons ok66 ent66 TabOK.nil))))
theorem okS45 (nn:Nat) (ih : FnOK prog 45 (fsN45 nn)) : FnOK prog 45 (fsN45 (nn+1)) := by
 refine FnOK.mk cok func45 rfl rfl rfl ?_
 rintro fl ⟨(s:ByteArray),(h : List CallD),(rows : List Int),(o : List Int),_⟩ hpre F hnt0 _
 have hnt : F.nt=78 := hnt0.trans ntmps45
 obtain ⟨hpre,hmu⟩ := hpre
 replace hmu : h.length - o.length<nn+1 := hmu
 replace hpre : (isObject s=true)∧(validHistory h=true)∧(rows=rowsOf h.length (bitF rows))∧(headO h o) := hpre
 obtain ⟨hs,hv,hr,ho⟩ := hpre
 refine W.to (⟨[(0,.v (.string s)),(1,.sl (.calls h)),(2,.sl (.ints rows)),(3,.sl (.ints o))],[],[999]⟩) rfl ?_
 have hv6 := (valid_iff.1 hv).1
 have hol := ho.2.2
 have hrl : rows.length=h.length := by rw [hr,rowsOf_len]
 have hio := ho.1
 refine W.lenOf 1 (.calls h) (by kernel_rfl) ?_
 intro hl_h; replace hl_h : List.length h≤9223372036854775807 := hl_h
 refine W.lenOf 2 (.ints rows) (by kernel_rfl) ?_
 intro hl_rows; replace hl_rows : List.length rows≤9223372036854775807 := hl_rows
 refine W.lenOf 3 (.ints o) (by kernel_rfl) ?_
 intro hl_o; replace hl_o : List.length o≤9223372036854775807 := hl_o
 refine Kk cok (tab45 ih) hnt [] [0,1,2,3] (⟨[(0,.v (.string s)),(1,.sl (.calls h)),(2,.sl (.ints rows)),(3,.sl (.ints o))],[],[999]⟩)
  (Y∧Y)
  ⟨tt,tt⟩ ?_
 refine W.seq ?_
 refine Kk cok (tab45 ih) hnt [] [0,1,2,3,17] (⟨[(0,.v (.string s)),(1,.sl (.calls h)),(2,.sl (.ints rows)),(3,.sl (.ints o)),(17,.b (!(runsB s h o)))],[],[999]⟩)
  (Y∧Y∧Y∧(Y∧(Y∧Y∧Y∧Y)∧(isObject s=true)∧(validHistory h=true)∧(inH h o)∧(o.length≤6))∧Y∧Y)
  ⟨tt,tt,tt,⟨tt,⟨tt,tt,tt,tt⟩,(by exact hs),(by exact hv),(by exact ho.1),(by omega)⟩,tt,tt⟩ ?_
 refine W.if' (!(runsB s h o)) (.b (!(runsB s h o))) (by kernel_rfl) rfl trivial ?_ ?_
 ·intro h17
  refine Kk cok (tab45 ih) hnt [] [8] (⟨[(8,.sl (.intss ([] : List (List Int))))],[],[18,999]⟩)
   (Y∧Y∧Y)
   ⟨tt,tt,tt⟩ ?_
  refine W.ret (thenQ_ret ?_)
  exact endQ_ret (.sl (.intss ([] : List (List Int)))) (by kernel_rfl) (@cast ((.intss ([] : List (List Int)):Dat)=.intss (ordersF s h (bitF rows) (h.length - o.length) o)) _ (by kernel_rfl) (congrArg Dat.intss (by exact (orders_none (by simpa using h17)).symm)))
 ·intro n17
  refine W.skip (thenQ_normal ?_)
  refine W.seq ?_
  refine Kk cok (tab45 ih) hnt [] [0,1,2,3,23] (⟨[(0,.v (.string s)),(1,.sl (.calls h)),(2,.sl (.ints rows)),(3,.sl (.ints o)),(23,.b (decide ((o.length:Int)=(h.length:Int))))],[],[999]⟩)
   (Y∧Y∧Y∧Y∧(Y∧Y∧Y)∧Y)
   ⟨tt,tt,tt,tt,⟨tt,tt,tt⟩,tt⟩ ?_
  refine W.ifP ((o.length:Int)=(h.length:Int)) (.b (decide ((o.length:Int)=(h.length:Int)))) (by kernel_rfl) rfl trivial ?_ ?_
  ·intro h23
   refine Kk cok (tab45 ih) hnt [24] [8] (⟨[(8,.sl (.intss ([o])))],[],[27,26,24,999]⟩)
    (Y∧Y∧((Y∧((List.length ([] : List Int))=(List.length ([] : List Int))))∧Y∧(((List.length ([] : List Int))+o.length) * 8≤140737488355328))∧(Y∧Y)∧Y∧Y)
    ⟨tt,tt,⟨⟨tt,rfl⟩,tt,(by first | omega | (simp; done) | (simp; omega) | (have h9 := upto_len6 (s := s) (f := bitF rows) (m := h.length - o.length - 1) (k := k) hv6 (by omega) (by omega) o; have h8 := rest_len (s := s) (f := bitF rows) (m := h.length - (o++[((k:Nat):Int)]).length) hv6 (by omega) (o++[((k:Nat):Int)]); (try rw [← hou] at h9); (try simp only [List.length_append,List.length_cons,List.length_nil] at *); omega))⟩,⟨tt,tt⟩,tt,tt⟩ ?_
   refine W.ret (thenQ_ret ?_)
   exact endQ_ret (.sl (.intss ([o]))) (by kernel_rfl) (@cast ((.intss ([o]):Dat)=.intss (ordersF s h (bitF rows) (h.length - o.length) o)) _ (by kernel_rfl) (congrArg Dat.intss (by exact explain_one (by simpa using n17) h23)))
  ·intro n23
   refine W.skip (thenQ_normal ?_)
   refine Kk cok (tab45 ih) hnt [28] [0,1,2,3,9] (⟨[(0,.v (.string s)),(1,.sl (.calls h)),(2,.sl (.ints rows)),(3,.sl (.ints o)),(9,.own 28 (List.length ([] : List (List Int))))],[(28,⟨36,.row (.intss ([] : List (List Int)))⟩)],[28,999]⟩)
    (Y∧Y∧Y)
    ⟨tt,tt,tt⟩ ?_
   refine Kk cok (tab45 ih) hnt [] [0,1,2,3,9,10] (⟨[(0,.v (.string s)),(1,.sl (.calls h)),(2,.sl (.ints rows)),(3,.sl (.ints o)),(9,.own 28 (List.length ([] : List (List Int)))),(10,.i (0:Int))],[(28,⟨36,.row (.intss ([] : List (List Int)))⟩)],[28,999]⟩)
    (Y∧Y)
    ⟨tt,tt⟩ ?_
   refine W.seq ?_
   refine Kk cok (tab45 ih) hnt [] [0,1,2,3,9,10,11] (⟨[(0,.v (.string s)),(1,.sl (.calls h)),(2,.sl (.ints rows)),(3,.sl (.ints o)),(9,.own 28 (List.length ([] : List (List Int)))),(10,.i (0:Int)),(11,.i (0:Int))],[(28,⟨36,.row (.intss ([] : List (List Int)))⟩)],[28,999]⟩)
    (Y∧Y)
    ⟨tt,tt⟩ ?_
   refine W.block ?_
   refine W.loop (ι := Nat × Int) (fun (x : Nat × Int)=>match x with | (j,d)=>(⟨[(0,.v (.string s)),(1,.sl (.calls h)),(2,.sl (.ints rows)),(3,.sl (.ints o)),(9,.own 28 (List.length ([] : List (List Int)))),(10,.i d),(11,.i ((j:Nat):Int))],[(28,⟨36,.row (.intss ([] : List (List Int)))⟩)],[28,999]⟩:St))
    (fun (x : Nat × Int)=>match x with | (j,d)=>(j≤o.length)∧(d=mask h.length (doneF o j)))
    (fun (x : Nat × Int)=>match x with | (j,d)=>(o.length - j:Nat)) (0,(0:Int)) ?_ ?_ ?_
   ·exact (show (0≤o.length)∧((0:Int)=mask h.length (doneF o 0)) from ⟨(by first | assumption | omega | rfl | (intro _ hjj; omega) | (simp; done) | (simp; omega)),(by exact (done_zero o _).symm)⟩)
   ·exact Sub.of [] (@cast (((((.string s):Value)=(.string s))∧(Sd (.calls h))∧(Sd (.ints rows))∧(Sd (.ints o))∧(((28:Nat)=28)∧((List.length ([] : List (List Int)))=(List.length ([] : List (List Int))))∧((28:Nat) ∈ ([28,999] : List Nat)))∧(Si (0:Int))∧((.int .i64 (0:Int):Value)=.int .i64 ((0:Nat):Int))∧Y)∧((((36:Nat)=36)∧(Sd (.intss ([] : List (List Int))))∧((28:Nat) ∈ ([28,999] : List Nat)))∧Y)∧(true=true)∧(true=true)) _ (by kernel_rfl) ⟨⟨rfl,rfl,rfl,rfl,⟨rfl,rfl,(by decide)⟩,rfl,(congrArg (Value.int .i64) (by first | rfl | omega | assumption | simp | simp_all)),tt⟩,⟨⟨rfl,rfl,(by decide)⟩,tt⟩,rfl,rfl⟩)
   ·rintro ⟨j,d⟩ hC0
    have hC : (j≤o.length)∧(d=mask h.length (doneF o j)) := hC0
    clear hC0
    obtain ⟨hj,hd⟩ := hC
    refine W.to (⟨[(0,.v (.string s)),(1,.sl (.calls h)),(2,.sl (.ints rows)),(3,.sl (.ints o)),(9,.own 28 (List.length ([] : List (List Int)))),(10,.i d),(11,.i ((j:Nat):Int))],[(28,⟨36,.row (.intss ([] : List (List Int)))⟩)],[28,999]⟩) rfl ?_
    refine W.seq ?_
    refine Kk cok (tab45 ih) hnt [] [0,1,2,3,9,10,11,32] (⟨[(0,.v (.string s)),(1,.sl (.calls h)),(2,.sl (.ints rows)),(3,.sl (.ints o)),(9,.own 28 (List.length ([] : List (List Int)))),(10,.i d),(11,.i ((j:Nat):Int)),(32,.b (decide (((j:Nat):Int)<(o.length:Int))))],[(28,⟨36,.row (.intss ([] : List (List Int)))⟩)],[28,999]⟩)
     (Y∧Y∧Y∧(Y∧Y∧Y)∧Y)
     ⟨tt,tt,tt,⟨tt,tt,tt⟩,tt⟩ ?_
    refine W.ifP (((j:Nat):Int)<(o.length:Int)) (.b (decide (((j:Nat):Int)<(o.length:Int)))) (by kernel_rfl) rfl trivial ?_ ?_
    ·intro h32
     refine W.skip (thenQ_normal ?_)
     refine W.seq ?_
     refine W.block ?_
     refine Lk cok (tab45 ih) hnt [] (⟨[(0,.v (.string s)),(1,.sl (.calls h)),(2,.sl (.ints rows)),(3,.sl (.ints o)),(9,.own 28 (List.length ([] : List (List Int)))),(10,.i (d+(power (o.getD j 0)))),(11,.i ((j:Nat):Int)),(32,.b (decide (((j:Nat):Int)<(o.length:Int)))),(35,.i d),(36,.sl (.ints o)),(37,.i ((j:Nat):Int)),(38,.ep [.i (o.getD j 0)]),(39,.i (o.getD j 0)),(40,.i (power (o.getD j 0))),(41,.i (d+(power (o.getD j 0))))],[(28,⟨36,.row (.intss ([] : List (List Int)))⟩)],[28,999]⟩)
      (Y∧Y∧Y∧(Y∧Y∧(0≤((j:Nat):Int))∧(((j:Nat):Int)<(o.length:Int)))∧Y∧(Y∧(Y∧Y)∧((o.getD j 0)≤60))∧(Y∧Y∧(Fits .i64 (d+(power (o.getD j 0)))))∧Y∧Y)
      ⟨tt,tt,tt,⟨tt,tt,(by omega),(by omega)⟩,tt,⟨tt,⟨tt,tt⟩,(by have := hio j (by omega); omega)⟩,⟨tt,tt,(by rw [hd,done_next ho.2.1 (by omega) (by have := hio j (by omega); omega) (by have := hio j (by omega); omega)]; have := mask_bnd h.length (doneF o (j+1)) (by omega); exact fits_i64 (by omega) (by omega))⟩,tt,tt⟩ ?_
     refine blockQ_normal (thenQ_normal ?_)
     refine Lk cok (tab45 ih) hnt [] (⟨[(0,.v (.string s)),(1,.sl (.calls h)),(2,.sl (.ints rows)),(3,.sl (.ints o)),(9,.own 28 (List.length ([] : List (List Int)))),(10,.i (d+(power (o.getD j 0)))),(11,.i (((j+1):Nat):Int)),(32,.b (decide (((j:Nat):Int)<(o.length:Int)))),(33,.i ((j:Nat):Int)),(34,.i (((j+1):Nat):Int)),(35,.i d),(36,.sl (.ints o)),(37,.i ((j:Nat):Int)),(38,.ep [.i (o.getD j 0)]),(39,.i (o.getD j 0)),(40,.i (power (o.getD j 0))),(41,.i (d+(power (o.getD j 0))))],[(28,⟨36,.row (.intss ([] : List (List Int)))⟩)],[28,999]⟩)
      (Y∧(Y∧Y∧(Fits .i64 (((j+1):Nat):Int)))∧Y∧Y)
      ⟨tt,⟨tt,tt,(by exact fits_i64 (by omega) (by omega))⟩,tt,tt⟩ ?_
     refine thenQ_normal ?_
     refine ⟨((j+1),(d+(power (o.getD j 0)))),(show ((j+1)≤o.length)∧((d+(power (o.getD j 0)))=mask h.length (doneF o (j+1))) from ⟨(by first | assumption | omega | rfl | (intro _ hjj; omega) | (simp; done) | (simp; omega)),(by rw [hd]; exact done_next ho.2.1 (by omega) (by have := hio j (by omega); omega) (by have := hio j (by omega); omega))⟩),(show o.length - (j+1)<o.length - j from (by first | omega | (simp_all; omega))),?_⟩
     exact Sub.of [] (@cast (((((.string s):Value)=(.string s))∧(Sd (.calls h))∧(Sd (.ints rows))∧(Sd (.ints o))∧(((28:Nat)=28)∧((List.length ([] : List (List Int)))=(List.length ([] : List (List Int))))∧((28:Nat) ∈ ([28,999] : List Nat)))∧(Si (d+(power (o.getD j 0))))∧(Si (((j+1):Nat):Int))∧Y)∧((((36:Nat)=36)∧(Sd (.intss ([] : List (List Int))))∧((28:Nat) ∈ ([28,999] : List Nat)))∧Y)∧(true=true)∧(true=true)) _ (by kernel_rfl) ⟨⟨rfl,rfl,rfl,rfl,⟨rfl,rfl,(by decide)⟩,rfl,rfl,tt⟩,⟨⟨rfl,rfl,(by decide)⟩,tt⟩,rfl,rfl⟩)
    ·intro n32
     refine W.exit (thenQ_exit (thenQ_exit (blockQ_hit ?_)))
     refine thenQ_normal ?_
     refine W.seq ?_
     refine Kk cok (tab45 ih) hnt [] [0,1,2,3,9,10,12] (⟨[(0,.v (.string s)),(1,.sl (.calls h)),(2,.sl (.ints rows)),(3,.sl (.ints o)),(9,.own 28 (List.length ([] : List (List Int)))),(10,.i d),(12,.i (0:Int))],[(28,⟨36,.row (.intss ([] : List (List Int)))⟩)],[28,999]⟩)
      (Y∧Y)
      ⟨tt,tt⟩ ?_
     refine W.block ?_
     refine W.loop (ι := Nat × (List (List Int))) (fun (x : Nat × (List (List Int)))=>match x with | (k,ou)=>(⟨[(0,.v (.string s)),(1,.sl (.calls h)),(2,.sl (.ints rows)),(3,.sl (.ints o)),(9,.own 28 ou.length),(10,.i d),(12,.i ((k:Nat):Int))],[(28,⟨36,.row (.intss ou)⟩)],[28,999]⟩:St))
      (fun (x : Nat × (List (List Int)))=>match x with | (k,ou)=>(k≤h.length)∧(ou=ordersUp s h (bitF rows) (h.length - o.length - 1) o k))
      (fun (x : Nat × (List (List Int)))=>match x with | (k,ou)=>(h.length - k:Nat)) (0,([] : List (List Int))) ?_ ?_ ?_
     ·exact (show (0≤h.length)∧(([] : List (List Int))=ordersUp s h (bitF rows) (h.length - o.length - 1) o 0) from ⟨(by first | assumption | omega | rfl | (intro _ hjj; omega) | (simp; done) | (simp; omega)),(by rfl)⟩)
     ·exact Sub.of [] (@cast (((((.string s):Value)=(.string s))∧(Sd (.calls h))∧(Sd (.ints rows))∧(Sd (.ints o))∧(((28:Nat)=28)∧((List.length ([] : List (List Int)))=(List.length ([] : List (List Int))))∧((28:Nat) ∈ ([28,999] : List Nat)))∧(Si d)∧((.int .i64 (0:Int):Value)=.int .i64 ((0:Nat):Int))∧Y)∧((((36:Nat)=36)∧(Sd (.intss ([] : List (List Int))))∧((28:Nat) ∈ ([28,999] : List Nat)))∧Y)∧(true=true)∧(true=true)) _ (by kernel_rfl) ⟨⟨rfl,rfl,rfl,rfl,⟨rfl,rfl,(by decide)⟩,rfl,(congrArg (Value.int .i64) (by first | rfl | omega | assumption | simp | simp_all)),tt⟩,⟨⟨rfl,rfl,(by decide)⟩,tt⟩,rfl,rfl⟩)
     ·rintro ⟨k,ou⟩ hC0
      have hC : (k≤h.length)∧(ou=ordersUp s h (bitF rows) (h.length - o.length - 1) o k) := hC0
      clear hC0
      obtain ⟨hk,hou⟩ := hC
      refine W.to (⟨[(0,.v (.string s)),(1,.sl (.calls h)),(2,.sl (.ints rows)),(3,.sl (.ints o)),(9,.own 28 ou.length),(10,.i d),(12,.i ((k:Nat):Int))],[(28,⟨36,.row (.intss ou)⟩)],[28,999]⟩) rfl ?_
      have hdd : d=mask h.length (hasN o) := by rw [hd]; exact done_all (by omega)
      refine W.seq ?_
      refine Kk cok (tab45 ih) hnt [] [0,1,2,3,9,10,12,45] (⟨[(0,.v (.string s)),(1,.sl (.calls h)),(2,.sl (.ints rows)),(3,.sl (.ints o)),(9,.own 28 ou.length),(10,.i d),(12,.i ((k:Nat):Int)),(45,.b (decide (((k:Nat):Int)<(h.length:Int))))],[(28,⟨36,.row (.intss ou)⟩)],[28,999]⟩)
       (Y∧Y∧Y∧(Y∧Y∧Y)∧Y)
       ⟨tt,tt,tt,⟨tt,tt,tt⟩,tt⟩ ?_
      refine W.ifP (((k:Nat):Int)<(h.length:Int)) (.b (decide (((k:Nat):Int)<(h.length:Int)))) (by kernel_rfl) rfl trivial ?_ ?_
      ·intro h45
       refine W.skip (thenQ_normal ?_)
       refine W.seq ?_
       refine W.block ?_
       refine W.KA cok (tab45 ih) hnt [] [0,1,2,3,9,10,12,64] (⟨[(0,.v (.string s)),(1,.sl (.calls h)),(2,.sl (.ints rows)),(3,.sl (.ints o)),(9,.own 28 ou.length),(10,.i d),(12,.i ((k:Nat):Int)),(64,.b ((decide ((bitOf d ((k:Nat):Int))=(0:Int))) && (decide ((bitsI .and .i64 (rows.getD k 0) d)=(rows.getD k 0)))))],[(28,⟨36,.row (.intss ou)⟩)],[28,999]⟩)
        ((fun (Z1:Bool)=>(Y∧(Y∧((Y∧((Y∧(Y∧Y))∧((((k:Nat):Int)≤60)∧(0≤d∧d≤4611686018427387904))))∧((Y∧(Y∧Y))∧(Y∧((Z1=true→Y)∧((Z1=true→Y)∧((Z1=true→(((Z1=true)∧Y)∧(((Z1=true)∧Y)∧((0≤((k:Nat):Int))∧(((k:Nat):Int)<(rows.length:Int))))))∧((Z1=true→((Z1=true)∧Y))∧((Z1=true→Y)∧((Z1=true→(((Z1=true)∧Y)∧(((Z1=true)∧Y)∧Y)))∧((Z1=true→Y)∧((Z1=true→Y)∧((Z1=true→(((Z1=true)∧Y)∧(((Z1=true)∧Y)∧((0≤((k:Nat):Int))∧(((k:Nat):Int)<(rows.length:Int))))))∧((Z1=true→((Z1=true)∧Y))∧((Z1=true→(((Z1=true)∧Y)∧(((Z1=true)∧Y)∧Y)))∧((Y∧((Z1=true→(Z1=true)∧Y)∧(Z1=false→Y)))∧Y)))))))))))))))))) (decide ((bitOf d ((k:Nat):Int))=(0:Int)))) (by kernel_rfl) (by kernel_rfl)
        ⟨tt,tt,⟨tt,⟨tt,tt,tt⟩,(by omega),(by rw [hd]; have := mask_bnd h.length (doneF o j) (by omega); omega)⟩,⟨tt,tt,tt⟩,tt,(fun _=>trivial),(fun _=>trivial),(fun hG=>⟨⟨hG,tt⟩,⟨hG,tt⟩,(by have hg0 : (bitOf d ((k:Nat):Int))=(0:Int) := of_decide_eq_true hG; omega),(by have hg0 : (bitOf d ((k:Nat):Int))=(0:Int) := of_decide_eq_true hG; omega)⟩),(fun hG=>⟨hG,tt⟩),(fun _=>trivial),(fun hG=>⟨⟨hG,tt⟩,⟨hG,tt⟩,tt⟩),(fun _=>trivial),(fun _=>trivial),(fun hG=>⟨⟨hG,tt⟩,⟨hG,tt⟩,(by have hg0 : (bitOf d ((k:Nat):Int))=(0:Int) := of_decide_eq_true hG; omega),(by have hg0 : (bitOf d ((k:Nat):Int))=(0:Int) := of_decide_eq_true hG; omega)⟩),(fun hG=>⟨hG,tt⟩),(fun hG=>⟨⟨hG,tt⟩,⟨hG,tt⟩,tt⟩),⟨tt,(fun hp=>⟨hp,tt⟩),(fun _=>trivial)⟩,tt⟩ ?_
       refine W.if' ((decide ((bitOf d ((k:Nat):Int))=(0:Int))) && (decide ((bitsI .and .i64 (rows.getD k 0) d)=(rows.getD k 0)))) (.b ((decide ((bitOf d ((k:Nat):Int))=(0:Int))) && (decide ((bitsI .and .i64 (rows.getD k 0) d)=(rows.getD k 0))))) (by kernel_rfl) rfl trivial ?_ ?_
       ·intro h64
        have h64_0 : (bitOf d ((k:Nat):Int))=(0:Int) := of_decide_eq_true (and_l h64)
        have h64_1 : (bitsI .and .i64 (rows.getD k 0) d)=(rows.getD k 0) := of_decide_eq_true (and_r h64)
        have hfk : freeB (bitF rows) h.length o k=true := free_spec (by omega) (by omega) (by rw [← hr,← hdd]; exact h64)
        refine Lk cok (tab45 ih) hnt [69,71,76] (⟨[(0,.v (.string s)),(1,.sl (.calls h)),(2,.sl (.ints rows)),(3,.sl (.ints o)),(9,.own 76 (List.length (ou++(ordersF s h (bitF rows) (h.length - (o++([((k:Nat):Int)])).length) (o++([((k:Nat):Int)])))))),(10,.i d),(12,.i ((k:Nat):Int)),(64,.b ((decide ((bitOf d ((k:Nat):Int))=(0:Int))) && (decide ((bitsI .and .i64 (rows.getD k 0) d)=(rows.getD k 0))))),(65,.own 28 ou.length),(66,.v (.string s)),(67,.sl (.calls h)),(68,.sl (.ints rows)),(69,.own 69 (List.length ([] : List Int))),(70,.sl (.ints o)),(71,.own 71 o.length),(72,.i ((k:Nat):Int)),(73,.sl (.ints ([((k:Nat):Int)]))),(74,.sl (.ints (o++([((k:Nat):Int)])))),(75,.sl (.intss (ordersF s h (bitF rows) (h.length - (o++([((k:Nat):Int)])).length) (o++([((k:Nat):Int)]))))),(76,.own 76 (List.length (ou++(ordersF s h (bitF rows) (h.length - (o++([((k:Nat):Int)])).length) (o++([((k:Nat):Int)]))))))],[(76,⟨36,.row (.intss (ou++(ordersF s h (bitF rows) (h.length - (o++([((k:Nat):Int)])).length) (o++([((k:Nat):Int)])))))⟩)],[76,74,73,71,69,28,999]⟩)
         (Y∧Y∧Y∧Y∧Y∧Y∧((Y∧((List.length ([] : List Int))=(List.length ([] : List Int))))∧Y∧(((List.length ([] : List Int))+o.length) * 8≤140737488355328))∧Y∧(Y∧Y)∧((Y∧(o.length=o.length))∧Y∧((o.length+(List.length ([((k:Nat):Int)]))) * 8≤140737488355328))∧(Y∧(Y∧Y∧Y∧Y∧Y)∧((isObject s=true)∧(validHistory h=true)∧(rows=rowsOf h.length (bitF rows))∧(headO h (o++([((k:Nat):Int)]))))∧(h.length - (o++([((k:Nat):Int)])).length<nn))∧((Y∧(ou.length=ou.length))∧Y∧((ou.length+(List.length (ordersF s h (bitF rows) (h.length - (o++([((k:Nat):Int)])).length) (o++([((k:Nat):Int)]))))) * 24≤140737488355328))∧Y∧Y)
         ⟨tt,tt,tt,tt,tt,tt,⟨⟨tt,rfl⟩,tt,(by first | omega | (simp; done) | (simp; omega) | (have h9 := upto_len6 (s := s) (f := bitF rows) (m := h.length - o.length - 1) (k := k) hv6 (by omega) (by omega) o; have h8 := rest_len (s := s) (f := bitF rows) (m := h.length - (o++[((k:Nat):Int)]).length) hv6 (by omega) (o++[((k:Nat):Int)]); (try rw [← hou] at h9); (try simp only [List.length_append,List.length_cons,List.length_nil] at *); omega))⟩,tt,⟨tt,tt⟩,⟨⟨tt,rfl⟩,tt,(by first | omega | (simp; done) | (simp; omega) | (have h9 := upto_len6 (s := s) (f := bitF rows) (m := h.length - o.length - 1) (k := k) hv6 (by omega) (by omega) o; have h8 := rest_len (s := s) (f := bitF rows) (m := h.length - (o++[((k:Nat):Int)]).length) hv6 (by omega) (o++[((k:Nat):Int)]); (try rw [← hou] at h9); (try simp only [List.length_append,List.length_cons,List.length_nil] at *); omega))⟩,⟨tt,⟨tt,tt,tt,tt,tt⟩,⟨(by exact hs),(by exact hv),(by exact hr),(by exact headO_snoc ho (by omega) (free_has hfk) (by omega))⟩,(by (try simp only [List.length_append,List.length_cons,List.length_nil]); omega)⟩,⟨⟨tt,rfl⟩,tt,(by first | omega | (simp; done) | (simp; omega) | (have h9 := upto_len6 (s := s) (f := bitF rows) (m := h.length - o.length - 1) (k := k) hv6 (by omega) (by omega) o; have h8 := rest_len (s := s) (f := bitF rows) (m := h.length - (o++[((k:Nat):Int)]).length) hv6 (by omega) (o++[((k:Nat):Int)]); (try rw [← hou] at h9); (try simp only [List.length_append,List.length_cons,List.length_nil] at *); omega))⟩,tt,tt⟩ ?_
        refine blockQ_normal (thenQ_normal ?_)
        refine Lk cok (tab45 ih) hnt [] (⟨[(0,.v (.string s)),(1,.sl (.calls h)),(2,.sl (.ints rows)),(3,.sl (.ints o)),(9,.own 76 (List.length (ou++(ordersF s h (bitF rows) (h.length - (o++([((k:Nat):Int)])).length) (o++([((k:Nat):Int)])))))),(10,.i d),(12,.i (((k+1):Nat):Int)),(46,.i ((k:Nat):Int)),(47,.i (((k+1):Nat):Int)),(64,.b ((decide ((bitOf d ((k:Nat):Int))=(0:Int))) && (decide ((bitsI .and .i64 (rows.getD k 0) d)=(rows.getD k 0))))),(65,.own 28 ou.length),(66,.v (.string s)),(67,.sl (.calls h)),(68,.sl (.ints rows)),(69,.own 69 (List.length ([] : List Int))),(70,.sl (.ints o)),(71,.own 71 o.length),(72,.i ((k:Nat):Int)),(73,.sl (.ints ([((k:Nat):Int)]))),(74,.sl (.ints (o++([((k:Nat):Int)])))),(75,.sl (.intss (ordersF s h (bitF rows) (h.length - (o++([((k:Nat):Int)])).length) (o++([((k:Nat):Int)]))))),(76,.own 76 (List.length (ou++(ordersF s h (bitF rows) (h.length - (o++([((k:Nat):Int)])).length) (o++([((k:Nat):Int)]))))))],[(76,⟨36,.row (.intss (ou++(ordersF s h (bitF rows) (h.length - (o++([((k:Nat):Int)])).length) (o++([((k:Nat):Int)])))))⟩)],[76,74,73,71,69,28,999]⟩)
         (Y∧(Y∧Y∧(Fits .i64 (((k+1):Nat):Int)))∧Y∧Y)
         ⟨tt,⟨tt,tt,(by exact fits_i64 (by omega) (by omega))⟩,tt,tt⟩ ?_
        refine thenQ_normal ?_
        refine ⟨((k+1),(ou++(ordersF s h (bitF rows) (h.length - (o++([((k:Nat):Int)])).length) (o++([((k:Nat):Int)]))))),(show ((k+1)≤h.length)∧((ou++(ordersF s h (bitF rows) (h.length - (o++([((k:Nat):Int)])).length) (o++([((k:Nat):Int)]))))=ordersUp s h (bitF rows) (h.length - o.length - 1) o (k+1)) from ⟨(by first | assumption | omega | rfl | (intro _ hjj; omega) | (simp; done) | (simp; omega)),(by first | (exact explain_step hfk hou) | (rw [up_no hfk]; exact hou))⟩),(show h.length - (k+1)<h.length - k from (by first | omega | (simp_all; omega))),?_⟩
        exact Sub.of [(28,76)] (@cast (((((.string s):Value)=(.string s))∧(Sd (.calls h))∧(Sd (.ints rows))∧(Sd (.ints o))∧(((76:Nat)=76)∧((List.length (ou++(ordersF s h (bitF rows) (h.length - (o++([((k:Nat):Int)])).length) (o++([((k:Nat):Int)])))))=(List.length (ou++(ordersF s h (bitF rows) (h.length - (o++([((k:Nat):Int)])).length) (o++([((k:Nat):Int)]))))))∧((28:Nat) ∈ ([28,999] : List Nat)))∧(Si d)∧(Si (((k+1):Nat):Int))∧Y)∧((((36:Nat)=36)∧(Sd (.intss (ou++(ordersF s h (bitF rows) (h.length - (o++([((k:Nat):Int)])).length) (o++([((k:Nat):Int)]))))))∧((28:Nat) ∈ ([28,999] : List Nat)))∧Y)∧(true=true)∧(true=true)) _ (by kernel_rfl) ⟨⟨rfl,rfl,rfl,rfl,⟨rfl,rfl,(by decide)⟩,rfl,rfl,tt⟩,⟨⟨rfl,rfl,(by decide)⟩,tt⟩,rfl,rfl⟩)
       ·intro n64
        have hfk : freeB (bitF rows) h.length o k=false := free_spec (by omega) (by omega) (by rw [← hr,← hdd]; exact n64)
        refine W.skip (blockQ_normal (thenQ_normal ?_))
        refine Lk cok (tab45 ih) hnt [] (⟨[(0,.v (.string s)),(1,.sl (.calls h)),(2,.sl (.ints rows)),(3,.sl (.ints o)),(9,.own 28 ou.length),(10,.i d),(12,.i (((k+1):Nat):Int)),(46,.i ((k:Nat):Int)),(47,.i (((k+1):Nat):Int)),(64,.b ((decide ((bitOf d ((k:Nat):Int))=(0:Int))) && (decide ((bitsI .and .i64 (rows.getD k 0) d)=(rows.getD k 0)))))],[(28,⟨36,.row (.intss ou)⟩)],[28,999]⟩)
         (Y∧(Y∧Y∧(Fits .i64 (((k+1):Nat):Int)))∧Y∧Y)
         ⟨tt,⟨tt,tt,(by exact fits_i64 (by omega) (by omega))⟩,tt,tt⟩ ?_
        refine thenQ_normal ?_
        refine ⟨((k+1),ou),(show ((k+1)≤h.length)∧(ou=ordersUp s h (bitF rows) (h.length - o.length - 1) o (k+1)) from ⟨(by first | assumption | omega | rfl | (intro _ hjj; omega) | (simp; done) | (simp; omega)),(by first | (exact explain_step hfk hou) | (rw [up_no hfk]; exact hou))⟩),(show h.length - (k+1)<h.length - k from (by first | omega | (simp_all; omega))),?_⟩
        exact Sub.of [] (@cast (((((.string s):Value)=(.string s))∧(Sd (.calls h))∧(Sd (.ints rows))∧(Sd (.ints o))∧(((28:Nat)=28)∧(ou.length=ou.length)∧((28:Nat) ∈ ([28,999] : List Nat)))∧(Si d)∧(Si (((k+1):Nat):Int))∧Y)∧((((36:Nat)=36)∧(Sd (.intss ou))∧((28:Nat) ∈ ([28,999] : List Nat)))∧Y)∧(true=true)∧(true=true)) _ (by kernel_rfl) ⟨⟨rfl,rfl,rfl,rfl,⟨rfl,rfl,(by decide)⟩,rfl,rfl,tt⟩,⟨⟨rfl,rfl,(by decide)⟩,tt⟩,rfl,rfl⟩)
      ·intro n45
       refine W.exit (thenQ_exit (thenQ_exit (blockQ_hit ?_)))
       refine thenQ_normal ?_
       refine Kk cok (tab45 ih) hnt [] [8] (⟨[(8,.own 28 ou.length)],[(28,⟨36,.row (.intss ou)⟩)],[28,999]⟩)
        (Y∧Y∧Y)
        ⟨tt,tt,tt⟩ ?_
       refine W.ret ?_
       exact endQ_ret (.own 28 ou.length) (by kernel_rfl) (@cast ((ou.length=ou.length)∧((.intss ou:Dat)=.intss (ordersF s h (bitF rows) (h.length - o.length) o))∧((28:Nat) ∉ ([] : List Nat))) _ (by kernel_rfl) ⟨rfl,⟨(congrArg Dat.intss (by exact explain_end (by omega) (by omega) hou)),(by decide)⟩⟩)
theorem ok45 : FnOK prog 45 fs45 := FnOK.rec' okS45
end Go.Proofs.Tryz
