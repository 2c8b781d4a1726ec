import Derived.Test.YtbmbdlgifplglaaGreatDoorZF4S0
import Derived.Test.YtbmbdlgifplglaaGreatDoorZF4S6
import Derived.Test.YtbmbdlgifplglaaGreatDoorZF4S1
set_option maxRecDepth 100000
set_option maxHeartbeats 1000000
set_option linter.unusedSimpArgs false
set_option linter.unusedVariables false
namespace Go.Proofs.Tryz
open Go.Ab Go.RowKit
def fs62 : FnS := fnS [.o,.s .ints,.o] [.str,.ints,.call] (fun _ (name,state,c,_)=>(.tup [.sl (.ints ((specStep name state c).1)),.b ((specStep name state c).2)],[],(state.length≤1000000)∧(∀ x ∈ state,-1000000000≤x∧x≤1000000000)∧(-1000000000≤c.arg∧c.arg≤1000000000)))
abbrev T62 : Tab := lk [(88,fs88)]
theorem tab62 : TabOK prog T62 := (TabOK.cons ok88 ent88 TabOK.nil)
abbrev v620 (state:List Int):AV:=.i (state.length:Int)
abbrev v621 (c:CallD):AV:=.b (decide (c.ret=(0:Int)))
abbrev v622 (state:List Int):AV:=.b (decide ((state.length:Int)=(0:Int)))
abbrev v623 (c:CallD):AV:=.b (decide (c.ret=(-1:Int)))
abbrev v624 (c:CallD) (state:List Int):AV:=.b (decide (c.ret=(state.getD 0 0)))
abbrev v625 (c:CallD) (state:List Int):AV:=.b (decide (c.ret=(state.getD (Int.toNat ((state.length:Int) - (1:Int))) 0)))
set_option maxRecDepth 100000 in
set_option maxHeartbeats 4000000 in
theorem ok62 : FnOK prog 62 fs62 := by
 refine FnOK.mk cok func62 rfl rfl rfl ?_
 rintro fl ⟨(name:ByteArray),(state : List Int),(c:CallD),_⟩ hpre F hnt0 _
 have hnt : F.nt=240 := hnt0.trans ntmps62
 replace hpre : (state.length≤1000000)∧(∀ x ∈ state,-1000000000≤x∧x≤1000000000)∧(-1000000000≤c.arg∧c.arg≤1000000000) := hpre
 obtain ⟨hl,hs,ha⟩ := hpre
 refine W.to (⟨[(0,.v (.string name)),(1,.sl (.ints state)),(2,.agg [.i c.proc,.i c.obj,.i c.kind,.i c.arg,.i c.ret,.i c.frm,.i c.to])],[],[999]⟩) rfl ?_
 refine W.lenOf 1 (.ints state) (by kernel_rfl) ?_
 intro hl_state; replace hl_state : List.length state≤9223372036854775807 := hl_state
 refine kS tab62 hnt [(0,.v (.string name)),(1,.sl (.ints state)),(5,.ptr 5 0)] [(5,⟨59,.fix [.i c.proc,.i c.obj,.i c.kind,.i c.arg,.i c.ret,.i c.frm,.i c.to]⟩)] [5,999] 182 [] tt ?_
 refine kE tab62 hnt [(0,.v (.string name)),(1,.sl (.ints state)),(5,.ptr 5 0),(8,(v620 state))] 182 [] tt ?_
 refine W.seq ?_
 refine kE tab62 hnt [(0,.v (.string name)),(1,.sl (.ints state)),(5,.ptr 5 0),(8,(v620 state)),(14,.b (decide (c.kind=(0:Int))))] 5042 [] tt ?_
 refine ifp (c.kind=(0:Int)) ?_ ?_
 ·intro h14
  refine W.seq ?_
  refine kE tab62 hnt [(1,.sl (.ints state)),(5,.ptr 5 0),(8,(v620 state)),(15,.v (.string name))] 2 [] tt ?_
  refine W.block ?_
  refine kE tab62 hnt [(1,.sl (.ints state)),(5,.ptr 5 0),(8,(v620 state)),(15,.v (.string name)),(16,.b (eqS name nRegister))] 1520 [] tt ?_
  refine ifb (eqS name nRegister) ?_ ?_
  ·intro h16
   refine kA tab62 hnt [(6,.sl (.ints ([c.arg]))),(7,(v621 c))] [(5,⟨59,.fix [.i c.proc,.i c.obj,.i c.kind,.i c.arg,.i c.ret,.i c.frm,.i c.to]⟩)] [20,5,999] 7781491010 [] tt ?_
   refine W.ret (blockQ_ret (thenQ_ret (thenQ_ret ?_)))
   exact endQ_ret (.tup [.sl (.ints ([c.arg])),.b (decide (c.ret=(0:Int)))]) (by kernel_rfl) (@cast (((.ints ([c.arg]):Dat)=.ints ((specStep name state c).1))∧((.bool (decide (c.ret=(0:Int))):Value)=.bool ((specStep name state c).2))∧Y) _ (by kernel_rfl) ⟨(congrArg Dat.ints (by simp only [specStep,(decide_eq_true h14),h16,bb])),(congrArg Value.bool (by simp only [specStep,(decide_eq_true h14),h16,bb])),tt⟩)
  ·intro n16
   refine kE tab62 hnt [(1,.sl (.ints state)),(5,.ptr 5 0),(8,(v620 state)),(15,.v (.string name)),(24,.b (eqS name nCounter))] 1520 [] tt ?_
   refine ifb (eqS name nCounter) ?_ ?_
   ·intro h24
    refine W.seq ?_
    refine kE tab62 hnt [(1,.sl (.ints state)),(5,.ptr 5 0),(27,(v622 state))] 560 [] tt ?_
    refine ifp ((state.length:Int)=(0:Int)) ?_ ?_
    ·intro h27
     refine kA tab62 hnt [(6,.sl (.ints ([c.arg]))),(7,(v621 c))] [(5,⟨59,.fix [.i c.proc,.i c.obj,.i c.kind,.i c.arg,.i c.ret,.i c.frm,.i c.to]⟩)] [30,5,999] 7781491010 [] tt ?_
     refine W.ret (thenQ_ret (blockQ_ret (thenQ_ret (thenQ_ret ?_))))
     exact endQ_ret (.tup [.sl (.ints ([c.arg])),.b (decide (c.ret=(0:Int)))]) (by kernel_rfl) (@cast (((.ints ([c.arg]):Dat)=.ints ((specStep name state c).1))∧((.bool (decide (c.ret=(0:Int))):Value)=.bool ((specStep name state c).2))∧Y) _ (by kernel_rfl) ⟨(congrArg Dat.ints (by simp only [specStep,(decide_eq_true h14),h24,(decide_eq_true h27),n16,bb])),(congrArg Value.bool (by simp only [specStep,(decide_eq_true h14),h24,(decide_eq_true h27),n16,bb])),tt⟩)
    ·intro n27
     refine W.skip (thenQ_normal ?_)
     have hs0 := hs _ (getD_mem state 0 (show 0<state.length by omega))
     refine kA tab62 hnt [(6,.sl (.ints ([((state.getD 0 0)+c.arg)]))),(7,(v621 c))] [(5,⟨59,.fix [.i c.proc,.i c.obj,.i c.kind,.i c.arg,.i c.ret,.i c.frm,.i c.to]⟩)] [40,5,999] 3014709057634922111 [0≤(0:Int),(0:Int)<(state.length:Int),Fits .i64 ((state.getD 0 0)+c.arg)] ⟨om,om,(by exact fits_i64 (by (first | omega | (simp only [List.length_set]; done) | (simp only [ln] at *; omega) | assumption)) (by (first | omega | (simp only [List.length_set]; done) | (simp only [ln] at *; omega) | assumption)))⟩ ?_
     refine W.ret (blockQ_ret (thenQ_ret (thenQ_ret ?_)))
     exact endQ_ret (.tup [.sl (.ints ([((state.getD 0 0)+c.arg)])),.b (decide (c.ret=(0:Int)))]) (by kernel_rfl) (@cast (((.ints ([((state.getD 0 0)+c.arg)]):Dat)=.ints ((specStep name state c).1))∧((.bool (decide (c.ret=(0:Int))):Value)=.bool ((specStep name state c).2))∧Y) _ (by kernel_rfl) ⟨(congrArg Dat.ints (by simp only [specStep,(decide_eq_true h14),h24,n16,(decide_eq_false n27),bb])),(congrArg Value.bool (by simp only [specStep,(decide_eq_true h14),h24,n16,(decide_eq_false n27),bb])),tt⟩)
   ·intro n24
    refine kE tab62 hnt [(1,.sl (.ints state)),(5,.ptr 5 0),(8,(v620 state)),(15,.v (.string name)),(44,.b (eqS name nMost))] 1520 [] tt ?_
    refine ifb (eqS name nMost) ?_ ?_
    ·intro h44
     refine W.seq ?_
     refine kA tab62 hnt [(1,.sl (.ints state)),(5,.ptr 5 0),(55,.b ((decide ((0:Int)<(state.length:Int))) && (decide (c.arg<(state.getD 0 0)))))] [(5,⟨59,.fix [.i c.proc,.i c.obj,.i c.kind,.i c.arg,.i c.ret,.i c.frm,.i c.to]⟩)] [5,999] 12132702148106 ((fun (Z1:Bool)=>([Z1=true→Y,Z1=true→(((Z1=true)∧Y)∧(Y∧((0≤(0:Int))∧((0:Int)<(state.length:Int))))),Z1=true→((Z1=true)∧Y),Z1=true→Y,Z1=true→((Z1=true)∧Y),Z1=true→(((Z1=true)∧Y)∧(((Z1=true)∧Y)∧Y)),Z1=true→(Z1=true)∧Y,Z1=false→Y]:PL)) (decide ((0:Int)<(state.length:Int)))) ⟨(fun _=>trivial),(fun hG=>⟨⟨hG,tt⟩,tt,(by have hg0 : (0:Int)<(state.length:Int) := of_decide_eq_true hG; omega),(by have hg0 : (0:Int)<(state.length:Int) := of_decide_eq_true hG; omega)⟩),(fun hG=>⟨hG,tt⟩),(fun _=>trivial),(fun hG=>⟨hG,tt⟩),(fun hG=>⟨⟨hG,tt⟩,⟨hG,tt⟩,tt⟩),(fun hp=>⟨hp,tt⟩),(fun _=>trivial)⟩ ?_
     refine ifb ((decide ((0:Int)<(state.length:Int))) && (decide (c.arg<(state.getD 0 0)))) ?_ ?_
     ·intro h55
      have h55_0 : (0:Int)<(state.length:Int) := of_decide_eq_true (and_l h55)
      have h55_1 : c.arg<(state.getD 0 0) := of_decide_eq_true (and_r h55)
      refine kA tab62 hnt [(6,.sl (.ints state)),(7,(v621 c))] [(5,⟨59,.fix [.i c.proc,.i c.obj,.i c.kind,.i c.arg,.i c.ret,.i c.frm,.i c.to]⟩)] [5,999] 10674200 [] tt ?_
      refine W.ret (thenQ_ret (blockQ_ret (thenQ_ret (thenQ_ret ?_))))
      exact endQ_ret (.tup [.sl (.ints state),.b (decide (c.ret=(0:Int)))]) (by kernel_rfl) (@cast (((.ints state:Dat)=.ints ((specStep name state c).1))∧((.bool (decide (c.ret=(0:Int))):Value)=.bool ((specStep name state c).2))∧Y) _ (by kernel_rfl) ⟨(congrArg Dat.ints (by simp only [specStep,(decide_eq_true h14),h44,h55,(and_l h55),(and_r h55),n16,n24,bb])),(congrArg Value.bool (by simp only [specStep,(decide_eq_true h14),h44,h55,(and_l h55),(and_r h55),n16,n24,bb])),tt⟩)
     ·intro n55
      refine W.skip (thenQ_normal ?_)
      refine kA tab62 hnt [(6,.sl (.ints ([c.arg]))),(7,(v621 c))] [(5,⟨59,.fix [.i c.proc,.i c.obj,.i c.kind,.i c.arg,.i c.ret,.i c.frm,.i c.to]⟩)] [62,5,999] 7781491010 [] tt ?_
      refine W.ret (blockQ_ret (thenQ_ret (thenQ_ret ?_)))
      exact endQ_ret (.tup [.sl (.ints ([c.arg])),.b (decide (c.ret=(0:Int)))]) (by kernel_rfl) (@cast (((.ints ([c.arg]):Dat)=.ints ((specStep name state c).1))∧((.bool (decide (c.ret=(0:Int))):Value)=.bool ((specStep name state c).2))∧Y) _ (by kernel_rfl) ⟨(congrArg Dat.ints (by simp only [specStep,(decide_eq_true h14),h44,n16,n24,n55,bb])),(congrArg Value.bool (by simp only [specStep,(decide_eq_true h14),h44,n16,n24,n55,bb])),tt⟩)
    ·intro n44
     refine kE tab62 hnt [(1,.sl (.ints state)),(5,.ptr 5 0),(66,.b (eqS name nSet))] 1520 [] tt ?_
     refine ifb (eqS name nSet) ?_ ?_
     ·intro h66
      refine W.seq ?_
      refine kE tab62 hnt [(1,.sl (.ints state)),(5,.ptr 5 0),(71,.b (hasInt state c.arg))] 1226360 [] tt ?_
      refine ifb (hasInt state c.arg) ?_ ?_
      ·intro h71
       refine kA tab62 hnt [(6,.sl (.ints state)),(7,(v621 c))] [(5,⟨59,.fix [.i c.proc,.i c.obj,.i c.kind,.i c.arg,.i c.ret,.i c.frm,.i c.to]⟩)] [5,999] 10674200 [] tt ?_
       refine W.ret (thenQ_ret (blockQ_ret (thenQ_ret (thenQ_ret ?_))))
       exact endQ_ret (.tup [.sl (.ints state),.b (decide (c.ret=(0:Int)))]) (by kernel_rfl) (@cast (((.ints state:Dat)=.ints ((specStep name state c).1))∧((.bool (decide (c.ret=(0:Int))):Value)=.bool ((specStep name state c).2))∧Y) _ (by kernel_rfl) ⟨(congrArg Dat.ints (by simp only [specStep,(decide_eq_true h14),h66,h71,n16,n24,n44,bb])),(congrArg Value.bool (by simp only [specStep,(decide_eq_true h14),h66,h71,n16,n24,n44,bb])),tt⟩)
      ·intro n71
       refine W.skip (thenQ_normal ?_)
       refine kA tab62 hnt [(6,.sl (.ints (state++([c.arg])))),(7,.b (decide (c.ret=(1:Int))))] [(5,⟨59,.fix [.i c.proc,.i c.obj,.i c.kind,.i c.arg,.i c.ret,.i c.frm,.i c.to]⟩)] [82,81,78,76,5,999] 27132388834633617710 [(List.length ([] : List Int))=(List.length ([] : List Int)),((List.length ([] : List Int))+state.length) * 8≤140737488355328,state.length=state.length,(state.length+(List.length ([c.arg]))) * 8≤140737488355328] ⟨rfl,ow,rfl,ow⟩ ?_ [76,78]
       refine W.ret (blockQ_ret (thenQ_ret (thenQ_ret ?_)))
       exact endQ_ret (.tup [.sl (.ints (state++([c.arg]))),.b (decide (c.ret=(1:Int)))]) (by kernel_rfl) (@cast (((.ints (state++([c.arg])):Dat)=.ints ((specStep name state c).1))∧((.bool (decide (c.ret=(1:Int))):Value)=.bool ((specStep name state c).2))∧Y) _ (by kernel_rfl) ⟨(congrArg Dat.ints (by simp only [specStep,(decide_eq_true h14),h66,n16,n24,n44,n71,bb])),(congrArg Value.bool (by simp only [specStep,(decide_eq_true h14),h66,n16,n24,n44,n71,bb])),tt⟩)
     ·intro n66
      refine W.skip (blockQ_normal (thenQ_normal ?_))
      refine kA tab62 hnt [(6,.sl (.ints (state++([c.arg])))),(7,(v621 c))] [(5,⟨59,.fix [.i c.proc,.i c.obj,.i c.kind,.i c.arg,.i c.ret,.i c.frm,.i c.to]⟩)] [92,91,88,86,5,999] 27132388834633617710 [(List.length ([] : List Int))=(List.length ([] : List Int)),((List.length ([] : List Int))+state.length) * 8≤140737488355328,state.length=state.length,(state.length+(List.length ([c.arg]))) * 8≤140737488355328] ⟨rfl,ow,rfl,ow⟩ ?_ [86,88]
      refine W.ret (thenQ_ret ?_)
      exact endQ_ret (.tup [.sl (.ints (state++([c.arg]))),.b (decide (c.ret=(0:Int)))]) (by kernel_rfl) (@cast (((.ints (state++([c.arg])):Dat)=.ints ((specStep name state c).1))∧((.bool (decide (c.ret=(0:Int))):Value)=.bool ((specStep name state c).2))∧Y) _ (by kernel_rfl) ⟨(congrArg Dat.ints (by simp only [specStep,(decide_eq_true h14),n16,n24,n44,n66,bb])),(congrArg Value.bool (by simp only [specStep,(decide_eq_true h14),n16,n24,n44,n66,bb])),tt⟩)
 ·intro n14
  refine W.skip (thenQ_normal ?_)
  refine W.seq ?_
  refine kE tab62 hnt [(0,.v (.string name)),(1,.sl (.ints state)),(5,.ptr 5 0),(8,(v620 state)),(98,.b (decide (c.kind=(2:Int))))] 5042 [] tt ?_
  refine ifp (c.kind=(2:Int)) ?_ ?_
  ·intro h98
   refine W.seq ?_
   refine kE tab62 hnt [(1,.sl (.ints state)),(5,.ptr 5 0),(8,(v620 state)),(99,.v (.string name))] 2 [] tt ?_
   refine W.block ?_
   refine kE tab62 hnt [(1,.sl (.ints state)),(5,.ptr 5 0),(8,(v620 state)),(99,.v (.string name)),(100,.b (eqS name nQueue))] 1520 [] tt ?_
   refine ifb (eqS name nQueue) ?_ ?_
   ·intro h100
    refine W.seq ?_
    refine kE tab62 hnt [(1,.sl (.ints state)),(5,.ptr 5 0),(103,(v622 state))] 560 [] tt ?_
    refine ifp ((state.length:Int)=(0:Int)) ?_ ?_
    ·intro h103
     refine kA tab62 hnt [(6,.sl (.ints state)),(7,(v623 c))] [(5,⟨59,.fix [.i c.proc,.i c.obj,.i c.kind,.i c.arg,.i c.ret,.i c.frm,.i c.to]⟩)] [5,999] 10674200 [] tt ?_
     refine W.ret (thenQ_ret (blockQ_ret (thenQ_ret (thenQ_ret ?_))))
     exact endQ_ret (.tup [.sl (.ints state),.b (decide (c.ret=(-1:Int)))]) (by kernel_rfl) (@cast (((.ints state:Dat)=.ints ((specStep name state c).1))∧((.bool (decide (c.ret=(-1:Int))):Value)=.bool ((specStep name state c).2))∧Y) _ (by kernel_rfl) ⟨(congrArg Dat.ints (by simp only [specStep,(decide_eq_true h98),h100,(decide_eq_true h103),(decide_eq_false n14),bb])),(congrArg Value.bool (by simp only [specStep,(decide_eq_true h98),h100,(decide_eq_true h103),(decide_eq_false n14),bb])),tt⟩)
    ·intro n103
     refine W.skip (thenQ_normal ?_)
     refine kA tab62 hnt [(6,.sl (.ints state)),(7,(v624 c state))] [(5,⟨59,.fix [.i c.proc,.i c.obj,.i c.kind,.i c.arg,.i c.ret,.i c.frm,.i c.to]⟩)] [5,999] 5672719622324 [0≤(0:Int),(0:Int)<(state.length:Int)] ⟨om,om⟩ ?_
     refine W.ret (blockQ_ret (thenQ_ret (thenQ_ret ?_)))
     exact endQ_ret (.tup [.sl (.ints state),.b (decide (c.ret=(state.getD 0 0)))]) (by kernel_rfl) (@cast (((.ints state:Dat)=.ints ((specStep name state c).1))∧((.bool (decide (c.ret=(state.getD 0 0))):Value)=.bool ((specStep name state c).2))∧Y) _ (by kernel_rfl) ⟨(congrArg Dat.ints (by simp only [specStep,(decide_eq_true h98),h100,(decide_eq_false n14),(decide_eq_false n103),bb])),(congrArg Value.bool (by simp only [specStep,(decide_eq_true h98),h100,(decide_eq_false n14),(decide_eq_false n103),bb])),tt⟩)
   ·intro n100
    refine kE tab62 hnt [(1,.sl (.ints state)),(5,.ptr 5 0),(8,(v620 state)),(99,.v (.string name)),(115,.b (eqS name nStack))] 1520 [] tt ?_
    refine ifb (eqS name nStack) ?_ ?_
    ·intro h115
     refine W.seq ?_
     refine kE tab62 hnt [(1,.sl (.ints state)),(5,.ptr 5 0),(8,(v620 state)),(118,(v622 state))] 560 [] tt ?_
     refine ifp ((state.length:Int)=(0:Int)) ?_ ?_
     ·intro h118
      refine kA tab62 hnt [(6,.sl (.ints state)),(7,(v623 c))] [(5,⟨59,.fix [.i c.proc,.i c.obj,.i c.kind,.i c.arg,.i c.ret,.i c.frm,.i c.to]⟩)] [5,999] 10674200 [] tt ?_
      refine W.ret (thenQ_ret (blockQ_ret (thenQ_ret (thenQ_ret ?_))))
      exact endQ_ret (.tup [.sl (.ints state),.b (decide (c.ret=(-1:Int)))]) (by kernel_rfl) (@cast (((.ints state:Dat)=.ints ((specStep name state c).1))∧((.bool (decide (c.ret=(-1:Int))):Value)=.bool ((specStep name state c).2))∧Y) _ (by kernel_rfl) ⟨(congrArg Dat.ints (by simp only [specStep,(decide_eq_true h98),h115,(decide_eq_true h118),(decide_eq_false n14),n100,bb])),(congrArg Value.bool (by simp only [specStep,(decide_eq_true h98),h115,(decide_eq_true h118),(decide_eq_false n14),n100,bb])),tt⟩)
     ·intro n118
      refine W.skip (thenQ_normal ?_)
      refine kA tab62 hnt [(6,.sl (.ints state)),(7,(v625 c state))] [(5,⟨59,.fix [.i c.proc,.i c.obj,.i c.kind,.i c.arg,.i c.ret,.i c.frm,.i c.to]⟩)] [5,999] 37218713449332431 [Fits .i64 ((state.length:Int) - (1:Int)),0≤((state.length:Int) - (1:Int)),((state.length:Int) - (1:Int))<(state.length:Int)] ⟨fi,om,om⟩ ?_
      refine W.ret (blockQ_ret (thenQ_ret (thenQ_ret ?_)))
      exact endQ_ret (.tup [.sl (.ints state),.b (decide (c.ret=(state.getD (Int.toNat ((state.length:Int) - (1:Int))) 0)))]) (by kernel_rfl) (@cast (((.ints state:Dat)=.ints ((specStep name state c).1))∧((.bool (decide (c.ret=(state.getD (Int.toNat ((state.length:Int) - (1:Int))) 0))):Value)=.bool ((specStep name state c).2))∧Y) _ (by kernel_rfl) ⟨(congrArg Dat.ints (by first | (rw [show Int.toNat (((List.length state:Nat):Int) - (1:Int))=state.length - 1 by omega]; simp only [specStep,(decide_eq_true h98),h115,(decide_eq_false n14),n100,(decide_eq_false n118),bb]; done) | simp only [specStep,(decide_eq_true h98),h115,(decide_eq_false n14),n100,(decide_eq_false n118),bb])),(congrArg Value.bool (by first | (rw [show Int.toNat (((List.length state:Nat):Int) - (1:Int))=state.length - 1 by omega]; simp only [specStep,(decide_eq_true h98),h115,(decide_eq_false n14),n100,(decide_eq_false n118),bb]; done) | simp only [specStep,(decide_eq_true h98),h115,(decide_eq_false n14),n100,(decide_eq_false n118),bb])),tt⟩)
    ·intro n115
     refine kE tab62 hnt [(1,.sl (.ints state)),(5,.ptr 5 0),(8,(v620 state)),(132,.b (eqS name nSet))] 1520 [] tt ?_
     refine ifb (eqS name nSet) ?_ ?_
     ·intro h132
      refine W.seq ?_
      refine kE tab62 hnt [(1,.sl (.ints state)),(5,.ptr 5 0),(137,.b (hasInt state c.arg))] 1226360 [] tt ?_
      refine ifb (hasInt state c.arg) ?_ ?_
      ·intro h137
       refine kA tab62 hnt [(6,.sl (.ints state)),(7,.b (decide (c.ret=(1:Int))))] [(5,⟨59,.fix [.i c.proc,.i c.obj,.i c.kind,.i c.arg,.i c.ret,.i c.frm,.i c.to]⟩)] [5,999] 10674200 [] tt ?_
       refine W.ret (thenQ_ret (blockQ_ret (thenQ_ret (thenQ_ret ?_))))
       exact endQ_ret (.tup [.sl (.ints state),.b (decide (c.ret=(1:Int)))]) (by kernel_rfl) (@cast (((.ints state:Dat)=.ints ((specStep name state c).1))∧((.bool (decide (c.ret=(1:Int))):Value)=.bool ((specStep name state c).2))∧Y) _ (by kernel_rfl) ⟨(congrArg Dat.ints (by simp only [specStep,(decide_eq_true h98),h132,h137,(decide_eq_false n14),n100,n115,bb])),(congrArg Value.bool (by simp only [specStep,(decide_eq_true h98),h132,h137,(decide_eq_false n14),n100,n115,bb])),tt⟩)
      ·intro n137
       refine W.skip (thenQ_normal ?_)
       refine kA tab62 hnt [(6,.sl (.ints state)),(7,(v621 c))] [(5,⟨59,.fix [.i c.proc,.i c.obj,.i c.kind,.i c.arg,.i c.ret,.i c.frm,.i c.to]⟩)] [5,999] 10674200 [] tt ?_
       refine W.ret (blockQ_ret (thenQ_ret (thenQ_ret ?_)))
       exact endQ_ret (.tup [.sl (.ints state),.b (decide (c.ret=(0:Int)))]) (by kernel_rfl) (@cast (((.ints state:Dat)=.ints ((specStep name state c).1))∧((.bool (decide (c.ret=(0:Int))):Value)=.bool ((specStep name state c).2))∧Y) _ (by kernel_rfl) ⟨(congrArg Dat.ints (by simp only [specStep,(decide_eq_true h98),h132,(decide_eq_false n14),n100,n115,n137,bb])),(congrArg Value.bool (by simp only [specStep,(decide_eq_true h98),h132,(decide_eq_false n14),n100,n115,n137,bb])),tt⟩)
     ·intro n132
      refine W.skip (blockQ_normal (thenQ_normal ?_))
      refine W.seq ?_
      refine kE tab62 hnt [(1,.sl (.ints state)),(5,.ptr 5 0),(147,(v622 state))] 560 [] tt ?_
      refine ifp ((state.length:Int)=(0:Int)) ?_ ?_
      ·intro h147
       refine kA tab62 hnt [(6,.sl (.ints state)),(7,(v621 c))] [(5,⟨59,.fix [.i c.proc,.i c.obj,.i c.kind,.i c.arg,.i c.ret,.i c.frm,.i c.to]⟩)] [5,999] 10674200 [] tt ?_
       refine W.ret (thenQ_ret (thenQ_ret ?_))
       exact endQ_ret (.tup [.sl (.ints state),.b (decide (c.ret=(0:Int)))]) (by kernel_rfl) (@cast (((.ints state:Dat)=.ints ((specStep name state c).1))∧((.bool (decide (c.ret=(0:Int))):Value)=.bool ((specStep name state c).2))∧Y) _ (by kernel_rfl) ⟨(congrArg Dat.ints (by simp only [specStep,(decide_eq_true h98),(decide_eq_true h147),(decide_eq_false n14),n100,n115,n132,bb])),(congrArg Value.bool (by simp only [specStep,(decide_eq_true h98),(decide_eq_true h147),(decide_eq_false n14),n100,n115,n132,bb])),tt⟩)
      ·intro n147
       refine W.skip (thenQ_normal ?_)
       refine kA tab62 hnt [(6,.sl (.ints state)),(7,(v624 c state))] [(5,⟨59,.fix [.i c.proc,.i c.obj,.i c.kind,.i c.arg,.i c.ret,.i c.frm,.i c.to]⟩)] [5,999] 5672719622324 [0≤(0:Int),(0:Int)<(state.length:Int)] ⟨om,om⟩ ?_
       refine W.ret (thenQ_ret ?_)
       exact endQ_ret (.tup [.sl (.ints state),.b (decide (c.ret=(state.getD 0 0)))]) (by kernel_rfl) (@cast (((.ints state:Dat)=.ints ((specStep name state c).1))∧((.bool (decide (c.ret=(state.getD 0 0))):Value)=.bool ((specStep name state c).2))∧Y) _ (by kernel_rfl) ⟨(congrArg Dat.ints (by simp only [specStep,(decide_eq_true h98),(decide_eq_false n14),n100,n115,n132,(decide_eq_false n147),bb])),(congrArg Value.bool (by simp only [specStep,(decide_eq_true h98),(decide_eq_false n14),n100,n115,n132,(decide_eq_false n147),bb])),tt⟩)
  ·intro n98
   refine W.skip (thenQ_normal ?_)
   refine W.seq ?_
   refine kE tab62 hnt [(1,.sl (.ints state)),(5,.ptr 5 0),(8,(v620 state)),(159,.v (.string name))] 2 [] tt ?_
   refine W.block ?_
   refine kE tab62 hnt [(1,.sl (.ints state)),(5,.ptr 5 0),(8,(v620 state)),(159,.v (.string name)),(160,.b (eqS name nQueue))] 1520 [] tt ?_
   refine ifb (eqS name nQueue) ?_ ?_
   ·intro h160
    refine W.seq ?_
    refine kE tab62 hnt [(1,.sl (.ints state)),(5,.ptr 5 0),(163,(v622 state))] 560 [] tt ?_
    refine ifp ((state.length:Int)=(0:Int)) ?_ ?_
    ·intro h163
     refine kA tab62 hnt [(6,.sl (.ints state)),(7,(v623 c))] [(5,⟨59,.fix [.i c.proc,.i c.obj,.i c.kind,.i c.arg,.i c.ret,.i c.frm,.i c.to]⟩)] [5,999] 10674200 [] tt ?_
     refine W.ret (thenQ_ret (blockQ_ret (thenQ_ret ?_)))
     exact endQ_ret (.tup [.sl (.ints state),.b (decide (c.ret=(-1:Int)))]) (by kernel_rfl) (@cast (((.ints state:Dat)=.ints ((specStep name state c).1))∧((.bool (decide (c.ret=(-1:Int))):Value)=.bool ((specStep name state c).2))∧Y) _ (by kernel_rfl) ⟨(congrArg Dat.ints (by simp only [specStep,h160,(decide_eq_true h163),(decide_eq_false n14),(decide_eq_false n98),bb])),(congrArg Value.bool (by simp only [specStep,h160,(decide_eq_true h163),(decide_eq_false n14),(decide_eq_false n98),bb])),tt⟩)
    ·intro n163
     refine W.skip (thenQ_normal ?_)
     refine kA tab62 hnt [(6,.sl (.ints (List.drop 1 (List.take state.length state)))),(7,(v624 c state))] [(5,⟨59,.fix [.i c.proc,.i c.obj,.i c.kind,.i c.arg,.i c.ret,.i c.frm,.i c.to]⟩)] [5,999] 3014715788809009409 [0≤(1:Int),(1:Int)≤(state.length:Int),(state.length:Int)≤(state.length:Int),0≤(0:Int),(0:Int)<(state.length:Int)] ⟨om,om,om,om,om⟩ ?_
     refine W.ret (blockQ_ret (thenQ_ret ?_))
     exact endQ_ret (.tup [.sl (.ints (List.drop 1 (List.take state.length state))),.b (decide (c.ret=(state.getD 0 0)))]) (by kernel_rfl) (@cast (((.ints (List.drop 1 (List.take state.length state)):Dat)=.ints ((specStep name state c).1))∧((.bool (decide (c.ret=(state.getD 0 0))):Value)=.bool ((specStep name state c).2))∧Y) _ (by kernel_rfl) ⟨(congrArg Dat.ints (by first | (simp only [specStep,h160,(decide_eq_false n14),(decide_eq_false n98),(decide_eq_false n163),bb,List.take_length]; done) | simp only [specStep,h160,(decide_eq_false n14),(decide_eq_false n98),(decide_eq_false n163),bb])),(congrArg Value.bool (by first | (simp only [specStep,h160,(decide_eq_false n14),(decide_eq_false n98),(decide_eq_false n163),bb,List.take_length]; done) | simp only [specStep,h160,(decide_eq_false n14),(decide_eq_false n98),(decide_eq_false n163),bb])),tt⟩)
   ·intro n160
    refine kE tab62 hnt [(1,.sl (.ints state)),(5,.ptr 5 0),(8,(v620 state)),(159,.v (.string name)),(176,.b (eqS name nStack))] 1520 [] tt ?_
    refine ifb (eqS name nStack) ?_ ?_
    ·intro h176
     refine W.seq ?_
     refine kE tab62 hnt [(1,.sl (.ints state)),(5,.ptr 5 0),(8,(v620 state)),(179,(v622 state))] 560 [] tt ?_
     refine ifp ((state.length:Int)=(0:Int)) ?_ ?_
     ·intro h179
      refine kA tab62 hnt [(6,.sl (.ints state)),(7,(v623 c))] [(5,⟨59,.fix [.i c.proc,.i c.obj,.i c.kind,.i c.arg,.i c.ret,.i c.frm,.i c.to]⟩)] [5,999] 10674200 [] tt ?_
      refine W.ret (thenQ_ret (blockQ_ret (thenQ_ret ?_)))
      exact endQ_ret (.tup [.sl (.ints state),.b (decide (c.ret=(-1:Int)))]) (by kernel_rfl) (@cast (((.ints state:Dat)=.ints ((specStep name state c).1))∧((.bool (decide (c.ret=(-1:Int))):Value)=.bool ((specStep name state c).2))∧Y) _ (by kernel_rfl) ⟨(congrArg Dat.ints (by simp only [specStep,h176,(decide_eq_true h179),(decide_eq_false n14),(decide_eq_false n98),n160,bb])),(congrArg Value.bool (by simp only [specStep,h176,(decide_eq_true h179),(decide_eq_false n14),(decide_eq_false n98),n160,bb])),tt⟩)
     ·intro n179
      refine W.skip (thenQ_normal ?_)
      refine kA tab62 hnt [(6,.sl (.ints (List.take (Int.toNat ((state.length:Int) - (1:Int))) state))),(7,(v625 c state))] [(5,⟨59,.fix [.i c.proc,.i c.obj,.i c.kind,.i c.arg,.i c.ret,.i c.frm,.i c.to]⟩)] [5,999] 129773629480421234250384959 [Fits .i64 ((state.length:Int) - (1:Int)),0≤(0:Int),(0:Int)≤((state.length:Int) - (1:Int)),((state.length:Int) - (1:Int))≤(state.length:Int),Fits .i64 ((state.length:Int) - (1:Int)),0≤((state.length:Int) - (1:Int)),((state.length:Int) - (1:Int))<(state.length:Int)] ⟨fi,om,om,om,fi,om,om⟩ ?_
      refine W.ret (blockQ_ret (thenQ_ret ?_))
      exact endQ_ret (.tup [.sl (.ints (List.take (Int.toNat ((state.length:Int) - (1:Int))) state)),.b (decide (c.ret=(state.getD (Int.toNat ((state.length:Int) - (1:Int))) 0)))]) (by kernel_rfl) (@cast (((.ints (List.take (Int.toNat ((state.length:Int) - (1:Int))) state):Dat)=.ints ((specStep name state c).1))∧((.bool (decide (c.ret=(state.getD (Int.toNat ((state.length:Int) - (1:Int))) 0))):Value)=.bool ((specStep name state c).2))∧Y) _ (by kernel_rfl) ⟨(congrArg Dat.ints (by first | (rw [show Int.toNat (((List.length state:Nat):Int) - (1:Int))=state.length - 1 by omega]; simp only [specStep,h176,(decide_eq_false n14),(decide_eq_false n98),n160,(decide_eq_false n179),bb]; done) | simp only [specStep,h176,(decide_eq_false n14),(decide_eq_false n98),n160,(decide_eq_false n179),bb])),(congrArg Value.bool (by first | (rw [show Int.toNat (((List.length state:Nat):Int) - (1:Int))=state.length - 1 by omega]; simp only [specStep,h176,(decide_eq_false n14),(decide_eq_false n98),n160,(decide_eq_false n179),bb]; done) | simp only [specStep,h176,(decide_eq_false n14),(decide_eq_false n98),n160,(decide_eq_false n179),bb])),tt⟩)
    ·intro n176
     refine kE tab62 hnt [(1,.sl (.ints state)),(5,.ptr 5 0),(8,(v620 state)),(196,.b (eqS name nSet))] 1520 [] tt ?_
     refine ifb (eqS name nSet) ?_ ?_
     ·intro h196
      refine W.seq ?_
      refine kE tab62 hnt [(1,.sl (.ints state)),(5,.ptr 5 0),(8,(v620 state)),(9,.i (0:Int))] 2 [] tt ?_
      refine W.block ?_
      refine W.loop (ι := Nat) (fun (i:Nat)=>(⟨[(1,.sl (.ints state)),(5,.ptr 5 0),(8,(v620 state)),(9,.i ((i:Nat):Int))],[(5,⟨59,.fix [.i c.proc,.i c.obj,.i c.kind,.i c.arg,.i c.ret,.i c.frm,.i c.to]⟩)],[5,999]⟩:St))
       (fun (i:Nat)=>(i≤state.length)∧(∀ j,j<i→¬ state.getD j 0=c.arg))
       (fun (i:Nat)=>(state.length - i:Nat)) (0) ?_ ?_ ?_
      ·exact ⟨oi,(by exact upto_zero)⟩
      ·exact Sk
      ·rintro i hC0
       obtain ⟨hi,hA⟩ := hC0
       refine W.seq ?_
       refine kE tab62 hnt [(1,.sl (.ints state)),(5,.ptr 5 0),(8,(v620 state)),(9,.i ((i:Nat):Int)),(200,.b (decide (((i:Nat):Int)<(state.length:Int))))] 5042 [] tt ?_
       refine ifp (((i:Nat):Int)<(state.length:Int)) ?_ ?_
       ·intro h200
        refine W.skip (thenQ_normal ?_)
        refine W.seq ?_
        refine W.block ?_
        refine kA tab62 hnt [(1,.sl (.ints state)),(5,.ptr 5 0),(8,(v620 state)),(9,.i ((i:Nat):Int)),(209,.b (decide ((state.getD i 0)=c.arg)))] [(5,⟨59,.fix [.i c.proc,.i c.obj,.i c.kind,.i c.arg,.i c.ret,.i c.frm,.i c.to]⟩)] [5,999] 24117073184 [0≤((i:Nat):Int),((i:Nat):Int)<(state.length:Int)] ⟨om,om⟩ ?_
        refine ifp ((state.getD i 0)=c.arg) ?_ ?_
        ·intro h209
         refine kA tab62 hnt [(6,.sl (.ints ((List.take i state)++(List.drop (i+1) (List.take state.length state))))),(7,.b (decide (c.ret=(1:Int))))] [(5,⟨59,.fix [.i c.proc,.i c.obj,.i c.kind,.i c.arg,.i c.ret,.i c.frm,.i c.to]⟩)] [219,214,210,5,999] 620702028212171930210157737640419 [0≤(0:Int),(0:Int)≤((i:Nat):Int),((i:Nat):Int)≤(state.length:Int),(List.length ([] : List Int))=(List.length ([] : List Int)),((List.length ([] : List Int))+(List.length (List.take i state))) * 8≤140737488355328,Fits .i64 (((i+1):Nat):Int),0≤(((i+1):Nat):Int),(((i+1):Nat):Int)≤(state.length:Int),(state.length:Int)≤(state.length:Int),(List.length (List.take i state))=(List.length (List.take i state)),((List.length (List.take i state))+(List.length (List.drop (i+1) (List.take state.length state)))) * 8≤140737488355328] ⟨om,om,om,rfl,ow,fi,om,om,om,rfl,ow⟩ ?_ [210,214]
         refine W.ret (blockQ_ret (thenQ_ret (thenQ_ret (blockQ_ret (thenQ_ret (blockQ_ret (thenQ_ret ?_)))))))
         exact endQ_ret (.tup [.sl (.ints ((List.take i state)++(List.drop (i+1) (List.take state.length state)))),.b (decide (c.ret=(1:Int)))]) (by kernel_rfl) (@cast (((.ints ((List.take i state)++(List.drop (i+1) (List.take state.length state))):Dat)=.ints ((specStep name state c).1))∧((.bool (decide (c.ret=(1:Int))):Value)=.bool ((specStep name state c).2))∧Y) _ (by kernel_rfl) ⟨(congrArg Dat.ints (by have hh : hasInt state c.arg=true := anyN_true (i := i) (by omega) (decide_eq_true h209); have he := erase_at state c.arg i (by omega) h209 hA; first | (simp only [specStep,hh,h196,(decide_eq_true h200),(decide_eq_true h209),(decide_eq_false n14),(decide_eq_false n98),n160,n176,bb]; done) | (rw [List.take_length,he]; simp only [specStep,hh,h196,(decide_eq_true h200),(decide_eq_true h209),(decide_eq_false n14),(decide_eq_false n98),n160,n176,bb]))),(congrArg Value.bool (by have hh : hasInt state c.arg=true := anyN_true (i := i) (by omega) (decide_eq_true h209); have he := erase_at state c.arg i (by omega) h209 hA; first | (simp only [specStep,hh,h196,(decide_eq_true h200),(decide_eq_true h209),(decide_eq_false n14),(decide_eq_false n98),n160,n176,bb]; done) | (rw [List.take_length,he]; simp only [specStep,hh,h196,(decide_eq_true h200),(decide_eq_true h209),(decide_eq_false n14),(decide_eq_false n98),n160,n176,bb]))),tt⟩)
        ·intro n209
         refine W.skip (blockQ_normal (thenQ_normal ?_))
         refine lE tab62 hnt [(1,.sl (.ints state)),(5,.ptr 5 0),(8,(v620 state)),(9,.i (((i+1):Nat):Int))] 15869 [Fits .i64 (((i+1):Nat):Int)] fi ?_
         refine thenQ_normal ?_
         refine ⟨((i+1)),⟨oi,(by exact upto_succ hA n209)⟩,(show state.length - (i+1)<state.length - i from o2),?_⟩
         exact Sk
       ·intro n200
        refine W.exit (thenQ_exit (thenQ_exit (blockQ_hit ?_)))
        refine thenQ_normal ?_
        refine kA tab62 hnt [(6,.sl (.ints state)),(7,(v621 c))] [(5,⟨59,.fix [.i c.proc,.i c.obj,.i c.kind,.i c.arg,.i c.ret,.i c.frm,.i c.to]⟩)] [5,999] 10674200 [] tt ?_
        refine W.ret (blockQ_ret (thenQ_ret ?_))
        exact endQ_ret (.tup [.sl (.ints state),.b (decide (c.ret=(0:Int)))]) (by kernel_rfl) (@cast (((.ints state:Dat)=.ints ((specStep name state c).1))∧((.bool (decide (c.ret=(0:Int))):Value)=.bool ((specStep name state c).2))∧Y) _ (by kernel_rfl) ⟨(congrArg Dat.ints (by have hh : hasInt state c.arg=false := anyN_false (fun j hj=>decide_eq_false (hA j (by omega))); simp only [specStep,hh,h196,(decide_eq_false n14),(decide_eq_false n98),n160,n176,(decide_eq_false n200),bb])),(congrArg Value.bool (by have hh : hasInt state c.arg=false := anyN_false (fun j hj=>decide_eq_false (hA j (by omega))); simp only [specStep,hh,h196,(decide_eq_false n14),(decide_eq_false n98),n160,n176,(decide_eq_false n200),bb])),tt⟩)
     ·intro n196
      refine W.skip (blockQ_normal (thenQ_normal ?_))
      refine W.seq ?_
      refine kE tab62 hnt [(1,.sl (.ints state)),(5,.ptr 5 0),(228,(v622 state))] 560 [] tt ?_
      refine ifp ((state.length:Int)=(0:Int)) ?_ ?_
      ·intro h228
       refine kA tab62 hnt [(6,.sl (.ints ([] : List Int))),(7,(v621 c))] [(5,⟨59,.fix [.i c.proc,.i c.obj,.i c.kind,.i c.arg,.i c.ret,.i c.frm,.i c.to]⟩)] [229,5,999] 10674200 [] tt ?_
       refine W.ret (thenQ_ret ?_)
       exact endQ_ret (.tup [.sl (.ints ([] : List Int)),.b (decide (c.ret=(0:Int)))]) (by kernel_rfl) (@cast (((.ints ([] : List Int):Dat)=.ints ((specStep name state c).1))∧((.bool (decide (c.ret=(0:Int))):Value)=.bool ((specStep name state c).2))∧Y) _ (by kernel_rfl) ⟨(congrArg Dat.ints (by simp only [specStep,(decide_eq_true h228),(decide_eq_false n14),(decide_eq_false n98),n160,n176,n196,bb])),(congrArg Value.bool (by simp only [specStep,(decide_eq_true h228),(decide_eq_false n14),(decide_eq_false n98),n160,n176,n196,bb])),tt⟩)
      ·intro n228
       refine W.skip (thenQ_normal ?_)
       refine kA tab62 hnt [(6,.sl (.ints ([] : List Int))),(7,(v624 c state))] [(5,⟨59,.fix [.i c.proc,.i c.obj,.i c.kind,.i c.arg,.i c.ret,.i c.frm,.i c.to]⟩)] [233,5,999] 5672719622324 [0≤(0:Int),(0:Int)<(state.length:Int)] ⟨om,om⟩ ?_
       refine W.ret ?_
       exact endQ_ret (.tup [.sl (.ints ([] : List Int)),.b (decide (c.ret=(state.getD 0 0)))]) (by kernel_rfl) (@cast (((.ints ([] : List Int):Dat)=.ints ((specStep name state c).1))∧((.bool (decide (c.ret=(state.getD 0 0))):Value)=.bool ((specStep name state c).2))∧Y) _ (by kernel_rfl) ⟨(congrArg Dat.ints (by simp only [specStep,(decide_eq_false n14),(decide_eq_false n98),n160,n176,n196,(decide_eq_false n228),bb])),(congrArg Value.bool (by simp only [specStep,(decide_eq_false n14),(decide_eq_false n98),n160,n176,n196,(decide_eq_false n228),bb])),tt⟩)
theorem ent62 : Entr prog 62 := ⟨_,func62,rfl,by decide⟩
end Go.Proofs.Tryz

set_option linter.unusedSimpArgs false
set_option linter.unusedVariables false
namespace Go.Proofs.Tryz
open Go.Ab Go.RowKit
def fs64 : FnS := fnS [.o,.s .calls,.s .ints] [.str,.calls,.ints] (fun _ (s,h,o,_)=>(.b (runsB s h o),[],(isObject s=true)∧(validHistory h=true)∧(inH h o)∧(o.length≤6)))
abbrev T64 : Tab := lk [(62,fs62)]
theorem tab64 : TabOK prog T64 := (TabOK.cons ok62 ent62 TabOK.nil)
abbrev v640:AV:=.own 14 (List.length ([([] : List Int),([] : List Int)]))
abbrev v641 (h:List CallD) (o:List Int) (i:Nat):AV:=.i ((h.getD (Int.toNat (o.getD i 0)) default).proc)
abbrev v642 (h:List CallD) (o:List Int) (i:Nat):AV:=.i ((h.getD (Int.toNat (o.getD i 0)) default).obj)
abbrev v643 (h:List CallD) (o:List Int) (i:Nat):AV:=.i ((h.getD (Int.toNat (o.getD i 0)) default).kind)
abbrev v644 (h:List CallD) (o:List Int) (i:Nat):AV:=.i ((h.getD (Int.toNat (o.getD i 0)) default).arg)
abbrev v645 (h:List CallD) (o:List Int) (i:Nat):AV:=.i ((h.getD (Int.toNat (o.getD i 0)) default).ret)
abbrev v646 (h:List CallD) (o:List Int) (i:Nat):AV:=.i ((h.getD (Int.toNat (o.getD i 0)) default).frm)
abbrev v647 (h:List CallD) (o:List Int) (i:Nat):AV:=.i ((h.getD (Int.toNat (o.getD i 0)) default).to)
abbrev v648 (s:ByteArray) (ss:List (List Int)) (h:List CallD) (o:List Int) (i:Nat):AV:=.sl (.ints ((specStep s (ss.getD (Int.toNat ((h.getD (Int.toNat (o.getD i 0)) default).obj)) []) (h.getD (Int.toNat (o.getD i 0)) default)).1))
theorem ok64 : FnOK prog 64 fs64 := by
 refine FnOK.mk cok func64 rfl rfl rfl ?_
 rintro fl ⟨(s:ByteArray),(h : List CallD),(o : List Int),_⟩ hpre F hnt0 _
 have hnt : F.nt=46 := hnt0.trans ntmps64
 replace hpre : (isObject s=true)∧(validHistory h=true)∧(inH h o)∧(o.length≤6) := hpre
 obtain ⟨hs,hv,ho,h6⟩ := hpre
 refine W.to (⟨[(0,.v (.string s)),(1,.sl (.calls h)),(2,.sl (.ints o))],[],[999]⟩) rfl ?_
 refine W.lenOf 1 (.calls h) (by kernel_rfl) ?_
 intro hl_h; replace hl_h : List.length h≤9223372036854775807 := hl_h
 refine W.lenOf 2 (.ints o) (by kernel_rfl) ?_
 intro hl_o; replace hl_o : List.length o≤9223372036854775807 := hl_o
 refine kE tab64 hnt [(0,.v (.string s)),(1,.sl (.calls h)),(2,.sl (.ints o))] 2 [] tt ?_
 refine kS tab64 hnt [(0,.v (.string s)),(1,.sl (.calls h)),(2,.sl (.ints o)),(7,v640)] [(14,⟨36,.row (.intss ([([] : List Int),([] : List Int)]))⟩)] [14,13,12,999] 123140 [] tt ?_ [14]
 refine W.seq ?_
 refine kE tab64 hnt [(0,.v (.string s)),(1,.sl (.calls h)),(2,.sl (.ints o)),(7,v640),(8,.i (0:Int))] 2 [] tt ?_
 refine W.block ?_
 refine W.loop (ι := Nat × (List (List Int))) (fun (x : Nat × (List (List Int)))=>match x with | (i,ss)=>(⟨[(0,.v (.string s)),(1,.sl (.calls h)),(2,.sl (.ints o)),(7,.own 14 ss.length),(8,.i ((i:Nat):Int))],[(14,⟨36,.row (.intss ss)⟩)],[14,999]⟩:St))
  (fun (x : Nat × (List (List Int)))=>match x with | (i,ss)=>(i≤o.length)∧(ss=sts s h o i)∧(∀ j,j<i→okAt s h o j=true))
  (fun (x : Nat × (List (List Int)))=>match x with | (i,ss)=>(o.length - i:Nat)) (0,([([] : List Int),([] : List Int)])) ?_ ?_ ?_
 ·exact ⟨oi,(by rfl),(by exact upto_zero)⟩
 ·exact Sk
 ·rintro ⟨i,ss⟩ hC0
  obtain ⟨hi,hss,hA⟩ := hC0
  have hsl : ss.length=2 := by rw [hss]; exact sts_len s h o i
  have hri := ho i
  have hcl := fun hi=>isCall_iff.1 (ord_call hv ho (i := i) hi)
  unfold ordAt callAt at hcl
  refine W.seq ?_
  refine kE tab64 hnt [(0,.v (.string s)),(1,.sl (.calls h)),(2,.sl (.ints o)),(7,.own 14 ss.length),(8,.i ((i:Nat):Int)),(18,.b (decide (((i:Nat):Int)<(o.length:Int))))] 45380 [] tt ?_
  refine ifp (((i:Nat):Int)<(o.length:Int)) ?_ ?_
  ·intro h18
   refine W.skip (thenQ_normal ?_)
   refine W.seq ?_
   refine W.block ?_
   refine kS tab64 hnt [(0,.v (.string s)),(1,.sl (.calls h)),(2,.sl (.ints o)),(7,.own 14 ss.length),(8,.i ((i:Nat):Int)),(9,.ptr 9 0)] [(9,⟨59,.fix [(v641 h o i),(v642 h o i),(v643 h o i),(v644 h o i),(v645 h o i),(v646 h o i),(v647 h o i)]⟩),(14,⟨36,.row (.intss ss)⟩)] [9,14,999] 188812056302228 [0≤((i:Nat):Int),((i:Nat):Int)<(o.length:Int),0≤(o.getD i 0),(o.getD i 0)<(h.length:Int)] ⟨om,(by have hh := hcl (by omega); omega),ow,(by have hh := hcl (by omega); omega)⟩ ?_
   refine kA tab64 hnt [(0,.v (.string s)),(1,.sl (.calls h)),(2,.sl (.ints o)),(7,.own 14 ss.length),(8,.i ((i:Nat):Int)),(9,.ptr 9 0),(10,(v648 s ss h o i)),(11,.b ((specStep s (ss.getD (Int.toNat ((h.getD (Int.toNat (o.getD i 0)) default).obj)) []) (h.getD (Int.toNat (o.getD i 0)) default)).2))] [(9,⟨59,.fix [(v641 h o i),(v642 h o i),(v643 h o i),(v644 h o i),(v645 h o i),(v646 h o i),(v647 h o i)]⟩),(14,⟨36,.row (.intss ss)⟩)] [9,14,999] 19942001757796637375948 [0≤((h.getD (Int.toNat (o.getD i 0)) default).obj),((h.getD (Int.toNat (o.getD i 0)) default).obj)<(ss.length:Int),(Int.toNat ((h.getD (Int.toNat (o.getD i 0)) default).obj))<ss.length,(ss.getD (Int.toNat ((h.getD (Int.toNat (o.getD i 0)) default).obj)) []).length≤1000000,∀ x ∈ (ss.getD (Int.toNat ((h.getD (Int.toNat (o.getD i 0)) default).obj)) []),-1000000000≤x∧x≤1000000000,-1000000000≤(h.getD (Int.toNat (o.getD i 0)) default).arg∧(h.getD (Int.toNat (o.getD i 0)) default).arg≤1000000000] ⟨(by have hh := hcl (by omega); omega),(by have hh := hcl (by omega); omega),(by have hh := hcl (by omega); omega),(by have hh := (sts_at hs hv ho (i := i) (by omega) (by omega)).2.1; unfold ordAt callAt at hh; rw [hss]; omega),(by have hh := (sts_at hs hv ho (i := i) (by omega) (by omega)).2.2; unfold ordAt callAt at hh; rw [hss]; intro x hx; have := hh x hx; omega),(by have hh := hcl (by omega); omega)⟩ ?_
   refine W.seq ?_
   refine kE tab64 hnt [(0,.v (.string s)),(1,.sl (.calls h)),(2,.sl (.ints o)),(7,.own 14 ss.length),(8,.i ((i:Nat):Int)),(9,.ptr 9 0),(10,(v648 s ss h o i)),(40,.b (!((specStep s (ss.getD (Int.toNat ((h.getD (Int.toNat (o.getD i 0)) default).obj)) []) (h.getD (Int.toNat (o.getD i 0)) default)).2)))] 20 [] tt ?_
   refine ifb (!((specStep s (ss.getD (Int.toNat ((h.getD (Int.toNat (o.getD i 0)) default).obj)) []) (h.getD (Int.toNat (o.getD i 0)) default)).2)) ?_ ?_
   ·intro h40
    refine kE tab64 hnt [(6,.b false)] 2 [] tt ?_
    refine W.ret (thenQ_ret (blockQ_ret (thenQ_ret (thenQ_ret (blockQ_ret (thenQ_ret ?_))))))
    exact eB (show false=(runsB s h o) from (by exact (allN_false (i := i) (by omega) (by rw [hss] at h40; exact not_f h40)).symm))
   ·intro n40
    refine W.skip (thenQ_normal ?_)
    refine lS tab64 hnt [(0,.v (.string s)),(1,.sl (.calls h)),(2,.sl (.ints o)),(7,.own 14 ss.length),(8,.i ((i:Nat):Int))] [(9,⟨59,.fix [(v641 h o i),(v642 h o i),(v643 h o i),(v644 h o i),(v645 h o i),(v646 h o i),(v647 h o i)]⟩),(14,⟨36,.row (.intss (List.set ss (Int.toNat ((h.getD (Int.toNat (o.getD i 0)) default).obj)) ((specStep s (ss.getD (Int.toNat ((h.getD (Int.toNat (o.getD i 0)) default).obj)) []) (h.getD (Int.toNat (o.getD i 0)) default)).1)))⟩)] [9,14,999] 13151978849 [0≤((h.getD (Int.toNat (o.getD i 0)) default).obj),((h.getD (Int.toNat (o.getD i 0)) default).obj)<(ss.length:Int),(Int.toNat ((h.getD (Int.toNat (o.getD i 0)) default).obj))<ss.length] ⟨(by have hh := hcl (by omega); omega),(by have hh := hcl (by omega); omega),(by have hh := hcl (by omega); omega)⟩ ?_
    refine blockQ_normal (thenQ_normal ?_)
    refine lE tab64 hnt [(0,.v (.string s)),(1,.sl (.calls h)),(2,.sl (.ints o)),(7,.own 14 ss.length),(8,.i (((i+1):Nat):Int))] 15869 [Fits .i64 (((i+1):Nat):Int)] fi ?_
    refine thenQ_normal ?_
    refine ⟨((i+1),(List.set ss (Int.toNat ((h.getD (Int.toNat (o.getD i 0)) default).obj)) ((specStep s (ss.getD (Int.toNat ((h.getD (Int.toNat (o.getD i 0)) default).obj)) []) (h.getD (Int.toNat (o.getD i 0)) default)).1))),⟨oi,(by rw [hss]; rfl),(by exact upto_succ hA (by rw [hss] at n40; exact not_g n40))⟩,(show o.length - (i+1)<o.length - i from o2),?_⟩
    exact Sub.of [] (@cast (((((.string s):Value)=(.string s))∧(Sd (.calls h))∧(Sd (.ints o))∧(((14:Nat)=14)∧(ss.length=(List.length (List.set ss (Int.toNat ((h.getD (Int.toNat (o.getD i 0)) default).obj)) ((specStep s (ss.getD (Int.toNat ((h.getD (Int.toNat (o.getD i 0)) default).obj)) []) (h.getD (Int.toNat (o.getD i 0)) default)).1))))∧((14:Nat) ∈ ([14,999] : List Nat)))∧(Si (((i+1):Nat):Int))∧Y)∧((((36:Nat)=36)∧(Sd (.intss (List.set ss (Int.toNat ((h.getD (Int.toNat (o.getD i 0)) default).obj)) ((specStep s (ss.getD (Int.toNat ((h.getD (Int.toNat (o.getD i 0)) default).obj)) []) (h.getD (Int.toNat (o.getD i 0)) default)).1))))∧((14:Nat) ∈ ([14,999] : List Nat)))∧Y)∧(true=true)∧(true=true)) _ (by kernel_rfl) ⟨⟨rfl,rfl,rfl,⟨rfl,(by first | rfl | omega | assumption | (symm; assumption) | simp | simp_all),(by decide)⟩,rfl,tt⟩,⟨⟨rfl,rfl,(by decide)⟩,tt⟩,rfl,rfl⟩)
  ·intro n18
   refine W.exit (thenQ_exit (thenQ_exit (blockQ_hit ?_)))
   refine thenQ_normal ?_
   refine kE tab64 hnt [(6,.b true)] 2 [] tt ?_
   refine W.ret ?_
   exact eB (show true=(runsB s h o) from (by exact (allN_true (fun j hj=>hA j (by omega))).symm))
theorem ent64 : Entr prog 64 := ⟨_,func64,rfl,by decide⟩
end Go.Proofs.Tryz

set_option linter.unusedSimpArgs false
set_option linter.unusedVariables false
namespace Go.Proofs.Tryz
open Go.Ab Go.RowKit
def fs66 : FnS := fnS [.o,.o] [.int,.int] (fun _ (x,j,_)=>(.i (bitOf x j),[],(j≤60)∧(0≤x∧x≤4611686018427387904)))
abbrev T66 : Tab := lk [(65,fs65)]
theorem tab66 : TabOK prog T66 := (TabOK.cons ok65 ent65 TabOK.nil)
theorem ok66 : FnOK prog 66 fs66 := by
 refine FnOK.mk cok func66 rfl rfl rfl ?_
 rintro fl ⟨(x:Int),(j:Int),_⟩ hpre F hnt0 _
 have hnt : F.nt=10 := hnt0.trans ntmps66
 replace hpre : (j≤60)∧(0≤x∧x≤4611686018427387904) := hpre
 obtain ⟨hj,hx⟩ := hpre
 refine W.to (⟨[(0,.i x),(1,.i j)],[],[999]⟩) rfl ?_
 refine kE tab66 hnt [(0,.i x),(1,.i j)] 2 [] tt ?_
 have hp := power_pos j
 refine kE tab66 hnt [(4,.i (Int.tmod (Int.tdiv x (power j)) (2:Int)))] 6149042005898 [j≤60,(power j)≠0,Fits .i64 (Int.tdiv x (power j)),(2:Int)≠0] ⟨om,om,(by exact fits_i64 (Int.le_trans (by omega) (Int.tdiv_nonneg (by omega) (by omega))) (Int.le_trans (Int.tdiv_le_self _ (by omega)) (by omega))),(by decide)⟩ ?_
 refine W.ret ?_
 exact eI (show (Int.tmod (Int.tdiv x (power j)) (2:Int))=(bitOf x j) from (by first | rfl | simp_all))
theorem ent66 : Entr prog 66 := ⟨_,func66,rfl,by decide⟩
end Go.Proofs.Tryz

set_option linter.unusedSimpArgs false
set_option linter.unusedVariables false
namespace Go.Proofs.Tryz
open Go.Ab Go.RowKit
def out45 : Bool→ATy [.str,.calls,.ints,.ints]→AV × List (TypeId × Dat) × Prop := fun _ (s,h,rows,o,_)=>(.sl (.intss (ordersF s h (bitF rows) (h.length - o.length) o)),[],(isObject s=true)∧(validHistory h=true)∧(rows=rowsOf h.length (bitF rows))∧(headO h o))
def mu45 : ATy [.str,.calls,.ints,.ints]→Nat := fun (s,h,rows,o,_)=>h.length - o.length
def fs45 : FnS := fnS [.o,.s .calls,.s .ints,.s .ints] [.str,.calls,.ints,.ints] out45
abbrev fsN45 (n:Nat) : FnS := fnS [.o,.s .calls,.s .ints,.s .ints] [.str,.calls,.ints,.ints] (lim out45 mu45 n)
theorem ent45 : Entr prog 45 := ⟨_,func45,rfl,by decide⟩
abbrev T45 (nn:Nat) : Tab := lk [(45,fsN45 nn),(64,fs64),(65,fs65),(66,fs66)]
theorem tab45 {nn : Nat} (ih : FnOK prog 45 (fsN45 nn)) : TabOK prog (T45 nn) := (TabOK.cons ih ent45 (TabOK.cons ok64 ent64 (TabOK.cons ok65 ent65 (TabOK.cons ok66 ent66 TabOK.nil))))
theorem okS45 (nn:Nat) (ih : FnOK prog 45 (fsN45 nn)) : FnOK prog 45 (fsN45 (nn+1)) := by
 refine FnOK.mk cok func45 rfl rfl rfl ?_
 rintro fl ⟨(s:ByteArray),(h : List CallD),(rows : List Int),(o : List Int),_⟩ hpre F hnt0 _
 have hnt : F.nt=78 := hnt0.trans ntmps45
 obtain ⟨hpre,hmu⟩ := hpre
 replace hmu : h.length - o.length<nn+1 := hmu
 replace hpre : (isObject s=true)∧(validHistory h=true)∧(rows=rowsOf h.length (bitF rows))∧(headO h o) := hpre
 obtain ⟨hs,hv,hr,ho⟩ := hpre
 refine W.to (⟨[(0,.v (.string s)),(1,.sl (.calls h)),(2,.sl (.ints rows)),(3,.sl (.ints o))],[],[999]⟩) rfl ?_
 have hv6 := (valid_iff.1 hv).1
 have hol := ho.2.2
 have hrl : rows.length=h.length := by rw [hr,rowsOf_len]
 have hio := ho.1
 refine W.lenOf 1 (.calls h) (by kernel_rfl) ?_
 intro hl_h; replace hl_h : List.length h≤9223372036854775807 := hl_h
 refine W.lenOf 2 (.ints rows) (by kernel_rfl) ?_
 intro hl_rows; replace hl_rows : List.length rows≤9223372036854775807 := hl_rows
 refine W.lenOf 3 (.ints o) (by kernel_rfl) ?_
 intro hl_o; replace hl_o : List.length o≤9223372036854775807 := hl_o
 refine kE (tab45 ih) hnt [(0,.v (.string s)),(1,.sl (.calls h)),(2,.sl (.ints rows)),(3,.sl (.ints o))] 2 [] trivial ?_
 refine W.seq ?_
 refine kE (tab45 ih) hnt [(0,.v (.string s)),(1,.sl (.calls h)),(2,.sl (.ints rows)),(3,.sl (.ints o)),(17,.b (!(runsB s h o)))] 717771818252 [isObject s=true,validHistory h=true,inH h o,o.length≤6] ⟨(by exact hs),(by exact hv),(by exact ho.1),om⟩ ?_
 refine ifb (!(runsB s h o)) ?_ ?_
 ·intro h17
  refine kS (tab45 ih) hnt [(8,.sl (.intss ([] : List (List Int))))] [] [18,999] 20 [] trivial ?_
  refine W.ret (thenQ_ret ?_)
  exact endQ_ret (.sl (.intss ([] : List (List Int)))) (by kernel_rfl) (@cast ((.intss ([] : List (List Int)):Dat)=.intss (ordersF s h (bitF rows) (h.length - o.length) o)) _ (by kernel_rfl) (congrArg Dat.intss (by exact (orders_none (by simpa using h17)).symm)))
 ·intro n17
  refine W.skip (thenQ_normal ?_)
  refine W.seq ?_
  refine kE (tab45 ih) hnt [(0,.v (.string s)),(1,.sl (.calls h)),(2,.sl (.ints rows)),(3,.sl (.ints o)),(23,.b (decide ((o.length:Int)=(h.length:Int))))] 408422 [] trivial ?_
  refine ifp ((o.length:Int)=(h.length:Int)) ?_ ?_
  ·intro h23
   refine kS (tab45 ih) hnt [(8,.sl (.intss ([o])))] [] [27,26,24,999] 90570170 [(List.length ([] : List Int))=(List.length ([] : List Int)),((List.length ([] : List Int))+o.length) * 8≤140737488355328] ⟨rfl,(by first | omega | (simp; done) | (simp; omega) | (have h9 := upto_len6 (s := s) (f := bitF rows) (m := h.length - o.length - 1) (k := k) hv6 (by omega) (by omega) o; have h8 := rest_len (s := s) (f := bitF rows) (m := h.length - (o++[((k:Nat):Int)]).length) hv6 (by omega) (o++[((k:Nat):Int)]); (try rw [← hou] at h9); (try simp only [List.length_append,List.length_cons,List.length_nil] at *); omega))⟩ ?_ [24]
   refine W.ret (thenQ_ret ?_)
   exact endQ_ret (.sl (.intss ([o]))) (by kernel_rfl) (@cast ((.intss ([o]):Dat)=.intss (ordersF s h (bitF rows) (h.length - o.length) o)) _ (by kernel_rfl) (congrArg Dat.intss (by exact explain_one (by simpa using n17) h23)))
  ·intro n23
   refine W.skip (thenQ_normal ?_)
   refine kS (tab45 ih) hnt [(0,.v (.string s)),(1,.sl (.calls h)),(2,.sl (.ints rows)),(3,.sl (.ints o)),(9,.own 28 (List.length ([] : List (List Int))))] [(28,⟨36,.row (.intss ([] : List (List Int)))⟩)] [28,999] 20 [] trivial ?_ [28]
   refine kE (tab45 ih) hnt [(0,.v (.string s)),(1,.sl (.calls h)),(2,.sl (.ints rows)),(3,.sl (.ints o)),(9,.own 28 (List.length ([] : List (List Int)))),(10,.i (0:Int))] 2 [] trivial ?_
   refine W.seq ?_
   refine kE (tab45 ih) hnt [(0,.v (.string s)),(1,.sl (.calls h)),(2,.sl (.ints rows)),(3,.sl (.ints o)),(9,.own 28 (List.length ([] : List (List Int)))),(10,.i (0:Int)),(11,.i (0:Int))] 2 [] trivial ?_
   refine W.block ?_
   refine W.loop (ι := Nat × Int) (fun (x : Nat × Int)=>match x with | (j,d)=>(⟨[(0,.v (.string s)),(1,.sl (.calls h)),(2,.sl (.ints rows)),(3,.sl (.ints o)),(9,.own 28 (List.length ([] : List (List Int)))),(10,.i d),(11,.i ((j:Nat):Int))],[(28,⟨36,.row (.intss ([] : List (List Int)))⟩)],[28,999]⟩:St))
    (fun (x : Nat × Int)=>match x with | (j,d)=>(j≤o.length)∧(d=mask h.length (doneF o j)))
    (fun (x : Nat × Int)=>match x with | (j,d)=>(o.length - j:Nat)) (0,(0:Int)) ?_ ?_ ?_
   ·exact ⟨oi,(by exact (done_zero o _).symm)⟩
   ·exact Sk
   ·rintro ⟨j,d⟩ hC0
    obtain ⟨hj,hd⟩ := hC0
    refine W.seq ?_
    refine kE (tab45 ih) hnt [(0,.v (.string s)),(1,.sl (.calls h)),(2,.sl (.ints rows)),(3,.sl (.ints o)),(9,.own 28 (List.length ([] : List (List Int)))),(10,.i d),(11,.i ((j:Nat):Int)),(32,.b (decide (((j:Nat):Int)<(o.length:Int))))] 45380 [] trivial ?_
    refine ifp (((j:Nat):Int)<(o.length:Int)) ?_ ?_
    ·intro h32
     refine W.skip (thenQ_normal ?_)
     refine W.seq ?_
     refine W.block ?_
     refine lE (tab45 ih) hnt [(0,.v (.string s)),(1,.sl (.calls h)),(2,.sl (.ints rows)),(3,.sl (.ints o)),(9,.own 28 (List.length ([] : List (List Int)))),(10,.i (d+(power (o.getD j 0)))),(11,.i ((j:Nat):Int))] 498027070551710 [0≤((j:Nat):Int),((j:Nat):Int)<(o.length:Int),(o.getD j 0)≤60,Fits .i64 (d+(power (o.getD j 0)))] ⟨om,om,(by have := hio j (by omega); omega),(by rw [hd,done_next ho.2.1 (by omega) (by have := hio j (by omega); omega) (by have := hio j (by omega); omega)]; have := mask_bnd h.length (doneF o (j+1)) (by omega); exact fits_i64 (by omega) (by omega))⟩ ?_
     refine blockQ_normal (thenQ_normal ?_)
     refine lE (tab45 ih) hnt [(0,.v (.string s)),(1,.sl (.calls h)),(2,.sl (.ints rows)),(3,.sl (.ints o)),(9,.own 28 (List.length ([] : List (List Int)))),(10,.i (d+(power (o.getD j 0)))),(11,.i (((j+1):Nat):Int))] 15869 [Fits .i64 (((j+1):Nat):Int)] fi ?_
     refine thenQ_normal ?_
     refine ⟨((j+1),(d+(power (o.getD j 0)))),⟨oi,(by rw [hd]; exact done_next ho.2.1 (by omega) (by have := hio j (by omega); omega) (by have := hio j (by omega); omega))⟩,(show o.length - (j+1)<o.length - j from o2),?_⟩
     exact Sk
    ·intro n32
     refine W.exit (thenQ_exit (thenQ_exit (blockQ_hit ?_)))
     refine thenQ_normal ?_
     refine W.seq ?_
     refine kE (tab45 ih) hnt [(0,.v (.string s)),(1,.sl (.calls h)),(2,.sl (.ints rows)),(3,.sl (.ints o)),(9,.own 28 (List.length ([] : List (List Int)))),(10,.i d),(12,.i (0:Int))] 2 [] trivial ?_
     refine W.block ?_
     refine W.loop (ι := Nat × (List (List Int))) (fun (x : Nat × (List (List Int)))=>match x with | (k,ou)=>(⟨[(0,.v (.string s)),(1,.sl (.calls h)),(2,.sl (.ints rows)),(3,.sl (.ints o)),(9,.own 28 ou.length),(10,.i d),(12,.i ((k:Nat):Int))],[(28,⟨36,.row (.intss ou)⟩)],[28,999]⟩:St))
      (fun (x : Nat × (List (List Int)))=>match x with | (k,ou)=>(k≤h.length)∧(ou=ordersUp s h (bitF rows) (h.length - o.length - 1) o k))
      (fun (x : Nat × (List (List Int)))=>match x with | (k,ou)=>(h.length - k:Nat)) (0,([] : List (List Int))) ?_ ?_ ?_
     ·exact ⟨oi,(by rfl)⟩
     ·exact Sk
     ·rintro ⟨k,ou⟩ hC0
      obtain ⟨hk,hou⟩ := hC0
      have hdd : d=mask h.length (hasN o) := by rw [hd]; exact done_all (by omega)
      refine W.seq ?_
      refine kE (tab45 ih) hnt [(0,.v (.string s)),(1,.sl (.calls h)),(2,.sl (.ints rows)),(3,.sl (.ints o)),(9,.own 28 ou.length),(10,.i d),(12,.i ((k:Nat):Int)),(45,.b (decide (((k:Nat):Int)<(h.length:Int))))] 45380 [] trivial ?_
      refine ifp (((k:Nat):Int)<(h.length:Int)) ?_ ?_
      ·intro h45
       refine W.skip (thenQ_normal ?_)
       refine W.seq ?_
       refine W.block ?_
       refine kA (tab45 ih) hnt [(0,.v (.string s)),(1,.sl (.calls h)),(2,.sl (.ints rows)),(3,.sl (.ints o)),(9,.own 28 ou.length),(10,.i d),(12,.i ((k:Nat):Int)),(64,.b ((decide ((bitOf d ((k:Nat):Int))=(0:Int))) && (decide ((bitsI .and .i64 (rows.getD k 0) d)=(rows.getD k 0)))))] [(28,⟨36,.row (.intss ou)⟩)] [28,999] 3426633450510537171225953 [((k:Nat):Int)≤60,0≤d∧d≤4611686018427387904,(decide ((bitOf d ((k:Nat):Int))=(0:Int)))=true→Y,(decide ((bitOf d ((k:Nat):Int))=(0:Int)))=true→Y,(decide ((bitOf d ((k:Nat):Int))=(0:Int)))=true→((((decide ((bitOf d ((k:Nat):Int))=(0:Int)))=true)∧Y)∧((((decide ((bitOf d ((k:Nat):Int))=(0:Int)))=true)∧Y)∧((0≤((k:Nat):Int))∧(((k:Nat):Int)<(rows.length:Int))))),(decide ((bitOf d ((k:Nat):Int))=(0:Int)))=true→(((decide ((bitOf d ((k:Nat):Int))=(0:Int)))=true)∧Y),(decide ((bitOf d ((k:Nat):Int))=(0:Int)))=true→Y,(decide ((bitOf d ((k:Nat):Int))=(0:Int)))=true→((((decide ((bitOf d ((k:Nat):Int))=(0:Int)))=true)∧Y)∧((((decide ((bitOf d ((k:Nat):Int))=(0:Int)))=true)∧Y)∧Y)),(decide ((bitOf d ((k:Nat):Int))=(0:Int)))=true→Y,(decide ((bitOf d ((k:Nat):Int))=(0:Int)))=true→Y,(decide ((bitOf d ((k:Nat):Int))=(0:Int)))=true→((((decide ((bitOf d ((k:Nat):Int))=(0:Int)))=true)∧Y)∧((((decide ((bitOf d ((k:Nat):Int))=(0:Int)))=true)∧Y)∧((0≤((k:Nat):Int))∧(((k:Nat):Int)<(rows.length:Int))))),(decide ((bitOf d ((k:Nat):Int))=(0:Int)))=true→(((decide ((bitOf d ((k:Nat):Int))=(0:Int)))=true)∧Y),(decide ((bitOf d ((k:Nat):Int))=(0:Int)))=true→((((decide ((bitOf d ((k:Nat):Int))=(0:Int)))=true)∧Y)∧((((decide ((bitOf d ((k:Nat):Int))=(0:Int)))=true)∧Y)∧Y)),(decide ((bitOf d ((k:Nat):Int))=(0:Int)))=true→((decide ((bitOf d ((k:Nat):Int))=(0:Int)))=true)∧Y,(decide ((bitOf d ((k:Nat):Int))=(0:Int)))=false→Y] ⟨om,(by rw [hd]; have := mask_bnd h.length (doneF o j) (by omega); omega),(fun _=>trivial),(fun _=>trivial),(fun hG=>⟨⟨hG,tt⟩,⟨hG,tt⟩,(by have hg0 : (bitOf d ((k:Nat):Int))=(0:Int) := of_decide_eq_true hG; omega),(by have hg0 : (bitOf d ((k:Nat):Int))=(0:Int) := of_decide_eq_true hG; omega)⟩),(fun hG=>⟨hG,tt⟩),(fun _=>trivial),(fun hG=>⟨⟨hG,tt⟩,⟨hG,tt⟩,tt⟩),(fun _=>trivial),(fun _=>trivial),(fun hG=>⟨⟨hG,tt⟩,⟨hG,tt⟩,(by have hg0 : (bitOf d ((k:Nat):Int))=(0:Int) := of_decide_eq_true hG; omega),(by have hg0 : (bitOf d ((k:Nat):Int))=(0:Int) := of_decide_eq_true hG; omega)⟩),(fun hG=>⟨hG,tt⟩),(fun hG=>⟨⟨hG,tt⟩,⟨hG,tt⟩,tt⟩),(fun hp=>⟨hp,tt⟩),(fun _=>trivial)⟩ ?_
       refine ifb ((decide ((bitOf d ((k:Nat):Int))=(0:Int))) && (decide ((bitsI .and .i64 (rows.getD k 0) d)=(rows.getD k 0)))) ?_ ?_
       ·intro h64
        have h64_0 : (bitOf d ((k:Nat):Int))=(0:Int) := of_decide_eq_true (and_l h64)
        have h64_1 : (bitsI .and .i64 (rows.getD k 0) d)=(rows.getD k 0) := of_decide_eq_true (and_r h64)
        have hfk : freeB (bitF rows) h.length o k=true := free_spec (by omega) (by omega) (by rw [← hr,← hdd]; exact h64)
        refine lS (tab45 ih) hnt [(0,.v (.string s)),(1,.sl (.calls h)),(2,.sl (.ints rows)),(3,.sl (.ints o)),(9,.own 76 (List.length (ou++(ordersF s h (bitF rows) (h.length - (o++([((k:Nat):Int)])).length) (o++([((k:Nat):Int)])))))),(10,.i d),(12,.i ((k:Nat):Int))] [(76,⟨36,.row (.intss (ou++(ordersF s h (bitF rows) (h.length - (o++([((k:Nat):Int)])).length) (o++([((k:Nat):Int)])))))⟩)] [76,74,73,71,69,28,999] 8322543008474765986810604864819 [(List.length ([] : List Int))=(List.length ([] : List Int)),((List.length ([] : List Int))+o.length) * 8≤140737488355328,o.length=o.length,(o.length+(List.length ([((k:Nat):Int)]))) * 8≤140737488355328,isObject s=true,validHistory h=true,rows=rowsOf h.length (bitF rows),headO h (o++([((k:Nat):Int)])),h.length - (o++([((k:Nat):Int)])).length<nn,ou.length=ou.length,(ou.length+(List.length (ordersF s h (bitF rows) (h.length - (o++([((k:Nat):Int)])).length) (o++([((k:Nat):Int)]))))) * 24≤140737488355328] ⟨rfl,(by first | omega | (simp; done) | (simp; omega) | (have h9 := upto_len6 (s := s) (f := bitF rows) (m := h.length - o.length - 1) (k := k) hv6 (by omega) (by omega) o; have h8 := rest_len (s := s) (f := bitF rows) (m := h.length - (o++[((k:Nat):Int)]).length) hv6 (by omega) (o++[((k:Nat):Int)]); (try rw [← hou] at h9); (try simp only [List.length_append,List.length_cons,List.length_nil] at *); omega)),rfl,(by first | omega | (simp; done) | (simp; omega) | (have h9 := upto_len6 (s := s) (f := bitF rows) (m := h.length - o.length - 1) (k := k) hv6 (by omega) (by omega) o; have h8 := rest_len (s := s) (f := bitF rows) (m := h.length - (o++[((k:Nat):Int)]).length) hv6 (by omega) (o++[((k:Nat):Int)]); (try rw [← hou] at h9); (try simp only [List.length_append,List.length_cons,List.length_nil] at *); omega)),(by exact hs),(by exact hv),(by exact hr),(by exact headO_snoc ho (by omega) (free_has hfk) (by omega)),(by (try simp only [List.length_append,List.length_cons,List.length_nil]); omega),rfl,(by first | omega | (simp; done) | (simp; omega) | (have h9 := upto_len6 (s := s) (f := bitF rows) (m := h.length - o.length - 1) (k := k) hv6 (by omega) (by omega) o; have h8 := rest_len (s := s) (f := bitF rows) (m := h.length - (o++[((k:Nat):Int)]).length) hv6 (by omega) (o++[((k:Nat):Int)]); (try rw [← hou] at h9); (try simp only [List.length_append,List.length_cons,List.length_nil] at *); omega))⟩ ?_ [69,71,76]
        refine blockQ_normal (thenQ_normal ?_)
        refine lE (tab45 ih) hnt [(0,.v (.string s)),(1,.sl (.calls h)),(2,.sl (.ints rows)),(3,.sl (.ints o)),(9,.own 76 (List.length (ou++(ordersF s h (bitF rows) (h.length - (o++([((k:Nat):Int)])).length) (o++([((k:Nat):Int)])))))),(10,.i d),(12,.i (((k+1):Nat):Int))] 15869 [Fits .i64 (((k+1):Nat):Int)] fi ?_
        refine thenQ_normal ?_
        refine ⟨((k+1),(ou++(ordersF s h (bitF rows) (h.length - (o++([((k:Nat):Int)])).length) (o++([((k:Nat):Int)]))))),⟨oi,(by first | (exact explain_step hfk hou) | (rw [up_no hfk]; exact hou))⟩,(show h.length - (k+1)<h.length - k from o2),?_⟩
        exact Sub.of [(28,76)] (@cast (((((.string s):Value)=(.string s))∧(Sd (.calls h))∧(Sd (.ints rows))∧(Sd (.ints o))∧(((76:Nat)=76)∧((List.length (ou++(ordersF s h (bitF rows) (h.length - (o++([((k:Nat):Int)])).length) (o++([((k:Nat):Int)])))))=(List.length (ou++(ordersF s h (bitF rows) (h.length - (o++([((k:Nat):Int)])).length) (o++([((k:Nat):Int)]))))))∧((28:Nat) ∈ ([28,999] : List Nat)))∧(Si d)∧(Si (((k+1):Nat):Int))∧Y)∧((((36:Nat)=36)∧(Sd (.intss (ou++(ordersF s h (bitF rows) (h.length - (o++([((k:Nat):Int)])).length) (o++([((k:Nat):Int)]))))))∧((28:Nat) ∈ ([28,999] : List Nat)))∧Y)∧(true=true)∧(true=true)) _ (by kernel_rfl) ⟨⟨rfl,rfl,rfl,rfl,⟨rfl,rfl,(by decide)⟩,rfl,rfl,tt⟩,⟨⟨rfl,rfl,(by decide)⟩,tt⟩,rfl,rfl⟩)
       ·intro n64
        have hfk : freeB (bitF rows) h.length o k=false := free_spec (by omega) (by omega) (by rw [← hr,← hdd]; exact n64)
        refine W.skip (blockQ_normal (thenQ_normal ?_))
        refine lE (tab45 ih) hnt [(0,.v (.string s)),(1,.sl (.calls h)),(2,.sl (.ints rows)),(3,.sl (.ints o)),(9,.own 28 ou.length),(10,.i d),(12,.i (((k+1):Nat):Int))] 15869 [Fits .i64 (((k+1):Nat):Int)] fi ?_
        refine thenQ_normal ?_
        refine ⟨((k+1),ou),⟨oi,(by first | (exact explain_step hfk hou) | (rw [up_no hfk]; exact hou))⟩,(show h.length - (k+1)<h.length - k from o2),?_⟩
        exact Sk
      ·intro n45
       refine W.exit (thenQ_exit (thenQ_exit (blockQ_hit ?_)))
       refine thenQ_normal ?_
       refine kE (tab45 ih) hnt [(8,.own 28 ou.length)] 20 [] trivial ?_
       refine W.ret ?_
       exact endQ_ret (.own 28 ou.length) (by kernel_rfl) (@cast ((ou.length=ou.length)∧((.intss ou:Dat)=.intss (ordersF s h (bitF rows) (h.length - o.length) o))∧((28:Nat) ∉ ([] : List Nat))) _ (by kernel_rfl) ⟨rfl,⟨(congrArg Dat.intss (by exact explain_end (by omega) (by omega) hou)),(by decide)⟩⟩)
theorem ok45 : FnOK prog 45 fs45 := FnOK.rec' okS45
end Go.Proofs.Tryz

set_option linter.unusedSimpArgs false
set_option linter.unusedVariables false
namespace Go.Proofs.Tryz
open Go.Ab Go.RowKit
def fs26 : FnS := fnS [.o,.s .calls] [.str,.calls] (fun _ (s,h,_)=>(.sl (.intss (ordersBy s h (aheadF h))),[],Y))
abbrev T26 : Tab := lk [(44,fs44),(45,fs45),(46,fs46)]
theorem tab26 : TabOK prog T26 := (TabOK.cons ok44 ent44 (TabOK.cons ok45 ent45 (TabOK.cons ok46 ent46 TabOK.nil)))
theorem ok26 : FnOK prog 26 fs26 := by
 refine FnOK.mk cok func26 rfl rfl rfl ?_
 rintro fl ⟨(s:ByteArray),(h : List CallD),_⟩ hpre F hnt0 _
 have hnt : F.nt=15 := hnt0.trans ntmps26
 clear hpre
 refine W.to (⟨[(0,.v (.string s)),(1,.sl (.calls h))],[],[999]⟩) rfl ?_
 refine W.lenOf 1 (.calls h) (by kernel_rfl) ?_
 intro hl_h; replace hl_h : List.length h≤9223372036854775807 := hl_h
 refine kE tab26 hnt [(0,.v (.string s)),(1,.sl (.calls h))] 2 [] tt ?_
 refine W.seq ?_
 refine kE tab26 hnt [(0,.v (.string s)),(1,.sl (.calls h)),(8,.b (!(isObject s && validHistory h)))] 9702200 [] tt ?_
 refine ifb (!(isObject s && validHistory h)) ?_ ?_
 ·intro h8
  refine kE tab26 hnt [(4,.v (.slice none 0 0))] 2 [] tt ?_
  refine W.ret (thenQ_ret ?_)
  exact endQ_ret (.v (.slice none 0 0)) (by kernel_rfl) (@cast (((Value.slice none 0 0:Value)=.slice none 0 0)∧((Dat.intss (ordersBy s h (aheadF h))).len=0)) _ (by kernel_rfl) ⟨rfl,(by show List.length (ordersBy s h (aheadF h))=0; first | exact (by_no (not_f h8)).symm | (rw [by_no (not_f h8)]; rfl))⟩)
 ·intro n8
  refine W.skip (thenQ_normal ?_)
  refine kS tab26 hnt [(4,.sl (.intss (ordersF s h (bitF (rowsOf h.length (aheadF h))) (h.length - ([] : List Int).length) ([] : List Int))))] [] [13,999] 381453358400657795 [h.length≤60,isObject s=true,validHistory h=true,(rowsOf h.length (aheadF h))=rowsOf h.length (bitF (rowsOf h.length (aheadF h))),headO h ([] : List Int)] ⟨(by have h6 := (valid_iff.1 (and_r (not_g n8))).1; omega),(by exact and_l (not_g n8)),(by exact and_r (not_g n8)),(by exact rows_self),(by exact headO_nil h)⟩ ?_
  refine W.ret ?_
  exact endQ_ret (.sl (.intss (ordersF s h (bitF (rowsOf h.length (aheadF h))) (h.length - ([] : List Int).length) ([] : List Int)))) (by kernel_rfl) (@cast ((.intss (ordersF s h (bitF (rowsOf h.length (aheadF h))) (h.length - ([] : List Int).length) ([] : List Int)):Dat)=.intss (ordersBy s h (aheadF h))) _ (by kernel_rfl) (congrArg Dat.intss (by exact by_val (not_g n8) rfl)))
theorem ent26 : Entr prog 26 := ⟨_,func26,rfl,by decide⟩
end Go.Proofs.Tryz

set_option linter.unusedSimpArgs false
set_option linter.unusedVariables false
namespace Go.Proofs.Tryz
open Go.Ab Go.RowKit
def fs47 : FnS := fnS [.s .calls] [.calls] (fun _ (h,_)=>(.sl (.ints (rowsOf h.length (ownF h))),[],(h.length≤60)))
abbrev T47 : Tab := lk [(65,fs65),(67,fs67)]
theorem tab47 : TabOK prog T47 := (TabOK.cons ok65 ent65 (TabOK.cons ok67 ent67 TabOK.nil))
theorem ok47 : FnOK prog 47 fs47 := by
 refine FnOK.mk cok func47 rfl rfl rfl ?_
 rintro fl ⟨(h : List CallD),_⟩ hpre F hnt0 _
 have hnt : F.nt=51 := hnt0.trans ntmps47
 replace hpre : (h.length≤60) := hpre
 have hn := hpre
 refine W.to (⟨[(0,.sl (.calls h))],[],[999]⟩) rfl ?_
 refine W.lenOf 0 (.calls h) (by kernel_rfl) ?_
 intro hl_h; replace hl_h : List.length h≤9223372036854775807 := hl_h
 refine kE tab47 hnt [(0,.sl (.calls h))] 2 [] tt ?_
 refine kS tab47 hnt [(0,.sl (.calls h)),(3,.own 7 (List.length ([] : List Int)))] [(7,⟨3,.row (.ints ([] : List Int))⟩)] [7,999] 20 [] tt ?_ [7]
 refine W.seq ?_
 refine kE tab47 hnt [(0,.sl (.calls h)),(3,.own 7 (List.length ([] : List Int))),(4,.i (0:Int))] 2 [] tt ?_
 refine W.block ?_
 refine W.loop (ι := (List Int) × Nat) (fun (x : (List Int) × Nat)=>match x with | (o,i)=>(⟨[(0,.sl (.calls h)),(3,.own 7 o.length),(4,.i ((i:Nat):Int))],[(7,⟨3,.row (.ints o)⟩)],[7,999]⟩:St))
  (fun (x : (List Int) × Nat)=>match x with | (o,i)=>(i≤h.length)∧(o=(List.range i).map fun j=>mask h.length (ownF h j)))
  (fun (x : (List Int) × Nat)=>match x with | (o,i)=>(h.length - i:Nat)) (([] : List Int),0) ?_ ?_ ?_
 ·exact ⟨oi,(by rfl)⟩
 ·exact Sk
 ·rintro ⟨o,i⟩ hC0
  obtain ⟨hi,ho⟩ := hC0
  have hol : o.length=i := by rw [ho]; simp
  refine W.seq ?_
  refine kE tab47 hnt [(0,.sl (.calls h)),(3,.own 7 o.length),(4,.i ((i:Nat):Int)),(11,.b (decide (((i:Nat):Int)<(h.length:Int))))] 45380 [] tt ?_
  refine ifp (((i:Nat):Int)<(h.length:Int)) ?_ ?_
  ·intro h11
   refine W.skip (thenQ_normal ?_)
   refine W.seq ?_
   refine W.block ?_
   refine kE tab47 hnt [(0,.sl (.calls h)),(3,.own 7 o.length),(4,.i ((i:Nat):Int)),(5,.i (0:Int))] 2 [] tt ?_
   refine W.seq ?_
   refine kE tab47 hnt [(0,.sl (.calls h)),(3,.own 7 o.length),(4,.i ((i:Nat):Int)),(5,.i (0:Int)),(6,.i (0:Int))] 2 [] tt ?_
   refine W.block ?_
   refine W.loop (ι := Int × Nat) (fun (x : Int × Nat)=>match x with | (r,k)=>(⟨[(0,.sl (.calls h)),(3,.own 7 o.length),(4,.i ((i:Nat):Int)),(5,.i r),(6,.i ((k:Nat):Int))],[(7,⟨3,.row (.ints o)⟩)],[7,999]⟩:St))
    (fun (x : Int × Nat)=>match x with | (r,k)=>(k≤h.length)∧(r=mask k (ownF h i)))
    (fun (x : Int × Nat)=>match x with | (r,k)=>(h.length - k:Nat)) ((0:Int),0) ?_ ?_ ?_
   ·exact ⟨oi,(by rfl)⟩
   ·exact Sk
   ·rintro ⟨r,k⟩ hC0
    obtain ⟨hk,hr⟩ := hC0
    have hmb := mask_bnd k (ownF h i) (by omega)
    refine W.seq ?_
    refine kE tab47 hnt [(0,.sl (.calls h)),(3,.own 7 o.length),(4,.i ((i:Nat):Int)),(5,.i r),(6,.i ((k:Nat):Int)),(17,.b (decide (((k:Nat):Int)<(h.length:Int))))] 45380 [] tt ?_
    refine ifp (((k:Nat):Int)<(h.length:Int)) ?_ ?_
    ·intro h17
     refine W.skip (thenQ_normal ?_)
     refine W.seq ?_
     refine W.block ?_
     refine kA tab47 hnt [(0,.sl (.calls h)),(3,.own 7 o.length),(4,.i ((i:Nat):Int)),(5,.i r),(6,.i ((k:Nat):Int)),(41,.b ((decide (((h.getD k default).proc)=((h.getD i default).proc))) && (isBefore (h.getD k default) (h.getD i default))))] [(7,⟨3,.row (.ints o)⟩)] [7,999] 1821053507568047928691651352207 ((fun (Z1:Bool)=>([0≤((k:Nat):Int),((k:Nat):Int)<(h.length:Int),0≤((i:Nat):Int),((i:Nat):Int)<(h.length:Int),Z1=true→Y,Z1=true→Y,Z1=true→(((Z1=true)∧Y)∧(((Z1=true)∧Y)∧((0≤((k:Nat):Int))∧(((k:Nat):Int)<(h.length:Int))))),Z1=true→((Z1=true)∧Y),Z1=true→Y,Z1=true→Y,Z1=true→(((Z1=true)∧Y)∧(((Z1=true)∧Y)∧((0≤((i:Nat):Int))∧(((i:Nat):Int)<(h.length:Int))))),Z1=true→((Z1=true)∧Y),Z1=true→(Y∧((((Z1=true)∧Y)∧(((Z1=true)∧Y)∧Y))∧Y)),Z1=true→(Z1=true)∧Y,Z1=false→Y]:PL)) (decide (((h.getD k default).proc)=((h.getD i default).proc)))) ⟨om,om,om,om,(fun _=>trivial),(fun _=>trivial),(fun hG=>⟨⟨hG,tt⟩,⟨hG,tt⟩,(by have hg0 : ((h.getD k default).proc)=((h.getD i default).proc) := of_decide_eq_true hG; omega),(by have hg0 : ((h.getD k default).proc)=((h.getD i default).proc) := of_decide_eq_true hG; omega)⟩),(fun hG=>⟨hG,tt⟩),(fun _=>trivial),(fun _=>trivial),(fun hG=>⟨⟨hG,tt⟩,⟨hG,tt⟩,(by have hg0 : ((h.getD k default).proc)=((h.getD i default).proc) := of_decide_eq_true hG; omega),(by have hg0 : ((h.getD k default).proc)=((h.getD i default).proc) := of_decide_eq_true hG; omega)⟩),(fun hG=>⟨hG,tt⟩),(fun hG=>⟨tt,⟨⟨hG,tt⟩,⟨hG,tt⟩,tt⟩,tt⟩),(fun hp=>⟨hp,tt⟩),(fun _=>trivial)⟩ ?_
     refine ifb ((decide (((h.getD k default).proc)=((h.getD i default).proc))) && (isBefore (h.getD k default) (h.getD i default))) ?_ ?_
     ·intro h41
      have h41_0 : ((h.getD k default).proc)=((h.getD i default).proc) := of_decide_eq_true (and_l h41)
      have hpw := power_le (n := (k:Int)) (by omega)
      have hpw0 := power_pos (k:Int)
      refine lE tab47 hnt [(0,.sl (.calls h)),(3,.own 7 o.length),(4,.i ((i:Nat):Int)),(5,.i (r+(power ((k:Nat):Int)))),(6,.i ((k:Nat):Int))] 937125794 [((k:Nat):Int)≤60,Fits .i64 (r+(power ((k:Nat):Int)))] ⟨om,fi⟩ ?_
      refine blockQ_normal (thenQ_normal ?_)
      refine lE tab47 hnt [(0,.sl (.calls h)),(3,.own 7 o.length),(4,.i ((i:Nat):Int)),(5,.i (r+(power ((k:Nat):Int)))),(6,.i (((k+1):Nat):Int))] 15869 [Fits .i64 (((k+1):Nat):Int)] fi ?_
      refine thenQ_normal ?_
      refine ⟨((r+(power ((k:Nat):Int))),(k+1)),⟨oi,(by first | (rw [hr]; exact (mask_skip (own_fold n41)).symm) | (rw [hr,mask_add (own_fold h41)]; rfl))⟩,(show h.length - (k+1)<h.length - k from o2),?_⟩
      exact Sk
     ·intro n41
      refine W.skip (blockQ_normal (thenQ_normal ?_))
      refine lE tab47 hnt [(0,.sl (.calls h)),(3,.own 7 o.length),(4,.i ((i:Nat):Int)),(5,.i r),(6,.i (((k+1):Nat):Int))] 15869 [Fits .i64 (((k+1):Nat):Int)] fi ?_
      refine thenQ_normal ?_
      refine ⟨(r,(k+1)),⟨oi,(by first | (rw [hr]; exact (mask_skip (own_fold n41)).symm) | (rw [hr,mask_add (own_fold h41)]; rfl))⟩,(show h.length - (k+1)<h.length - k from o2),?_⟩
      exact Sk
    ·intro n17
     refine W.exit (thenQ_exit (thenQ_exit (blockQ_hit ?_)))
     refine thenQ_normal ?_
     refine lS tab47 hnt [(0,.sl (.calls h)),(3,.own 49 (List.length (o++([r])))),(4,.i ((i:Nat):Int))] [(49,⟨3,.row (.ints (o++([r])))⟩)] [49,48,7,999] 104333690 [o.length=o.length,(o.length+(List.length ([r]))) * 8≤140737488355328] ⟨rfl,ow⟩ ?_ [49]
     refine blockQ_normal (thenQ_normal ?_)
     refine lE tab47 hnt [(0,.sl (.calls h)),(3,.own 49 (List.length (o++([r])))),(4,.i (((i+1):Nat):Int))] 15869 [Fits .i64 (((i+1):Nat):Int)] fi ?_
     refine thenQ_normal ?_
     refine ⟨((o++([r])),(i+1)),⟨oi,(by rw [ho]; exact rows_snoc _ _ _ _ (by rw [hr,show k=h.length by omega]))⟩,(show h.length - (i+1)<h.length - i from o2),?_⟩
     exact Sub.of [(7,49)] (@cast (((Sd (.calls h))∧(((49:Nat)=49)∧((List.length (o++([r])))=(List.length (o++([r]))))∧((7:Nat) ∈ ([7,999] : List Nat)))∧(Si (((i+1):Nat):Int))∧Y)∧((((3:Nat)=3)∧(Sd (.ints (o++([r]))))∧((7:Nat) ∈ ([7,999] : List Nat)))∧Y)∧(true=true)∧(true=true)) _ (by kernel_rfl) ⟨⟨rfl,⟨rfl,rfl,(by decide)⟩,rfl,tt⟩,⟨⟨rfl,rfl,(by decide)⟩,tt⟩,rfl,rfl⟩)
  ·intro n11
   refine W.exit (thenQ_exit (thenQ_exit (blockQ_hit ?_)))
   refine thenQ_normal ?_
   refine kE tab47 hnt [(2,.own 7 o.length)] 20 [] tt ?_
   refine W.ret ?_
   exact endQ_ret (.own 7 o.length) (by kernel_rfl) (@cast ((o.length=o.length)∧((.ints o:Dat)=.ints (rowsOf h.length (ownF h)))∧((7:Nat) ∉ ([] : List Nat))) _ (by kernel_rfl) ⟨rfl,⟨(congrArg Dat.ints (by rw [ho,show i=h.length by omega]; rfl)),(by decide)⟩⟩)
theorem ent47 : Entr prog 47 := ⟨_,func47,rfl,by decide⟩
end Go.Proofs.Tryz

set_option linter.unusedSimpArgs false
set_option linter.unusedVariables false
namespace Go.Proofs.Tryz
open Go.Ab Go.RowKit
def fs27 : FnS := fnS [.o,.s .calls] [.str,.calls] (fun _ (s,h,_)=>(.b (explains s h (ownF h)),[],Y))
abbrev T27 : Tab := lk [(44,fs44),(45,fs45),(47,fs47)]
theorem tab27 : TabOK prog T27 := (TabOK.cons ok44 ent44 (TabOK.cons ok45 ent45 (TabOK.cons ok47 ent47 TabOK.nil)))
theorem ok27 : FnOK prog 27 fs27 := by
 refine FnOK.mk cok func27 rfl rfl rfl ?_
 rintro fl ⟨(s:ByteArray),(h : List CallD),_⟩ hpre F hnt0 _
 have hnt : F.nt=18 := hnt0.trans ntmps27
 clear hpre
 refine W.to (⟨[(0,.v (.string s)),(1,.sl (.calls h))],[],[999]⟩) rfl ?_
 refine W.lenOf 1 (.calls h) (by kernel_rfl) ?_
 intro hl_h; replace hl_h : List.length h≤9223372036854775807 := hl_h
 refine kE tab27 hnt [(0,.v (.string s)),(1,.sl (.calls h))] 2 [] tt ?_
 refine kS tab27 hnt [(4,.b ((isObject s && validHistory h) && (decide ((0:Int)<(((List.length (ordersF s h (bitF (rowsOf h.length (ownF h))) (h.length - ([] : List Int).length) ([] : List Int))):Nat):Int)))))] [] [13,999] 3418127365843625204 ((fun (Z1:Bool)=>([Z1=true→Y,Z1=true→Y,Z1=true→Y,Z1=true→(Y∧((((Z1=true)∧Y)∧Y)∧(h.length≤60))),Z1=true→Y,Z1=true→(Y∧((((Z1=true)∧Y)∧(((Z1=true)∧Y)∧(((Z1=true)∧Y)∧(((Z1=true)∧Y)∧Y))))∧((isObject s=true)∧((validHistory h=true)∧(((rowsOf h.length (ownF h))=rowsOf h.length (bitF (rowsOf h.length (ownF h))))∧(headO h ([] : List Int))))))),Z1=true→((Z1=true)∧Y),Z1=true→(((Z1=true)∧Y)∧(Y∧Y)),Z1=true→(Z1=true)∧Y,Z1=false→Y]:PL)) (isObject s && validHistory h)) ⟨(fun _=>trivial),(fun _=>trivial),(fun _=>trivial),(fun hG=>⟨tt,⟨⟨hG,tt⟩,tt⟩,(by have h6 := (valid_iff.1 (and_r hG)).1; omega)⟩),(fun _=>trivial),(fun hG=>⟨tt,⟨⟨hG,tt⟩,⟨hG,tt⟩,⟨hG,tt⟩,⟨hG,tt⟩,tt⟩,(by exact and_l hG),(by exact and_r hG),(by exact rows_self),(by exact headO_nil h)⟩),(fun hG=>⟨hG,tt⟩),(fun hG=>⟨⟨hG,tt⟩,tt,tt⟩),(fun hp=>⟨hp,tt⟩),(fun _=>trivial)⟩ ?_
 refine W.ret ?_
 exact eB (show ((isObject s && validHistory h) && (decide ((0:Int)<(((List.length (ordersF s h (bitF (rowsOf h.length (ownF h))) (h.length - ([] : List Int).length) ([] : List Int))):Nat):Int))))=(explains s h (ownF h)) from (by exact by_gt (fun _=>rfl)))
theorem ent27 : Entr prog 27 := ⟨_,func27,rfl,by decide⟩
end Go.Proofs.Tryz

set_option linter.unusedSimpArgs false
set_option linter.unusedVariables false
namespace Go.Proofs.Tryz
open Go.Ab Go.RowKit
def fs48 : FnS := fnS [.s .calls] [.calls] (fun _ (h,_)=>(.sl (.ints (rowsOf h.length (quietF h))),[],(validHistory h=true)))
abbrev T48 : Tab := lk [(65,fs65)]
theorem tab48 : TabOK prog T48 := (TabOK.cons ok65 ent65 TabOK.nil)
abbrev v480 (opn:Bool) (h:List CallD) (j:Nat) (t:Nat):AV:=.b (opn || ((decide (((h.getD j default).frm)≤((t:Nat):Int))) && (decide (((t:Nat):Int)<((h.getD j default).to)))))
theorem ok48 : FnOK prog 48 fs48 := by
 refine FnOK.mk cok func48 rfl rfl rfl ?_
 rintro fl ⟨(h : List CallD),_⟩ hpre F hnt0 _
 have hnt : F.nt=84 := hnt0.trans ntmps48
 replace hpre : (validHistory h=true) := hpre
 have hv := hpre
 refine W.to (⟨[(0,.sl (.calls h))],[],[999]⟩) rfl ?_
 have hv6 := (valid_iff.1 hv).1
 refine W.lenOf 0 (.calls h) (by kernel_rfl) ?_
 intro hl_h; replace hl_h : List.length h≤9223372036854775807 := hl_h
 refine kE tab48 hnt [(0,.sl (.calls h))] 2 [] tt ?_
 refine kS tab48 hnt [(0,.sl (.calls h)),(3,.own 11 (List.length (List.replicate h.length (0:Int))))] [(11,⟨3,.row (.ints (List.replicate h.length (0:Int)))⟩)] [11,999] 12149453 [(h.length:Int)=(h.length:Int),0≤(h.length:Int),(h.length:Int) * 8≤281474976710656] ⟨rfl,om,om⟩ ?_ [11]
 refine W.seq ?_
 refine kE tab48 hnt [(0,.sl (.calls h)),(3,.own 11 (List.length (List.replicate h.length (0:Int)))),(4,.i (0:Int))] 2 [] tt ?_
 refine W.block ?_
 refine W.loop (ι := (List Int) × Nat) (fun (x : (List Int) × Nat)=>match x with | (o,t)=>(⟨[(0,.sl (.calls h)),(3,.own 11 o.length),(4,.i ((t:Nat):Int))],[(11,⟨3,.row (.ints o)⟩)],[11,999]⟩:St))
  (fun (x : (List Int) × Nat)=>match x with | (o,t)=>(t≤31)∧(o=rowsOf h.length (quietT h t)))
  (fun (x : (List Int) × Nat)=>match x with | (o,t)=>(31 - t:Nat)) ((List.replicate h.length (0:Int)),0) ?_ ?_ ?_
 ·exact ⟨oi,(by exact rows_zero _ _)⟩
 ·exact Sk
 ·rintro ⟨o,t⟩ hC0
  obtain ⟨ht,ho⟩ := hC0
  have hol : o.length=h.length := by rw [ho,rowsOf_len]
  refine W.seq ?_
  refine kE tab48 hnt [(0,.sl (.calls h)),(3,.own 11 o.length),(4,.i ((t:Nat):Int)),(13,.b (decide (((t:Nat):Int)≤(30:Int))))] 560 [] tt ?_
  refine ifp (((t:Nat):Int)≤(30:Int)) ?_ ?_
  ·intro h13
   refine W.skip (thenQ_normal ?_)
   refine W.seq ?_
   refine W.block ?_
   refine kE tab48 hnt [(0,.sl (.calls h)),(3,.own 11 o.length),(4,.i ((t:Nat):Int)),(5,.b false)] 2 [] tt ?_
   refine W.seq ?_
   refine kE tab48 hnt [(0,.sl (.calls h)),(3,.own 11 o.length),(4,.i ((t:Nat):Int)),(5,.b false),(6,.i (0:Int))] 2 [] tt ?_
   refine W.block ?_
   refine W.loop (ι := Bool × Nat) (fun (x : Bool × Nat)=>match x with | (opn,j)=>(⟨[(0,.sl (.calls h)),(3,.own 11 o.length),(4,.i ((t:Nat):Int)),(5,.b opn),(6,.i ((j:Nat):Int))],[(11,⟨3,.row (.ints o)⟩)],[11,999]⟩:St))
    (fun (x : Bool × Nat)=>match x with | (opn,j)=>(j≤h.length)∧(opn=openB h ((t:Nat):Int) j))
    (fun (x : Bool × Nat)=>match x with | (opn,j)=>(h.length - j:Nat)) (false,0) ?_ ?_ ?_
   ·exact ⟨oi,(by rfl)⟩
   ·exact Sk
   ·rintro ⟨opn,j⟩ hC0
    obtain ⟨hj,hop⟩ := hC0
    refine W.seq ?_
    refine kE tab48 hnt [(0,.sl (.calls h)),(3,.own 11 o.length),(4,.i ((t:Nat):Int)),(5,.b opn),(6,.i ((j:Nat):Int)),(19,.b (decide (((j:Nat):Int)<(h.length:Int))))] 45380 [] tt ?_
    refine ifp (((j:Nat):Int)<(h.length:Int)) ?_ ?_
    ·intro h19
     refine W.skip (thenQ_normal ?_)
     refine W.seq ?_
     refine W.block ?_
     refine lE tab48 hnt [(0,.sl (.calls h)),(3,.own 11 o.length),(4,.i ((t:Nat):Int)),(5,(v480 opn h j t)),(6,.i ((j:Nat):Int))] 276868316634727003544 ((fun (Z1:Bool)=>((fun (Z2:Bool)=>((fun (Z3:Bool)=>([Z1=true→Y,Z1=true→Y,Z1=true→(((Z1=true)∧Y)∧(((Z1=true)∧Y)∧((0≤((j:Nat):Int))∧(((j:Nat):Int)<(h.length:Int))))),Z1=true→((Z1=true)∧Y),Z1=true→((Z1=true)∧Y),Z1=true→Y,Z1=true→(((Z1=true)∧Y)∧(((Z1=true)∧Y)∧Y)),Z1=true→Y,Z3=true→Y,Z3=true→Y,Z3=true→Y,Z3=true→(((Z3=true)∧Y)∧(((Z3=true)∧Y)∧((0≤((j:Nat):Int))∧(((j:Nat):Int)<(h.length:Int))))),Z3=true→((Z3=true)∧Y),Z3=true→((Z3=true)∧Y),Z3=true→(((Z3=true)∧Y)∧(((Z3=true)∧Y)∧Y)),Z1=true→(((Z1=true)∧((Z1=true)∧Y))∧((Z2=true→(Z3=true)∧Y)∧(Z2=false→Y))),opn=true→Y,opn=false→(Z1=true)∧Y]:PL)) (Z1 && (Z1 && Z2)))) (decide (((h.getD j default).frm)≤((t:Nat):Int))))) (!opn)) ⟨(fun _=>trivial),(fun _=>trivial),(fun hG=>⟨⟨hG,tt⟩,⟨hG,tt⟩,om,om⟩),(fun hG=>⟨hG,tt⟩),(fun hG=>⟨hG,tt⟩),(fun _=>trivial),(fun hG=>⟨⟨hG,tt⟩,⟨hG,tt⟩,tt⟩),(fun _=>trivial),(fun _=>trivial),(fun _=>trivial),(fun _=>trivial),(fun hG=>⟨⟨hG,tt⟩,⟨hG,tt⟩,(by have hg0 : ((h.getD j default).frm)≤((t:Nat):Int) := of_decide_eq_true (and_r (and_r hG)); omega),(by have hg0 : ((h.getD j default).frm)≤((t:Nat):Int) := of_decide_eq_true (and_r (and_r hG)); omega)⟩),(fun hG=>⟨hG,tt⟩),(fun hG=>⟨hG,tt⟩),(fun hG=>⟨⟨hG,tt⟩,⟨hG,tt⟩,tt⟩),(fun hG=>⟨⟨hG,hG,tt⟩,(fun hp=>⟨(and_t hG (and_t hG hp)),tt⟩),(fun _=>trivial)⟩),(fun _=>trivial),(fun hp=>⟨(not_t hp),tt⟩)⟩ ?_
     refine blockQ_normal (thenQ_normal ?_)
     refine lE tab48 hnt [(0,.sl (.calls h)),(3,.own 11 o.length),(4,.i ((t:Nat):Int)),(5,(v480 opn h j t)),(6,.i (((j+1):Nat):Int))] 15869 [Fits .i64 (((j+1):Nat):Int)] fi ?_
     refine thenQ_normal ?_
     refine ⟨((opn || ((decide (((h.getD j default).frm)≤((t:Nat):Int))) && (decide (((t:Nat):Int)<((h.getD j default).to))))),(j+1)),⟨oi,(by rw [hop]; exact openB_succ rfl)⟩,(show h.length - (j+1)<h.length - j from o2),?_⟩
     exact Sk
    ·intro n19
     refine W.exit (thenQ_exit (thenQ_exit (blockQ_hit ?_)))
     refine thenQ_normal ?_
     refine kE tab48 hnt [(0,.sl (.calls h)),(3,.own 11 o.length),(4,.i ((t:Nat):Int)),(5,.b opn),(7,.i (0:Int))] 2 [] tt ?_
     refine W.block ?_
     refine W.loop (ι := (List Int) × Nat) (fun (x : (List Int) × Nat)=>match x with | (x,i)=>(⟨[(0,.sl (.calls h)),(3,.own 11 x.length),(4,.i ((t:Nat):Int)),(5,.b opn),(7,.i ((i:Nat):Int))],[(11,⟨3,.row (.ints x)⟩)],[11,999]⟩:St))
      (fun (x : (List Int) × Nat)=>match x with | (x,i)=>(i≤h.length)∧(x=rowsOf h.length (mixF (quietT h t) (quietT h (t+1)) i 0)))
      (fun (x : (List Int) × Nat)=>match x with | (x,i)=>(h.length - i:Nat)) (o,0) ?_ ?_ ?_
     ·exact ⟨oi,(by rw [ho]; exact mix_start)⟩
     ·exact Sk
     ·rintro ⟨x,i⟩ hC0
      obtain ⟨hi,hx⟩ := hC0
      have hxl : x.length=h.length := by rw [hx,rowsOf_len]
      refine W.seq ?_
      refine kE tab48 hnt [(0,.sl (.calls h)),(3,.own 11 x.length),(4,.i ((t:Nat):Int)),(5,.b opn),(7,.i ((i:Nat):Int)),(48,.b ((decide (((i:Nat):Int)<(h.length:Int))) && (!opn)))] 149784565466 ((fun (Z1:Bool)=>([Z1=true→Y,Z1=true→((Z1=true)∧Y),Z1=true→(Z1=true)∧Y,Z1=false→Y]:PL)) (decide (((i:Nat):Int)<(h.length:Int)))) ⟨(fun _=>trivial),(fun hG=>⟨hG,tt⟩),(fun hp=>⟨hp,tt⟩),(fun _=>trivial)⟩ ?_
      refine ifb ((decide (((i:Nat):Int)<(h.length:Int))) && (!opn)) ?_ ?_
      ·intro h48
       have h48_0 : ((i:Nat):Int)<(h.length:Int) := of_decide_eq_true (and_l h48)
       refine W.skip (thenQ_normal ?_)
       refine W.seq ?_
       refine W.block ?_
       refine kE tab48 hnt [(0,.sl (.calls h)),(3,.own 11 x.length),(4,.i ((t:Nat):Int)),(5,.b opn),(7,.i ((i:Nat):Int)),(8,.i (0:Int))] 2 [] tt ?_
       refine W.block ?_
       refine W.loop (ι := (List Int) × Nat) (fun (x : (List Int) × Nat)=>match x with | (y,k)=>(⟨[(0,.sl (.calls h)),(3,.own 11 y.length),(4,.i ((t:Nat):Int)),(5,.b opn),(7,.i ((i:Nat):Int)),(8,.i ((k:Nat):Int))],[(11,⟨3,.row (.ints y)⟩)],[11,999]⟩:St))
        (fun (x : (List Int) × Nat)=>match x with | (y,k)=>(k≤h.length)∧(y=rowsOf h.length (mixF (quietT h t) (quietT h (t+1)) i k)))
        (fun (x : (List Int) × Nat)=>match x with | (y,k)=>(h.length - k:Nat)) (x,0) ?_ ?_ ?_
       ·exact ⟨oi,(by exact hx)⟩
       ·exact Sk
       ·rintro ⟨y,k⟩ hC0
        obtain ⟨hk,hy⟩ := hC0
        have hyl : y.length=h.length := by rw [hy,rowsOf_len]
        have hob : openB h ((t:Nat):Int) h.length=false := by rw [show j=h.length by omega] at hop; rw [← hop]; exact not_f (and_r h48)
        refine W.seq ?_
        refine kE tab48 hnt [(0,.sl (.calls h)),(3,.own 11 y.length),(4,.i ((t:Nat):Int)),(5,.b opn),(7,.i ((i:Nat):Int)),(8,.i ((k:Nat):Int)),(54,.b (decide (((k:Nat):Int)<(h.length:Int))))] 45380 [] tt ?_
        refine ifp (((k:Nat):Int)<(h.length:Int)) ?_ ?_
        ·intro h54
         refine W.skip (thenQ_normal ?_)
         refine W.seq ?_
         refine W.block ?_
         refine kE tab48 hnt [(0,.sl (.calls h)),(3,.own 11 y.length),(4,.i ((t:Nat):Int)),(5,.b opn),(7,.i ((i:Nat):Int)),(8,.i ((k:Nat):Int)),(72,.b ((decide (((h.getD k default).to)≤((t:Nat):Int))) && (decide (((t:Nat):Int)<((h.getD i default).frm)))))] 4700457407108195101127 ((fun (Z1:Bool)=>([0≤((k:Nat):Int),((k:Nat):Int)<(h.length:Int),Z1=true→Y,Z1=true→Y,Z1=true→Y,Z1=true→(((Z1=true)∧Y)∧(((Z1=true)∧Y)∧((0≤((i:Nat):Int))∧(((i:Nat):Int)<(h.length:Int))))),Z1=true→((Z1=true)∧Y),Z1=true→((Z1=true)∧Y),Z1=true→(((Z1=true)∧Y)∧(((Z1=true)∧Y)∧Y)),Z1=true→(Z1=true)∧Y,Z1=false→Y]:PL)) (decide (((h.getD k default).to)≤((t:Nat):Int)))) ⟨om,om,(fun _=>trivial),(fun _=>trivial),(fun _=>trivial),(fun hG=>⟨⟨hG,tt⟩,⟨hG,tt⟩,(by have hg0 : ((h.getD k default).to)≤((t:Nat):Int) := of_decide_eq_true hG; omega),(by have hg0 : ((h.getD k default).to)≤((t:Nat):Int) := of_decide_eq_true hG; omega)⟩),(fun hG=>⟨hG,tt⟩),(fun hG=>⟨hG,tt⟩),(fun hG=>⟨⟨hG,tt⟩,⟨hG,tt⟩,tt⟩),(fun hp=>⟨hp,tt⟩),(fun _=>trivial)⟩ ?_
         refine ifb ((decide (((h.getD k default).to)≤((t:Nat):Int))) && (decide (((t:Nat):Int)<((h.getD i default).frm)))) ?_ ?_
         ·intro h72
          have h72_0 : ((h.getD k default).to)≤((t:Nat):Int) := of_decide_eq_true (and_l h72)
          have h72_1 : ((t:Nat):Int)<((h.getD i default).frm) := of_decide_eq_true (and_r h72)
          refine lA tab48 hnt [(0,.sl (.calls h)),(3,.own 11 y.length),(4,.i ((t:Nat):Int)),(5,.b opn),(7,.i ((i:Nat):Int)),(8,.i ((k:Nat):Int))] [(11,⟨3,.row (.ints (List.set y i (bitsI .or .i64 (y.getD i 0) (power ((k:Nat):Int)))))⟩)] [11,999] 300875065823588658502367 [0≤((i:Nat):Int),((i:Nat):Int)<(y.length:Int),i<y.length,((k:Nat):Int)≤60,0≤((i:Nat):Int),((i:Nat):Int)<(y.length:Int),i<y.length] ⟨om,om,om,om,om,om,om⟩ ?_
          refine blockQ_normal (thenQ_normal ?_)
          refine lE tab48 hnt [(0,.sl (.calls h)),(3,.own 11 y.length),(4,.i ((t:Nat):Int)),(5,.b opn),(7,.i ((i:Nat):Int)),(8,.i (((k+1):Nat):Int))] 15869 [Fits .i64 (((k+1):Nat):Int)] fi ?_
          refine thenQ_normal ?_
          refine ⟨((List.set y i (bitsI .or .i64 (y.getD i 0) (power ((k:Nat):Int)))),(k+1)),⟨oi,(by first | (rw [hy]; exact mix_skip (qt_no n72)) | (rw [hy]; exact mix_set (by omega) (by omega) (by omega) (qt_yes hob h72)))⟩,(show h.length - (k+1)<h.length - k from o2),?_⟩
          exact Sub.of [] (@cast (((Sd (.calls h))∧(((11:Nat)=11)∧(y.length=(List.length (List.set y i (bitsI .or .i64 (y.getD i 0) (power ((k:Nat):Int))))))∧((11:Nat) ∈ ([11,999] : List Nat)))∧(Si ((t:Nat):Int))∧(Sv (.bool opn))∧(Si ((i:Nat):Int))∧(Si (((k+1):Nat):Int))∧Y)∧((((3:Nat)=3)∧(Sd (.ints (List.set y i (bitsI .or .i64 (y.getD i 0) (power ((k:Nat):Int))))))∧((11:Nat) ∈ ([11,999] : List Nat)))∧Y)∧(true=true)∧(true=true)) _ (by kernel_rfl) ⟨⟨rfl,⟨rfl,(by first | rfl | omega | assumption | (symm; assumption) | simp | simp_all),(by decide)⟩,rfl,rfl,rfl,rfl,tt⟩,⟨⟨rfl,rfl,(by decide)⟩,tt⟩,rfl,rfl⟩)
         ·intro n72
          refine W.skip (blockQ_normal (thenQ_normal ?_))
          refine lE tab48 hnt [(0,.sl (.calls h)),(3,.own 11 y.length),(4,.i ((t:Nat):Int)),(5,.b opn),(7,.i ((i:Nat):Int)),(8,.i (((k+1):Nat):Int))] 15869 [Fits .i64 (((k+1):Nat):Int)] fi ?_
          refine thenQ_normal ?_
          refine ⟨(y,(k+1)),⟨oi,(by first | (rw [hy]; exact mix_skip (qt_no n72)) | (rw [hy]; exact mix_set (by omega) (by omega) (by omega) (qt_yes hob h72)))⟩,(show h.length - (k+1)<h.length - k from o2),?_⟩
          exact Sk
        ·intro n54
         refine W.exit (thenQ_exit (thenQ_exit (blockQ_hit ?_)))
         refine blockQ_normal (thenQ_normal ?_)
         refine lE tab48 hnt [(0,.sl (.calls h)),(3,.own 11 y.length),(4,.i ((t:Nat):Int)),(5,.b opn),(7,.i (((i+1):Nat):Int))] 15869 [Fits .i64 (((i+1):Nat):Int)] fi ?_
         refine thenQ_normal ?_
         refine ⟨(y,(i+1)),⟨oi,(by rw [hy,show k=h.length by omega]; exact mix_next)⟩,(show h.length - (i+1)<h.length - i from o2),?_⟩
         exact Sk
      ·intro n48
       refine W.exit (thenQ_exit (thenQ_exit (blockQ_hit ?_)))
       refine blockQ_normal (thenQ_normal ?_)
       refine lE tab48 hnt [(0,.sl (.calls h)),(3,.own 11 x.length),(4,.i (((t+1):Nat):Int))] 15869 [Fits .i64 (((t+1):Nat):Int)] fi ?_
       refine thenQ_normal ?_
       refine ⟨(x,(t+1)),⟨oi,(by rw [hx]; exact mix_out (by rw [show j=h.length by omega] at hop; rw [← hop]; exact n48))⟩,(show 31 - (t+1)<31 - t from o2),?_⟩
       exact Sk
  ·intro n13
   refine W.exit (thenQ_exit (thenQ_exit (blockQ_hit ?_)))
   refine thenQ_normal ?_
   refine kE tab48 hnt [(2,.own 11 o.length)] 20 [] tt ?_
   refine W.subS [] (⟨[(2,.sl (.ints o))],[],[999]⟩) (@cast ((((o.length=o.length)∧(Sd (.ints o))∧((11:Nat) ∉ ([] : List Nat)))∧Y)∧Y∧(true=true)∧(true=true)) _ (by kernel_rfl) ⟨⟨⟨rfl,rfl,(by decide)⟩,tt⟩,tt,rfl,rfl⟩) ?_
   refine W.ret ?_
   exact endQ_ret (.sl (.ints o)) (by kernel_rfl) (@cast ((.ints o:Dat)=.ints (rowsOf h.length (quietF h))) _ (by kernel_rfl) (congrArg Dat.ints (by rw [ho]; exact quiet_fin (by omega))))
theorem ent48 : Entr prog 48 := ⟨_,func48,rfl,by decide⟩
end Go.Proofs.Tryz
