import Derived.Test.YtbmbdlgifplglaaGreatDoorZF4S0
import Derived.Test.YtbmbdlgifplglaaGreatDoorZF4S1
import Derived.Test.YtbmbdlgifplglaaGreatDoorZF4S3
import Derived.Test.YtbmbdlgifplglaaGreatDoorZF4S2
set_option maxRecDepth 100000
set_option maxHeartbeats 1000000
set_option linter.unusedSimpArgs false
set_option linter.unusedVariables false
namespace Go.Proofs.Tryz
open Go.Ab Go.RowKit
def fs121 : FnS := fnS [.o,.c .ints 3,.o] [.str,.ints,.call] (fun _ (s,l,c,_)=>(.tup [.sl (.ints ((iRow s l c).1)),.i ((iRow s l c).2)],[],(∀ j,j<l.length→0≤l.getD j 0∧l.getD j 0≤20)∧(0≤c.arg∧c.arg≤3)∧(l.length≤20)))
abbrev T121 : Tab := lk [(134,fs134)]
theorem tab121 : TabOK prog T121 := (TabOK.cons ok134 ent134 TabOK.nil)
theorem ok121 : FnOK prog 121 fs121 := by
 refine FnOK.mk cok func121 rfl rfl rfl ?_
 rintro fl ⟨(s:ByteArray),(l : List Int),(c:CallD),_⟩ hpre F hnt0 _
 have hnt : F.nt=48 := hnt0.trans ntmps121
 replace hpre : (∀ j,j<l.length→0≤l.getD j 0∧l.getD j 0≤20)∧(0≤c.arg∧c.arg≤3)∧(l.length≤20) := hpre
 obtain ⟨hs,ha,hl⟩ := hpre
 refine W.to (⟨[(0,.v (.string s)),(1,.own 999 l.length),(2,.agg [.i c.proc,.i c.obj,.i c.kind,.i c.arg,.i c.ret,.i c.frm,.i c.to])],[(999,⟨3,.row (.ints l)⟩)],[999]⟩) rfl ?_
 refine kS tab121 hnt [(0,.v (.string s)),(1,.own 999 l.length),(5,.ptr 5 0)] [(5,⟨59,.fix [.i c.proc,.i c.obj,.i c.kind,.i c.arg,.i c.ret,.i c.frm,.i c.to]⟩),(999,⟨3,.row (.ints l)⟩)] [5,999] 182 [] tt ?_
 refine kE tab121 hnt [(0,.v (.string s)),(1,.own 999 l.length),(5,.ptr 5 0),(8,.i (0:Int))] 2 [] tt ?_
 refine W.seq ?_
 refine kE tab121 hnt [(1,.own 999 l.length),(5,.ptr 5 0),(8,.i (0:Int)),(11,.b (eqS s nStack))] 560 [] tt ?_
 refine W.meetT (ι := Int) (fun (v:Int)=>(⟨[(1,.own 999 l.length),(5,.ptr 5 0),(8,.i v)],[(5,⟨59,.fix [.i c.proc,.i c.obj,.i c.kind,.i c.arg,.i c.ret,.i c.frm,.i c.to]⟩),(999,⟨3,.row (.ints l)⟩)],[5,999]⟩:St)) (fun (v:Int)=>(v=topOf s l)∧(-1≤v∧v<max 1 (l.length:Int)∧(0<l.length→0≤v))) ?_ ?_
 ·skip
  refine ifb (eqS s nStack) ?_ ?_
  ·intro h11
   refine lE tab121 hnt [(1,.own 999 l.length),(5,.ptr 5 0),(8,.i ((l.length:Int) - (1:Int)))] 142823 [Fits .i64 ((l.length:Int) - (1:Int))] fi ?_
   refine thenQ_normal ?_
   refine ⟨(((l.length:Int) - (1:Int))),⟨(by unfold topOf; first | (rw [h11]; rfl) | (rw [n11]; rfl)),(by omega)⟩,?_⟩
   exact Sk
  ·intro n11
   refine W.skip (thenQ_normal ?_)
   refine ⟨((0:Int)),⟨(by unfold topOf; first | (rw [h11]; rfl) | (rw [n11]; rfl)),(by omega)⟩,?_⟩
   exact Sk
 ·rintro v hC0
  obtain ⟨hv,hvb⟩ := hC0
  refine W.seq ?_
  refine W.block ?_
  refine kE tab121 hnt [(1,.own 999 l.length),(5,.ptr 5 0),(8,.i v),(15,.b (decide (c.kind=(0:Int))))] 123140 [] tt ?_
  refine ifp (c.kind=(0:Int)) ?_ ?_
  ·intro h15
   refine kS tab121 hnt [(6,.sl (.ints (l++([c.arg])))),(7,.i (0:Int))] [(5,⟨59,.fix [.i c.proc,.i c.obj,.i c.kind,.i c.arg,.i c.ret,.i c.frm,.i c.to]⟩)] [23,22,5,999] 7912572014 [l.length=l.length,(l.length+(List.length ([c.arg]))) * 8≤140737488355328] ⟨rfl,ow⟩ ?_
   refine W.ret (blockQ_ret (thenQ_ret ?_))
   exact endQ_ret (.tup [.sl (.ints (l++([c.arg]))),.i (0:Int)]) (by kernel_rfl) (@cast (((.ints (l++([c.arg])):Dat)=.ints ((iRow s l c).1))∧((.int .i64 (0:Int):Value)=.int .i64 ((iRow s l c).2))∧Y) _ (by kernel_rfl) ⟨(congrArg Dat.ints (by subst hv; first | (simp only [iRow,(decide_eq_true h15),bb]; done) | simp only [iRow,(decide_eq_true h15),bb])),(congrArg (Value.int .i64) (by subst hv; first | (simp only [iRow,(decide_eq_true h15),bb]; done) | simp only [iRow,(decide_eq_true h15),bb])),tt⟩)
  ·intro n15
   refine kE tab121 hnt [(1,.own 999 l.length),(5,.ptr 5 0),(8,.i v),(24,.b (decide ((l.length:Int)=(0:Int))))] 123140 [] tt ?_
   refine ifp ((l.length:Int)=(0:Int)) ?_ ?_
   ·intro h24
    refine kE tab121 hnt [(6,.own 999 l.length),(7,.i (-1:Int))] 182 [] tt ?_
    refine W.ret (blockQ_ret (thenQ_ret ?_))
    exact endQ_ret (.tup [.own 999 l.length,.i (-1:Int)]) (by kernel_rfl) (@cast (((l.length=l.length)∧((.ints l:Dat)=.ints ((iRow s l c).1))∧((999:Nat) ∉ ([] : List Nat)))∧((.int .i64 (-1:Int):Value)=.int .i64 ((iRow s l c).2))∧Y) _ (by kernel_rfl) ⟨⟨rfl,(congrArg Dat.ints (by subst hv; first | (simp only [iRow,(decide_eq_true h24),(decide_eq_false n15),bb]; done) | simp only [iRow,(decide_eq_true h24),(decide_eq_false n15),bb])),(by decide)⟩,(congrArg (Value.int .i64) (by subst hv; first | (simp only [iRow,(decide_eq_true h24),(decide_eq_false n15),bb]; done) | simp only [iRow,(decide_eq_true h24),(decide_eq_false n15),bb])),tt⟩)
   ·intro n24
    refine kE tab121 hnt [(1,.own 999 l.length),(8,.i v),(29,.b (decide (c.kind=(2:Int))))] 123140 [] tt ?_
    refine ifp (c.kind=(2:Int)) ?_ ?_
    ·intro h29
     refine kA tab121 hnt [(6,.own 999 l.length),(7,.i (l.getD (Int.toNat v) 0))] [(5,⟨59,.fix [.i c.proc,.i c.obj,.i c.kind,.i c.arg,.i c.ret,.i c.frm,.i c.to]⟩),(999,⟨3,.row (.ints l)⟩)] [5,999] 7918339133 [0≤v,v<(l.length:Int),(Int.toNat v)<l.length] ⟨om,om,om⟩ ?_
     refine W.ret (blockQ_ret (thenQ_ret ?_))
     exact endQ_ret (.tup [.own 999 l.length,.i (l.getD (Int.toNat v) 0)]) (by kernel_rfl) (@cast (((l.length=l.length)∧((.ints l:Dat)=.ints ((iRow s l c).1))∧((999:Nat) ∉ ([] : List Nat)))∧((.int .i64 (l.getD (Int.toNat v) 0):Value)=.int .i64 ((iRow s l c).2))∧Y) _ (by kernel_rfl) ⟨⟨rfl,(congrArg Dat.ints (by subst hv; first | (simp only [iRow,(decide_eq_true h29),(decide_eq_false n15),(decide_eq_false n24),bb]; done) | simp only [iRow,(decide_eq_true h29),(decide_eq_false n15),(decide_eq_false n24),bb])),(by decide)⟩,(congrArg (Value.int .i64) (by subst hv; first | (simp only [iRow,(decide_eq_true h29),(decide_eq_false n15),(decide_eq_false n24),bb]; done) | simp only [iRow,(decide_eq_true h29),(decide_eq_false n15),(decide_eq_false n24),bb])),tt⟩)
    ·intro n29
     refine W.skip (blockQ_normal (thenQ_normal ?_))
     refine kE tab121 hnt [(1,.own 999 l.length),(8,.i v),(9,.i (l.getD (Int.toNat v) 0))] 104974481 [0≤v,v<(l.length:Int),(Int.toNat v)<l.length] ⟨om,om,om⟩ ?_
     refine kS tab121 hnt [(6,.own 46 (List.length (l.take v.toNat++l.drop (v+(1:Int)).toNat))),(7,.i (l.getD (Int.toNat v) 0))] [(5,⟨59,.fix [.i c.proc,.i c.obj,.i c.kind,.i c.arg,.i c.ret,.i c.frm,.i c.to]⟩),(46,⟨3,.row (.ints (l.take v.toNat++l.drop (v+(1:Int)).toNat))⟩)] [46,5,999] 37583252124558275 [Fits .i64 (v+(1:Int)),l.length=l.length,0≤v,v<(v+(1:Int)),(v+(1:Int))≤l.length] ⟨fi,rfl,om,om,om⟩ ?_ [46]
     refine W.ret ?_
     exact endQ_ret (.tup [.own 46 (List.length (l.take v.toNat++l.drop (v+(1:Int)).toNat)),.i (l.getD (Int.toNat v) 0)]) (by kernel_rfl) (@cast ((((List.length (l.take v.toNat++l.drop (v+(1:Int)).toNat))=(List.length (l.take v.toNat++l.drop (v+(1:Int)).toNat)))∧((.ints (l.take v.toNat++l.drop (v+(1:Int)).toNat):Dat)=.ints ((iRow s l c).1))∧((46:Nat) ∉ ([] : List Nat)))∧((.int .i64 (l.getD (Int.toNat v) 0):Value)=.int .i64 ((iRow s l c).2))∧Y) _ (by kernel_rfl) ⟨⟨rfl,(congrArg Dat.ints (by subst hv; first | (simp only [iRow,(decide_eq_false n15),(decide_eq_false n24),(decide_eq_false n29),bb]; done) | simp only [iRow,(decide_eq_false n15),(decide_eq_false n24),(decide_eq_false n29),bb])),(by decide)⟩,(congrArg (Value.int .i64) (by subst hv; first | (simp only [iRow,(decide_eq_false n15),(decide_eq_false n24),(decide_eq_false n29),bb]; done) | simp only [iRow,(decide_eq_false n15),(decide_eq_false n24),(decide_eq_false n29),bb])),tt⟩)
theorem ent121 : Entr prog 121 := ⟨_,func121,rfl,by decide⟩
end Go.Proofs.Tryz

set_option linter.unusedSimpArgs false
set_option linter.unusedVariables false
namespace Go.Proofs.Tryz
open Go.Ab Go.RowKit
def fs102 : FnS := fnS [.o,.s .ints,.o] [.str,.ints,.call] (fun _ (s,l,c,_)=>(.tup [.sl (.ints ((iStep s l c).1)),.i ((iStep s l c).2)],[],(∀ j,j<l.length→0≤l.getD j 0∧l.getD j 0≤20)∧(0≤c.arg∧c.arg≤3)∧(l.length≤20)))
abbrev T102 : Tab := lk [(54,fs54),(81,fs81),(119,fs119),(120,fs120),(121,fs121)]
theorem tab102 : TabOK prog T102 := (TabOK.cons ok54 ent54 (TabOK.cons ok81 ent81 (TabOK.cons ok119 ent119 (TabOK.cons ok120 ent120 (TabOK.cons ok121 ent121 TabOK.nil)))))
theorem ok102 : FnOK prog 102 fs102 := by
 refine FnOK.mk cok func102 rfl rfl rfl ?_
 rintro fl ⟨(s:ByteArray),(l : List Int),(c:CallD),_⟩ hpre F hnt0 _
 have hnt : F.nt=33 := hnt0.trans ntmps102
 replace hpre : (∀ j,j<l.length→0≤l.getD j 0∧l.getD j 0≤20)∧(0≤c.arg∧c.arg≤3)∧(l.length≤20) := hpre
 obtain ⟨hs,ha,hl⟩ := hpre
 refine W.to (⟨[(0,.v (.string s)),(1,.sl (.ints l)),(2,.agg [.i c.proc,.i c.obj,.i c.kind,.i c.arg,.i c.ret,.i c.frm,.i c.to])],[],[999]⟩) rfl ?_
 refine W.lenOf 1 (.ints l) (by kernel_rfl) ?_
 intro hl_l; replace hl_l : List.length l≤9223372036854775807 := hl_l
 refine kS tab102 hnt [(0,.v (.string s)),(1,.sl (.ints l)),(5,.ptr 5 0)] [(5,⟨59,.fix [.i c.proc,.i c.obj,.i c.kind,.i c.arg,.i c.ret,.i c.frm,.i c.to]⟩)] [5,999] 182 [] tt ?_
 refine kS tab102 hnt [(0,.v (.string s)),(1,.own 9 l.length),(5,.ptr 5 0)] [(5,⟨59,.fix [.i c.proc,.i c.obj,.i c.kind,.i c.arg,.i c.ret,.i c.frm,.i c.to]⟩),(9,⟨3,.row (.ints l)⟩)] [9,5,999] 139799 [l.length * 8≤140737488355328] om ?_ [9]
 refine W.seq ?_
 refine W.block ?_
 refine kE tab102 hnt [(0,.v (.string s)),(1,.own 9 l.length),(5,.ptr 5 0),(10,.b (isSingle s))] 120116 [] tt ?_
 refine ifb (isSingle s) ?_ ?_
 ·intro h10
  refine kS tab102 hnt [(6,.sl (.ints ((iSingle s l c).1))),(7,.i ((iSingle s l c).2))] [(5,⟨59,.fix [.i c.proc,.i c.obj,.i c.kind,.i c.arg,.i c.ret,.i c.frm,.i c.to]⟩)] [9,5,999] 463336800938372 [l.length=l.length,∀ j,j<l.length→0≤l.getD j 0∧l.getD j 0≤20,0≤c.arg∧c.arg≤3,l.length≤20] ⟨rfl,om,om,om⟩ ?_
  refine W.ret (blockQ_ret (thenQ_ret ?_))
  exact endQ_ret (.tup [.sl (.ints ((iSingle s l c).1)),.i ((iSingle s l c).2)]) (by kernel_rfl) (@cast (((.ints ((iSingle s l c).1):Dat)=.ints ((iStep s l c).1))∧((.int .i64 ((iSingle s l c).2):Value)=.int .i64 ((iStep s l c).2))∧Y) _ (by kernel_rfl) ⟨(congrArg Dat.ints (by simp only [iStep,h10,bb])),(congrArg (Value.int .i64) (by simp only [iStep,h10,bb])),tt⟩)
 ·intro n10
  refine kE tab102 hnt [(0,.v (.string s)),(1,.own 9 l.length),(5,.ptr 5 0),(19,.b (eqS s nSet))] 13682 [] tt ?_
  refine ifb (eqS s nSet) ?_ ?_
  ·intro h19
   refine kS tab102 hnt [(6,.sl (.ints ((iSet l c).1))),(7,.i ((iSet l c).2))] [(5,⟨59,.fix [.i c.proc,.i c.obj,.i c.kind,.i c.arg,.i c.ret,.i c.frm,.i c.to]⟩)] [9,5,999] 5720207422016 [l.length=l.length,∀ j,j<l.length→0≤l.getD j 0∧l.getD j 0≤20,0≤c.arg∧c.arg≤3,l.length≤20] ⟨rfl,om,om,om⟩ ?_
   refine W.ret (blockQ_ret (thenQ_ret ?_))
   exact endQ_ret (.tup [.sl (.ints ((iSet l c).1)),.i ((iSet l c).2)]) (by kernel_rfl) (@cast (((.ints ((iSet l c).1):Dat)=.ints ((iStep s l c).1))∧((.int .i64 ((iSet l c).2):Value)=.int .i64 ((iStep s l c).2))∧Y) _ (by kernel_rfl) ⟨(congrArg Dat.ints (by simp only [iStep,h19,n10,bb])),(congrArg (Value.int .i64) (by simp only [iStep,h19,n10,bb])),tt⟩)
  ·intro n19
   refine W.skip (blockQ_normal (thenQ_normal ?_))
   refine kS tab102 hnt [(6,.sl (.ints ((iRow s l c).1))),(7,.i ((iRow s l c).2))] [(5,⟨59,.fix [.i c.proc,.i c.obj,.i c.kind,.i c.arg,.i c.ret,.i c.frm,.i c.to]⟩)] [9,5,999] 463336800938372 [l.length=l.length,∀ j,j<l.length→0≤l.getD j 0∧l.getD j 0≤20,0≤c.arg∧c.arg≤3,l.length≤20] ⟨rfl,om,om,om⟩ ?_
   refine W.ret ?_
   exact endQ_ret (.tup [.sl (.ints ((iRow s l c).1)),.i ((iRow s l c).2)]) (by kernel_rfl) (@cast (((.ints ((iRow s l c).1):Dat)=.ints ((iStep s l c).1))∧((.int .i64 ((iRow s l c).2):Value)=.int .i64 ((iStep s l c).2))∧Y) _ (by kernel_rfl) ⟨(congrArg Dat.ints (by simp only [iStep,n10,n19,bb])),(congrArg (Value.int .i64) (by simp only [iStep,n10,n19,bb])),tt⟩)
theorem ent102 : Entr prog 102 := ⟨_,func102,rfl,by decide⟩
end Go.Proofs.Tryz

set_option linter.unusedSimpArgs false
set_option linter.unusedVariables false
namespace Go.Proofs.Tryz
open Go.Ab Go.RowKit
abbrev T80h : Tab := lk [(102,fs102)]
theorem tab80h : TabOK prog T80h := (TabOK.cons ok102 ent102 TabOK.nil)
theorem ent80h : Entr prog 80 := ⟨_,func80,rfl,by decide⟩
abbrev v80h0 (o:List Int):AV:=.i (o.length:Int)
abbrev v80h1 (s:ByteArray) (ss:List (List Int)) (h:List CallD) (o:List Int) (i:Nat):AV:=.sl (.ints ((iStep s (ss.getD (Int.toNat ((h.getD (Int.toNat (o.getD i 0)) default).obj)) []) (h.getD (Int.toNat (o.getD i 0)) default)).1))
theorem hok80h : ∀ (s:ByteArray) (h : List CallD) (o : List Int),((isObject s=true)∧(validHistory h=true)∧(inH h o)∧(o.length≤6))→HOK prog 80 [911] [.v (.string s),.sl (.calls h),.own 911 o.length] [(911,⟨3,.row (.ints o)⟩)] [911] (fun r s1 u1=>r=(.tup [.agg [.sl (.ints ((playedR s h o).1.getD 0 [])),.sl (.ints ((playedR s h o).1.getD 1 []))],.b ((playedR s h o).2)])∧s1=([(911,⟨3,.row (.ints o)⟩)])∧u1=([911])) := by
 intro s h o hpre
 obtain ⟨hs,hv,ho,h6⟩ := hpre
 refine HOK.of cok func80 rfl rfl rfl ?_
 intro F hnt0
 have hnt : F.nt=53 := hnt0.trans ntmps80
 refine W.to (⟨[(0,.v (.string s)),(1,.sl (.calls h)),(2,.own 911 o.length)],[(911,⟨3,.row (.ints o)⟩)],[911]⟩) rfl ?_
 refine kS tab80h hnt [(0,.v (.string s)),(1,.sl (.calls h)),(2,.own 911 o.length),(6,.ptr 6 0)] [(6,⟨85,.row (.intss ([[],[]] : List (List Int)))⟩),(911,⟨3,.row (.ints o)⟩)] [6,911] 20 [] tt ?_
 refine kS tab80h hnt [(0,.v (.string s)),(1,.sl (.calls h)),(2,.own 911 o.length),(6,.ptr 6 0),(8,.ptr 8 0)] [(6,⟨85,.row (.intss ([[],[]] : List (List Int)))⟩),(8,⟨85,.row (.intss ([([] : List Int),([] : List Int)]))⟩),(911,⟨3,.row (.ints o)⟩)] [8,6,911] 24725 [(List.length ([[],[]] : List (List Int)))=2] (by first | exact hsl | rfl | (rw [List.length_set]; exact hsl)) ?_
 refine W.seq ?_
 refine kE tab80h hnt [(0,.v (.string s)),(1,.sl (.calls h)),(6,.ptr 6 0),(8,.ptr 8 0),(14,.own 911 o.length),(15,(v80h0 o)),(16,.i (0:Int))] 182 [] tt ?_
 refine W.block ?_
 refine W.loop (ι := Nat × (List (List Int))) (fun (x : Nat × (List (List Int)))=>match x with | (i,ss)=>(⟨[(0,.v (.string s)),(1,.sl (.calls h)),(6,.ptr 6 0),(8,.ptr 8 0),(14,.own 911 o.length),(15,(v80h0 o)),(16,.i ((i:Nat):Int))],[(6,⟨85,.row (.intss ([[],[]] : List (List Int)))⟩),(8,⟨85,.row (.intss ss)⟩),(911,⟨3,.row (.ints o)⟩)],[6,8,911]⟩:St))
  (fun (x : Nat × (List (List Int)))=>match x with | (i,ss)=>(i≤o.length)∧(ss=sts s h o i)∧(∀ j,j<i→okAt s h o j=true))
  (fun (x : Nat × (List (List Int)))=>match x with | (i,ss)=>(o.length - i:Nat)) (0,([([] : List Int),([] : List Int)])) ?_ ?_ ?_
 ·exact ⟨oi,(by rfl),(by exact upto_zero)⟩
 ·exact Sk
 ·rintro ⟨i,ss⟩ hC0
  obtain ⟨hi,hss,hA⟩ := hC0
  have hsl : ss.length=2 := by rw [hss]; exact sts_len s h o i
  have hri := ho i
  have hcl := fun hi=>isCall_iff.1 (ord_call hv ho (i := i) hi)
  unfold ordAt callAt at hcl
  have hst := fun hi=>sts_step hs hv ho (i := i) hi (by omega)
  unfold ordAt callAt at hst
  refine kE tab80h hnt [(0,.v (.string s)),(1,.sl (.calls h)),(6,.ptr 6 0),(8,.ptr 8 0),(14,.own 911 o.length),(15,(v80h0 o)),(16,.i ((i:Nat):Int)),(17,.b (decide (((i:Nat):Int)<(o.length:Int))))] 62 [] tt ?_
  refine W.seq ?_
  refine ifp (((i:Nat):Int)<(o.length:Int)) ?_ ?_
  ·intro h17
   refine W.skip (thenQ_normal ?_)
   refine W.seq ?_
   refine W.block ?_
   refine kE tab80h hnt [(0,.v (.string s)),(1,.sl (.calls h)),(6,.ptr 6 0),(8,.ptr 8 0),(10,.i (o.getD i 0)),(14,.own 911 o.length),(15,(v80h0 o)),(16,.i ((i:Nat):Int))] 1295981 [0≤((i:Nat):Int),((i:Nat):Int)<(o.length:Int),i<o.length] ⟨om,(by have hh := hcl (by omega); omega),(by have hh := hcl (by omega); omega)⟩ ?_
   refine kA tab80h hnt [(0,.v (.string s)),(1,.sl (.calls h)),(6,.ptr 6 0),(8,.ptr 8 0),(10,.i (o.getD i 0)),(11,(v80h1 s ss h o i)),(12,.i ((iStep s (ss.getD (Int.toNat ((h.getD (Int.toNat (o.getD i 0)) default).obj)) []) (h.getD (Int.toNat (o.getD i 0)) default)).2)),(14,.own 911 o.length),(15,(v80h0 o)),(16,.i ((i:Nat):Int))] [(6,⟨85,.row (.intss ([[],[]] : List (List Int)))⟩),(8,⟨85,.row (.intss ss)⟩),(911,⟨3,.row (.ints o)⟩)] [6,8,911] 625801145884208838891454176176546 [0≤(o.getD i 0),(o.getD i 0)<(h.length:Int),0≤((h.getD (Int.toNat (o.getD i 0)) default).obj),((h.getD (Int.toNat (o.getD i 0)) default).obj)<2,(Int.toNat ((h.getD (Int.toNat (o.getD i 0)) default).obj))<ss.length,0≤(o.getD i 0),(o.getD i 0)<(h.length:Int),∀ j,j<(ss.getD (Int.toNat ((h.getD (Int.toNat (o.getD i 0)) default).obj)) []).length→0≤(ss.getD (Int.toNat ((h.getD (Int.toNat (o.getD i 0)) default).obj)) []).getD j 0∧(ss.getD (Int.toNat ((h.getD (Int.toNat (o.getD i 0)) default).obj)) []).getD j 0≤20,0≤(h.getD (Int.toNat (o.getD i 0)) default).arg∧(h.getD (Int.toNat (o.getD i 0)) default).arg≤3,(ss.getD (Int.toNat ((h.getD (Int.toNat (o.getD i 0)) default).obj)) []).length≤20] ⟨ow,(by have hh := hcl (by omega); omega),(by have hh := hcl (by omega); omega),(by have hh := hcl (by omega); omega),(by have hh := hcl (by omega); omega),ow,(by have hh := hcl (by omega); omega),(by have hh := (sts_at hs hv ho (i := i) (by omega) (by omega)).2.2; unfold ordAt callAt at hh; rw [hss]; intro j hj; have := hh _ (getD_mem _ 0 hj); omega),(by have hh := hcl (by omega); omega),(by have hh := (sts_at hs hv ho (i := i) (by omega) (by omega)).2.1; unfold ordAt callAt at hh; rw [hss]; omega)⟩ ?_
   refine W.seq ?_
   refine kE tab80h hnt [(0,.v (.string s)),(1,.sl (.calls h)),(6,.ptr 6 0),(8,.ptr 8 0),(10,.i (o.getD i 0)),(11,(v80h1 s ss h o i)),(14,.own 911 o.length),(15,(v80h0 o)),(16,.i ((i:Nat):Int)),(42,.b (decide (((iStep s (ss.getD (Int.toNat ((h.getD (Int.toNat (o.getD i 0)) default).obj)) []) (h.getD (Int.toNat (o.getD i 0)) default)).2)≠((h.getD (Int.toNat (o.getD i 0)) default).ret))))] 24118255136 [0≤(o.getD i 0),(o.getD i 0)<(h.length:Int)] ⟨ow,(by have hh := hcl (by omega); omega)⟩ ?_
   refine ifp (((iStep s (ss.getD (Int.toNat ((h.getD (Int.toNat (o.getD i 0)) default).obj)) []) (h.getD (Int.toNat (o.getD i 0)) default)).2)≠((h.getD (Int.toNat (o.getD i 0)) default).ret)) ?_ ?_
   ·intro h42
    refine kS tab80h hnt [(6,.ptr 6 0),(7,.b false)] [(6,⟨85,.row (.intss ([ss.getD 0 [],ss.getD 1 []]))⟩),(8,⟨85,.row (.intss ss)⟩),(911,⟨3,.row (.ints o)⟩)] [6,8,911] 142838 [ss.length=2,(List.length ([[],[]] : List (List Int)))=2] ⟨(by first | exact hsl | rfl | (rw [List.length_set]; exact hsl)),(by first | exact hsl | rfl | (rw [List.length_set]; exact hsl))⟩ ?_
    refine W.ret (thenQ_ret (blockQ_ret (thenQ_ret (thenQ_ret (blockQ_ret (thenQ_ret ?_))))))
    exact endH_ret (.tup [.agg [.sl (.ints ((playedR s h o).1.getD 0 [])),.sl (.ints ((playedR s h o).1.getD 1 []))],.b ((playedR s h o).2)]) [(911,⟨3,.row (.ints o)⟩)] [911] ⟨rfl,rfl,rfl⟩ [(911,911)] (.tup [.agg [.sl (.ints (List.getD ([ss.getD 0 [],ss.getD 1 []]) 0 [])),.sl (.ints (List.getD ([ss.getD 0 [],ss.getD 1 []]) 1 []))],.b false]) (by kernel_rfl) (@cast (((((.ints (List.getD ([ss.getD 0 [],ss.getD 1 []]) 0 []):Dat)=.ints ((playedR s h o).1.getD 0 []))∧((.ints (List.getD ([ss.getD 0 [],ss.getD 1 []]) 1 []):Dat)=.ints ((playedR s h o).1.getD 1 []))∧Y)∧((.bool false:Value)=.bool ((playedR s h o).2))∧Y)∧((((3:Nat)=3)∧(Sd (.ints o))∧((911:Nat) ∈ ([911] : List Nat)))∧Y)∧(true=true)∧(true=true)) _ (by kernel_rfl) ⟨⟨⟨(congrArg Dat.ints (by rw [played_no (i := i) (by omega) (fun j hj=>hA j hj) (by have h9 := (hst (by omega)).2; rw [hss] at h42; rw [← h9]; exact decide_eq_false (by omega))] <;> (subst hss; rfl))),(congrArg Dat.ints (by rw [played_no (i := i) (by omega) (fun j hj=>hA j hj) (by have h9 := (hst (by omega)).2; rw [hss] at h42; rw [← h9]; exact decide_eq_false (by omega))] <;> (subst hss; rfl))),tt⟩,(congrArg Value.bool (by rw [played_no (i := i) (by omega) (fun j hj=>hA j hj) (by have h9 := (hst (by omega)).2; rw [hss] at h42; rw [← h9]; exact decide_eq_false (by omega))] <;> (subst hss; rfl))),tt⟩,⟨⟨rfl,rfl,(by decide)⟩,tt⟩,rfl,rfl⟩)
   ·intro n42
    refine W.skip (thenQ_normal ?_)
    refine lS tab80h hnt [(0,.v (.string s)),(1,.sl (.calls h)),(6,.ptr 6 0),(8,.ptr 8 0),(14,.own 911 o.length),(15,(v80h0 o)),(16,.i ((i:Nat):Int))] [(6,⟨85,.row (.intss ([[],[]] : List (List Int)))⟩),(8,⟨85,.row (.intss (List.set ss (Int.toNat ((h.getD (Int.toNat (o.getD i 0)) default).obj)) ((iStep s (ss.getD (Int.toNat ((h.getD (Int.toNat (o.getD i 0)) default).obj)) []) (h.getD (Int.toNat (o.getD i 0)) default)).1)))⟩),(911,⟨3,.row (.ints o)⟩)] [6,8,911] 776611199217107 [0≤(o.getD i 0),(o.getD i 0)<(h.length:Int),0≤((h.getD (Int.toNat (o.getD i 0)) default).obj),((h.getD (Int.toNat (o.getD i 0)) default).obj)<2,(Int.toNat ((h.getD (Int.toNat (o.getD i 0)) default).obj))<ss.length] ⟨ow,(by have hh := hcl (by omega); omega),(by have hh := hcl (by omega); omega),(by have hh := hcl (by omega); omega),(by have hh := hcl (by omega); omega)⟩ ?_
    refine blockQ_normal (thenQ_normal ?_)
    refine lE tab80h hnt [(0,.v (.string s)),(1,.sl (.calls h)),(6,.ptr 6 0),(8,.ptr 8 0),(14,.own 911 o.length),(15,(v80h0 o)),(16,.i (((i+1):Nat):Int))] 1763 [Fits .i64 (((i+1):Nat):Int)] fi ?_
    refine thenQ_normal ?_
    refine ⟨((i+1),(List.set ss (Int.toNat ((h.getD (Int.toNat (o.getD i 0)) default).obj)) ((iStep s (ss.getD (Int.toNat ((h.getD (Int.toNat (o.getD i 0)) default).obj)) []) (h.getD (Int.toNat (o.getD i 0)) default)).1))),⟨oi,(by rw [hss,(hst (by omega)).1]; rfl),(by exact upto_succ hA (by have h9 := (hst (by omega)).2; rw [hss] at n42; rw [← h9]; exact decide_eq_true (by omega)))⟩,(show o.length - (i+1)<o.length - i from o2),?_⟩
    exact Sk
  ·intro n17
   refine W.exit (thenQ_exit (thenQ_exit (blockQ_hit ?_)))
   refine thenQ_normal ?_
   refine kS tab80h hnt [(6,.ptr 6 0),(7,.b true)] [(6,⟨85,.row (.intss ([ss.getD 0 [],ss.getD 1 []]))⟩),(8,⟨85,.row (.intss ss)⟩),(911,⟨3,.row (.ints o)⟩)] [6,8,911] 142838 [ss.length=2,(List.length ([[],[]] : List (List Int)))=2] ⟨(by first | exact hsl | rfl | (rw [List.length_set]; exact hsl)),(by first | exact hsl | rfl | (rw [List.length_set]; exact hsl))⟩ ?_
   refine W.ret ?_
   exact endH_ret (.tup [.agg [.sl (.ints ((playedR s h o).1.getD 0 [])),.sl (.ints ((playedR s h o).1.getD 1 []))],.b ((playedR s h o).2)]) [(911,⟨3,.row (.ints o)⟩)] [911] ⟨rfl,rfl,rfl⟩ [(911,911)] (.tup [.agg [.sl (.ints (List.getD ([ss.getD 0 [],ss.getD 1 []]) 0 [])),.sl (.ints (List.getD ([ss.getD 0 [],ss.getD 1 []]) 1 []))],.b true]) (by kernel_rfl) (@cast (((((.ints (List.getD ([ss.getD 0 [],ss.getD 1 []]) 0 []):Dat)=.ints ((playedR s h o).1.getD 0 []))∧((.ints (List.getD ([ss.getD 0 [],ss.getD 1 []]) 1 []):Dat)=.ints ((playedR s h o).1.getD 1 []))∧Y)∧((.bool true:Value)=.bool ((playedR s h o).2))∧Y)∧((((3:Nat)=3)∧(Sd (.ints o))∧((911:Nat) ∈ ([911] : List Nat)))∧Y)∧(true=true)∧(true=true)) _ (by kernel_rfl) ⟨⟨⟨(congrArg Dat.ints (by rw [played_yes (fun j hj=>hA j (by omega))] <;> (subst hss; rw [show i=o.length by omega]; rfl))),(congrArg Dat.ints (by rw [played_yes (fun j hj=>hA j (by omega))] <;> (subst hss; rw [show i=o.length by omega]; rfl))),tt⟩,(congrArg Value.bool (by rw [played_yes (fun j hj=>hA j (by omega))] <;> (subst hss; rw [show i=o.length by omega]; rfl))),tt⟩,⟨⟨rfl,rfl,(by decide)⟩,tt⟩,rfl,rfl⟩)
end Go.Proofs.Tryz

set_option linter.unusedSimpArgs false
set_option linter.unusedVariables false
namespace Go.Proofs.Tryz
open Go.Ab Go.RowKit
abbrev T79 : Tab := lk [(81,fs81)]
theorem tab79 : TabOK prog T79 := (TabOK.cons ok81 ent81 TabOK.nil)
theorem ent79 : Entr prog 79 := ⟨_,func79,rfl,by decide⟩
abbrev v790 (h:List CallD) (s:ByteArray) (rows:List Int):AV:=.fn 79 [.ptr 901 0,.ep [.sl (.calls h)],.ep [.v (.string s)],.ptr 902 0,.ptr 903 0,.ep [.sl (.ints rows)],.ptr 904 0]
abbrev v791 (o:List Int) (h:List CallD):AV:=.b (decide ((o.length:Int)=(h.length:Int)))
abbrev v792 (s:ByteArray) (h:List CallD) (o:List Int):AV:=.tup [.agg [.sl (.ints ((playedR s h o).1.getD 0 [])),.sl (.ints ((playedR s h o).1.getD 1 []))],.b ((playedR s h o).2)]
abbrev v793 (h:List CallD):AV:=.i (h.length:Int)
abbrev v794 (uu:Int) (k:Nat):AV:=.i (bitsI .or .i64 uu (shlI .i64 (1:Int) ((k:Nat):Int)))
abbrev v795 (ou:List (List Int)) (s:ByteArray) (h:List CallD) (f:Nat→Nat→Bool) (oo:List Int) (k:Nat):AV:=.own 1058 (List.length (ou++ordersF s h f (h.length - (oo++([((k:Nat):Int)])).length) (oo++([((k:Nat):Int)]))))
abbrev v796 (oo:List Int) (k:Nat):AV:=.own 58 (Int.toNat ((((List.length (oo++([((k:Nat):Int)]))):Nat):Int) - (1:Int)))
abbrev v797 (uu:Int) (k:Nat):AV:=.i (bitsI .andNot .i64 (bitsI .or .i64 uu (shlI .i64 (1:Int) ((k:Nat):Int))) (shlI .i64 (1:Int) ((k:Nat):Int)))
theorem hokN79 : ∀ (nn:Nat) (s:ByteArray) (h : List CallD) (f : Nat→Nat→Bool) (rows : List Int) (o : List Int) (us:Int) (out : List (List Int)),((isObject s=true)∧(validHistory h=true)∧(rows=rowsOf h.length f)∧(headO h o)∧(us=mask h.length (hasN o))∧(out.length+6 ^ (h.length - o.length)≤100000))→(h.length - o.length)<nn→HOK prog 79 [901,902,903,904] [.ptr 901 0,.ep [.sl (.calls h)],.ep [.v (.string s)],.ptr 902 0,.ptr 903 0,.ep [.sl (.ints rows)],.ptr 904 0] [(811,⟨3,.row (.ints o)⟩),(812,⟨36,.row (.intss out)⟩),(901,⟨36,.fix [.own 811 o.length]⟩),(902,⟨48,.fix [.own 812 out.length]⟩),(903,⟨3,.fix [.i us]⟩),(904,⟨1,.fix [.fn 79 [.ptr 901 0,.ep [.sl (.calls h)],.ep [.v (.string s)],.ptr 902 0,.ptr 903 0,.ep [.sl (.ints rows)],.ptr 904 0]]⟩)] [901,902,903,904,811,812] (fun r s1 u1=>r=(.tup [])∧s1=([(811,⟨3,.row (.ints o)⟩),(812,⟨36,.row (.intss (out++ordersF s h f (h.length - o.length) o))⟩),(901,⟨36,.fix [.own 811 o.length]⟩),(902,⟨48,.fix [.own 812 (List.length (out++ordersF s h f (h.length - o.length) o))]⟩),(903,⟨3,.fix [.i us]⟩),(904,⟨1,.fix [.fn 79 [.ptr 901 0,.ep [.sl (.calls h)],.ep [.v (.string s)],.ptr 902 0,.ptr 903 0,.ep [.sl (.ints rows)],.ptr 904 0]]⟩)])∧u1=([901,902,903,904,811,812])) := by
 intro nn
 induction nn with
 | zero=>intro s h f rows o us out _ hmu; exact absurd hmu (Nat.not_lt_zero _)
 | succ nn ih =>
  intro s h f rows o us out hpre hmu
  obtain ⟨hs,hv,hr,ho,hu,hz⟩ := hpre
  refine HOK.of cok func79 rfl rfl rfl ?_
  intro F hnt0
  have hnt : F.nt=70 := hnt0.trans ntmps79
  refine W.to (⟨[(0,.ptr 901 0),(1,.ep [.sl (.calls h)]),(2,.ep [.v (.string s)]),(3,.ptr 902 0),(4,.ptr 903 0),(5,.ep [.sl (.ints rows)]),(6,.ptr 904 0)],[(811,⟨3,.row (.ints o)⟩),(812,⟨36,.row (.intss out)⟩),(901,⟨36,.fix [.own 811 o.length]⟩),(902,⟨48,.fix [.own 812 out.length]⟩),(903,⟨3,.fix [.i us]⟩),(904,⟨1,.fix [(v790 h s rows)]⟩)],[901,902,903,904,811,812]⟩) rfl ?_
  have hv6 := (valid_iff.1 hv).1
  have hol := ho.2.2
  have hrl : rows.length=h.length := by rw [hr,rowsOf_len]
  refine W.seq ?_
  refine kE tab79 hnt [(0,.ptr 901 0),(1,.ep [.sl (.calls h)]),(2,.ep [.v (.string s)]),(3,.ptr 902 0),(4,.ptr 903 0),(5,.ep [.sl (.ints rows)]),(6,.ptr 904 0),(14,(v791 o h))] 408422 [] tt ?_
  refine ifp ((o.length:Int)=(h.length:Int)) ?_ ?_
  ·intro h14
   refine W.seq ?_
   refine W.seq (W.wi ?_)
   refine WI.runT cok tab79 hnt [] 3 3 (⟨[(0,.ptr 901 0),(1,.ep [.sl (.calls h)]),(2,.ep [.v (.string s)]),(3,.ptr 902 0),(4,.ptr 903 0),(5,.ep [.sl (.ints rows)]),(6,.ptr 904 0),(14,(v791 o h)),(16,.v (.string s)),(17,.sl (.calls h)),(18,.own 811 o.length)],[(811,⟨3,.row (.ints o)⟩),(812,⟨36,.row (.intss out)⟩),(901,⟨36,.fix [.own 811 o.length]⟩),(902,⟨48,.fix [.own 812 out.length]⟩),(903,⟨3,.fix [.i us]⟩),(904,⟨1,.fix [(v790 h s rows)]⟩)],[901,902,903,904,811,812]⟩)
    (Y∧Y∧Y∧Y) (by kernel_rfl) rfl
    ⟨tt,tt,tt,tt⟩ ?_
   refine WI.callH _ [.v (.string s),.sl (.calls h),.own 811 o.length] [] (.fn 80 []) _ _ [(911,811)] (hok80h s h o ⟨(by exact hs),(by exact hv),(by exact ho.1),om⟩) ent80h hnt rfl rfl (wanted_none rfl) (by kernel_rfl) (by kernel_rfl) trivial (by kernel_rfl) (by kernel_rfl) (by kernel_rfl) (@cast (((some ⟨3,.row (.ints o)⟩ : Option LB)=some ⟨3,.row (.ints o)⟩)∧(true=true)∧(Y)) _ (by kernel_rfl) ⟨rfl,rfl,tt⟩) (by kernel_rfl) rfl ?_
   rintro r s1 u1 ⟨rfl,rfl,rfl⟩
   refine ⟨[(911,811)],by kernel_rfl,WI.to (⟨[(0,.ptr 901 0),(1,.ep [.sl (.calls h)]),(2,.ep [.v (.string s)]),(3,.ptr 902 0),(4,.ptr 903 0),(5,.ep [.sl (.ints rows)]),(6,.ptr 904 0),(14,(v791 o h)),(16,.v (.string s)),(17,.sl (.calls h)),(18,.own 811 o.length),(19,(v792 s h o))],[(811,⟨3,.row (.ints o)⟩),(812,⟨36,.row (.intss out)⟩),(901,⟨36,.fix [.own 811 o.length]⟩),(902,⟨48,.fix [.own 812 out.length]⟩),(903,⟨3,.fix [.i us]⟩),(904,⟨1,.fix [(v790 h s rows)]⟩)],[901,902,903,904,811,812]⟩) 4 (by kernel_rfl) rfl ?_⟩
   refine WI.runT cok tab79 hnt [] 6 10 (⟨[(0,.ptr 901 0),(1,.ep [.sl (.calls h)]),(2,.ep [.v (.string s)]),(3,.ptr 902 0),(4,.ptr 903 0),(5,.ep [.sl (.ints rows)]),(6,.ptr 904 0),(7,.ptr 7 0),(8,.b ((playedR s h o).2)),(14,(v791 o h)),(15,(v792 s h o)),(16,.v (.string s)),(17,.sl (.calls h)),(18,.own 811 o.length),(19,(v792 s h o)),(20,.agg [.sl (.ints ((playedR s h o).1.getD 0 [])),.sl (.ints ((playedR s h o).1.getD 1 []))]),(21,.b ((playedR s h o).2))],[(7,⟨85,.row (.intss ([((playedR s h o).1.getD 0 []),((playedR s h o).1.getD 1 [])]))⟩),(811,⟨3,.row (.ints o)⟩),(812,⟨36,.row (.intss out)⟩),(901,⟨36,.fix [.own 811 o.length]⟩),(902,⟨48,.fix [.own 812 out.length]⟩),(903,⟨3,.fix [.i us]⟩),(904,⟨1,.fix [(v790 h s rows)]⟩)],[7,901,902,903,904,811,812]⟩)
    (Y∧Y∧Y∧Y∧(Y∧Y∧((List.length ([[],[]] : List (List Int)))=2))∧Y∧Y) (by kernel_rfl) rfl
    ⟨tt,tt,tt,tt,⟨tt,tt,(by first | rfl | assumption | omega)⟩,tt,tt⟩ ?_
   refine WI.nil rfl (thenQ_normal ?_)
   refine W.keepE [0,3,8] [(0,.ptr 901 0),(3,.ptr 902 0),(8,.b ((playedR s h o).2))] (by kernel_rfl) ?_
   refine W.to (⟨[(0,.ptr 901 0),(3,.ptr 902 0),(8,.b ((playedR s h o).2))],[(7,⟨85,.row (.intss ([((playedR s h o).1.getD 0 []),((playedR s h o).1.getD 1 [])]))⟩),(811,⟨3,.row (.ints o)⟩),(812,⟨36,.row (.intss out)⟩),(901,⟨36,.fix [.own 811 o.length]⟩),(902,⟨48,.fix [.own 812 out.length]⟩),(903,⟨3,.fix [.i us]⟩),(904,⟨1,.fix [(v790 h s rows)]⟩)],[7,901,902,903,904,811,812]⟩) rfl ?_
   refine kE tab79 hnt [(0,.ptr 901 0),(3,.ptr 902 0),(22,.b ((playedR s h o).2))] 2 [] tt ?_
   refine ifb ((playedR s h o).2) ?_ ?_
   ·intro h22
    refine lA tab79 hnt [] [(7,⟨85,.row (.intss ([((playedR s h o).1.getD 0 []),((playedR s h o).1.getD 1 [])]))⟩),(26,⟨36,.row (.intss ([o]))⟩),(27,⟨36,.row (.intss (out++([o])))⟩),(811,⟨3,.row (.ints o)⟩),(901,⟨36,.fix [.own 811 o.length]⟩),(902,⟨48,.fix [.own 27 (List.length (out++([o])))]⟩),(903,⟨3,.fix [.i us]⟩),(904,⟨1,.fix [(v790 h s rows)]⟩)] [27,26,25,7,901,902,903,904,811,812] 1745787985593284 [o.length=o.length,o.length * 8≤140737488355328,o.length=o.length,out.length=out.length,(List.length ([o]))=(List.length ([o])),(out.length+(List.length ([o]))) * 24≤140737488355328] ⟨rfl,(by have hp1 := Nat.pow_pos (n := h.length - o.length) (show 0<6 by omega); (try simp only [List.length_cons,List.length_nil]); first | omega | (rw [hoo]; omega)),rfl,rfl,rfl,(by have hp1 := Nat.pow_pos (n := h.length - o.length) (show 0<6 by omega); (try simp only [List.length_cons,List.length_nil]); first | omega | (rw [hoo]; omega))⟩ ?_ [26,27]
    refine thenQ_normal ?_
    refine W.ret (thenQ_ret ?_)
    exact endH_ret (.tup []) [(811,⟨3,.row (.ints o)⟩),(812,⟨36,.row (.intss (out++ordersF s h f (h.length - o.length) o))⟩),(901,⟨36,.fix [.own 811 o.length]⟩),(902,⟨48,.fix [.own 812 (List.length (out++ordersF s h f (h.length - o.length) o))]⟩),(903,⟨3,.fix [.i us]⟩),(904,⟨1,.fix [.fn 79 [.ptr 901 0,.ep [.sl (.calls h)],.ep [.v (.string s)],.ptr 902 0,.ptr 903 0,.ep [.sl (.ints rows)],.ptr 904 0]]⟩)] [901,902,903,904,811,812] ⟨rfl,rfl,rfl⟩ [(901,901),(902,902),(903,903),(904,904),(811,811),(812,27)] (.tup []) (by kernel_rfl) (@cast (Y∧((((3:Nat)=3)∧(Sd (.ints o))∧((811:Nat) ∈ ([901,902,903,904,811,812] : List Nat)))∧(((36:Nat)=36)∧((.intss (out++([o])):Dat)=.intss (out++ordersF s h f (h.length - o.length) o))∧((812:Nat) ∈ ([901,902,903,904,811,812] : List Nat)))∧(((36:Nat)=36)∧((((811:Nat)=811)∧(o.length=o.length)∧((811:Nat) ∈ ([901,902,903,904,811,812] : List Nat)))∧Y)∧((901:Nat) ∈ ([901,902,903,904,811,812] : List Nat)))∧(((48:Nat)=48)∧((((27:Nat)=27)∧((List.length (out++([o])))=(List.length (out++ordersF s h f (h.length - o.length) o)))∧((812:Nat) ∈ ([901,902,903,904,811,812] : List Nat)))∧Y)∧((902:Nat) ∈ ([901,902,903,904,811,812] : List Nat)))∧(((3:Nat)=3)∧((Si us)∧Y)∧((903:Nat) ∈ ([901,902,903,904,811,812] : List Nat)))∧(((1:Nat)=1)∧((((79:Nat)=79)∧(((901:Nat)=901)∧((0:Nat)=0)∧((901:Nat) ∈ ([901,902,903,904,811,812] : List Nat)))∧(((.ep [.sl (.calls h)] : AV)=.ep [.sl (.calls h)])∧(([] : List Nat)=[]))∧(((.ep [.v (.string s)] : AV)=.ep [.v (.string s)])∧(([] : List Nat)=[]))∧(((902:Nat)=902)∧((0:Nat)=0)∧((902:Nat) ∈ ([901,902,903,904,811,812] : List Nat)))∧(((903:Nat)=903)∧((0:Nat)=0)∧((903:Nat) ∈ ([901,902,903,904,811,812] : List Nat)))∧(((.ep [.sl (.ints rows)] : AV)=.ep [.sl (.ints rows)])∧(([] : List Nat)=[]))∧(((904:Nat)=904)∧((0:Nat)=0)∧((904:Nat) ∈ ([901,902,903,904,811,812] : List Nat)))∧Y)∧Y)∧((904:Nat) ∈ ([901,902,903,904,811,812] : List Nat)))∧Y)∧(true=true)∧(true=true)) _ (by kernel_rfl) ⟨tt,⟨⟨rfl,rfl,(by decide)⟩,⟨rfl,(congrArg Dat.intss (by rw [orders_yes h14 h22])),(by decide)⟩,⟨rfl,⟨⟨rfl,rfl,(by decide)⟩,tt⟩,(by decide)⟩,⟨rfl,⟨⟨rfl,(by first | rfl | exact congrArg List.length (by rw [orders_yes h14 h22]) | omega | assumption | simp | simp_all),(by decide)⟩,tt⟩,(by decide)⟩,⟨rfl,⟨rfl,tt⟩,(by decide)⟩,⟨rfl,⟨⟨rfl,⟨rfl,rfl,(by decide)⟩,⟨rfl,rfl⟩,⟨rfl,rfl⟩,⟨rfl,rfl,(by decide)⟩,⟨rfl,rfl,(by decide)⟩,⟨rfl,rfl⟩,⟨rfl,rfl,(by decide)⟩,tt⟩,tt⟩,(by decide)⟩,tt⟩,rfl,rfl⟩)
   ·intro n22
    refine W.skip (thenQ_normal ?_)
    refine W.ret (thenQ_ret ?_)
    exact endH_ret (.tup []) [(811,⟨3,.row (.ints o)⟩),(812,⟨36,.row (.intss (out++ordersF s h f (h.length - o.length) o))⟩),(901,⟨36,.fix [.own 811 o.length]⟩),(902,⟨48,.fix [.own 812 (List.length (out++ordersF s h f (h.length - o.length) o))]⟩),(903,⟨3,.fix [.i us]⟩),(904,⟨1,.fix [.fn 79 [.ptr 901 0,.ep [.sl (.calls h)],.ep [.v (.string s)],.ptr 902 0,.ptr 903 0,.ep [.sl (.ints rows)],.ptr 904 0]]⟩)] [901,902,903,904,811,812] ⟨rfl,rfl,rfl⟩ [(901,901),(902,902),(903,903),(904,904),(811,811),(812,812)] (.tup []) (by kernel_rfl) (@cast (Y∧((((3:Nat)=3)∧(Sd (.ints o))∧((811:Nat) ∈ ([901,902,903,904,811,812] : List Nat)))∧(((36:Nat)=36)∧((.intss out:Dat)=.intss (out++ordersF s h f (h.length - o.length) o))∧((812:Nat) ∈ ([901,902,903,904,811,812] : List Nat)))∧(((36:Nat)=36)∧((((811:Nat)=811)∧(o.length=o.length)∧((811:Nat) ∈ ([901,902,903,904,811,812] : List Nat)))∧Y)∧((901:Nat) ∈ ([901,902,903,904,811,812] : List Nat)))∧(((48:Nat)=48)∧((((812:Nat)=812)∧(out.length=(List.length (out++ordersF s h f (h.length - o.length) o)))∧((812:Nat) ∈ ([901,902,903,904,811,812] : List Nat)))∧Y)∧((902:Nat) ∈ ([901,902,903,904,811,812] : List Nat)))∧(((3:Nat)=3)∧((Si us)∧Y)∧((903:Nat) ∈ ([901,902,903,904,811,812] : List Nat)))∧(((1:Nat)=1)∧((((79:Nat)=79)∧(((901:Nat)=901)∧((0:Nat)=0)∧((901:Nat) ∈ ([901,902,903,904,811,812] : List Nat)))∧(((.ep [.sl (.calls h)] : AV)=.ep [.sl (.calls h)])∧(([] : List Nat)=[]))∧(((.ep [.v (.string s)] : AV)=.ep [.v (.string s)])∧(([] : List Nat)=[]))∧(((902:Nat)=902)∧((0:Nat)=0)∧((902:Nat) ∈ ([901,902,903,904,811,812] : List Nat)))∧(((903:Nat)=903)∧((0:Nat)=0)∧((903:Nat) ∈ ([901,902,903,904,811,812] : List Nat)))∧(((.ep [.sl (.ints rows)] : AV)=.ep [.sl (.ints rows)])∧(([] : List Nat)=[]))∧(((904:Nat)=904)∧((0:Nat)=0)∧((904:Nat) ∈ ([901,902,903,904,811,812] : List Nat)))∧Y)∧Y)∧((904:Nat) ∈ ([901,902,903,904,811,812] : List Nat)))∧Y)∧(true=true)∧(true=true)) _ (by kernel_rfl) ⟨tt,⟨⟨rfl,rfl,(by decide)⟩,⟨rfl,(congrArg Dat.intss (by rw [orders_no h14 n22,List.append_nil])),(by decide)⟩,⟨rfl,⟨⟨rfl,rfl,(by decide)⟩,tt⟩,(by decide)⟩,⟨rfl,⟨⟨rfl,(by first | rfl | exact congrArg List.length (by rw [orders_no h14 n22,List.append_nil]) | omega | assumption | simp | simp_all),(by decide)⟩,tt⟩,(by decide)⟩,⟨rfl,⟨rfl,tt⟩,(by decide)⟩,⟨rfl,⟨⟨rfl,⟨rfl,rfl,(by decide)⟩,⟨rfl,rfl⟩,⟨rfl,rfl⟩,⟨rfl,rfl,(by decide)⟩,⟨rfl,rfl,(by decide)⟩,⟨rfl,rfl⟩,⟨rfl,rfl,(by decide)⟩,tt⟩,tt⟩,(by decide)⟩,tt⟩,rfl,rfl⟩)
  ·intro n14
   refine W.skip (thenQ_normal ?_)
   refine kE tab79 hnt [(0,.ptr 901 0),(4,.ptr 903 0),(5,.ep [.sl (.ints rows)]),(6,.ptr 904 0),(29,(v793 h)),(30,.i (0:Int))] 182 [] tt ?_
   refine W.block ?_
   refine W.loop (ι := Nat × (List Int) × (List (List Int)) × Int) (fun (x : Nat × (List Int) × (List (List Int)) × Int)=>match x with | (k,oo,ou,uu)=>(⟨[(0,.ptr 901 0),(4,.ptr 903 0),(5,.ep [.sl (.ints rows)]),(6,.ptr 904 0),(29,(v793 h)),(30,.i ((k:Nat):Int))],[(811,⟨3,.row (.ints oo)⟩),(812,⟨36,.row (.intss ou)⟩),(901,⟨36,.fix [.own 811 oo.length]⟩),(902,⟨48,.fix [.own 812 ou.length]⟩),(903,⟨3,.fix [.i uu]⟩),(904,⟨1,.fix [(v790 h s rows)]⟩)],[811,812,901,902,903,904]⟩:St))
    (fun (x : Nat × (List Int) × (List (List Int)) × Int)=>match x with | (k,oo,ou,uu)=>(k≤h.length)∧(oo=o)∧(uu=mask h.length (hasN o))∧(ou=out++ordersUp s h f (h.length - o.length - 1) o k))
    (fun (x : Nat × (List Int) × (List (List Int)) × Int)=>match x with | (k,oo,ou,uu)=>(h.length - k:Nat)) (0,o,out,us) ?_ ?_ ?_
   ·exact ⟨oi,oi,oi,(by simp [ordersUp])⟩
   ·exact Sk
   ·rintro ⟨k,oo,ou,uu⟩ hC0
    obtain ⟨hk,hoo,huu,hou⟩ := hC0
    refine kE tab79 hnt [(0,.ptr 901 0),(4,.ptr 903 0),(5,.ep [.sl (.ints rows)]),(6,.ptr 904 0),(29,(v793 h)),(30,.i ((k:Nat):Int)),(31,.b (decide (((k:Nat):Int)<(h.length:Int))))] 62 [] tt ?_
    refine W.seq ?_
    refine ifp (((k:Nat):Int)<(h.length:Int)) ?_ ?_
    ·intro h31
     refine W.skip (thenQ_normal ?_)
     refine W.seq ?_
     refine W.block ?_
     refine kE tab79 hnt [(0,.ptr 901 0),(4,.ptr 903 0),(5,.ep [.sl (.ints rows)]),(6,.ptr 904 0),(9,.i ((k:Nat):Int)),(29,(v793 h)),(30,.i ((k:Nat):Int))] 20 [] tt ?_
     refine W.seq ?_
     refine kA tab79 hnt [(0,.ptr 901 0),(4,.ptr 903 0),(5,.ep [.sl (.ints rows)]),(6,.ptr 904 0),(9,.i ((k:Nat):Int)),(29,(v793 h)),(30,.i ((k:Nat):Int)),(47,.b ((decide ((bitsI .and .i64 (shrI .i64 uu ((k:Nat):Int)) (1:Int))=(1:Int))) || (decide ((bitsI .andNot .i64 (rows.getD k 0) uu)≠(0:Int)))))] [(811,⟨3,.row (.ints oo)⟩),(812,⟨36,.row (.intss ou)⟩),(901,⟨36,.fix [.own 811 oo.length]⟩),(902,⟨48,.fix [.own 812 ou.length]⟩),(903,⟨3,.fix [.i uu]⟩),(904,⟨1,.fix [(v790 h s rows)]⟩)] [811,812,901,902,903,904] 42304116663973181432387 ((fun (Z1:Bool)=>([Fits .u64 ((k:Nat):Int),0≤((k:Nat):Int),(!Z1)=true→Y,(!Z1)=true→Y,(!Z1)=true→((((!Z1)=true)∧Y)∧((((!Z1)=true)∧Y)∧((0≤((k:Nat):Int))∧(((k:Nat):Int)<(rows.length:Int))))),(!Z1)=true→(((!Z1)=true)∧Y),(!Z1)=true→Y,(!Z1)=true→((((!Z1)=true)∧Y)∧((((!Z1)=true)∧Y)∧Y)),(!Z1)=true→((((!Z1)=true)∧Y)∧(Y∧Y)),Z1=true→Y,Z1=false→((!Z1)=true)∧Y]:PL)) (decide ((bitsI .and .i64 (shrI .i64 uu ((k:Nat):Int)) (1:Int))=(1:Int)))) ⟨(by exact fits_u64 (by omega) (by omega)),om,(fun _=>trivial),(fun _=>trivial),(fun hG=>⟨⟨hG,tt⟩,⟨hG,tt⟩,(by have hg0 : ¬ ((bitsI .and .i64 (shrI .i64 uu ((k:Nat):Int)) (1:Int))=(1:Int)) := of_decide_eq_false (not_f hG); omega),(by have hg0 : ¬ ((bitsI .and .i64 (shrI .i64 uu ((k:Nat):Int)) (1:Int))=(1:Int)) := of_decide_eq_false (not_f hG); omega)⟩),(fun hG=>⟨hG,tt⟩),(fun _=>trivial),(fun hG=>⟨⟨hG,tt⟩,⟨hG,tt⟩,tt⟩),(fun hG=>⟨⟨hG,tt⟩,tt,tt⟩),(fun _=>trivial),(fun hp=>⟨(not_t hp),tt⟩)⟩ ?_
     refine ifb ((decide ((bitsI .and .i64 (shrI .i64 uu ((k:Nat):Int)) (1:Int))=(1:Int))) || (decide ((bitsI .andNot .i64 (rows.getD k 0) uu)≠(0:Int)))) ?_ ?_
     ·intro h47
      have hfk : freeB f h.length o k=false := free_no (by omega) (by omega) (by rw [← hr,← huu]; exact h47)
      refine W.exit (thenQ_exit (blockQ_hit ?_))
      refine thenQ_normal ?_
      refine lE tab79 hnt [(0,.ptr 901 0),(4,.ptr 903 0),(5,.ep [.sl (.ints rows)]),(6,.ptr 904 0),(29,(v793 h)),(30,.i (((k+1):Nat):Int))] 1763 [Fits .i64 (((k+1):Nat):Int)] fi ?_
      refine thenQ_normal ?_
      refine ⟨((k+1),oo,ou,uu),⟨oi,(by first | exact hoo | (rw [take_pop rfl]; exact hoo)),(by first | exact huu | (rw [huu,used_push (by omega) (by omega)]; exact used_pop (by omega) (by omega) (free_has hfk))),(by first | (rw [up_no hfk]; exact hou) | (rw [hoo]; exact up_step (oo := []) hfk hou))⟩,(show h.length - (k+1)<h.length - k from o2),?_⟩
      exact Sk
     ·intro n47
      have n47_0 : ¬ ((bitsI .and .i64 (shrI .i64 uu ((k:Nat):Int)) (1:Int))=(1:Int)) := of_decide_eq_false (or_l n47)
      have n47_1 : ¬ ((bitsI .andNot .i64 (rows.getD k 0) uu)≠(0:Int)) := of_decide_eq_false (or_r n47)
      have hfk : freeB f h.length o k=true := free_yes (by omega) (by omega) (by rw [← hr,← huu]; exact n47)
      refine W.skip (thenQ_normal ?_)
      refine kA tab79 hnt [(0,.ptr 901 0),(4,.ptr 903 0),(5,.ep [.sl (.ints rows)]),(6,.ptr 904 0),(9,.i ((k:Nat):Int)),(29,(v793 h)),(30,.i ((k:Nat):Int))] [(51,⟨3,.row (.ints (oo++([((k:Nat):Int)])))⟩),(812,⟨36,.row (.intss ou)⟩),(901,⟨36,.fix [.own 51 (List.length (oo++([((k:Nat):Int)])))]⟩),(902,⟨48,.fix [.own 812 ou.length]⟩),(903,⟨3,.fix [(v794 uu k)]⟩),(904,⟨1,.fix [(v790 h s rows)]⟩)] [51,50,811,812,901,902,903,904] 886274592504022623413 [oo.length=oo.length,(oo.length+(List.length ([((k:Nat):Int)]))) * 8≤140737488355328,Fits .u64 ((k:Nat):Int),0≤((k:Nat):Int),Fits .i64 (shlI .i64 (1:Int) ((k:Nat):Int))] ⟨rfl,(by have hp1 := Nat.pow_pos (n := h.length - o.length) (show 0<6 by omega); (try simp only [List.length_cons,List.length_nil]); first | omega | (rw [hoo]; omega)),(by exact fits_u64 (by omega) (by omega)),om,(by exact fits_shl (by omega))⟩ ?_ [51]
      refine W.seq (W.wi ?_)
      refine WI.runT cok tab79 hnt [] 1 1 (⟨[(0,.ptr 901 0),(4,.ptr 903 0),(5,.ep [.sl (.ints rows)]),(6,.ptr 904 0),(9,.i ((k:Nat):Int)),(29,(v793 h)),(30,.i ((k:Nat):Int)),(57,(v790 h s rows))],[(51,⟨3,.row (.ints (oo++([((k:Nat):Int)])))⟩),(812,⟨36,.row (.intss ou)⟩),(901,⟨36,.fix [.own 51 (List.length (oo++([((k:Nat):Int)])))]⟩),(902,⟨48,.fix [.own 812 ou.length]⟩),(903,⟨3,.fix [(v794 uu k)]⟩),(904,⟨1,.fix [(v790 h s rows)]⟩)],[51,50,811,812,901,902,903,904]⟩)
       (Y∧Y) (by kernel_rfl) rfl
       ⟨tt,tt⟩ ?_
      refine WI.callH _ [] [.ptr 901 0,.ep [.sl (.calls h)],.ep [.v (.string s)],.ptr 902 0,.ptr 903 0,.ep [.sl (.ints rows)],.ptr 904 0] (.fn 79 [.ptr 901 0,.ep [.sl (.calls h)],.ep [.v (.string s)],.ptr 902 0,.ptr 903 0,.ep [.sl (.ints rows)],.ptr 904 0]) _ _ [(901,901),(811,51),(902,902),(812,812),(903,903),(904,904)] (ih s h f rows (oo++([((k:Nat):Int)])) (bitsI .or .i64 uu (shlI .i64 (1:Int) ((k:Nat):Int))) ou ⟨(by exact hs),(by exact hv),(by exact hr),(by rw [hoo]; exact headO_snoc ho (by omega) (free_has hfk) (by omega)),(by rw [huu,hoo]; exact used_push (by omega) (by omega)),(by rw [hoo,hou,show h.length - (o++[((k:Nat):Int)]).length=h.length - o.length - 1 by (simp; omega)]; exact ord_room hz hv6 (by omega) (by omega))⟩ (by rw [hoo]; simp; omega)) ent79 hnt rfl rfl (wanted_none rfl) (by kernel_rfl) (by kernel_rfl) trivial (by kernel_rfl) (by kernel_rfl) (by kernel_rfl) (@cast (((some ⟨3,.row (.ints (oo++([((k:Nat):Int)])))⟩ : Option LB)=some ⟨3,.row (.ints (oo++([((k:Nat):Int)])))⟩)∧(true=true)∧((some ⟨36,.row (.intss ou)⟩ : Option LB)=some ⟨36,.row (.intss ou)⟩)∧(true=true)∧((some ⟨36,.fix [.own 51 (List.length (oo++([((k:Nat):Int)])))]⟩ : Option LB)=some ⟨36,.fix [.own 51 (List.length (oo++([((k:Nat):Int)])))]⟩)∧(true=true)∧((some ⟨48,.fix [.own 812 ou.length]⟩ : Option LB)=some ⟨48,.fix [.own 812 ou.length]⟩)∧(true=true)∧((some ⟨3,.fix [.i (bitsI .or .i64 uu (shlI .i64 (1:Int) ((k:Nat):Int)))]⟩ : Option LB)=some ⟨3,.fix [.i (bitsI .or .i64 uu (shlI .i64 (1:Int) ((k:Nat):Int)))]⟩)∧(true=true)∧((some ⟨1,.fix [.fn 79 [.ptr 901 0,.ep [.sl (.calls h)],.ep [.v (.string s)],.ptr 902 0,.ptr 903 0,.ep [.sl (.ints rows)],.ptr 904 0]]⟩ : Option LB)=some ⟨1,.fix [.fn 79 [.ptr 901 0,.ep [.sl (.calls h)],.ep [.v (.string s)],.ptr 902 0,.ptr 903 0,.ep [.sl (.ints rows)],.ptr 904 0]]⟩)∧(true=true)∧(Y)) _ (by kernel_rfl) ⟨rfl,rfl,rfl,rfl,rfl,rfl,rfl,rfl,rfl,rfl,rfl,rfl,tt⟩) (by kernel_rfl) rfl ?_
      rintro r s1 u1 ⟨rfl,rfl,rfl⟩
      refine ⟨[(901,901),(902,902),(903,903),(904,904),(811,58),(812,1058)],by kernel_rfl,WI.to (⟨[(0,.ptr 901 0),(4,.ptr 903 0),(5,.ep [.sl (.ints rows)]),(6,.ptr 904 0),(9,.i ((k:Nat):Int)),(29,(v793 h)),(30,.i ((k:Nat):Int)),(57,(v790 h s rows)),(58,.tup [])],[(58,⟨3,.row (.ints (oo++([((k:Nat):Int)])))⟩),(901,⟨36,.fix [.own 58 (List.length (oo++([((k:Nat):Int)])))]⟩),(902,⟨48,.fix [(v795 ou s h f oo k)]⟩),(903,⟨3,.fix [(v794 uu k)]⟩),(904,⟨1,.fix [(v790 h s rows)]⟩),(1058,⟨36,.row (.intss (ou++ordersF s h f (h.length - (oo++([((k:Nat):Int)])).length) (oo++([((k:Nat):Int)]))))⟩)],[1058,58,51,50,811,812,901,902,903,904]⟩) 2 (by kernel_rfl) rfl ?_⟩
      refine WI.nil rfl (thenQ_normal ?_)
      refine W.keepE [0,4,5,6,9,29,30] [(0,.ptr 901 0),(4,.ptr 903 0),(5,.ep [.sl (.ints rows)]),(6,.ptr 904 0),(9,.i ((k:Nat):Int)),(29,.i (h.length:Int)),(30,.i ((k:Nat):Int))] (by kernel_rfl) ?_
      refine W.to (⟨[(0,.ptr 901 0),(4,.ptr 903 0),(5,.ep [.sl (.ints rows)]),(6,.ptr 904 0),(9,.i ((k:Nat):Int)),(29,(v793 h)),(30,.i ((k:Nat):Int))],[(58,⟨3,.row (.ints (oo++([((k:Nat):Int)])))⟩),(901,⟨36,.fix [.own 58 (List.length (oo++([((k:Nat):Int)])))]⟩),(902,⟨48,.fix [(v795 ou s h f oo k)]⟩),(903,⟨3,.fix [(v794 uu k)]⟩),(904,⟨1,.fix [(v790 h s rows)]⟩),(1058,⟨36,.row (.intss (ou++ordersF s h f (h.length - (oo++([((k:Nat):Int)])).length) (oo++([((k:Nat):Int)]))))⟩)],[1058,58,51,50,811,812,901,902,903,904]⟩) rfl ?_
      refine lA tab79 hnt [(0,.ptr 901 0),(4,.ptr 903 0),(5,.ep [.sl (.ints rows)]),(6,.ptr 904 0),(29,(v793 h)),(30,.i ((k:Nat):Int))] [(58,⟨3,.row (.ints (oo++([((k:Nat):Int)])))⟩),(901,⟨36,.fix [(v796 oo k)]⟩),(902,⟨48,.fix [(v795 ou s h f oo k)]⟩),(903,⟨3,.fix [(v797 uu k)]⟩),(904,⟨1,.fix [(v790 h s rows)]⟩),(1058,⟨36,.row (.intss (ou++ordersF s h f (h.length - (oo++([((k:Nat):Int)])).length) (oo++([((k:Nat):Int)]))))⟩)] [1058,58,51,50,811,812,901,902,903,904] 71788241992826196170516 [Fits .i64 ((((List.length (oo++([((k:Nat):Int)]))):Nat):Int) - (1:Int)),0≤((((List.length (oo++([((k:Nat):Int)]))):Nat):Int) - (1:Int)),((((List.length (oo++([((k:Nat):Int)]))):Nat):Int) - (1:Int))≤(((List.length (oo++([((k:Nat):Int)]))):Nat):Int),Fits .u64 ((k:Nat):Int),0≤((k:Nat):Int),Fits .i64 (shlI .i64 (1:Int) ((k:Nat):Int))] ⟨(by rw [hoo]; exact fits_i64 (by first | (simp; done) | (simp; omega)) (by first | (simp; done) | (simp; omega))),(by rw [hoo]; first | (simp; done) | (simp; omega) | omega),(by rw [hoo]; first | (simp; done) | (simp; omega) | omega),(by exact fits_u64 (by omega) (by omega)),om,(by exact fits_shl (by omega))⟩ ?_
      refine blockQ_normal (thenQ_normal ?_)
      refine W.cutRow 58 3 (.ints (oo++([((k:Nat):Int)]))) (.ints (List.take (Int.toNat ((((List.length (oo++([((k:Nat):Int)]))):Nat):Int) - (1:Int))) (oo++([((k:Nat):Int)])))) (Int.toNat ((((List.length (oo++([((k:Nat):Int)]))):Nat):Int) - (1:Int))) (⟨[(0,.ptr 901 0),(4,.ptr 903 0),(5,.ep [.sl (.ints rows)]),(6,.ptr 904 0),(29,(v793 h)),(30,.i ((k:Nat):Int))],[(58,⟨3,.row (.ints (List.take (Int.toNat ((((List.length (oo++([((k:Nat):Int)]))):Nat):Int) - (1:Int))) (oo++([((k:Nat):Int)]))))⟩),(901,⟨36,.fix [(v796 oo k)]⟩),(902,⟨48,.fix [(v795 ou s h f oo k)]⟩),(903,⟨3,.fix [(v797 uu k)]⟩),(904,⟨1,.fix [(v790 h s rows)]⟩),(1058,⟨36,.row (.intss (ou++ordersF s h f (h.length - (oo++([((k:Nat):Int)])).length) (oo++([((k:Nat):Int)]))))⟩)],[1058,58,51,50,811,812,901,902,903,904]⟩) (by kernel_rfl) (by rfl) (show (Int.toNat ((((List.length (oo++([((k:Nat):Int)]))):Nat):Int) - (1:Int)))≤(List.length (oo++([((k:Nat):Int)]))) from (by rw [hoo]; first | (simp; done) | (simp; omega) | omega)) (by kernel_rfl) ?_
      refine lE tab79 hnt [(0,.ptr 901 0),(4,.ptr 903 0),(5,.ep [.sl (.ints rows)]),(6,.ptr 904 0),(29,(v793 h)),(30,.i (((k+1):Nat):Int))] 1763 [Fits .i64 (((k+1):Nat):Int)] fi ?_
      refine thenQ_normal ?_
      refine ⟨((k+1),(List.take (Int.toNat ((((List.length (oo++([((k:Nat):Int)]))):Nat):Int) - (1:Int))) (oo++([((k:Nat):Int)]))),(ou++ordersF s h f (h.length - (oo++([((k:Nat):Int)])).length) (oo++([((k:Nat):Int)]))),(bitsI .andNot .i64 (bitsI .or .i64 uu (shlI .i64 (1:Int) ((k:Nat):Int))) (shlI .i64 (1:Int) ((k:Nat):Int)))),⟨oi,(by first | exact hoo | (rw [take_pop rfl]; exact hoo)),(by first | exact huu | (rw [huu,used_push (by omega) (by omega)]; exact used_pop (by omega) (by omega) (free_has hfk))),(by first | (rw [up_no hfk]; exact hou) | (rw [hoo]; exact up_step (oo := []) hfk hou))⟩,(show h.length - (k+1)<h.length - k from o2),?_⟩
      exact Sub.of [(811,58),(812,1058)] (@cast (((((901:Nat)=901)∧((0:Nat)=0)∧((901:Nat) ∈ ([811,812,901,902,903,904] : List Nat)))∧(((903:Nat)=903)∧((0:Nat)=0)∧((903:Nat) ∈ ([811,812,901,902,903,904] : List Nat)))∧(((.ep [.sl (.ints rows)] : AV)=.ep [.sl (.ints rows)])∧(([] : List Nat)=[]))∧(((904:Nat)=904)∧((0:Nat)=0)∧((904:Nat) ∈ ([811,812,901,902,903,904] : List Nat)))∧(Si (h.length:Int))∧(Si (((k+1):Nat):Int))∧Y)∧((((3:Nat)=3)∧(Sd (.ints (List.take (Int.toNat ((((List.length (oo++([((k:Nat):Int)]))):Nat):Int) - (1:Int))) (oo++([((k:Nat):Int)])))))∧((811:Nat) ∈ ([811,812,901,902,903,904] : List Nat)))∧(((36:Nat)=36)∧(Sd (.intss (ou++ordersF s h f (h.length - (oo++([((k:Nat):Int)])).length) (oo++([((k:Nat):Int)])))))∧((812:Nat) ∈ ([811,812,901,902,903,904] : List Nat)))∧(((36:Nat)=36)∧((((58:Nat)=58)∧((Int.toNat ((((List.length (oo++([((k:Nat):Int)]))):Nat):Int) - (1:Int)))=(List.length (List.take (Int.toNat ((((List.length (oo++([((k:Nat):Int)]))):Nat):Int) - (1:Int))) (oo++([((k:Nat):Int)])))))∧((811:Nat) ∈ ([811,812,901,902,903,904] : List Nat)))∧Y)∧((901:Nat) ∈ ([811,812,901,902,903,904] : List Nat)))∧(((48:Nat)=48)∧((((1058:Nat)=1058)∧((List.length (ou++ordersF s h f (h.length - (oo++([((k:Nat):Int)])).length) (oo++([((k:Nat):Int)]))))=(List.length (ou++ordersF s h f (h.length - (oo++([((k:Nat):Int)])).length) (oo++([((k:Nat):Int)])))))∧((812:Nat) ∈ ([811,812,901,902,903,904] : List Nat)))∧Y)∧((902:Nat) ∈ ([811,812,901,902,903,904] : List Nat)))∧(((3:Nat)=3)∧((Si (bitsI .andNot .i64 (bitsI .or .i64 uu (shlI .i64 (1:Int) ((k:Nat):Int))) (shlI .i64 (1:Int) ((k:Nat):Int))))∧Y)∧((903:Nat) ∈ ([811,812,901,902,903,904] : List Nat)))∧(((1:Nat)=1)∧((((79:Nat)=79)∧(((901:Nat)=901)∧((0:Nat)=0)∧((901:Nat) ∈ ([811,812,901,902,903,904] : List Nat)))∧(((.ep [.sl (.calls h)] : AV)=.ep [.sl (.calls h)])∧(([] : List Nat)=[]))∧(((.ep [.v (.string s)] : AV)=.ep [.v (.string s)])∧(([] : List Nat)=[]))∧(((902:Nat)=902)∧((0:Nat)=0)∧((902:Nat) ∈ ([811,812,901,902,903,904] : List Nat)))∧(((903:Nat)=903)∧((0:Nat)=0)∧((903:Nat) ∈ ([811,812,901,902,903,904] : List Nat)))∧(((.ep [.sl (.ints rows)] : AV)=.ep [.sl (.ints rows)])∧(([] : List Nat)=[]))∧(((904:Nat)=904)∧((0:Nat)=0)∧((904:Nat) ∈ ([811,812,901,902,903,904] : List Nat)))∧Y)∧Y)∧((904:Nat) ∈ ([811,812,901,902,903,904] : List Nat)))∧Y)∧(true=true)∧(true=true)) _ (by kernel_rfl) ⟨⟨⟨rfl,rfl,(by decide)⟩,⟨rfl,rfl,(by decide)⟩,⟨rfl,rfl⟩,⟨rfl,rfl,(by decide)⟩,rfl,rfl,tt⟩,⟨⟨rfl,rfl,(by decide)⟩,⟨rfl,rfl,(by decide)⟩,⟨rfl,⟨⟨rfl,(by first | rfl | omega | assumption | (symm; assumption) | simp | simp_all),(by decide)⟩,tt⟩,(by decide)⟩,⟨rfl,⟨⟨rfl,rfl,(by decide)⟩,tt⟩,(by decide)⟩,⟨rfl,⟨rfl,tt⟩,(by decide)⟩,⟨rfl,⟨⟨rfl,⟨rfl,rfl,(by decide)⟩,⟨rfl,rfl⟩,⟨rfl,rfl⟩,⟨rfl,rfl,(by decide)⟩,⟨rfl,rfl,(by decide)⟩,⟨rfl,rfl⟩,⟨rfl,rfl,(by decide)⟩,tt⟩,tt⟩,(by decide)⟩,tt⟩,rfl,rfl⟩)
    ·intro n31
     refine W.exit (thenQ_exit (thenQ_exit (blockQ_hit ?_)))
     exact endH_norm (.tup []) [(811,⟨3,.row (.ints o)⟩),(812,⟨36,.row (.intss (out++ordersF s h f (h.length - o.length) o))⟩),(901,⟨36,.fix [.own 811 o.length]⟩),(902,⟨48,.fix [.own 812 (List.length (out++ordersF s h f (h.length - o.length) o))]⟩),(903,⟨3,.fix [.i us]⟩),(904,⟨1,.fix [.fn 79 [.ptr 901 0,.ep [.sl (.calls h)],.ep [.v (.string s)],.ptr 902 0,.ptr 903 0,.ep [.sl (.ints rows)],.ptr 904 0]]⟩)] [901,902,903,904,811,812] ⟨rfl,rfl,rfl⟩ [(901,901),(902,902),(903,903),(904,904),(811,811),(812,812)] (.tup []) (by kernel_rfl) (@cast (Y∧((((3:Nat)=3)∧((.ints oo:Dat)=.ints o)∧((811:Nat) ∈ ([901,902,903,904,811,812] : List Nat)))∧(((36:Nat)=36)∧((.intss ou:Dat)=.intss (out++ordersF s h f (h.length - o.length) o))∧((812:Nat) ∈ ([901,902,903,904,811,812] : List Nat)))∧(((36:Nat)=36)∧((((811:Nat)=811)∧(oo.length=o.length)∧((811:Nat) ∈ ([901,902,903,904,811,812] : List Nat)))∧Y)∧((901:Nat) ∈ ([901,902,903,904,811,812] : List Nat)))∧(((48:Nat)=48)∧((((812:Nat)=812)∧(ou.length=(List.length (out++ordersF s h f (h.length - o.length) o)))∧((812:Nat) ∈ ([901,902,903,904,811,812] : List Nat)))∧Y)∧((902:Nat) ∈ ([901,902,903,904,811,812] : List Nat)))∧(((3:Nat)=3)∧(((.int .i64 uu:Value)=.int .i64 us)∧Y)∧((903:Nat) ∈ ([901,902,903,904,811,812] : List Nat)))∧(((1:Nat)=1)∧((((79:Nat)=79)∧(((901:Nat)=901)∧((0:Nat)=0)∧((901:Nat) ∈ ([901,902,903,904,811,812] : List Nat)))∧(((.ep [.sl (.calls h)] : AV)=.ep [.sl (.calls h)])∧(([] : List Nat)=[]))∧(((.ep [.v (.string s)] : AV)=.ep [.v (.string s)])∧(([] : List Nat)=[]))∧(((902:Nat)=902)∧((0:Nat)=0)∧((902:Nat) ∈ ([901,902,903,904,811,812] : List Nat)))∧(((903:Nat)=903)∧((0:Nat)=0)∧((903:Nat) ∈ ([901,902,903,904,811,812] : List Nat)))∧(((.ep [.sl (.ints rows)] : AV)=.ep [.sl (.ints rows)])∧(([] : List Nat)=[]))∧(((904:Nat)=904)∧((0:Nat)=0)∧((904:Nat) ∈ ([901,902,903,904,811,812] : List Nat)))∧Y)∧Y)∧((904:Nat) ∈ ([901,902,903,904,811,812] : List Nat)))∧Y)∧(true=true)∧(true=true)) _ (by kernel_rfl) ⟨tt,⟨⟨rfl,(congrArg Dat.ints (by first | exact hoo | (rw [hou,orders_end (by omega),show k=h.length by omega]))),(by decide)⟩,⟨rfl,(congrArg Dat.intss (by first | exact hoo | (rw [hou,orders_end (by omega),show k=h.length by omega]))),(by decide)⟩,⟨rfl,⟨⟨rfl,(by first | rfl | exact congrArg List.length (by first | exact hoo | (rw [hou,orders_end (by omega),show k=h.length by omega])) | omega | assumption | simp | simp_all),(by decide)⟩,tt⟩,(by decide)⟩,⟨rfl,⟨⟨rfl,(by first | rfl | exact congrArg List.length (by first | exact hoo | (rw [hou,orders_end (by omega),show k=h.length by omega])) | omega | assumption | simp | simp_all),(by decide)⟩,tt⟩,(by decide)⟩,⟨rfl,⟨(congrArg (Value.int .i64) (by first | rfl | omega | assumption | (first | exact hoo | (rw [hou,orders_end (by omega),show k=h.length by omega]); done) | simp | simp_all)),tt⟩,(by decide)⟩,⟨rfl,⟨⟨rfl,⟨rfl,rfl,(by decide)⟩,⟨rfl,rfl⟩,⟨rfl,rfl⟩,⟨rfl,rfl,(by decide)⟩,⟨rfl,rfl,(by decide)⟩,⟨rfl,rfl⟩,⟨rfl,rfl,(by decide)⟩,tt⟩,tt⟩,(by decide)⟩,tt⟩,rfl,rfl⟩)
theorem hok79 (s:ByteArray) (h : List CallD) (f : Nat→Nat→Bool) (rows : List Int) (o : List Int) (us:Int) (out : List (List Int)) (hpre : (isObject s=true)∧(validHistory h=true)∧(rows=rowsOf h.length f)∧(headO h o)∧(us=mask h.length (hasN o))∧(out.length+6 ^ (h.length - o.length)≤100000)) : HOK prog 79 [901,902,903,904] [.ptr 901 0,.ep [.sl (.calls h)],.ep [.v (.string s)],.ptr 902 0,.ptr 903 0,.ep [.sl (.ints rows)],.ptr 904 0] [(811,⟨3,.row (.ints o)⟩),(812,⟨36,.row (.intss out)⟩),(901,⟨36,.fix [.own 811 o.length]⟩),(902,⟨48,.fix [.own 812 out.length]⟩),(903,⟨3,.fix [.i us]⟩),(904,⟨1,.fix [.fn 79 [.ptr 901 0,.ep [.sl (.calls h)],.ep [.v (.string s)],.ptr 902 0,.ptr 903 0,.ep [.sl (.ints rows)],.ptr 904 0]]⟩)] [901,902,903,904,811,812] (fun r s1 u1=>r=(.tup [])∧s1=([(811,⟨3,.row (.ints o)⟩),(812,⟨36,.row (.intss (out++ordersF s h f (h.length - o.length) o))⟩),(901,⟨36,.fix [.own 811 o.length]⟩),(902,⟨48,.fix [.own 812 (List.length (out++ordersF s h f (h.length - o.length) o))]⟩),(903,⟨3,.fix [.i us]⟩),(904,⟨1,.fix [.fn 79 [.ptr 901 0,.ep [.sl (.calls h)],.ep [.v (.string s)],.ptr 902 0,.ptr 903 0,.ep [.sl (.ints rows)],.ptr 904 0]]⟩)])∧u1=([901,902,903,904,811,812])) := hokN79 _ s h f rows o us out hpre (Nat.lt_succ_self _)
end Go.Proofs.Tryz

set_option linter.unusedSimpArgs false
set_option linter.unusedVariables false
namespace Go.Proofs.Tryz
open Go.Ab Go.RowKit
def fs56 : FnS := fnS [.o,.s .calls,.s .ints] [.str,.calls,.ints] (fun _ (s,h,rows,_)=>(.sl (.intss (ordersF s h (bitF rows) h.length [])),[],(isObject s=true)∧(validHistory h=true)∧(rows=rowsOf h.length (bitF rows))))
abbrev T56 : Tab := lk []
theorem tab56 : TabOK prog T56 := TabOK.nil
abbrev v560:AV:=.own 11 (List.length ([] : List (List Int)))
abbrev v561:AV:=.own 12 (List.length ([] : List Int))
abbrev v562 (h:List CallD) (s:ByteArray) (rows:List Int):AV:=.fn 79 [.ptr 8 0,.ep [.sl (.calls h)],.ep [.v (.string s)],.ptr 7 0,.ptr 9 0,.ep [.sl (.ints rows)],.ptr 10 0]
abbrev v563 (s:ByteArray) (h:List CallD) (rows:List Int):AV:=.own 1015 (List.length (([] : List (List Int))++ordersF s h (bitF rows) (h.length - ([] : List Int).length) ([] : List Int)))
theorem ok56 : FnOK prog 56 fs56 := by
 refine FnOK.mk cok func56 rfl rfl rfl ?_
 rintro fl ⟨(s:ByteArray),(h : List CallD),(rows : List Int),_⟩ hpre F hnt0 _
 have hnt : F.nt=17 := hnt0.trans ntmps56
 replace hpre : (isObject s=true)∧(validHistory h=true)∧(rows=rowsOf h.length (bitF rows)) := hpre
 obtain ⟨hs,hv,hr⟩ := hpre
 refine W.to (⟨[(0,.v (.string s)),(1,.sl (.calls h)),(2,.sl (.ints rows))],[],[999]⟩) rfl ?_
 have hv6 := (valid_iff.1 hv).1
 refine W.lenOf 1 (.calls h) (by kernel_rfl) ?_
 intro hl_h; replace hl_h : List.length h≤9223372036854775807 := hl_h
 refine W.lenOf 2 (.ints rows) (by kernel_rfl) ?_
 intro hl_rows; replace hl_rows : List.length rows≤9223372036854775807 := hl_rows
 refine kS tab56 hnt [(3,.ptr 3 0),(4,.ptr 4 0),(5,.ptr 5 0)] [(3,⟨9,.fix [.v (.string s)]⟩),(4,⟨38,.fix [.sl (.calls h)]⟩),(5,⟨36,.fix [.sl (.ints rows)]⟩)] [5,4,3,999] 1640 [] tt ?_
 refine W.subS [] (⟨[(3,.ep [.v (.string s)]),(4,.ep [.sl (.calls h)]),(5,.ep [.sl (.ints rows)])],[],[999]⟩) (@cast ((((([.v (.string s)] : List AV)=[.v (.string s)])∧(([] : List Nat)=[])∧((3:Nat) ∉ ([] : List Nat)))∧((([.sl (.calls h)] : List AV)=[.sl (.calls h)])∧(([] : List Nat)=[])∧((4:Nat) ∉ ([] : List Nat)))∧((([.sl (.ints rows)] : List AV)=[.sl (.ints rows)])∧(([] : List Nat)=[])∧((5:Nat) ∉ ([] : List Nat)))∧Y)∧Y∧(true=true)∧(true=true)) _ (by kernel_rfl) ⟨⟨⟨rfl,rfl,(by decide)⟩,⟨rfl,rfl,(by decide)⟩,⟨rfl,rfl,(by decide)⟩,tt⟩,tt,rfl,rfl⟩) ?_
 refine kS tab56 hnt [(3,.ep [.v (.string s)]),(4,.ep [.sl (.calls h)]),(5,.ep [.sl (.ints rows)]),(7,.ptr 7 0)] [(7,⟨48,.fix [v560]⟩),(11,⟨36,.row (.intss ([] : List (List Int)))⟩)] [7,11,999] 668 [] tt ?_ [11]
 refine kS tab56 hnt [(3,.ep [.v (.string s)]),(4,.ep [.sl (.calls h)]),(5,.ep [.sl (.ints rows)]),(7,.ptr 7 0),(8,.ptr 8 0),(9,.ptr 9 0)] [(7,⟨48,.fix [v560]⟩),(8,⟨36,.fix [v561]⟩),(9,⟨3,.fix [.i (0:Int)]⟩),(11,⟨36,.row (.intss ([] : List (List Int)))⟩),(12,⟨3,.row (.ints ([] : List Int))⟩)] [9,8,12,7,11,999] 478406 [] tt ?_ [12]
 refine kS tab56 hnt [(3,.ep [.v (.string s)]),(4,.ep [.sl (.calls h)]),(5,.ep [.sl (.ints rows)]),(7,.ptr 7 0),(8,.ptr 8 0),(9,.ptr 9 0),(10,.ptr 10 0)] [(7,⟨48,.fix [v560]⟩),(8,⟨36,.fix [v561]⟩),(9,⟨3,.fix [.i (0:Int)]⟩),(10,⟨1,.fix [.v (.nilFunc)]⟩),(11,⟨36,.row (.intss ([] : List (List Int)))⟩),(12,⟨3,.row (.ints ([] : List Int))⟩)] [10,9,8,12,7,11,999] 2 [] tt ?_
 refine kS tab56 hnt [(7,.ptr 7 0),(10,.ptr 10 0)] [(7,⟨48,.fix [v560]⟩),(8,⟨36,.fix [v561]⟩),(9,⟨3,.fix [.i (0:Int)]⟩),(10,⟨1,.fix [(v562 h s rows)]⟩),(11,⟨36,.row (.intss ([] : List (List Int)))⟩),(12,⟨3,.row (.ints ([] : List Int))⟩)] [10,9,8,12,7,11,999] 74 [] tt ?_
 refine W.seq (W.wi ?_)
 refine WI.runT cok tab56 hnt [] 1 1 (⟨[(7,.ptr 7 0),(10,.ptr 10 0),(14,(v562 h s rows))],[(7,⟨48,.fix [v560]⟩),(8,⟨36,.fix [v561]⟩),(9,⟨3,.fix [.i (0:Int)]⟩),(10,⟨1,.fix [(v562 h s rows)]⟩),(11,⟨36,.row (.intss ([] : List (List Int)))⟩),(12,⟨3,.row (.ints ([] : List Int))⟩)],[10,9,8,12,7,11,999]⟩)
  (Y∧Y) (by kernel_rfl) rfl
  ⟨tt,tt⟩ ?_
 refine WI.callH _ [] [.ptr 8 0,.ep [.sl (.calls h)],.ep [.v (.string s)],.ptr 7 0,.ptr 9 0,.ep [.sl (.ints rows)],.ptr 10 0] (.fn 79 [.ptr 8 0,.ep [.sl (.calls h)],.ep [.v (.string s)],.ptr 7 0,.ptr 9 0,.ep [.sl (.ints rows)],.ptr 10 0]) _ _ [(901,8),(811,12),(902,7),(812,11),(903,9),(904,10)] (hok79 s h (bitF rows) rows ([] : List Int) (0:Int) ([] : List (List Int)) ⟨(by exact hs),(by exact hv),(by exact hr),(by exact headO_nil h),(by exact (used_nil _).symm),(by have := pow6_le hv6; simp; omega)⟩) ent79 hnt rfl rfl (wanted_none rfl) (by kernel_rfl) (by kernel_rfl) trivial (by kernel_rfl) (by kernel_rfl) (by kernel_rfl) (@cast (((some ⟨3,.row (.ints ([] : List Int))⟩ : Option LB)=some ⟨3,.row (.ints ([] : List Int))⟩)∧(true=true)∧((some ⟨36,.row (.intss ([] : List (List Int)))⟩ : Option LB)=some ⟨36,.row (.intss ([] : List (List Int)))⟩)∧(true=true)∧((some ⟨36,.fix [.own 12 (List.length ([] : List Int))]⟩ : Option LB)=some ⟨36,.fix [.own 12 (List.length ([] : List Int))]⟩)∧(true=true)∧((some ⟨48,.fix [.own 11 (List.length ([] : List (List Int)))]⟩ : Option LB)=some ⟨48,.fix [.own 11 (List.length ([] : List (List Int)))]⟩)∧(true=true)∧((some ⟨3,.fix [.i (0:Int)]⟩ : Option LB)=some ⟨3,.fix [.i (0:Int)]⟩)∧(true=true)∧((some ⟨1,.fix [.fn 79 [.ptr 8 0,.ep [.sl (.calls h)],.ep [.v (.string s)],.ptr 7 0,.ptr 9 0,.ep [.sl (.ints rows)],.ptr 10 0]]⟩ : Option LB)=some ⟨1,.fix [.fn 79 [.ptr 8 0,.ep [.sl (.calls h)],.ep [.v (.string s)],.ptr 7 0,.ptr 9 0,.ep [.sl (.ints rows)],.ptr 10 0]]⟩)∧(true=true)∧(Y)) _ (by kernel_rfl) ⟨rfl,rfl,rfl,rfl,rfl,rfl,rfl,rfl,rfl,rfl,rfl,rfl,tt⟩) (by kernel_rfl) rfl ?_
 rintro r s1 u1 ⟨rfl,rfl,rfl⟩
 refine ⟨[(901,8),(902,7),(903,9),(904,10),(811,15),(812,1015)],by kernel_rfl,WI.to (⟨[(7,.ptr 7 0),(10,.ptr 10 0),(14,(v562 h s rows)),(15,.tup [])],[(7,⟨48,.fix [(v563 s h rows)]⟩),(8,⟨36,.fix [.own 15 (List.length ([] : List Int))]⟩),(9,⟨3,.fix [.i (0:Int)]⟩),(10,⟨1,.fix [(v562 h s rows)]⟩),(15,⟨3,.row (.ints ([] : List Int))⟩),(1015,⟨36,.row (.intss (([] : List (List Int))++ordersF s h (bitF rows) (h.length - ([] : List Int).length) ([] : List Int)))⟩)],[1015,15,10,9,8,12,7,11,999]⟩) 2 (by kernel_rfl) rfl ?_⟩
 refine WI.nil rfl (thenQ_normal ?_)
 refine W.keepE [7] [(7,.ptr 7 0)] (by kernel_rfl) ?_
 refine W.to (⟨[(7,.ptr 7 0)],[(7,⟨48,.fix [(v563 s h rows)]⟩),(8,⟨36,.fix [.own 15 (List.length ([] : List Int))]⟩),(9,⟨3,.fix [.i (0:Int)]⟩),(10,⟨1,.fix [(v562 h s rows)]⟩),(15,⟨3,.row (.ints ([] : List Int))⟩),(1015,⟨36,.row (.intss (([] : List (List Int))++ordersF s h (bitF rows) (h.length - ([] : List Int).length) ([] : List Int)))⟩)],[1015,15,10,9,8,12,7,11,999]⟩) rfl ?_
 refine kE tab56 hnt [(6,(v563 s h rows))] 20 [] tt ?_
 refine W.ret ?_
 exact endQ_ret (.own 1015 (List.length (([] : List (List Int))++ordersF s h (bitF rows) (h.length - ([] : List Int).length) ([] : List Int)))) (by kernel_rfl) (@cast (((List.length (([] : List (List Int))++ordersF s h (bitF rows) (h.length - ([] : List Int).length) ([] : List Int)))=(List.length (([] : List (List Int))++ordersF s h (bitF rows) (h.length - ([] : List Int).length) ([] : List Int))))∧((.intss (([] : List (List Int))++ordersF s h (bitF rows) (h.length - ([] : List Int).length) ([] : List Int)):Dat)=.intss (ordersF s h (bitF rows) h.length []))∧((1015:Nat) ∉ ([] : List Nat))) _ (by kernel_rfl) ⟨rfl,⟨(congrArg Dat.intss (by simp)),(by decide)⟩⟩)
theorem ent56 : Entr prog 56 := ⟨_,func56,rfl,by decide⟩
end Go.Proofs.Tryz

set_option linter.unusedSimpArgs false
set_option linter.unusedVariables false
namespace Go.Proofs.Tryz
open Go.Ab Go.RowKit
def fs55 : FnS := fnS [.o,.s .calls] [.str,.calls] (fun _ (s,h,_)=>(.sl (.intss (ordersBy s h (ownF h))),[],Y))
abbrev T55 : Tab := lk [(32,fs32),(52,fs52),(56,fs56),(78,fs78)]
theorem tab55 : TabOK prog T55 := (TabOK.cons ok32 ent32 (TabOK.cons ok52 ent52 (TabOK.cons ok56 ent56 (TabOK.cons ok78 ent78 TabOK.nil))))
theorem ok55 : FnOK prog 55 fs55 := by
 refine FnOK.mk cok func55 rfl rfl rfl ?_
 rintro fl ⟨(s:ByteArray),(h : List CallD),_⟩ hpre F hnt0 _
 have hnt : F.nt=18 := hnt0.trans ntmps55
 clear hpre
 refine W.to (⟨[(0,.v (.string s)),(1,.sl (.calls h))],[],[999]⟩) rfl ?_
 refine W.lenOf 1 (.calls h) (by kernel_rfl) ?_
 intro hl_h; replace hl_h : List.length h≤9223372036854775807 := hl_h
 refine kE tab55 hnt [(0,.v (.string s)),(1,.sl (.calls h))] 2 [] tt ?_
 refine W.seq ?_
 refine kE tab55 hnt [(0,.v (.string s)),(1,.sl (.calls h)),(12,.b ((!(isObject s)) || (!(validHistory h))))] 1348076212679 ((fun (Z1:Bool)=>([(!Z1)=true→Y,(!Z1)=true→(Y∧(((((!Z1)=true)∧Y)∧Y)∧Y)),(!Z1)=true→(((!Z1)=true)∧Y),Z1=true→Y,Z1=false→((!Z1)=true)∧Y]:PL)) (!(isObject s))) ⟨(fun _=>trivial),(fun hG=>⟨tt,⟨⟨hG,tt⟩,tt⟩,tt⟩),(fun hG=>⟨hG,tt⟩),(fun _=>trivial),(fun hp=>⟨(not_t hp),tt⟩)⟩ ?_
 refine ifb ((!(isObject s)) || (!(validHistory h))) ?_ ?_
 ·intro h12
  refine kE tab55 hnt [(4,.v (.slice none 0 0))] 2 [] tt ?_
  refine W.ret (thenQ_ret ?_)
  exact endQ_ret (.v (.slice none 0 0)) (by kernel_rfl) (@cast (((Value.slice none 0 0:Value)=.slice none 0 0)∧((Dat.intss (ordersBy s h (ownF h))).len=0)) _ (by kernel_rfl) ⟨rfl,(by show List.length (ordersBy s h (ownF h))=0; first | exact (by_no' h12).symm | (rw [by_no' h12]; rfl))⟩)
 ·intro n12
  refine W.skip (thenQ_normal ?_)
  refine kE tab55 hnt [(4,.sl (.intss (ordersF s h (bitF (ownAhead h)) h.length [])))] 522847879262885 [isObject s=true,validHistory h=true,(ownAhead h)=rowsOf h.length (bitF (ownAhead h))] ⟨(by exact and_l (by_yes' n12)),(by exact and_r (by_yes' n12)),(by exact own_rows (and_r (by_yes' n12)))⟩ ?_
  refine W.ret ?_
  exact endQ_ret (.sl (.intss (ordersF s h (bitF (ownAhead h)) h.length []))) (by kernel_rfl) (@cast ((.intss (ordersF s h (bitF (ownAhead h)) h.length []):Dat)=.intss (ordersBy s h (ownF h))) _ (by kernel_rfl) (congrArg Dat.intss (by exact by_val (by_yes' n12) (own_eq (and_r (by_yes' n12))))))
theorem ent55 : Entr prog 55 := ⟨_,func55,rfl,by decide⟩
end Go.Proofs.Tryz

set_option linter.unusedSimpArgs false
set_option linter.unusedVariables false
namespace Go.Proofs.Tryz
open Go.Ab Go.RowKit
def fs34 : FnS := fnS [.o,.s .calls] [.str,.calls] (fun _ (s,h,_)=>(.b (explains s h (ownF h)),[],Y))
abbrev T34 : Tab := lk [(55,fs55)]
theorem tab34 : TabOK prog T34 := (TabOK.cons ok55 ent55 TabOK.nil)
theorem ok34 : FnOK prog 34 fs34 := by
 refine FnOK.mk cok func34 rfl rfl rfl ?_
 rintro fl ⟨(s:ByteArray),(h : List CallD),_⟩ hpre F hnt0 _
 have hnt : F.nt=10 := hnt0.trans ntmps34
 clear hpre
 refine W.to (⟨[(0,.v (.string s)),(1,.sl (.calls h))],[],[999]⟩) rfl ?_
 refine W.lenOf 1 (.calls h) (by kernel_rfl) ?_
 intro hl_h; replace hl_h : List.length h≤9223372036854775807 := hl_h
 refine kE tab34 hnt [(0,.v (.string s)),(1,.sl (.calls h))] 2 [] tt ?_
 refine kE tab34 hnt [(4,.b (decide ((0:Int)<(((List.length (ordersBy s h (ownF h))):Nat):Int))))] 65440718120 [] tt ?_
 refine W.ret ?_
 exact eB (show (decide ((0:Int)<(((List.length (ordersBy s h (ownF h))):Nat):Int)))=(explains s h (ownF h)) from (by rfl))
theorem ent34 : Entr prog 34 := ⟨_,func34,rfl,by decide⟩
end Go.Proofs.Tryz

set_option linter.unusedSimpArgs false
set_option linter.unusedVariables false
namespace Go.Proofs.Tryz
open Go.Ab Go.RowKit
def fs33 : FnS := fnS [.o] [.bool] (fun _ (b,_)=>(.v (.string (yesNoV b)),[],Y))
abbrev T33 : Tab := lk []
theorem tab33 : TabOK prog T33 := TabOK.nil
theorem ok33 : FnOK prog 33 fs33 := by
 refine FnOK.mk cok func33 rfl rfl rfl ?_
 rintro fl ⟨(b:Bool),_⟩ hpre F hnt0 _
 have hnt : F.nt=4 := hnt0.trans ntmps33
 clear hpre
 refine W.to (⟨[(0,.b b)],[],[999]⟩) rfl ?_
 refine kE tab33 hnt [(0,.b b)] 2 [] tt ?_
 refine W.seq ?_
 refine kE tab33 hnt [(3,.b b)] 2 [] tt ?_
 refine ifb b ?_ ?_
 ·intro h3
  refine kE tab33 hnt [(2,.v (.string (⟨#[121,101,115]⟩:ByteArray)))] 2 [] tt ?_
  refine W.ret (thenQ_ret ?_)
  exact eT (show (⟨#[121,101,115]⟩:ByteArray)=(yesNoV b) from (by rw [h3]; rfl))
 ·intro n3
  refine W.skip (thenQ_normal ?_)
  refine kE tab33 hnt [(2,.v (.string (⟨#[110,111]⟩:ByteArray)))] 2 [] tt ?_
  refine W.ret ?_
  exact eT (show (⟨#[110,111]⟩:ByteArray)=(yesNoV b) from (by rw [n3]; rfl))
theorem ent33 : Entr prog 33 := ⟨_,func33,rfl,by decide⟩
end Go.Proofs.Tryz

set_option linter.unusedSimpArgs false
set_option linter.unusedVariables false
namespace Go.Proofs.Tryz
open Go.Ab Go.RowKit
def fs59 : FnS := fnS [.s .calls,.o] [.calls,.int] (fun _ (h,time,_)=>(.i (openAt h time),[],Y))
abbrev T59 : Tab := lk []
theorem tab59 : TabOK prog T59 := TabOK.nil
abbrev v590 (h:List CallD):AV:=.i (h.length:Int)
theorem ok59 : FnOK prog 59 fs59 := by
 refine FnOK.mk cok func59 rfl rfl rfl ?_
 rintro fl ⟨(h : List CallD),(time:Int),_⟩ hpre F hnt0 _
 have hnt : F.nt=28 := hnt0.trans ntmps59
 clear hpre
 refine W.to (⟨[(0,.sl (.calls h)),(1,.i time)],[],[999]⟩) rfl ?_
 refine W.lenOf 0 (.calls h) (by kernel_rfl) ?_
 intro hl_h; replace hl_h : List.length h≤9223372036854775807 := hl_h
 refine kE tab59 hnt [(0,.sl (.calls h)),(1,.i time)] 2 [] tt ?_
 refine kE tab59 hnt [(0,.sl (.calls h)),(1,.i time),(5,.i (0:Int))] 2 [] tt ?_
 refine W.seq ?_
 refine kE tab59 hnt [(1,.i time),(5,.i (0:Int)),(8,.sl (.calls h)),(9,(v590 h)),(10,.i (0:Int))] 182 [] tt ?_
 refine W.block ?_
 refine W.loop (ι := Int × Nat) (fun (x : Int × Nat)=>match x with | (cnt,k)=>(⟨[(1,.i time),(5,.i cnt),(8,.sl (.calls h)),(9,(v590 h)),(10,.i ((k:Nat):Int))],[],[999]⟩:St))
  (fun (x : Int × Nat)=>match x with | (cnt,k)=>(k≤h.length)∧(cnt=(((h.take k).countP (openP time):Nat):Int)))
  (fun (x : Int × Nat)=>match x with | (cnt,k)=>(h.length - k:Nat)) ((0:Int),0) ?_ ?_ ?_
 ·exact ⟨oi,(by rfl)⟩
 ·exact Sk
 ·rintro ⟨cnt,k⟩ hC0
  obtain ⟨hk,hc⟩ := hC0
  have hcb := take_count_le h k (openP time)
  refine kE tab59 hnt [(1,.i time),(5,.i cnt),(8,.sl (.calls h)),(9,(v590 h)),(10,.i ((k:Nat):Int)),(11,.b (decide (((k:Nat):Int)<(h.length:Int))))] 62 [] tt ?_
  refine W.seq ?_
  refine ifp (((k:Nat):Int)<(h.length:Int)) ?_ ?_
  ·intro h11
   refine W.skip (thenQ_normal ?_)
   refine W.seq ?_
   refine W.block ?_
   refine kS tab59 hnt [(1,.i time),(5,.i cnt),(7,.ptr 7 0),(8,.sl (.calls h)),(9,(v590 h)),(10,.i ((k:Nat):Int))] [(7,⟨59,.fix [.i ((h.getD k default).proc),.i ((h.getD k default).obj),.i ((h.getD k default).kind),.i ((h.getD k default).arg),.i ((h.getD k default).ret),.i ((h.getD k default).frm),.i ((h.getD k default).to)]⟩)] [7,999] 4386212 [0≤((k:Nat):Int),((k:Nat):Int)<(h.length:Int)] ⟨om,om⟩ ?_
   refine kE tab59 hnt [(1,.i time),(5,.i cnt),(8,.sl (.calls h)),(9,(v590 h)),(10,.i ((k:Nat):Int)),(23,.b ((decide (((h.getD k default).frm)≤time)) && (decide (time<((h.getD k default).to)))))] 12132700290236 ((fun (Z1:Bool)=>([Z1=true→Y,Z1=true→Y,Z1=true→((Z1=true)∧Y),Z1=true→(((Z1=true)∧Y)∧(((Z1=true)∧Y)∧Y)),Z1=true→(Z1=true)∧Y,Z1=false→Y]:PL)) (decide (((h.getD k default).frm)≤time))) ⟨(fun _=>trivial),(fun _=>trivial),(fun hG=>⟨hG,tt⟩),(fun hG=>⟨⟨hG,tt⟩,⟨hG,tt⟩,tt⟩),(fun hp=>⟨hp,tt⟩),(fun _=>trivial)⟩ ?_
   refine ifb ((decide (((h.getD k default).frm)≤time)) && (decide (time<((h.getD k default).to)))) ?_ ?_
   ·intro h23
    have h23_0 : ((h.getD k default).frm)≤time := of_decide_eq_true (and_l h23)
    have h23_1 : time<((h.getD k default).to) := of_decide_eq_true (and_r h23)
    refine lE tab59 hnt [(1,.i time),(5,.i (cnt+(1:Int))),(8,.sl (.calls h)),(9,(v590 h)),(10,.i ((k:Nat):Int))] 15869 [Fits .i64 (cnt+(1:Int))] fi ?_
    refine blockQ_normal (thenQ_normal ?_)
    refine lE tab59 hnt [(1,.i time),(5,.i (cnt+(1:Int))),(8,.sl (.calls h)),(9,(v590 h)),(10,.i (((k+1):Nat):Int))] 1763 [Fits .i64 (((k+1):Nat):Int)] fi ?_
    refine thenQ_normal ?_
    refine ⟨((cnt+(1:Int)),(k+1)),⟨oi,(by rw [take_count (openP time) (by omega),hc]; first | (rw [if_pos (show openP time (h.getD k default)=true from h23)]) | (rw [if_neg (by rw [show openP time (h.getD k default)=false from n23]; simp)]; omega))⟩,(show h.length - (k+1)<h.length - k from o2),?_⟩
    exact Sk
   ·intro n23
    refine W.skip (blockQ_normal (thenQ_normal ?_))
    refine lE tab59 hnt [(1,.i time),(5,.i cnt),(8,.sl (.calls h)),(9,(v590 h)),(10,.i (((k+1):Nat):Int))] 1763 [Fits .i64 (((k+1):Nat):Int)] fi ?_
    refine thenQ_normal ?_
    refine ⟨(cnt,(k+1)),⟨oi,(by rw [take_count (openP time) (by omega),hc]; first | (rw [if_pos (show openP time (h.getD k default)=true from h23)]) | (rw [if_neg (by rw [show openP time (h.getD k default)=false from n23]; simp)]; omega))⟩,(show h.length - (k+1)<h.length - k from o2),?_⟩
    exact Sk
  ·intro n11
   refine W.exit (thenQ_exit (thenQ_exit (blockQ_hit ?_)))
   refine thenQ_normal ?_
   refine kE tab59 hnt [(4,.i cnt)] 20 [] tt ?_
   refine W.ret ?_
   exact eI (show cnt=(openAt h time) from (by rw [hc,show k=h.length by omega,List.take_length]; rfl))
theorem ent59 : Entr prog 59 := ⟨_,func59,rfl,by decide⟩
end Go.Proofs.Tryz

set_option linter.unusedSimpArgs false
set_option linter.unusedVariables false
namespace Go.Proofs.Tryz
open Go.Ab Go.RowKit
def fs83 : FnS := fnS [.o,.o,.o] [.int,.int,(.ep .calls)] (fun _ (i,k,h,_)=>(.b (quietF h i.toNat k.toNat),[],(0≤i∧i<h.length)∧(0≤k∧k<h.length)∧(validHistory h=true)))
abbrev T83 : Tab := lk [(59,fs59)]
theorem tab83 : TabOK prog T83 := (TabOK.cons ok59 ent59 TabOK.nil)
theorem ok83 : FnOK prog 83 fs83 := by
 refine FnOK.mk cok func83 rfl rfl rfl ?_
 rintro fl ⟨(i:Int),(k:Int),(h : List CallD),_⟩ hpre F hnt0 _
 have hnt : F.nt=25 := hnt0.trans ntmps83
 replace hpre : (0≤i∧i<h.length)∧(0≤k∧k<h.length)∧(validHistory h=true) := hpre
 obtain ⟨hi,hk,hv⟩ := hpre
 refine W.to (⟨[(0,.i i),(1,.i k),(2,.ep [.sl (.calls h)])],[],[999]⟩) rfl ?_
 have hci := call_ok hv (i := i.toNat) (by omega)
 have hck := call_ok hv (i := k.toNat) (by omega)
 unfold callAt at hci hck
 refine kE tab83 hnt [(0,.i i),(1,.i k),(2,.ep [.sl (.calls h)])] 2 [] tt ?_
 refine W.seq ?_
 refine kE tab83 hnt [(0,.i i),(2,.ep [.sl (.calls h)]),(6,.i ((h.getD (Int.toNat k) default).to))] 97002866 [0≤k,k<(h.length:Int)] ⟨om,om⟩ ?_
 refine W.block ?_
 refine W.loop (ι := Int) (fun (t:Int)=>(⟨[(0,.i i),(2,.ep [.sl (.calls h)]),(6,.i t)],[],[999]⟩:St))
  (fun (t:Int)=>((h.getD k.toNat default).to≤t)∧(0≤t)∧(∀ j : Int,(h.getD k.toNat default).to≤j→j<t→¬ openAt h j=0))
  (fun (t:Int)=>((31 - t).toNat:Nat)) (((h.getD (Int.toNat k) default).to)) ?_ ?_ ?_
 ·exact ⟨oi,oi,(by intro j h1 h2; omega)⟩
 ·exact Sk
 ·rintro t hC0
  obtain ⟨ht,ht0,hA⟩ := hC0
  refine W.seq ?_
  refine kE tab83 hnt [(0,.i i),(2,.ep [.sl (.calls h)]),(6,.i t),(18,.b (decide (t<((h.getD (Int.toNat i) default).frm))))] 24118255136 [0≤i,i<(h.length:Int)] ⟨om,om⟩ ?_
  refine ifp (t<((h.getD (Int.toNat i) default).frm)) ?_ ?_
  ·intro h18
   refine W.skip (thenQ_normal ?_)
   refine W.seq ?_
   refine W.block ?_
   refine kE tab83 hnt [(0,.i i),(2,.ep [.sl (.calls h)]),(6,.i t),(24,.b (decide ((openAt h t)=(0:Int))))] 296680340 [] tt ?_
   refine ifp ((openAt h t)=(0:Int)) ?_ ?_
   ·intro h24
    refine kE tab83 hnt [(5,.b true)] 2 [] tt ?_
    refine W.ret (blockQ_ret (thenQ_ret (thenQ_ret (blockQ_ret (thenQ_ret ?_)))))
    exact eB (show true=(quietF h i.toNat k.toNat) from (by exact (quiet_yes ht0 (by omega) ht (by assumption) h24).symm))
   ·intro n24
    refine W.skip (blockQ_normal (thenQ_normal ?_))
    refine lE tab83 hnt [(0,.i i),(2,.ep [.sl (.calls h)]),(6,.i (t+(1:Int)))] 15869 [Fits .i64 (t+(1:Int))] fi ?_
    refine thenQ_normal ?_
    refine ⟨((t+(1:Int))),⟨oi,oi,(by intro j h1 h2; by_cases hj : j=t; (subst hj; exact n24); exact hA j h1 (by omega))⟩,(show (31 - (t+(1:Int))).toNat<(31 - t).toNat from o2),?_⟩
    exact Sk
  ·intro n18
   refine W.exit (thenQ_exit (thenQ_exit (blockQ_hit ?_)))
   refine thenQ_normal ?_
   refine kE tab83 hnt [(5,.b false)] 2 [] tt ?_
   refine W.ret ?_
   exact eB (show false=(quietF h i.toNat k.toNat) from (by exact (quiet_no n18 hA).symm))
theorem ent83 : Entr prog 83 := ⟨_,func83,rfl,by decide⟩
end Go.Proofs.Tryz

set_option linter.unusedSimpArgs false
set_option linter.unusedVariables false
namespace Go.Proofs.Tryz
open Go.Ab Go.RowKit
def fs82QuietAhead : FnS := fnS [.o,.o] [.int,(.fn1 83 (.ep .calls))] (fun _ (n,h,_)=>(.sl (.ints (rowsOf n.toNat (quietF h))),[],(0≤n∧n≤60∧n=h.length)∧(validHistory h=true)))
abbrev T82QuietAhead : Tab := lk [(83,fs83)]
theorem tab82QuietAhead : TabOK prog T82QuietAhead := (TabOK.cons ok83 ent83 TabOK.nil)
abbrev v82QuietAhead0 (h:List CallD):AV:=.fn 83 [.ep [.sl (.calls h)]]
abbrev v82QuietAhead1 (n:Int):AV:=.i (((List.length (List.replicate (Int.toNat n) (0:Int))):Nat):Int)
theorem ok82QuietAhead : FnOK prog 82 fs82QuietAhead := by
 refine FnOK.mk cok func82 rfl rfl rfl ?_
 rintro fl ⟨(n:Int),(h : List CallD),_⟩ hpre F hnt0 _
 have hnt : F.nt=35 := hnt0.trans ntmps82
 replace hpre : (0≤n∧n≤60∧n=h.length)∧(validHistory h=true) := hpre
 obtain ⟨hn,hv⟩ := hpre
 refine W.to (⟨[(0,.i n),(1,(v82QuietAhead0 h))],[],[999]⟩) rfl ?_
 refine kE tab82QuietAhead hnt [(0,.i n),(1,(v82QuietAhead0 h))] 2 [] tt ?_
 refine kS tab82QuietAhead hnt [(0,.i n),(1,(v82QuietAhead0 h)),(5,.own 9 (List.length (List.replicate (Int.toNat n) (0:Int))))] [(9,⟨3,.row (.ints (List.replicate (Int.toNat n) (0:Int)))⟩)] [9,999] 1349939 [n=n,0≤n,n * 8≤281474976710656] ⟨rfl,om,om⟩ ?_ [9]
 refine W.seq ?_
 refine kE tab82QuietAhead hnt [(0,.i n),(1,(v82QuietAhead0 h)),(5,.own 9 (List.length (List.replicate (Int.toNat n) (0:Int)))),(11,(v82QuietAhead1 n)),(12,.i (0:Int))] 182 [] tt ?_
 refine W.block ?_
 refine W.loop (ι := Nat × (List Int)) (fun (x : Nat × (List Int))=>match x with | (i,o)=>(⟨[(0,.i n),(1,(v82QuietAhead0 h)),(5,.own 9 o.length),(11,(v82QuietAhead1 n)),(12,.i ((i:Nat):Int))],[(9,⟨3,.row (.ints o)⟩)],[9,999]⟩:St))
  (fun (x : Nat × (List Int))=>match x with | (i,o)=>(i≤n.toNat)∧(o=partRows n.toNat (quietF h) i 0))
  (fun (x : Nat × (List Int))=>match x with | (i,o)=>(n.toNat - i:Nat)) (0,(List.replicate (Int.toNat n) (0:Int))) ?_ ?_ ?_
 ·exact ⟨oi,(by exact partRows_zero _ _)⟩
 ·exact Sk
 ·rintro ⟨i,o⟩ hC0
  obtain ⟨hi,ho⟩ := hC0
  have hol : o.length=n.toNat := by rw [ho]; exact partRows_len _ _ _ _
  refine kE tab82QuietAhead hnt [(0,.i n),(1,(v82QuietAhead0 h)),(5,.own 9 o.length),(11,(v82QuietAhead1 n)),(12,.i ((i:Nat):Int)),(13,.b (decide (((i:Nat):Int)<(((List.length (List.replicate (Int.toNat n) (0:Int))):Nat):Int))))] 62 [] tt ?_
  refine W.seq ?_
  refine ifp (((i:Nat):Int)<(((List.length (List.replicate (Int.toNat n) (0:Int))):Nat):Int)) ?_ ?_
  ·intro h13
   have h13' := h13
   simp only [ln] at h13'
   refine W.skip (thenQ_normal ?_)
   refine W.seq ?_
   refine W.block ?_
   refine kE tab82QuietAhead hnt [(0,.i n),(1,(v82QuietAhead0 h)),(5,.own 9 o.length),(6,.i ((i:Nat):Int)),(11,(v82QuietAhead1 n)),(12,.i ((i:Nat):Int))] 20 [] tt ?_
   refine kE tab82QuietAhead hnt [(0,.i n),(1,(v82QuietAhead0 h)),(5,.own 9 o.length),(6,.i ((i:Nat):Int)),(11,(v82QuietAhead1 n)),(12,.i ((i:Nat):Int)),(15,.i n),(16,.i (0:Int))] 20 [] tt ?_
   refine W.block ?_
   refine W.loop (ι := Nat × (List Int)) (fun (x : Nat × (List Int))=>match x with | (k,x)=>(⟨[(0,.i n),(1,(v82QuietAhead0 h)),(5,.own 9 o.length),(6,.i ((i:Nat):Int)),(11,(v82QuietAhead1 n)),(12,.i ((i:Nat):Int)),(15,.i n),(16,.i ((k:Nat):Int))],[(9,⟨3,.row (.ints x)⟩)],[9,999]⟩:St))
    (fun (x : Nat × (List Int))=>match x with | (k,x)=>(k≤n.toNat)∧(x=partRows n.toNat (quietF h) i k))
    (fun (x : Nat × (List Int))=>match x with | (k,x)=>(n.toNat - k:Nat)) (0,o) ?_ ?_ ?_
   ·exact ⟨oi,(by exact ho)⟩
   ·exact Sk
   ·rintro ⟨k,x⟩ hC0
    obtain ⟨hk,hx⟩ := hC0
    have hxl : x.length=n.toNat := by rw [hx]; exact partRows_len _ _ _ _
    refine kE tab82QuietAhead hnt [(0,.i n),(1,(v82QuietAhead0 h)),(5,.own 9 o.length),(6,.i ((i:Nat):Int)),(11,(v82QuietAhead1 n)),(12,.i ((i:Nat):Int)),(15,.i n),(16,.i ((k:Nat):Int)),(17,.b (decide (((k:Nat):Int)<n)))] 62 [] tt ?_
    refine W.seq ?_
    refine ifp (((k:Nat):Int)<n) ?_ ?_
    ·intro h17
     refine W.skip (thenQ_normal ?_)
     refine W.seq ?_
     refine W.block ?_
     refine kE tab82QuietAhead hnt [(0,.i n),(1,(v82QuietAhead0 h)),(5,.own 9 o.length),(6,.i ((i:Nat):Int)),(7,.i ((k:Nat):Int)),(11,(v82QuietAhead1 n)),(12,.i ((i:Nat):Int)),(15,.i n),(16,.i ((k:Nat):Int))] 20 [] tt ?_
     refine kE tab82QuietAhead hnt [(0,.i n),(1,(v82QuietAhead0 h)),(5,.own 9 o.length),(6,.i ((i:Nat):Int)),(7,.i ((k:Nat):Int)),(11,(v82QuietAhead1 n)),(12,.i ((i:Nat):Int)),(15,.i n),(16,.i ((k:Nat):Int)),(22,.b (quietF h ((i:Nat):Int).toNat ((k:Nat):Int).toNat))] 16928153651 [0≤((i:Nat):Int)∧((i:Nat):Int)<h.length,0≤((k:Nat):Int)∧((k:Nat):Int)<h.length,validHistory h=true] ⟨om,om,om⟩ ?_
     refine ifb (quietF h ((i:Nat):Int).toNat ((k:Nat):Int).toNat) ?_ ?_
     ·intro h22
      refine lS tab82QuietAhead hnt [(0,.i n),(1,(v82QuietAhead0 h)),(5,.own 9 o.length),(6,.i ((i:Nat):Int)),(11,(v82QuietAhead1 n)),(12,.i ((i:Nat):Int)),(15,.i n),(16,.i ((k:Nat):Int))] [(9,⟨3,.row (.ints (List.set x i (bitsI .or .i64 (x.getD i 0) (shlI .i64 (1:Int) ((k:Nat):Int)))))⟩)] [9,999] 300875065856638076029259 [0≤((i:Nat):Int),((i:Nat):Int)<(o.length:Int),i<x.length,Fits .u64 ((k:Nat):Int),0≤((k:Nat):Int),Fits .i64 (shlI .i64 (1:Int) ((k:Nat):Int)),0≤((i:Nat):Int),((i:Nat):Int)<(o.length:Int),i<x.length] ⟨om,om,om,(by exact fits_u64 (by omega) (by omega)),om,(by exact fits_shl (by omega)),om,om,om⟩ ?_
      refine blockQ_normal (thenQ_normal ?_)
      refine lE tab82QuietAhead hnt [(0,.i n),(1,(v82QuietAhead0 h)),(5,.own 9 o.length),(6,.i ((i:Nat):Int)),(11,(v82QuietAhead1 n)),(12,.i ((i:Nat):Int)),(15,.i n),(16,.i (((k+1):Nat):Int))] 1763 [Fits .i64 (((k+1):Nat):Int)] fi ?_
      refine thenQ_normal ?_
      refine ⟨((k+1),(List.set x i (bitsI .or .i64 (x.getD i 0) (shlI .i64 (1:Int) ((k:Nat):Int))))),⟨oi,(by first | (rw [hx]; exact partRows_skip n22) | (rw [hx]; exact partRows_set (by omega) (by rw [partRows_get _ (by omega)]; exact mask_or _ (by omega) h22)))⟩,(show n.toNat - (k+1)<n.toNat - k from o2),?_⟩
      exact Sk
     ·intro n22
      refine W.skip (blockQ_normal (thenQ_normal ?_))
      refine lE tab82QuietAhead hnt [(0,.i n),(1,(v82QuietAhead0 h)),(5,.own 9 o.length),(6,.i ((i:Nat):Int)),(11,(v82QuietAhead1 n)),(12,.i ((i:Nat):Int)),(15,.i n),(16,.i (((k+1):Nat):Int))] 1763 [Fits .i64 (((k+1):Nat):Int)] fi ?_
      refine thenQ_normal ?_
      refine ⟨((k+1),x),⟨oi,(by first | (rw [hx]; exact partRows_skip n22) | (rw [hx]; exact partRows_set (by omega) (by rw [partRows_get _ (by omega)]; exact mask_or _ (by omega) h22)))⟩,(show n.toNat - (k+1)<n.toNat - k from o2),?_⟩
      exact Sk
    ·intro n17
     refine W.exit (thenQ_exit (thenQ_exit (blockQ_hit ?_)))
     refine blockQ_normal (thenQ_normal ?_)
     refine lE tab82QuietAhead hnt [(0,.i n),(1,(v82QuietAhead0 h)),(5,.own 9 o.length),(11,(v82QuietAhead1 n)),(12,.i (((i+1):Nat):Int))] 1763 [Fits .i64 (((i+1):Nat):Int)] fi ?_
     refine thenQ_normal ?_
     refine ⟨((i+1),x),⟨oi,(by rw [hx,← partRows_next]; congr 1; omega)⟩,(show n.toNat - (i+1)<n.toNat - i from o2),?_⟩
     exact Sub.of [] (@cast (((Si n)∧(((83:Nat)=83)∧(((.ep [.sl (.calls h)] : AV)=.ep [.sl (.calls h)])∧(([] : List Nat)=[]))∧Y)∧(((9:Nat)=9)∧(o.length=x.length)∧((9:Nat) ∈ ([9,999] : List Nat)))∧(Si (((List.length (List.replicate (Int.toNat n) (0:Int))):Nat):Int))∧(Si (((i+1):Nat):Int))∧Y)∧((((3:Nat)=3)∧(Sd (.ints x))∧((9:Nat) ∈ ([9,999] : List Nat)))∧Y)∧(true=true)∧(true=true)) _ (by kernel_rfl) ⟨⟨rfl,⟨rfl,⟨rfl,rfl⟩,tt⟩,⟨rfl,(by first | rfl | omega | assumption | (symm; assumption) | simp | simp_all),(by decide)⟩,rfl,rfl,tt⟩,⟨⟨rfl,rfl,(by decide)⟩,tt⟩,rfl,rfl⟩)
  ·intro n13
   have n13' := n13
   simp only [ln] at n13'
   refine W.exit (thenQ_exit (thenQ_exit (blockQ_hit ?_)))
   refine thenQ_normal ?_
   refine kE tab82QuietAhead hnt [(4,.own 9 o.length)] 20 [] tt ?_
   refine W.subS [] (⟨[(4,.sl (.ints o))],[],[999]⟩) (@cast ((((o.length=o.length)∧(Sd (.ints o))∧((9:Nat) ∉ ([] : List Nat)))∧Y)∧Y∧(true=true)∧(true=true)) _ (by kernel_rfl) ⟨⟨⟨rfl,rfl,(by decide)⟩,tt⟩,tt,rfl,rfl⟩) ?_
   refine W.ret ?_
   exact endQ_ret (.sl (.ints o)) (by kernel_rfl) (@cast ((.ints o:Dat)=.ints (rowsOf n.toNat (quietF h))) _ (by kernel_rfl) (congrArg Dat.ints (by rw [ho,← partRows_end]; congr 1; omega)))
theorem ent82QuietAhead : Entr prog 82 := ⟨_,func82,rfl,by decide⟩
end Go.Proofs.Tryz

set_option linter.unusedSimpArgs false
set_option linter.unusedVariables false
namespace Go.Proofs.Tryz
open Go.Ab Go.RowKit
def fs57 : FnS := fnS [.s .calls] [.calls] (fun _ (h,_)=>(.sl (.ints (quietAhead h)),[],Y))
abbrev T57 : Tab := lk [(52,fs52),(82,fs82QuietAhead)]
theorem tab57 : TabOK prog T57 := (TabOK.cons ok52 ent52 (TabOK.cons ok82QuietAhead ent82QuietAhead TabOK.nil))
theorem ok57 : FnOK prog 57 fs57 := by
 refine FnOK.mk cok func57 rfl rfl rfl ?_
 rintro fl ⟨(h : List CallD),_⟩ hpre F hnt0 _
 have hnt : F.nt=10 := hnt0.trans ntmps57
 clear hpre
 refine W.to (⟨[(0,.sl (.calls h))],[],[999]⟩) rfl ?_
 refine W.lenOf 0 (.calls h) (by kernel_rfl) ?_
 intro hl_h; replace hl_h : List.length h≤9223372036854775807 := hl_h
 refine kS tab57 hnt [(1,.ptr 1 0)] [(1,⟨38,.fix [.sl (.calls h)]⟩)] [1,999] 20 [] tt ?_
 refine W.subS [] (⟨[(1,.ep [.sl (.calls h)])],[],[999]⟩) (@cast ((((([.sl (.calls h)] : List AV)=[.sl (.calls h)])∧(([] : List Nat)=[])∧((1:Nat) ∉ ([] : List Nat)))∧Y)∧Y∧(true=true)∧(true=true)) _ (by kernel_rfl) ⟨⟨⟨rfl,rfl,(by decide)⟩,tt⟩,tt,rfl,rfl⟩) ?_
 refine W.seq ?_
 refine kE tab57 hnt [(1,.ep [.sl (.calls h)]),(5,.b (!(validHistory h)))] 120116 [] tt ?_
 refine ifb (!(validHistory h)) ?_ ?_
 ·intro h5
  refine kE tab57 hnt [(2,.v (.slice none 0 0))] 2 [] tt ?_
  refine W.ret (thenQ_ret ?_)
  exact endQ_ret (.v (.slice none 0 0)) (by kernel_rfl) (@cast (((Value.slice none 0 0:Value)=.slice none 0 0)∧((Dat.ints (quietAhead h)).len=0)) _ (by kernel_rfl) ⟨rfl,(by show List.length (quietAhead h)=0; unfold quietAhead; rw [not_f h5]; rfl)⟩)
 ·intro n5
  refine W.skip (thenQ_normal ?_)
  refine kE tab57 hnt [(2,.sl (.ints (rowsOf (h.length:Int).toNat (quietF h))))] 976952036 [0≤(h.length:Int)∧(h.length:Int)≤60∧(h.length:Int)=h.length,validHistory h=true] ⟨(by have hv := (valid_iff.1 (not_g n5)).1; omega),(by exact not_g n5)⟩ ?_
  refine W.ret ?_
  exact endQ_ret (.sl (.ints (rowsOf (h.length:Int).toNat (quietF h)))) (by kernel_rfl) (@cast ((.ints (rowsOf (h.length:Int).toNat (quietF h)):Dat)=.ints (quietAhead h)) _ (by kernel_rfl) (congrArg Dat.ints (by unfold quietAhead; rw [not_g n5]; rfl)))
theorem ent57 : Entr prog 57 := ⟨_,func57,rfl,by decide⟩
end Go.Proofs.Tryz
