import Derived.Test.YtbmbdlgifplglaaGreatDoorZF4S0
import Derived.Test.YtbmbdlgifplglaaGreatDoorZF4S2
import Derived.Test.YtbmbdlgifplglaaGreatDoorZF4S1
import Derived.Test.YtbmbdlgifplglaaGreatDoorFrameB
import Derived.Shelf.Slices.Delete
import Derived.Shelf.Slices.Clone
set_option maxRecDepth 100000
set_option maxHeartbeats 1000000
set_option linter.unusedSimpArgs false
set_option linter.unusedVariables false
namespace Go.Proofs.Tryz
open Go.Ab Go.RowKit
def fs52 : FnS := fnS [.s .calls] [.calls] (fun _ (h,_)=>(.b (validHistory h),[],Y))
abbrev T52 : Tab := lk [(74,fs74),(75,fs75)]
theorem tab52 : TabOK prog T52 := (TabOK.cons ok74 ent74 (TabOK.cons ok75 ent75 TabOK.nil))
abbrev v520 (h:List CallD):AV:=.i (h.length:Int)
abbrev v521 (i:Nat) (h:List CallD):AV:=.sl (.calls (List.take i h))
abbrev v522 (i:Nat) (h:List CallD):AV:=.i (((List.length (List.take i h)):Nat):Int)
theorem ok52 : FnOK prog 52 fs52 := by
 refine FnOK.mk cok func52 rfl rfl rfl ?_
 rintro fl ⟨(h : List CallD),_⟩ hpre F hnt0 _
 have hnt : F.nt=68 := hnt0.trans ntmps52
 clear hpre
 refine W.to (⟨[(0,.sl (.calls h))],[],[999]⟩) rfl ?_
 refine W.lenOf 0 (.calls h) (by kernel_rfl) ?_
 intro hl_h; replace hl_h : List.length h≤9223372036854775807 := hl_h
 refine kE tab52 hnt [(0,.sl (.calls h))] 2 [] tt ?_
 refine W.seq ?_
 refine kE tab52 hnt [(0,.sl (.calls h)),(9,.b (decide ((6:Int)<(h.length:Int))))] 5042 [] tt ?_
 refine ifp ((6:Int)<(h.length:Int)) ?_ ?_
 ·intro h9
  refine kE tab52 hnt [(2,.b false)] 2 [] tt ?_
  refine W.ret (thenQ_ret ?_)
  exact eB (show false=(validHistory h) from (by unfold validHistory; symm; exact and_fl (decide_eq_false (by omega))))
 ·intro n9
  refine W.skip (thenQ_normal ?_)
  refine W.seq ?_
  refine kE tab52 hnt [(0,.sl (.calls h)),(10,.sl (.calls h)),(11,(v520 h)),(12,.i (0:Int))] 182 [] tt ?_
  refine W.block ?_
  refine W.loop (ι := Nat) (fun (i:Nat)=>(⟨[(0,.sl (.calls h)),(10,.sl (.calls h)),(11,(v520 h)),(12,.i ((i:Nat):Int))],[],[999]⟩:St))
   (fun (i:Nat)=>(i≤h.length)∧(∀ j,j<i→(isCall (callAt h j) && allN j (fun k => !clash (callAt h j) (callAt h k)))=true))
   (fun (i:Nat)=>(h.length - i:Nat)) (0) ?_ ?_ ?_
  ·exact ⟨oi,(by exact upto_zero)⟩
  ·exact Sk
  ·rintro i hC0
   obtain ⟨hi,hA⟩ := hC0
   refine kE tab52 hnt [(0,.sl (.calls h)),(10,.sl (.calls h)),(11,(v520 h)),(12,.i ((i:Nat):Int)),(13,.b (decide (((i:Nat):Int)<(h.length:Int))))] 62 [] tt ?_
   refine W.seq ?_
   refine ifp (((i:Nat):Int)<(h.length:Int)) ?_ ?_
   ·intro h13
    refine W.skip (thenQ_normal ?_)
    refine W.seq ?_
    refine W.block ?_
    refine kS tab52 hnt [(0,.sl (.calls h)),(3,.i ((i:Nat):Int)),(4,.ptr 4 0),(10,.sl (.calls h)),(11,(v520 h)),(12,.i ((i:Nat):Int))] [(4,⟨59,.fix [.i ((h.getD i default).proc),.i ((h.getD i default).obj),.i ((h.getD i default).kind),.i ((h.getD i default).arg),.i ((h.getD i default).ret),.i ((h.getD i default).frm),.i ((h.getD i default).to)]⟩)] [4,999] 355151864 [0≤((i:Nat):Int),((i:Nat):Int)<(h.length:Int)] ⟨om,om⟩ ?_
    refine W.seq ?_
    refine kE tab52 hnt [(0,.sl (.calls h)),(3,.i ((i:Nat):Int)),(4,.ptr 4 0),(10,.sl (.calls h)),(11,(v520 h)),(12,.i ((i:Nat):Int)),(19,.b (!(isCall (h.getD i default))))] 120116 [] tt ?_
    refine ifb (!(isCall (h.getD i default))) ?_ ?_
    ·intro h19
     refine kE tab52 hnt [(2,.b false)] 2 [] tt ?_
     refine W.ret (thenQ_ret (blockQ_ret (thenQ_ret (thenQ_ret (blockQ_ret (thenQ_ret ?_))))))
     exact eB (show false=(validHistory h) from (by unfold validHistory; symm; exact and_fr (allN_false (i := i) (by omega) (and_fl (not_f h19)))))
    ·intro n19
     refine W.skip (thenQ_normal ?_)
     refine kE tab52 hnt [(0,.sl (.calls h)),(4,.ptr 4 0),(10,.sl (.calls h)),(11,(v520 h)),(12,.i ((i:Nat):Int)),(22,(v521 i h)),(23,(v522 i h)),(24,.i (0:Int))] 884185085 [0≤(0:Int),(0:Int)≤((i:Nat):Int),((i:Nat):Int)≤(h.length:Int)] ⟨om,om,om⟩ ?_
     refine W.block ?_
     refine W.loop (ι := Nat) (fun (k:Nat)=>(⟨[(0,.sl (.calls h)),(4,.ptr 4 0),(10,.sl (.calls h)),(11,(v520 h)),(12,.i ((i:Nat):Int)),(22,(v521 i h)),(23,(v522 i h)),(24,.i ((k:Nat):Int))],[(4,⟨59,.fix [.i ((h.getD i default).proc),.i ((h.getD i default).obj),.i ((h.getD i default).kind),.i ((h.getD i default).arg),.i ((h.getD i default).ret),.i ((h.getD i default).frm),.i ((h.getD i default).to)]⟩)],[4,999]⟩:St))
      (fun (k:Nat)=>(k≤i)∧(∀ j,j<k→(!clash (callAt h i) (callAt h j))=true))
      (fun (k:Nat)=>(i - k:Nat)) (0) ?_ ?_ ?_
     ·exact ⟨oi,(by exact upto_zero)⟩
     ·exact Sk
     ·rintro k hC0
      obtain ⟨hk,hB⟩ := hC0
      refine kE tab52 hnt [(0,.sl (.calls h)),(4,.ptr 4 0),(10,.sl (.calls h)),(11,(v520 h)),(12,.i ((i:Nat):Int)),(22,(v521 i h)),(23,(v522 i h)),(24,.i ((k:Nat):Int)),(25,.b (decide (((k:Nat):Int)<(((List.length (List.take i h)):Nat):Int))))] 62 [] tt ?_
      refine W.seq ?_
      refine ifp (((k:Nat):Int)<(((List.length (List.take i h)):Nat):Int)) ?_ ?_
      ·intro h25
       have h25' := h25
       simp only [ln] at h25'
       refine W.skip (thenQ_normal ?_)
       refine W.seq ?_
       refine W.block ?_
       refine kS tab52 hnt [(0,.sl (.calls h)),(4,.ptr 4 0),(6,.ptr 6 0),(10,.sl (.calls h)),(11,(v520 h)),(12,.i ((i:Nat):Int)),(22,(v521 i h)),(23,(v522 i h)),(24,.i ((k:Nat):Int))] [(4,⟨59,.fix [.i ((h.getD i default).proc),.i ((h.getD i default).obj),.i ((h.getD i default).kind),.i ((h.getD i default).arg),.i ((h.getD i default).ret),.i ((h.getD i default).frm),.i ((h.getD i default).to)]⟩),(6,⟨59,.fix [.i ((List.getD (List.take i h) k default).proc),.i ((List.getD (List.take i h) k default).obj),.i ((List.getD (List.take i h) k default).kind),.i ((List.getD (List.take i h) k default).arg),.i ((List.getD (List.take i h) k default).ret),.i ((List.getD (List.take i h) k default).frm),.i ((List.getD (List.take i h) k default).to)]⟩)] [6,4,999] 4386212 [0≤((k:Nat):Int),((k:Nat):Int)<(((List.length (List.take i h)):Nat):Int)] ⟨om,ow⟩ ?_
       refine kE tab52 hnt [(0,.sl (.calls h)),(4,.ptr 4 0),(10,.sl (.calls h)),(11,(v520 h)),(12,.i ((i:Nat):Int)),(22,(v521 i h)),(23,(v522 i h)),(24,.i ((k:Nat):Int)),(65,.b (((((decide (((h.getD i default).frm)=((List.getD (List.take i h) k default).frm))) || (decide (((h.getD i default).frm)=((List.getD (List.take i h) k default).to)))) || (decide (((h.getD i default).to)=((List.getD (List.take i h) k default).frm)))) || (decide (((h.getD i default).to)=((List.getD (List.take i h) k default).to)))) || ((decide (((h.getD i default).proc)=((List.getD (List.take i h) k default).proc))) && (doOverlap (h.getD i default) (List.getD (List.take i h) k default)))))] 3374448914511051106580419917545474797404792515 ((fun (Z1:Bool)=>((fun (Z2:Bool)=>((fun (Z3:Bool)=>((fun (Z4:Bool)=>((fun (Z5:Bool)=>((fun (Z6:Bool)=>([(!Z1)=true→Y,(!Z1)=true→(((!Z1)=true)∧Y),(!Z1)=true→Y,(!Z1)=true→(((!Z1)=true)∧Y),(!Z1)=true→((((!Z1)=true)∧Y)∧((((!Z1)=true)∧Y)∧Y)),Z1=true→Y,Z1=false→((!Z1)=true)∧Y,(!Z3)=true→Y,(!Z3)=true→(((!Z3)=true)∧Y),(!Z3)=true→Y,(!Z3)=true→(((!Z3)=true)∧Y),(!Z3)=true→((((!Z3)=true)∧Y)∧((((!Z3)=true)∧Y)∧Y)),Z3=true→Y,Z3=false→((!Z3)=true)∧Y,(!Z4)=true→Y,(!Z4)=true→(((!Z4)=true)∧Y),(!Z4)=true→Y,(!Z4)=true→(((!Z4)=true)∧Y),(!Z4)=true→((((!Z4)=true)∧Y)∧((((!Z4)=true)∧Y)∧Y)),Z4=true→Y,Z4=false→((!Z4)=true)∧Y,(!Z5)=true→Y,(!Z5)=true→(((!Z5)=true)∧Y),(!Z5)=true→Y,(!Z5)=true→(((!Z5)=true)∧Y),(!Z5)=true→((((!Z5)=true)∧Y)∧((((!Z5)=true)∧Y)∧Y)),(!Z5)=true→Y,Z6=true→Y,Z6=true→Y,Z6=true→(Y∧((((Z6=true)∧Y)∧(((Z6=true)∧Y)∧Y))∧Y)),(!Z5)=true→((((!Z5)=true)∧(((!Z5)=true)∧Y))∧((Z2=true→(Z6=true)∧Y)∧(Z2=false→Y))),Z5=true→Y,Z5=false→((!Z5)=true)∧Y]:PL)) ((!Z5) && ((!Z5) && Z2)))) (Z4 || (decide (((h.getD i default).to)=((List.getD (List.take i h) k default).to)))))) (Z3 || (decide (((h.getD i default).to)=((List.getD (List.take i h) k default).frm)))))) (Z1 || (decide (((h.getD i default).frm)=((List.getD (List.take i h) k default).to)))))) (decide (((h.getD i default).proc)=((List.getD (List.take i h) k default).proc))))) (decide (((h.getD i default).frm)=((List.getD (List.take i h) k default).frm)))) ⟨(fun _=>trivial),(fun hG=>⟨hG,tt⟩),(fun _=>trivial),(fun hG=>⟨hG,tt⟩),(fun hG=>⟨⟨hG,tt⟩,⟨hG,tt⟩,tt⟩),(fun _=>trivial),(fun hp=>⟨(not_t hp),tt⟩),(fun _=>trivial),(fun hG=>⟨hG,tt⟩),(fun _=>trivial),(fun hG=>⟨hG,tt⟩),(fun hG=>⟨⟨hG,tt⟩,⟨hG,tt⟩,tt⟩),(fun _=>trivial),(fun hp=>⟨(not_t hp),tt⟩),(fun _=>trivial),(fun hG=>⟨hG,tt⟩),(fun _=>trivial),(fun hG=>⟨hG,tt⟩),(fun hG=>⟨⟨hG,tt⟩,⟨hG,tt⟩,tt⟩),(fun _=>trivial),(fun hp=>⟨(not_t hp),tt⟩),(fun _=>trivial),(fun hG=>⟨hG,tt⟩),(fun _=>trivial),(fun hG=>⟨hG,tt⟩),(fun hG=>⟨⟨hG,tt⟩,⟨hG,tt⟩,tt⟩),(fun _=>trivial),(fun _=>trivial),(fun _=>trivial),(fun hG=>⟨tt,⟨⟨hG,tt⟩,⟨hG,tt⟩,tt⟩,tt⟩),(fun hG=>⟨⟨hG,hG,tt⟩,(fun hp=>⟨(and_t hG (and_t hG hp)),tt⟩),(fun _=>trivial)⟩),(fun _=>trivial),(fun hp=>⟨(not_t hp),tt⟩)⟩ ?_
       refine ifb (((((decide (((h.getD i default).frm)=((List.getD (List.take i h) k default).frm))) || (decide (((h.getD i default).frm)=((List.getD (List.take i h) k default).to)))) || (decide (((h.getD i default).to)=((List.getD (List.take i h) k default).frm)))) || (decide (((h.getD i default).to)=((List.getD (List.take i h) k default).to)))) || ((decide (((h.getD i default).proc)=((List.getD (List.take i h) k default).proc))) && (doOverlap (h.getD i default) (List.getD (List.take i h) k default)))) ?_ ?_
       ·intro h65
        refine kE tab52 hnt [(2,.b false)] 2 [] tt ?_
        refine W.ret (blockQ_ret (thenQ_ret (thenQ_ret (blockQ_ret (blockQ_ret (thenQ_ret (thenQ_ret (blockQ_ret (thenQ_ret ?_)))))))))
        exact eB (show false=(validHistory h) from (by unfold validHistory; symm; exact and_fr (allN_false (i := i) (by omega) (and_fr (allN_false (i := k) (by omega) (not_h (by rw [← h65,getD_take h (default:CallD) (show k<i by omega)]; rfl)))))))
       ·intro n65
        have n65_0 : ¬ (((h.getD i default).frm)=((List.getD (List.take i h) k default).frm)) := of_decide_eq_false (or_l (or_l (or_l (or_l n65))))
        have n65_1 : ¬ (((h.getD i default).frm)=((List.getD (List.take i h) k default).to)) := of_decide_eq_false (or_r (or_l (or_l (or_l n65))))
        have n65_2 : ¬ (((h.getD i default).to)=((List.getD (List.take i h) k default).frm)) := of_decide_eq_false (or_r (or_l (or_l n65)))
        have n65_3 : ¬ (((h.getD i default).to)=((List.getD (List.take i h) k default).to)) := of_decide_eq_false (or_r (or_l n65))
        refine W.skip (blockQ_normal (thenQ_normal ?_))
        refine lE tab52 hnt [(0,.sl (.calls h)),(4,.ptr 4 0),(10,.sl (.calls h)),(11,(v520 h)),(12,.i ((i:Nat):Int)),(22,(v521 i h)),(23,(v522 i h)),(24,.i (((k+1):Nat):Int))] 1763 [Fits .i64 (((k+1):Nat):Int)] fi ?_
        refine thenQ_normal ?_
        refine ⟨((k+1)),⟨oi,(by exact upto_succ hB (not_t (by rw [← n65,getD_take h (default:CallD) (show k<i by omega)]; rfl)))⟩,(show i - (k+1)<i - k from o2),?_⟩
        exact Sk
      ·intro n25
       have n25' := n25
       simp only [ln] at n25'
       refine W.exit (thenQ_exit (thenQ_exit (blockQ_hit ?_)))
       refine blockQ_normal (thenQ_normal ?_)
       refine lE tab52 hnt [(0,.sl (.calls h)),(10,.sl (.calls h)),(11,(v520 h)),(12,.i (((i+1):Nat):Int))] 1763 [Fits .i64 (((i+1):Nat):Int)] fi ?_
       refine thenQ_normal ?_
       refine ⟨((i+1)),⟨oi,(by exact upto_succ hA (and_t (not_g n19) (allN_true (fun j hj=>hB j (by omega)))))⟩,(show h.length - (i+1)<h.length - i from o2),?_⟩
       exact Sk
   ·intro n13
    refine W.exit (thenQ_exit (thenQ_exit (blockQ_hit ?_)))
    refine thenQ_normal ?_
    refine kE tab52 hnt [(2,.b true)] 2 [] tt ?_
    refine W.ret ?_
    exact eB (show true=(validHistory h) from (by unfold validHistory; symm; exact and_t (decide_eq_true (by omega)) (allN_true (fun j hj=>hA j (by omega)))))
theorem ent52 : Entr prog 52 := ⟨_,func52,rfl,by decide⟩
end Go.Proofs.Tryz

set_option linter.unusedSimpArgs false
set_option linter.unusedVariables false
namespace Go.Proofs.Tryz
open Go.Ab Go.RowKit Go.Shelf Go.Proofs Go.Lib
def fs36 : FnS := fnS [.o] [.int] (fun _ (n,_)=>(.v (.string (numB n)),[],(-9223372036854775808≤n)∧(n≤9223372036854775807)))
def renI : Go.Shelf.Ren := ⟨fun k=>bif Nat.beq k 129 then 123 else bif Nat.beq k 171 then 36 else bif Nat.beq k 243 then 58 else bif Nat.beq k 246 then 84 else bif Nat.beq k 283 then 103 else bif Nat.beq k 284 then 104 else bif Nat.beq k 285 then 105 else bif Nat.beq k 286 then 106 else bif Nat.beq k 317 then 122 else bif Nat.beq k 318 then 124 else bif Nat.beq k 319 then 125 else bif Nat.beq k 320 then 126 else bif Nat.beq k 337 then 135 else bif Nat.beq k 338 then 136 else k,fun k=>bif Nat.beq k 0 then 0 else bif Nat.beq k 2 then 2 else bif Nat.beq k 3 then 3 else bif Nat.beq k 4 then 4 else bif Nat.beq k 5 then 5 else bif Nat.beq k 9 then 9 else bif Nat.beq k 20 then 20 else bif Nat.beq k 37 then 28 else bif Nat.beq k 46 then 89 else bif Nat.beq k 51 then 121 else bif Nat.beq k 53 then 106 else bif Nat.beq k 171 then 105 else bif Nat.beq k 173 then 109 else bif Nat.beq k 212 then 120 else bif Nat.beq k 213 then 122 else bif Nat.beq k 232 then 146 else bif Nat.beq k 233 then 147 else k,fun k=>bif Nat.beq k 17 then 1 else bif Nat.beq k 18 then 6 else bif Nat.beq k 19 then 7 else k⟩
set_option maxRecDepth 100000 in
theorem laysI : Go.Proofs.LaysM.n171 prog renI where
 mixed := by kernel_rfl
 f129 := by kernel_rfl
 f171 := by kernel_rfl
 f243 := by kernel_rfl
 f246 := by kernel_rfl
 f283 := by kernel_rfl
 f284 := by kernel_rfl
 f285 := by kernel_rfl
 f286 := by kernel_rfl
 f317 := by kernel_rfl
 f318 := by kernel_rfl
 f319 := by kernel_rfl
 f320 := by kernel_rfl
 f337 := by kernel_rfl
 f338 := by kernel_rfl
 t0 := underlying0
 a0 := isAgg0
 z0 := sizeOf0
 v0 := zeroValue0
 t2 := underlying2
 a2 := isAgg2
 z2 := sizeOf2
 v2 := zeroValue2
 t3 := underlying3
 a3 := isAgg3
 z3 := sizeOf3
 v3 := zeroValue3
 t4 := underlying4
 a4 := isAgg4
 z4 := sizeOf4
 v4 := zeroValue4
 t5 := underlying5
 a5 := isAgg5
 z5 := sizeOf5
 v5 := zeroValue5
 t9 := underlying9
 a9 := isAgg9
 z9 := sizeOf9
 v9 := zeroValue9
 t20 := underlying20
 a20 := isAgg20
 z20 := sizeOf20
 v20 := zeroValue20
 t37 := underlying28
 a37 := isAgg28
 z37 := sizeOf28
 v37 := zeroValue28
 t46 := underlying89
 a46 := isAgg89
 z46 := sizeOf89
 v46 := zeroValue89
 t51 := underlying121
 a51 := isAgg121
 z51 := sizeOf121
 v51 := zeroValue121
 t53 := underlying106
 a53 := isAgg106
 z53 := sizeOf106
 v53 := zeroValue106
 t171 := underlying105
 a171 := isAgg105
 z171 := sizeOf105
 v171 := zeroValue105
 t173 := underlying109
 a173 := isAgg109
 z173 := sizeOf109
 v173 := zeroValue109
 t212 := underlying120
 a212 := isAgg120
 z212 := sizeOf120
 v212 := zeroValue120
 t213 := underlying122
 a213 := isAgg122
 z213 := sizeOf122
 t232 := underlying146
 a232 := isAgg146
 z232 := sizeOf146
 v232 := zeroValue146
 t233 := underlying147
 a233 := isAgg147
 z233 := sizeOf147
 v233 := zeroValue147
 g17 := by kernel_rfl
 g18 := by kernel_rfl
 g19 := by kernel_rfl
 i0 := by kernel_rfl
 i2 := by kernel_rfl
 i3 := by kernel_rfl
 i4 := by kernel_rfl
 i5 := by kernel_rfl
 i9 := by kernel_rfl
 i20 := by kernel_rfl
 i37 := by kernel_rfl
 i46 := by kernel_rfl
 i51 := by kernel_rfl
 i53 := by kernel_rfl
 i171 := by kernel_rfl
 i173 := by kernel_rfl
 i212 := by kernel_rfl
 i232 := by kernel_rfl
 i233 := by kernel_rfl
 m17 := by kernel_rfl
 m18 := by kernel_rfl
 m19 := by kernel_rfl
theorem ok36 : FnOK prog 36 fs36 := itoa_ok laysI (by kernel_rfl)
theorem ent36 : Entr prog 36 := ⟨_,func36,rfl,by decide⟩
end Go.Proofs.Tryz

set_option linter.unusedSimpArgs false
set_option linter.unusedVariables false
namespace Go.Proofs.Tryz
open Go.Ab Go.RowKit
def fs76 : FnS := fnS [.o] [.call] (fun _ (c,_)=>(.v (.string (callTextB c)),[],(isCall c=true)))
abbrev T76 : Tab := lk [(36,fs36)]
theorem tab76 : TabOK prog T76 := (TabOK.cons ok36 ent36 TabOK.nil)
theorem ok76 : FnOK prog 76 fs76 := by
 refine FnOK.mk cok func76 rfl rfl rfl ?_
 rintro fl ⟨(c:CallD),_⟩ hpre F hnt0 _
 have hnt : F.nt=39 := hnt0.trans ntmps76
 replace hpre : (isCall c=true) := hpre
 have hc := hpre
 refine W.to (⟨[(0,.agg [.i c.proc,.i c.obj,.i c.kind,.i c.arg,.i c.ret,.i c.frm,.i c.to])],[],[999]⟩) rfl ?_
 have hf := call_facts hc
 have s0 := numB_size c.proc
 have s1 := numB_size c.arg
 have s2 := numB_size c.ret
 have s3 := numB_size c.frm
 have s4 := numB_size c.to
 refine kS tab76 hnt [(1,.ptr 1 0)] [(1,⟨59,.fix [.i c.proc,.i c.obj,.i c.kind,.i c.arg,.i c.ret,.i c.frm,.i c.to]⟩)] [1,999] 20 [] tt ?_
 refine kA tab76 hnt [(2,.v (.string ((((((((((numB c.proc)++((⟨#[120,121]⟩:ByteArray).extract (Int.toNat c.obj) (Int.toNat (c.obj+(1:Int)))))++((⟨#[112,116,108]⟩:ByteArray).extract (Int.toNat c.kind) (Int.toNat (c.kind+(1:Int)))))++(numB c.arg))++(⟨#[61]⟩:ByteArray))++(numB c.ret))++(⟨#[64]⟩:ByteArray))++(numB c.frm))++(⟨#[45]⟩:ByteArray))++(numB c.to))))] [(1,⟨59,.fix [.i c.proc,.i c.obj,.i c.kind,.i c.arg,.i c.ret,.i c.frm,.i c.to]⟩)] [1,999] 2275067372375854328709469253492695068031246264123601524599372513101673040062287115149 [-9223372036854775808≤c.proc,c.proc≤9223372036854775807,Fits .i64 (c.obj+(1:Int)),0≤c.obj,c.obj≤(c.obj+(1:Int)),(c.obj+(1:Int))≤((((⟨#[120,121]⟩:ByteArray).size):Nat):Int),(numB c.proc).size+((⟨#[120,121]⟩:ByteArray).extract (Int.toNat c.obj) (Int.toNat (c.obj+(1:Int)))).size≤9223372036854775807,Fits .i64 (c.kind+(1:Int)),0≤c.kind,c.kind≤(c.kind+(1:Int)),(c.kind+(1:Int))≤((((⟨#[112,116,108]⟩:ByteArray).size):Nat):Int),((numB c.proc)++((⟨#[120,121]⟩:ByteArray).extract (Int.toNat c.obj) (Int.toNat (c.obj+(1:Int))))).size+((⟨#[112,116,108]⟩:ByteArray).extract (Int.toNat c.kind) (Int.toNat (c.kind+(1:Int)))).size≤9223372036854775807,-9223372036854775808≤c.arg,c.arg≤9223372036854775807,(((numB c.proc)++((⟨#[120,121]⟩:ByteArray).extract (Int.toNat c.obj) (Int.toNat (c.obj+(1:Int)))))++((⟨#[112,116,108]⟩:ByteArray).extract (Int.toNat c.kind) (Int.toNat (c.kind+(1:Int))))).size+(numB c.arg).size≤9223372036854775807,((((numB c.proc)++((⟨#[120,121]⟩:ByteArray).extract (Int.toNat c.obj) (Int.toNat (c.obj+(1:Int)))))++((⟨#[112,116,108]⟩:ByteArray).extract (Int.toNat c.kind) (Int.toNat (c.kind+(1:Int)))))++(numB c.arg)).size+(⟨#[61]⟩:ByteArray).size≤9223372036854775807,-9223372036854775808≤c.ret,c.ret≤9223372036854775807,(((((numB c.proc)++((⟨#[120,121]⟩:ByteArray).extract (Int.toNat c.obj) (Int.toNat (c.obj+(1:Int)))))++((⟨#[112,116,108]⟩:ByteArray).extract (Int.toNat c.kind) (Int.toNat (c.kind+(1:Int)))))++(numB c.arg))++(⟨#[61]⟩:ByteArray)).size+(numB c.ret).size≤9223372036854775807,((((((numB c.proc)++((⟨#[120,121]⟩:ByteArray).extract (Int.toNat c.obj) (Int.toNat (c.obj+(1:Int)))))++((⟨#[112,116,108]⟩:ByteArray).extract (Int.toNat c.kind) (Int.toNat (c.kind+(1:Int)))))++(numB c.arg))++(⟨#[61]⟩:ByteArray))++(numB c.ret)).size+(⟨#[64]⟩:ByteArray).size≤9223372036854775807,-9223372036854775808≤c.frm,c.frm≤9223372036854775807,(((((((numB c.proc)++((⟨#[120,121]⟩:ByteArray).extract (Int.toNat c.obj) (Int.toNat (c.obj+(1:Int)))))++((⟨#[112,116,108]⟩:ByteArray).extract (Int.toNat c.kind) (Int.toNat (c.kind+(1:Int)))))++(numB c.arg))++(⟨#[61]⟩:ByteArray))++(numB c.ret))++(⟨#[64]⟩:ByteArray)).size+(numB c.frm).size≤9223372036854775807,((((((((numB c.proc)++((⟨#[120,121]⟩:ByteArray).extract (Int.toNat c.obj) (Int.toNat (c.obj+(1:Int)))))++((⟨#[112,116,108]⟩:ByteArray).extract (Int.toNat c.kind) (Int.toNat (c.kind+(1:Int)))))++(numB c.arg))++(⟨#[61]⟩:ByteArray))++(numB c.ret))++(⟨#[64]⟩:ByteArray))++(numB c.frm)).size+(⟨#[45]⟩:ByteArray).size≤9223372036854775807,-9223372036854775808≤c.to,c.to≤9223372036854775807,(((((((((numB c.proc)++((⟨#[120,121]⟩:ByteArray).extract (Int.toNat c.obj) (Int.toNat (c.obj+(1:Int)))))++((⟨#[112,116,108]⟩:ByteArray).extract (Int.toNat c.kind) (Int.toNat (c.kind+(1:Int)))))++(numB c.arg))++(⟨#[61]⟩:ByteArray))++(numB c.ret))++(⟨#[64]⟩:ByteArray))++(numB c.frm))++(⟨#[45]⟩:ByteArray)).size+(numB c.to).size≤9223372036854775807] ⟨om,om,fi,om,om,(by (try simp only [ByteArray.size_append,ByteArray.size_extract,sz1,sz2,sz3,sz10]); omega),(by (try simp only [ByteArray.size_append,ByteArray.size_extract,sz1,sz2,sz3,sz10]); omega),fi,om,om,(by (try simp only [ByteArray.size_append,ByteArray.size_extract,sz1,sz2,sz3,sz10]); omega),(by (try simp only [ByteArray.size_append,ByteArray.size_extract,sz1,sz2,sz3,sz10]); omega),om,om,(by (try simp only [ByteArray.size_append,ByteArray.size_extract,sz1,sz2,sz3,sz10]); omega),(by (try simp only [ByteArray.size_append,ByteArray.size_extract,sz1,sz2,sz3,sz10]); omega),om,om,(by (try simp only [ByteArray.size_append,ByteArray.size_extract,sz1,sz2,sz3,sz10]); omega),(by (try simp only [ByteArray.size_append,ByteArray.size_extract,sz1,sz2,sz3,sz10]); omega),om,om,(by (try simp only [ByteArray.size_append,ByteArray.size_extract,sz1,sz2,sz3,sz10]); omega),(by (try simp only [ByteArray.size_append,ByteArray.size_extract,sz1,sz2,sz3,sz10]); omega),om,om,(by (try simp only [ByteArray.size_append,ByteArray.size_extract,sz1,sz2,sz3,sz10]); omega)⟩ ?_
 refine W.ret ?_
 exact eT (show ((((((((((numB c.proc)++((⟨#[120,121]⟩:ByteArray).extract (Int.toNat c.obj) (Int.toNat (c.obj+(1:Int)))))++((⟨#[112,116,108]⟩:ByteArray).extract (Int.toNat c.kind) (Int.toNat (c.kind+(1:Int)))))++(numB c.arg))++(⟨#[61]⟩:ByteArray))++(numB c.ret))++(⟨#[64]⟩:ByteArray))++(numB c.frm))++(⟨#[45]⟩:ByteArray))++(numB c.to))=(callTextB c) from (by exact text_val hc))
theorem ent76 : Entr prog 76 := ⟨_,func76,rfl,by decide⟩
end Go.Proofs.Tryz

set_option linter.unusedSimpArgs false
set_option linter.unusedVariables false
namespace Go.Proofs.Tryz
open Go.Ab Go.RowKit Go.Shelf Go.Proofs Go.Lib
def fs77 : FnS := fnS [.s .strs,.o] [.strs,.str] (fun _ (xs,sep,_)=>(.v (.string (joinB xs sep)),[],(List.length xs≤1000)∧((joinB xs sep).size≤1000000)))
def renJ : Go.Shelf.Ren := ⟨fun k=>bif Nat.beq k 156 then 77 else bif Nat.beq k 165 then 98 else bif Nat.beq k 166 then 99 else bif Nat.beq k 169 then 100 else bif Nat.beq k 240 then 117 else bif Nat.beq k 241 then 118 else bif Nat.beq k 276 then 131 else bif Nat.beq k 277 then 132 else k,fun k=>bif Nat.beq k 0 then 0 else bif Nat.beq k 3 then 3 else bif Nat.beq k 4 then 4 else bif Nat.beq k 5 then 5 else bif Nat.beq k 9 then 9 else bif Nat.beq k 20 then 20 else bif Nat.beq k 31 then 22 else bif Nat.beq k 37 then 28 else bif Nat.beq k 70 then 98 else bif Nat.beq k 72 then 100 else bif Nat.beq k 75 then 81 else bif Nat.beq k 76 then 82 else bif Nat.beq k 80 then 102 else bif Nat.beq k 127 then 117 else bif Nat.beq k 164 then 136 else k,fun k=>k⟩
set_option maxRecDepth 100000 in
theorem laysJ : Go.Proofs.Lays.n156 prog renJ where
 mixed := by kernel_rfl
 f156 := by kernel_rfl
 f165 := by kernel_rfl
 f166 := by kernel_rfl
 f169 := by kernel_rfl
 f240 := by kernel_rfl
 f241 := by kernel_rfl
 f276 := by kernel_rfl
 f277 := by kernel_rfl
 t0 := underlying0
 a0 := isAgg0
 z0 := sizeOf0
 v0 := zeroValue0
 t3 := underlying3
 a3 := isAgg3
 z3 := sizeOf3
 v3 := zeroValue3
 t4 := underlying4
 a4 := isAgg4
 z4 := sizeOf4
 v4 := zeroValue4
 t9 := underlying9
 a9 := isAgg9
 z9 := sizeOf9
 v9 := zeroValue9
 t20 := underlying20
 a20 := isAgg20
 z20 := sizeOf20
 v20 := zeroValue20
 t31 := underlying22
 a31 := isAgg22
 z31 := sizeOf22
 v31 := zeroValue22
 t37 := underlying28
 a37 := isAgg28
 z37 := sizeOf28
 v37 := zeroValue28
 t70 := underlying98
 a70 := isAgg98
 z70 := sizeOf98
 v70 := zeroValue98
 t72 := underlying100
 a72 := isAgg100
 z72 := sizeOf100
 v72 := zeroValue100
 t75 := underlying81
 a75 := isAgg81
 z75 := sizeOf81
 v75 := zeroValue81
 t76 := underlying82
 a76 := isAgg82
 z76 := sizeOf82
 v76 := zeroValue82
 t127 := underlying117
 a127 := isAgg117
 z127 := sizeOf117
 v127 := zeroValue117
 t164 := underlying136
 a164 := isAgg136
 z164 := sizeOf136
 v164 := zeroValue136
set_option maxRecDepth 100000 in
theorem extraJ : Go.Proofs.Builder.Extra prog renJ where
 sizeBuilder := by kernel_rfl
 liesBuilder := by kernel_rfl
 t5 := underlying5
 a5 := isAgg5
 z5 := sizeOf5
 v5 := zeroValue5
 infoByte := by kernel_rfl
 cellsByte := by kernel_rfl
 sizeByte := by kernel_rfl
 neB5 := by decide
theorem ok77 : FnOK prog 77 fs77 := join_ok laysJ extraJ
theorem ent77 : Entr prog 77 := ⟨_,func77,rfl,by decide⟩
end Go.Proofs.Tryz

set_option linter.unusedSimpArgs false
set_option linter.unusedVariables false
namespace Go.Proofs.Tryz
open Go.Ab Go.RowKit
def fs53 : FnS := fnS [.s .calls] [.calls] (fun _ (h,_)=>(.v (.string (histB h)),[],Y))
abbrev T53 : Tab := lk [(52,fs52),(76,fs76),(77,fs77)]
theorem tab53 : TabOK prog T53 := (TabOK.cons ok52 ent52 (TabOK.cons ok76 ent76 (TabOK.cons ok77 ent77 TabOK.nil)))
abbrev v530 (h:List CallD):AV:=.i (h.length:Int)
theorem ok53 : FnOK prog 53 fs53 := by
 refine FnOK.mk cok func53 rfl rfl rfl ?_
 rintro fl ⟨(h : List CallD),_⟩ hpre F hnt0 _
 have hnt : F.nt=24 := hnt0.trans ntmps53
 clear hpre
 refine W.to (⟨[(0,.sl (.calls h))],[],[999]⟩) rfl ?_
 refine W.lenOf 0 (.calls h) (by kernel_rfl) ?_
 intro hl_h; replace hl_h : List.length h≤9223372036854775807 := hl_h
 refine kE tab53 hnt [(0,.sl (.calls h))] 2 [] tt ?_
 refine W.seq ?_
 refine kE tab53 hnt [(0,.sl (.calls h)),(8,.b (!(validHistory h)))] 120116 [] tt ?_
 refine ifb (!(validHistory h)) ?_ ?_
 ·intro h8
  refine kE tab53 hnt [(2,.v (.string nEmpty))] 2 [] tt ?_
  refine W.ret (thenQ_ret ?_)
  exact eT (show nEmpty=(histB h) from (by exact histB_no (not_f h8)))
 ·intro n8
  have hv : validHistory h=true := not_g n8
  have h6 := valid_len hv
  refine W.skip (thenQ_normal ?_)
  refine kS tab53 hnt [(0,.sl (.calls h)),(3,.own 9 (List.length ([] : List ByteArray)))] [(9,⟨9,.row (.strs ([] : List ByteArray))⟩)] [9,999] 20 [] tt ?_ [9]
  refine W.seq ?_
  refine kE tab53 hnt [(3,.own 9 (List.length ([] : List ByteArray))),(10,.sl (.calls h)),(11,(v530 h)),(12,.i (0:Int))] 182 [] tt ?_
  refine W.block ?_
  refine W.loop (ι := Nat × (List ByteArray)) (fun (x : Nat × (List ByteArray))=>match x with | (i,o)=>(⟨[(3,.own 9 o.length),(10,.sl (.calls h)),(11,(v530 h)),(12,.i ((i:Nat):Int))],[(9,⟨9,.row (.strs o)⟩)],[9,999]⟩:St))
   (fun (x : Nat × (List ByteArray))=>match x with | (i,o)=>(i≤h.length)∧(o=textUp h i))
   (fun (x : Nat × (List ByteArray))=>match x with | (i,o)=>(h.length - i:Nat)) (0,([] : List ByteArray)) ?_ ?_ ?_
  ·exact ⟨oi,(by rfl)⟩
  ·exact Sk
  ·rintro ⟨i,o⟩ hC0
   obtain ⟨hi,ho⟩ := hC0
   have hol : o.length=i := by rw [ho]; exact textUp_len hi
   have hjs := join_size ho
   refine kE tab53 hnt [(3,.own 9 o.length),(10,.sl (.calls h)),(11,(v530 h)),(12,.i ((i:Nat):Int)),(13,.b (decide (((i:Nat):Int)<(h.length:Int))))] 62 [] tt ?_
   refine W.seq ?_
   refine ifp (((i:Nat):Int)<(h.length:Int)) ?_ ?_
   ·intro h13
    refine W.skip (thenQ_normal ?_)
    refine W.seq ?_
    refine W.block ?_
    refine kS tab53 hnt [(3,.own 9 o.length),(5,.ptr 5 0),(10,.sl (.calls h)),(11,(v530 h)),(12,.i ((i:Nat):Int))] [(5,⟨59,.fix [.i ((h.getD i default).proc),.i ((h.getD i default).obj),.i ((h.getD i default).kind),.i ((h.getD i default).arg),.i ((h.getD i default).ret),.i ((h.getD i default).frm),.i ((h.getD i default).to)]⟩),(9,⟨9,.row (.strs o)⟩)] [5,9,999] 4386212 [0≤((i:Nat):Int),((i:Nat):Int)<(h.length:Int)] ⟨om,om⟩ ?_
    refine lS tab53 hnt [(3,.own 20 (List.length (o++([callTextB (h.getD i default)])))),(10,.sl (.calls h)),(11,(v530 h)),(12,.i ((i:Nat):Int))] [(5,⟨59,.fix [.i ((h.getD i default).proc),.i ((h.getD i default).obj),.i ((h.getD i default).kind),.i ((h.getD i default).arg),.i ((h.getD i default).ret),.i ((h.getD i default).frm),.i ((h.getD i default).to)]⟩),(20,⟨9,.row (.strs (o++([callTextB (h.getD i default)])))⟩)] [20,19,5,9,999] 684533404181 [isCall (h.getD i default)=true,o.length=o.length,(o.length+(List.length ([callTextB (h.getD i default)]))) * 16≤140737488355328] ⟨(by have h9 := valid_call hv _ (getD_mem h default (show i<h.length by omega)); exact h9),rfl,(by (try simp only [List.length_append,List.length_cons,List.length_nil]); omega)⟩ ?_ [20]
    refine blockQ_normal (thenQ_normal ?_)
    refine lE tab53 hnt [(3,.own 20 (List.length (o++([callTextB (h.getD i default)])))),(10,.sl (.calls h)),(11,(v530 h)),(12,.i (((i+1):Nat):Int))] 1763 [Fits .i64 (((i+1):Nat):Int)] fi ?_
    refine thenQ_normal ?_
    refine ⟨((i+1),(o++([callTextB (h.getD i default)]))),⟨oi,(by exact textUp_next ho (by omega))⟩,(show h.length - (i+1)<h.length - i from o2),?_⟩
    exact Sub.of [(9,20)] (@cast (((((20:Nat)=20)∧((List.length (o++([callTextB (h.getD i default)])))=(List.length (o++([callTextB (h.getD i default)]))))∧((9:Nat) ∈ ([9,999] : List Nat)))∧(Sd (.calls h))∧(Si (h.length:Int))∧(Si (((i+1):Nat):Int))∧Y)∧((((9:Nat)=9)∧(Sd (.strs (o++([callTextB (h.getD i default)]))))∧((9:Nat) ∈ ([9,999] : List Nat)))∧Y)∧(true=true)∧(true=true)) _ (by kernel_rfl) ⟨⟨⟨rfl,rfl,(by decide)⟩,rfl,rfl,rfl,tt⟩,⟨⟨rfl,rfl,(by decide)⟩,tt⟩,rfl,rfl⟩)
   ·intro n13
    refine W.exit (thenQ_exit (thenQ_exit (blockQ_hit ?_)))
    refine thenQ_normal ?_
    refine kE tab53 hnt [(2,.v (.string (joinB o (⟨#[32]⟩:ByteArray))))] 108558137 [o.length=o.length,List.length o≤1000,(joinB o (⟨#[32]⟩:ByteArray)).size≤1000000] ⟨rfl,om,(by omega)⟩ ?_
    refine W.ret ?_
    exact eT (show (joinB o (⟨#[32]⟩:ByteArray))=(histB h) from (by exact join_all hv ho (by omega)))
theorem ent53 : Entr prog 53 := ⟨_,func53,rfl,by decide⟩
end Go.Proofs.Tryz

set_option linter.unusedSimpArgs false
set_option linter.unusedVariables false
namespace Go.Proofs.Tryz
open Go.Ab Go.RowKit
def fs31 : FnS := fnS [.o] [.str] (fun _ (s,_)=>(.tup [.own 0 (List.length ((parseI s.data.toList).1)),.b ((parseI s.data.toList).2)],[(59,.calls ((parseI s.data.toList).1))],(s.size≤1999999)))
abbrev T31 : Tab := lk [(29,fs29),(51,fs51),(52,fs52),(53,fs53)]
theorem tab31 : TabOK prog T31 := (TabOK.cons ok29 ent29 (TabOK.cons ok51 ent51 (TabOK.cons ok52 ent52 (TabOK.cons ok53 ent53 TabOK.nil))))
abbrev v310:AV:=.own 7 (List.length ([] : List CallD))
abbrev v311 (s:ByteArray):AV:=.sl (.strs (splitNB (⟨#[32]⟩:ByteArray) (7:Int) s))
abbrev v312 (s:ByteArray):AV:=.i (((List.length (splitNB (⟨#[32]⟩:ByteArray) (7:Int) s)):Nat):Int)
abbrev v313 (o:List CallD) (s:ByteArray) (i:Nat):AV:=.own 22 (List.length (o++([(readI (List.getD (splitNB (⟨#[32]⟩:ByteArray) (7:Int) s) i default).data.toList)])))
theorem ok31 : FnOK prog 31 fs31 := by
 refine FnOK.mk cok func31 rfl rfl rfl ?_
 rintro fl ⟨(s:ByteArray),_⟩ hpre F hnt0 _
 have hnt : F.nt=34 := hnt0.trans ntmps31
 replace hpre : (s.size≤1999999) := hpre
 have hz := hpre
 refine W.to (⟨[(0,.v (.string s))],[],[999]⟩) rfl ?_
 have hp : ∀ i,(List.getD (splitNB (⟨#[32]⟩:ByteArray) 7 s) i default).size≤s.size := splitN_psz (⟨#[32]⟩:ByteArray) s 7
 have hsl : (((splitNB (⟨#[32]⟩:ByteArray) 7 s).length:Nat):Int)≤7 := splitN_size (by decide)
 refine kE tab31 hnt [(0,.v (.string s))] 20 [] tt ?_
 refine kS tab31 hnt [(0,.v (.string s)),(4,v310)] [(7,⟨59,.row (.calls ([] : List CallD))⟩)] [7,999] 20 [] tt ?_ [7]
 refine W.seq ?_
 refine kE tab31 hnt [(0,.v (.string s)),(4,v310),(9,.b (eqS s nEmpty))] 560 [] tt ?_
 refine ifb (eqS s nEmpty) ?_ ?_
 ·intro h9
  have hE := pi_empty (s := s) h9
  refine kE tab31 hnt [(2,v310),(3,.b true)] 182 [] tt ?_
  refine W.ret (thenQ_ret ?_)
  exact endQ_rows [(0,7)] (.tup [.own 7 (List.length ([] : List CallD)),.b true]) (by kernel_rfl) (@cast ((((7:Nat)=7)∧((List.length ([] : List CallD))=(List.length ((parseI s.data.toList).1)))∧((0:Nat) ∈ ([0] : List Nat)))∧((.bool true:Value)=.bool ((parseI s.data.toList).2))∧Y) _ (by kernel_rfl) ⟨⟨rfl,(by first | rfl | omega | assumption | (symm; assumption) | (exact congrArg List.length (by first | (rw [hE]; done) | (rw [hE]; rfl) | (rw [hE]; exact hol) | rfl)) | (first | (rw [hE]; done) | (rw [hE]; rfl) | (rw [hE]; exact hol) | rfl; done) | simp | simp_all),(by decide)⟩,(congrArg Value.bool (by first | rfl | omega | assumption | (first | (rw [hE]; done) | (rw [hE]; rfl) | (rw [hE]; exact hol) | rfl; done) | simp | simp_all)),tt⟩) (@cast ((((59:Nat)=59)∧((.calls ([] : List CallD):Dat)=.calls ((parseI s.data.toList).1))∧((0:Nat) ∈ ([0] : List Nat)))∧Y) _ (by kernel_rfl) ⟨⟨rfl,(congrArg Dat.calls (by first | (rw [hE]; done) | (rw [hE]; rfl) | (rw [hE]; exact hol) | rfl)),(by decide)⟩,tt⟩) (by kernel_rfl)
 ·intro n9
  refine W.skip (thenQ_normal ?_)
  refine W.seq ?_
  refine kS tab31 hnt [(0,.v (.string s)),(4,v310),(12,(v311 s)),(13,(v312 s)),(14,.i (0:Int))] [(7,⟨59,.row (.calls ([] : List CallD))⟩)] [12,7,999] 71524918154 [(⟨#[32]⟩:ByteArray).size=1,1≤(7:Int)∧(7:Int)≤1000,s.size≤2000000,(List.length (splitNB (⟨#[32]⟩:ByteArray) (7:Int) s))=(List.length (splitNB (⟨#[32]⟩:ByteArray) (7:Int) s))] ⟨(by rfl),om,(by omega),rfl⟩ ?_
  refine W.block ?_
  refine W.loop (ι := Nat × (List CallD)) (fun (x : Nat × (List CallD))=>match x with | (i,o)=>(⟨[(0,.v (.string s)),(4,.own 7 o.length),(12,(v311 s)),(13,(v312 s)),(14,.i ((i:Nat):Int))],[(7,⟨59,.row (.calls o)⟩)],[7,999]⟩:St))
   (fun (x : Nat × (List CallD))=>match x with | (i,o)=>(i≤(splitNB (⟨#[32]⟩:ByteArray) 7 s).length)∧(o=readUpI (splitNB (⟨#[32]⟩:ByteArray) 7 s) i))
   (fun (x : Nat × (List CallD))=>match x with | (i,o)=>((splitNB (⟨#[32]⟩:ByteArray) 7 s).length - i:Nat)) (0,([] : List CallD)) ?_ ?_ ?_
  ·exact ⟨oi,(by rfl)⟩
  ·exact Sk
  ·rintro ⟨i,o⟩ hC0
   obtain ⟨hi,ho⟩ := hC0
   have hol : o.length=i := by rw [ho]; exact readUp_lenI hi
   have hpi := hp i
   refine kE tab31 hnt [(0,.v (.string s)),(4,.own 7 o.length),(12,(v311 s)),(13,(v312 s)),(14,.i ((i:Nat):Int)),(15,.b (decide (((i:Nat):Int)<(((List.length (splitNB (⟨#[32]⟩:ByteArray) (7:Int) s)):Nat):Int))))] 62 [] tt ?_
   refine W.seq ?_
   refine ifp (((i:Nat):Int)<(((List.length (splitNB (⟨#[32]⟩:ByteArray) (7:Int) s)):Nat):Int)) ?_ ?_
   ·intro h15
    refine W.skip (thenQ_normal ?_)
    refine W.seq ?_
    refine W.block ?_
    refine kE tab31 hnt [(0,.v (.string s)),(4,.own 7 o.length),(6,.v (.string (List.getD (splitNB (⟨#[32]⟩:ByteArray) (7:Int) s) i default))),(12,(v311 s)),(13,(v312 s)),(14,.i ((i:Nat):Int))] 134684 [0≤((i:Nat):Int),((i:Nat):Int)<(((List.length (splitNB (⟨#[32]⟩:ByteArray) (7:Int) s)):Nat):Int)] ⟨om,ow⟩ ?_
    refine lS tab31 hnt [(0,.v (.string s)),(4,(v313 o s i)),(12,(v311 s)),(13,(v312 s)),(14,.i ((i:Nat):Int))] [(22,⟨59,.row (.calls (o++([(readI (List.getD (splitNB (⟨#[32]⟩:ByteArray) (7:Int) s) i default).data.toList)])))⟩)] [22,21,7,999] 684533404181 [(List.getD (splitNB (⟨#[32]⟩:ByteArray) (7:Int) s) i default).size≤2000000,o.length=o.length,(o.length+(List.length ([(readI (List.getD (splitNB (⟨#[32]⟩:ByteArray) (7:Int) s) i default).data.toList)]))) * 56≤140737488355328] ⟨(by omega),rfl,(by (try simp only [List.length_append,List.length_cons,List.length_nil,List.length_set]); omega)⟩ ?_ [22]
    refine blockQ_normal (thenQ_normal ?_)
    refine lE tab31 hnt [(0,.v (.string s)),(4,(v313 o s i)),(12,(v311 s)),(13,(v312 s)),(14,.i (((i+1):Nat):Int))] 1763 [Fits .i64 (((i+1):Nat):Int)] (by exact fits_i64 (by omega) (by omega)) ?_
    refine thenQ_normal ?_
    refine ⟨((i+1),(o++([(readI (List.getD (splitNB (⟨#[32]⟩:ByteArray) (7:Int) s) i default).data.toList)]))),⟨oi,(by exact readUpI_next ho (by omega))⟩,(show (splitNB (⟨#[32]⟩:ByteArray) 7 s).length - (i+1)<(splitNB (⟨#[32]⟩:ByteArray) 7 s).length - i from o2),?_⟩
    exact Sub.of [(7,22)] (@cast (((((.string s):Value)=(.string s))∧(((22:Nat)=22)∧((List.length (o++([(readI (List.getD (splitNB (⟨#[32]⟩:ByteArray) (7:Int) s) i default).data.toList)])))=(List.length (o++([(readI (List.getD (splitNB (⟨#[32]⟩:ByteArray) (7:Int) s) i default).data.toList)]))))∧((7:Nat) ∈ ([7,999] : List Nat)))∧(Sd (.strs (splitNB (⟨#[32]⟩:ByteArray) (7:Int) s)))∧(Si (((List.length (splitNB (⟨#[32]⟩:ByteArray) (7:Int) s)):Nat):Int))∧(Si (((i+1):Nat):Int))∧Y)∧((((59:Nat)=59)∧(Sd (.calls (o++([(readI (List.getD (splitNB (⟨#[32]⟩:ByteArray) (7:Int) s) i default).data.toList)]))))∧((7:Nat) ∈ ([7,999] : List Nat)))∧Y)∧(true=true)∧(true=true)) _ (by kernel_rfl) ⟨⟨rfl,⟨rfl,rfl,(by decide)⟩,rfl,rfl,rfl,tt⟩,⟨⟨rfl,rfl,(by decide)⟩,tt⟩,rfl,rfl⟩)
   ·intro n15
    have hO := readUpI_all (s := s) (sep := (⟨#[32]⟩:ByteArray)) rfl ho (by omega)
    refine W.exit (thenQ_exit (thenQ_exit (blockQ_hit ?_)))
    refine thenQ_normal ?_
    refine W.seq ?_
    refine kE tab31 hnt [(4,.own 7 o.length),(32,.b ((!(validHistory o)) || (!(eqS (histB o) s))))] 109194303292661 ((fun (Z1:Bool)=>([o.length=o.length,(!Z1)=true→Y,(!Z1)=true→(Y∧((((((!Z1)=true)∧Y)∧(o.length=o.length))∧Y)∧Y)),(!Z1)=true→Y,(!Z1)=true→((((!Z1)=true)∧Y)∧((((!Z1)=true)∧Y)∧Y)),Z1=true→Y,Z1=false→((!Z1)=true)∧Y]:PL)) (!(validHistory o))) ⟨rfl,(fun _=>trivial),(fun hG=>⟨tt,⟨⟨⟨hG,tt⟩,rfl⟩,tt⟩,tt⟩),(fun _=>trivial),(fun hG=>⟨⟨hG,tt⟩,⟨hG,tt⟩,tt⟩),(fun _=>trivial),(fun hp=>⟨(not_t hp),tt⟩)⟩ ?_
    refine ifb ((!(validHistory o)) || (!(eqS (histB o) s))) ?_ ?_
    ·intro h32
     have hE := pi_rest (s := s) (fun e=>Bool.false_ne_true (n9.symm.trans e)) hO h32
     rw [cond_true] at hE
     refine kE tab31 hnt [(2,.v (.slice none 0 0)),(3,.b false)] 20 [] tt ?_
     refine W.nilOwn 2 813 none 59 (.calls ([] : List CallD)) (.v (.slice none 0 0)) (.own 813 0) (⟨[(2,.own 813 0),(3,.b false)],[(7,⟨59,.row (.calls o)⟩),(813,⟨59,.row (.calls ([] : List CallD))⟩)],[813,7,999]⟩) (by kernel_rfl) (by kernel_rfl) (by kernel_rfl) (by kernel_rfl) (by kernel_rfl) ?_
     refine W.ret (thenQ_ret ?_)
     exact endQ_rows [(0,813)] (.tup [.own 813 0,.b false]) (by kernel_rfl) (@cast ((((813:Nat)=813)∧(0=(List.length ((parseI s.data.toList).1)))∧((0:Nat) ∈ ([0] : List Nat)))∧((.bool false:Value)=.bool ((parseI s.data.toList).2))∧Y) _ (by kernel_rfl) ⟨⟨rfl,(by first | rfl | omega | assumption | (symm; assumption) | (exact congrArg List.length (by first | (rw [hE]; done) | (rw [hE]; rfl) | (rw [hE]; exact hol) | rfl)) | (first | (rw [hE]; done) | (rw [hE]; rfl) | (rw [hE]; exact hol) | rfl; done) | simp | simp_all),(by decide)⟩,(congrArg Value.bool (by first | rfl | omega | assumption | (first | (rw [hE]; done) | (rw [hE]; rfl) | (rw [hE]; exact hol) | rfl; done) | simp | simp_all)),tt⟩) (@cast ((((59:Nat)=59)∧((.calls ([] : List CallD):Dat)=.calls ((parseI s.data.toList).1))∧((0:Nat) ∈ ([0] : List Nat)))∧Y) _ (by kernel_rfl) ⟨⟨rfl,(congrArg Dat.calls (by first | (rw [hE]; done) | (rw [hE]; rfl) | (rw [hE]; exact hol) | rfl)),(by decide)⟩,tt⟩) (by kernel_rfl)
    ·intro n32
     have hE := pi_rest (s := s) (fun e=>Bool.false_ne_true (n9.symm.trans e)) hO n32
     rw [cond_false] at hE
     refine W.skip (thenQ_normal ?_)
     refine kE tab31 hnt [(2,.own 7 o.length),(3,.b true)] 182 [] tt ?_
     refine W.ret ?_
     exact endQ_rows [(0,7)] (.tup [.own 7 o.length,.b true]) (by kernel_rfl) (@cast ((((7:Nat)=7)∧(o.length=(List.length ((parseI s.data.toList).1)))∧((0:Nat) ∈ ([0] : List Nat)))∧((.bool true:Value)=.bool ((parseI s.data.toList).2))∧Y) _ (by kernel_rfl) ⟨⟨rfl,(by first | rfl | omega | assumption | (symm; assumption) | (exact congrArg List.length (by first | (rw [hE]; done) | (rw [hE]; rfl) | (rw [hE]; exact hol) | rfl)) | (first | (rw [hE]; done) | (rw [hE]; rfl) | (rw [hE]; exact hol) | rfl; done) | simp | simp_all),(by decide)⟩,(congrArg Value.bool (by first | rfl | omega | assumption | (first | (rw [hE]; done) | (rw [hE]; rfl) | (rw [hE]; exact hol) | rfl; done) | simp | simp_all)),tt⟩) (@cast ((((59:Nat)=59)∧((.calls o:Dat)=.calls ((parseI s.data.toList).1))∧((0:Nat) ∈ ([0] : List Nat)))∧Y) _ (by kernel_rfl) ⟨⟨rfl,(congrArg Dat.calls (by first | (rw [hE]; done) | (rw [hE]; rfl) | (rw [hE]; exact hol) | rfl)),(by decide)⟩,tt⟩) (by kernel_rfl)
theorem ent31 : Entr prog 31 := ⟨_,func31,rfl,by decide⟩
end Go.Proofs.Tryz

set_option linter.unusedSimpArgs false
set_option linter.unusedVariables false
namespace Go.Proofs.Tryz
open Go.Ab Go.RowKit
def fs54 : FnS := fnS [.o] [.str] (fun _ (s,_)=>(.b (isSingle s),[],Y))
abbrev T54 : Tab := lk []
theorem tab54 : TabOK prog T54 := TabOK.nil
theorem ok54 : FnOK prog 54 fs54 := by
 refine FnOK.mk cok func54 rfl rfl rfl ?_
 rintro fl ⟨(s:ByteArray),_⟩ hpre F hnt0 _
 have hnt : F.nt=13 := hnt0.trans ntmps54
 clear hpre
 refine W.to (⟨[(0,.v (.string s))],[],[999]⟩) rfl ?_
 refine kE tab54 hnt [(0,.v (.string s))] 2 [] tt ?_
 refine kE tab54 hnt [(2,.b (((eqS s nRegister) || (eqS s nCounter)) || (eqS s nMost)))] 4688778463180094 ((fun (Z1:Bool)=>((fun (Z2:Bool)=>([(!Z1)=true→Y,(!Z1)=true→((((!Z1)=true)∧Y)∧(Y∧Y)),Z1=true→Y,Z1=false→((!Z1)=true)∧Y,(!Z2)=true→Y,(!Z2)=true→((((!Z2)=true)∧Y)∧(Y∧Y)),Z2=true→Y,Z2=false→((!Z2)=true)∧Y]:PL)) (Z1 || (eqS s nCounter)))) (eqS s nRegister)) ⟨(fun _=>trivial),(fun hG=>⟨⟨hG,tt⟩,tt,tt⟩),(fun _=>trivial),(fun hp=>⟨(not_t hp),tt⟩),(fun _=>trivial),(fun hG=>⟨⟨hG,tt⟩,tt,tt⟩),(fun _=>trivial),(fun hp=>⟨(not_t hp),tt⟩)⟩ ?_
 refine W.ret ?_
 exact eB (show (((eqS s nRegister) || (eqS s nCounter)) || (eqS s nMost))=(isSingle s) from (by first | rfl | simp_all))
theorem ent54 : Entr prog 54 := ⟨_,func54,rfl,by decide⟩
end Go.Proofs.Tryz

set_option linter.unusedSimpArgs false
set_option linter.unusedVariables false
namespace Go.Proofs.Tryz
open Go.Ab Go.RowKit
def fs32 : FnS := fnS [.o] [.str] (fun _ (s,_)=>(.b (isObject s),[],Y))
abbrev T32 : Tab := lk [(54,fs54)]
theorem tab32 : TabOK prog T32 := (TabOK.cons ok54 ent54 TabOK.nil)
theorem ok32 : FnOK prog 32 fs32 := by
 refine FnOK.mk cok func32 rfl rfl rfl ?_
 rintro fl ⟨(s:ByteArray),_⟩ hpre F hnt0 _
 have hnt : F.nt=17 := hnt0.trans ntmps32
 clear hpre
 refine W.to (⟨[(0,.v (.string s))],[],[999]⟩) rfl ?_
 refine kE tab32 hnt [(0,.v (.string s))] 2 [] tt ?_
 refine kE tab32 hnt [(2,.b ((((isSingle s) || (eqS s nQueue)) || (eqS s nStack)) || (eqS s nSet)))] 22426282037271995282918 ((fun (Z1:Bool)=>((fun (Z2:Bool)=>((fun (Z3:Bool)=>([(!Z1)=true→Y,(!Z1)=true→((((!Z1)=true)∧Y)∧(Y∧Y)),Z1=true→Y,Z1=false→((!Z1)=true)∧Y,(!Z2)=true→Y,(!Z2)=true→((((!Z2)=true)∧Y)∧(Y∧Y)),Z2=true→Y,Z2=false→((!Z2)=true)∧Y,(!Z3)=true→Y,(!Z3)=true→((((!Z3)=true)∧Y)∧(Y∧Y)),Z3=true→Y,Z3=false→((!Z3)=true)∧Y]:PL)) (Z2 || (eqS s nStack)))) (Z1 || (eqS s nQueue)))) (isSingle s)) ⟨(fun _=>trivial),(fun hG=>⟨⟨hG,tt⟩,tt,tt⟩),(fun _=>trivial),(fun hp=>⟨(not_t hp),tt⟩),(fun _=>trivial),(fun hG=>⟨⟨hG,tt⟩,tt,tt⟩),(fun _=>trivial),(fun hp=>⟨(not_t hp),tt⟩),(fun _=>trivial),(fun hG=>⟨⟨hG,tt⟩,tt,tt⟩),(fun _=>trivial),(fun hp=>⟨(not_t hp),tt⟩)⟩ ?_
 refine W.ret ?_
 exact eB (show ((((isSingle s) || (eqS s nQueue)) || (eqS s nStack)) || (eqS s nSet))=(isObject s) from (by exact single_obj s))
theorem ent32 : Entr prog 32 := ⟨_,func32,rfl,by decide⟩
end Go.Proofs.Tryz

set_option linter.unusedSimpArgs false
set_option linter.unusedVariables false
namespace Go.Proofs.Tryz
open Go.Ab Go.RowKit
def fs101 : FnS := fnS [.o,.o,.o] [.int,.int,(.ep .calls)] (fun _ (i,k,h,_)=>(.b (ownF h i.toNat k.toNat),[],(0≤i∧i<h.length)∧(0≤k∧k<h.length)))
abbrev T101 : Tab := lk [(86,fs86)]
theorem tab101 : TabOK prog T101 := (TabOK.cons ok86 ent86 TabOK.nil)
theorem ok101 : FnOK prog 101 fs101 := by
 refine FnOK.mk cok func101 rfl rfl rfl ?_
 rintro fl ⟨(i:Int),(k:Int),(h : List CallD),_⟩ hpre F hnt0 _
 have hnt : F.nt=28 := hnt0.trans ntmps101
 replace hpre : (0≤i∧i<h.length)∧(0≤k∧k<h.length) := hpre
 obtain ⟨hi,hk⟩ := hpre
 refine W.to (⟨[(0,.i i),(1,.i k),(2,.ep [.sl (.calls h)])],[],[999]⟩) rfl ?_
 refine kE tab101 hnt [(0,.i i),(1,.i k),(2,.ep [.sl (.calls h)])] 2 [] tt ?_
 refine kA tab101 hnt [(5,.b ((decide (((h.getD (Int.toNat i) default).proc)=((h.getD (Int.toNat k) default).proc))) && (isBefore (h.getD (Int.toNat k) default) (h.getD (Int.toNat i) default))))] [] [999] 8688421148153072898007349530769 ((fun (Z1:Bool)=>([0≤i,i<(h.length:Int),0≤k,k<(h.length:Int),Z1=true→Y,Z1=true→Y,Z1=true→(((Z1=true)∧Y)∧(((Z1=true)∧Y)∧((0≤k)∧(k<(h.length:Int))))),Z1=true→((Z1=true)∧Y),Z1=true→Y,Z1=true→Y,Z1=true→(((Z1=true)∧Y)∧(((Z1=true)∧Y)∧((0≤i)∧(i<(h.length:Int))))),Z1=true→((Z1=true)∧Y),Z1=true→(Y∧((((Z1=true)∧Y)∧(((Z1=true)∧Y)∧Y))∧Y)),Z1=true→(Z1=true)∧Y,Z1=false→Y]:PL)) (decide (((h.getD (Int.toNat i) default).proc)=((h.getD (Int.toNat k) default).proc)))) ⟨om,om,om,om,(fun _=>trivial),(fun _=>trivial),(fun hG=>⟨⟨hG,tt⟩,⟨hG,tt⟩,(by have hg0 : ((h.getD (Int.toNat i) default).proc)=((h.getD (Int.toNat k) default).proc) := of_decide_eq_true hG; omega),(by have hg0 : ((h.getD (Int.toNat i) default).proc)=((h.getD (Int.toNat k) default).proc) := of_decide_eq_true hG; omega)⟩),(fun hG=>⟨hG,tt⟩),(fun _=>trivial),(fun _=>trivial),(fun hG=>⟨⟨hG,tt⟩,⟨hG,tt⟩,(by have hg0 : ((h.getD (Int.toNat i) default).proc)=((h.getD (Int.toNat k) default).proc) := of_decide_eq_true hG; omega),(by have hg0 : ((h.getD (Int.toNat i) default).proc)=((h.getD (Int.toNat k) default).proc) := of_decide_eq_true hG; omega)⟩),(fun hG=>⟨hG,tt⟩),(fun hG=>⟨tt,⟨⟨hG,tt⟩,⟨hG,tt⟩,tt⟩,tt⟩),(fun hp=>⟨hp,tt⟩),(fun _=>trivial)⟩ ?_
 refine W.ret ?_
 exact eB (show ((decide (((h.getD (Int.toNat i) default).proc)=((h.getD (Int.toNat k) default).proc))) && (isBefore (h.getD (Int.toNat k) default) (h.getD (Int.toNat i) default)))=(ownF h i.toNat k.toNat) from (by first | rfl | simp_all))
theorem ent101 : Entr prog 101 := ⟨_,func101,rfl,by decide⟩
end Go.Proofs.Tryz

set_option linter.unusedSimpArgs false
set_option linter.unusedVariables false
namespace Go.Proofs.Tryz
open Go.Ab Go.RowKit
def fs82OwnAhead : FnS := fnS [.o,.o] [.int,(.fn1 101 (.ep .calls))] (fun _ (n,h,_)=>(.sl (.ints (rowsOf n.toNat (ownF h))),[],(0≤n∧n≤60∧n=h.length)))
abbrev T82OwnAhead : Tab := lk [(101,fs101)]
theorem tab82OwnAhead : TabOK prog T82OwnAhead := (TabOK.cons ok101 ent101 TabOK.nil)
abbrev v82OwnAhead0 (h:List CallD):AV:=.fn 101 [.ep [.sl (.calls h)]]
abbrev v82OwnAhead1 (n:Int):AV:=.i (((List.length (List.replicate (Int.toNat n) (0:Int))):Nat):Int)
theorem ok82OwnAhead : FnOK prog 82 fs82OwnAhead := by
 refine FnOK.mk cok func82 rfl rfl rfl ?_
 rintro fl ⟨(n:Int),(h : List CallD),_⟩ hpre F hnt0 _
 have hnt : F.nt=35 := hnt0.trans ntmps82
 replace hpre : (0≤n∧n≤60∧n=h.length) := hpre
 have hn := hpre
 refine W.to (⟨[(0,.i n),(1,(v82OwnAhead0 h))],[],[999]⟩) rfl ?_
 refine kE tab82OwnAhead hnt [(0,.i n),(1,(v82OwnAhead0 h))] 2 [] tt ?_
 refine kS tab82OwnAhead hnt [(0,.i n),(1,(v82OwnAhead0 h)),(5,.own 9 (List.length (List.replicate (Int.toNat n) (0:Int))))] [(9,⟨3,.row (.ints (List.replicate (Int.toNat n) (0:Int)))⟩)] [9,999] 1349939 [n=n,0≤n,n * 8≤281474976710656] ⟨rfl,om,om⟩ ?_ [9]
 refine W.seq ?_
 refine kE tab82OwnAhead hnt [(0,.i n),(1,(v82OwnAhead0 h)),(5,.own 9 (List.length (List.replicate (Int.toNat n) (0:Int)))),(11,(v82OwnAhead1 n)),(12,.i (0:Int))] 182 [] tt ?_
 refine W.block ?_
 refine W.loop (ι := Nat × (List Int)) (fun (x : Nat × (List Int))=>match x with | (i,o)=>(⟨[(0,.i n),(1,(v82OwnAhead0 h)),(5,.own 9 o.length),(11,(v82OwnAhead1 n)),(12,.i ((i:Nat):Int))],[(9,⟨3,.row (.ints o)⟩)],[9,999]⟩:St))
  (fun (x : Nat × (List Int))=>match x with | (i,o)=>(i≤n.toNat)∧(o=partRows n.toNat (ownF h) i 0))
  (fun (x : Nat × (List Int))=>match x with | (i,o)=>(n.toNat - i:Nat)) (0,(List.replicate (Int.toNat n) (0:Int))) ?_ ?_ ?_
 ·exact ⟨oi,(by exact partRows_zero _ _)⟩
 ·exact Sk
 ·rintro ⟨i,o⟩ hC0
  obtain ⟨hi,ho⟩ := hC0
  have hol : o.length=n.toNat := by rw [ho]; exact partRows_len _ _ _ _
  refine kE tab82OwnAhead hnt [(0,.i n),(1,(v82OwnAhead0 h)),(5,.own 9 o.length),(11,(v82OwnAhead1 n)),(12,.i ((i:Nat):Int)),(13,.b (decide (((i:Nat):Int)<(((List.length (List.replicate (Int.toNat n) (0:Int))):Nat):Int))))] 62 [] tt ?_
  refine W.seq ?_
  refine ifp (((i:Nat):Int)<(((List.length (List.replicate (Int.toNat n) (0:Int))):Nat):Int)) ?_ ?_
  ·intro h13
   have h13' := h13
   simp only [ln] at h13'
   refine W.skip (thenQ_normal ?_)
   refine W.seq ?_
   refine W.block ?_
   refine kE tab82OwnAhead hnt [(0,.i n),(1,(v82OwnAhead0 h)),(5,.own 9 o.length),(6,.i ((i:Nat):Int)),(11,(v82OwnAhead1 n)),(12,.i ((i:Nat):Int))] 20 [] tt ?_
   refine kE tab82OwnAhead hnt [(0,.i n),(1,(v82OwnAhead0 h)),(5,.own 9 o.length),(6,.i ((i:Nat):Int)),(11,(v82OwnAhead1 n)),(12,.i ((i:Nat):Int)),(15,.i n),(16,.i (0:Int))] 20 [] tt ?_
   refine W.block ?_
   refine W.loop (ι := Nat × (List Int)) (fun (x : Nat × (List Int))=>match x with | (k,x)=>(⟨[(0,.i n),(1,(v82OwnAhead0 h)),(5,.own 9 o.length),(6,.i ((i:Nat):Int)),(11,(v82OwnAhead1 n)),(12,.i ((i:Nat):Int)),(15,.i n),(16,.i ((k:Nat):Int))],[(9,⟨3,.row (.ints x)⟩)],[9,999]⟩:St))
    (fun (x : Nat × (List Int))=>match x with | (k,x)=>(k≤n.toNat)∧(x=partRows n.toNat (ownF h) i k))
    (fun (x : Nat × (List Int))=>match x with | (k,x)=>(n.toNat - k:Nat)) (0,o) ?_ ?_ ?_
   ·exact ⟨oi,(by exact ho)⟩
   ·exact Sk
   ·rintro ⟨k,x⟩ hC0
    obtain ⟨hk,hx⟩ := hC0
    have hxl : x.length=n.toNat := by rw [hx]; exact partRows_len _ _ _ _
    refine kE tab82OwnAhead hnt [(0,.i n),(1,(v82OwnAhead0 h)),(5,.own 9 o.length),(6,.i ((i:Nat):Int)),(11,(v82OwnAhead1 n)),(12,.i ((i:Nat):Int)),(15,.i n),(16,.i ((k:Nat):Int)),(17,.b (decide (((k:Nat):Int)<n)))] 62 [] tt ?_
    refine W.seq ?_
    refine ifp (((k:Nat):Int)<n) ?_ ?_
    ·intro h17
     refine W.skip (thenQ_normal ?_)
     refine W.seq ?_
     refine W.block ?_
     refine kE tab82OwnAhead hnt [(0,.i n),(1,(v82OwnAhead0 h)),(5,.own 9 o.length),(6,.i ((i:Nat):Int)),(7,.i ((k:Nat):Int)),(11,(v82OwnAhead1 n)),(12,.i ((i:Nat):Int)),(15,.i n),(16,.i ((k:Nat):Int))] 20 [] tt ?_
     refine kE tab82OwnAhead hnt [(0,.i n),(1,(v82OwnAhead0 h)),(5,.own 9 o.length),(6,.i ((i:Nat):Int)),(7,.i ((k:Nat):Int)),(11,(v82OwnAhead1 n)),(12,.i ((i:Nat):Int)),(15,.i n),(16,.i ((k:Nat):Int)),(22,.b (ownF h ((i:Nat):Int).toNat ((k:Nat):Int).toNat))] 1818754580 [0≤((i:Nat):Int)∧((i:Nat):Int)<h.length,0≤((k:Nat):Int)∧((k:Nat):Int)<h.length] ⟨om,om⟩ ?_
     refine ifb (ownF h ((i:Nat):Int).toNat ((k:Nat):Int).toNat) ?_ ?_
     ·intro h22
      refine lS tab82OwnAhead hnt [(0,.i n),(1,(v82OwnAhead0 h)),(5,.own 9 o.length),(6,.i ((i:Nat):Int)),(11,(v82OwnAhead1 n)),(12,.i ((i:Nat):Int)),(15,.i n),(16,.i ((k:Nat):Int))] [(9,⟨3,.row (.ints (List.set x i (bitsI .or .i64 (x.getD i 0) (shlI .i64 (1:Int) ((k:Nat):Int)))))⟩)] [9,999] 300875065856638076029259 [0≤((i:Nat):Int),((i:Nat):Int)<(o.length:Int),i<x.length,Fits .u64 ((k:Nat):Int),0≤((k:Nat):Int),Fits .i64 (shlI .i64 (1:Int) ((k:Nat):Int)),0≤((i:Nat):Int),((i:Nat):Int)<(o.length:Int),i<x.length] ⟨om,om,om,(by exact fits_u64 (by omega) (by omega)),om,(by exact fits_shl (by omega)),om,om,om⟩ ?_
      refine blockQ_normal (thenQ_normal ?_)
      refine lE tab82OwnAhead hnt [(0,.i n),(1,(v82OwnAhead0 h)),(5,.own 9 o.length),(6,.i ((i:Nat):Int)),(11,(v82OwnAhead1 n)),(12,.i ((i:Nat):Int)),(15,.i n),(16,.i (((k+1):Nat):Int))] 1763 [Fits .i64 (((k+1):Nat):Int)] fi ?_
      refine thenQ_normal ?_
      refine ⟨((k+1),(List.set x i (bitsI .or .i64 (x.getD i 0) (shlI .i64 (1:Int) ((k:Nat):Int))))),⟨oi,(by first | (rw [hx]; exact partRows_skip n22) | (rw [hx]; exact partRows_set (by omega) (by rw [partRows_get _ (by omega)]; exact mask_or _ (by omega) h22)))⟩,(show n.toNat - (k+1)<n.toNat - k from o2),?_⟩
      exact Sk
     ·intro n22
      refine W.skip (blockQ_normal (thenQ_normal ?_))
      refine lE tab82OwnAhead hnt [(0,.i n),(1,(v82OwnAhead0 h)),(5,.own 9 o.length),(6,.i ((i:Nat):Int)),(11,(v82OwnAhead1 n)),(12,.i ((i:Nat):Int)),(15,.i n),(16,.i (((k+1):Nat):Int))] 1763 [Fits .i64 (((k+1):Nat):Int)] fi ?_
      refine thenQ_normal ?_
      refine ⟨((k+1),x),⟨oi,(by first | (rw [hx]; exact partRows_skip n22) | (rw [hx]; exact partRows_set (by omega) (by rw [partRows_get _ (by omega)]; exact mask_or _ (by omega) h22)))⟩,(show n.toNat - (k+1)<n.toNat - k from o2),?_⟩
      exact Sk
    ·intro n17
     refine W.exit (thenQ_exit (thenQ_exit (blockQ_hit ?_)))
     refine blockQ_normal (thenQ_normal ?_)
     refine lE tab82OwnAhead hnt [(0,.i n),(1,(v82OwnAhead0 h)),(5,.own 9 o.length),(11,(v82OwnAhead1 n)),(12,.i (((i+1):Nat):Int))] 1763 [Fits .i64 (((i+1):Nat):Int)] fi ?_
     refine thenQ_normal ?_
     refine ⟨((i+1),x),⟨oi,(by rw [hx,← partRows_next]; congr 1; omega)⟩,(show n.toNat - (i+1)<n.toNat - i from o2),?_⟩
     exact Sub.of [] (@cast (((Si n)∧(((101:Nat)=101)∧(((.ep [.sl (.calls h)] : AV)=.ep [.sl (.calls h)])∧(([] : List Nat)=[]))∧Y)∧(((9:Nat)=9)∧(o.length=x.length)∧((9:Nat) ∈ ([9,999] : List Nat)))∧(Si (((List.length (List.replicate (Int.toNat n) (0:Int))):Nat):Int))∧(Si (((i+1):Nat):Int))∧Y)∧((((3:Nat)=3)∧(Sd (.ints x))∧((9:Nat) ∈ ([9,999] : List Nat)))∧Y)∧(true=true)∧(true=true)) _ (by kernel_rfl) ⟨⟨rfl,⟨rfl,⟨rfl,rfl⟩,tt⟩,⟨rfl,(by first | rfl | omega | assumption | (symm; assumption) | simp | simp_all),(by decide)⟩,rfl,rfl,tt⟩,⟨⟨rfl,rfl,(by decide)⟩,tt⟩,rfl,rfl⟩)
  ·intro n13
   have n13' := n13
   simp only [ln] at n13'
   refine W.exit (thenQ_exit (thenQ_exit (blockQ_hit ?_)))
   refine thenQ_normal ?_
   refine kE tab82OwnAhead hnt [(4,.own 9 o.length)] 20 [] tt ?_
   refine W.subS [] (⟨[(4,.sl (.ints o))],[],[999]⟩) (@cast ((((o.length=o.length)∧(Sd (.ints o))∧((9:Nat) ∉ ([] : List Nat)))∧Y)∧Y∧(true=true)∧(true=true)) _ (by kernel_rfl) ⟨⟨⟨rfl,rfl,(by decide)⟩,tt⟩,tt,rfl,rfl⟩) ?_
   refine W.ret ?_
   exact endQ_ret (.sl (.ints o)) (by kernel_rfl) (@cast ((.ints o:Dat)=.ints (rowsOf n.toNat (ownF h))) _ (by kernel_rfl) (congrArg Dat.ints (by rw [ho,← partRows_end]; congr 1; omega)))
theorem ent82OwnAhead : Entr prog 82 := ⟨_,func82,rfl,by decide⟩
end Go.Proofs.Tryz

set_option linter.unusedSimpArgs false
set_option linter.unusedVariables false
namespace Go.Proofs.Tryz
open Go.Ab Go.RowKit
def fs78 : FnS := fnS [.s .calls] [.calls] (fun _ (h,_)=>(.sl (.ints (ownAhead h)),[],Y))
abbrev T78 : Tab := lk [(52,fs52),(82,fs82OwnAhead)]
theorem tab78 : TabOK prog T78 := (TabOK.cons ok52 ent52 (TabOK.cons ok82OwnAhead ent82OwnAhead TabOK.nil))
theorem ok78 : FnOK prog 78 fs78 := by
 refine FnOK.mk cok func78 rfl rfl rfl ?_
 rintro fl ⟨(h : List CallD),_⟩ hpre F hnt0 _
 have hnt : F.nt=10 := hnt0.trans ntmps78
 clear hpre
 refine W.to (⟨[(0,.sl (.calls h))],[],[999]⟩) rfl ?_
 refine W.lenOf 0 (.calls h) (by kernel_rfl) ?_
 intro hl_h; replace hl_h : List.length h≤9223372036854775807 := hl_h
 refine kS tab78 hnt [(1,.ptr 1 0)] [(1,⟨38,.fix [.sl (.calls h)]⟩)] [1,999] 20 [] tt ?_
 refine W.subS [] (⟨[(1,.ep [.sl (.calls h)])],[],[999]⟩) (@cast ((((([.sl (.calls h)] : List AV)=[.sl (.calls h)])∧(([] : List Nat)=[])∧((1:Nat) ∉ ([] : List Nat)))∧Y)∧Y∧(true=true)∧(true=true)) _ (by kernel_rfl) ⟨⟨⟨rfl,rfl,(by decide)⟩,tt⟩,tt,rfl,rfl⟩) ?_
 refine W.seq ?_
 refine kE tab78 hnt [(1,.ep [.sl (.calls h)]),(5,.b (!(validHistory h)))] 120116 [] tt ?_
 refine ifb (!(validHistory h)) ?_ ?_
 ·intro h5
  refine kE tab78 hnt [(2,.v (.slice none 0 0))] 2 [] tt ?_
  refine W.ret (thenQ_ret ?_)
  exact endQ_ret (.v (.slice none 0 0)) (by kernel_rfl) (@cast (((Value.slice none 0 0:Value)=.slice none 0 0)∧((Dat.ints (ownAhead h)).len=0)) _ (by kernel_rfl) ⟨rfl,(by show List.length (ownAhead h)=0; unfold ownAhead; rw [not_f h5]; rfl)⟩)
 ·intro n5
  refine W.skip (thenQ_normal ?_)
  refine kE tab78 hnt [(2,.sl (.ints (rowsOf (h.length:Int).toNat (ownF h))))] 101668709 [0≤(h.length:Int)∧(h.length:Int)≤60∧(h.length:Int)=h.length] (by have hv := (valid_iff.1 (not_g n5)).1; omega) ?_
  refine W.ret ?_
  exact endQ_ret (.sl (.ints (rowsOf (h.length:Int).toNat (ownF h)))) (by kernel_rfl) (@cast ((.ints (rowsOf (h.length:Int).toNat (ownF h)):Dat)=.ints (ownAhead h)) _ (by kernel_rfl) (congrArg Dat.ints (by unfold ownAhead; rw [not_g n5]; rfl)))
theorem ent78 : Entr prog 78 := ⟨_,func78,rfl,by decide⟩
end Go.Proofs.Tryz

namespace Go.Ab
open Go.RowKit Go.Shelf Go.Proofs
theorem elem_ints (l : List Int) (k:Nat) : (Dat.ints l).elem k=[.v (.int .i64 (l.getD k 0))] := rfl
theorem delete_core {P : Program} {ρ : Ren} (L : Lays2.n23 P ρ) {t : TypeId} (l : List Int) (i j:Int) (hi0 : 0≤i) (hij : i<j) (hjl : j≤((l.length:Nat):Int)) (w : World) (T : Nat→Prop) (vals : List Value) (bC : Option Nat)
  (hargs' : ArgsRep w T [.c .ints t,.o,.o] [.sl (.ints l),.v (.int .i64 i),.v (.int .i64 j)] vals bC) :
  Calls P (ρ.f 23) vals.toArray w fun en w' => ∃ y β',en=.returned y∧PostF w T bC w' β' (.own 0 (List.length (l.take i.toNat++l.drop j.toNat))) [(t,.ints (l.take i.toNat++l.drop j.toNat))] y := by
  match vals,hargs' with
  | [y0,y1,y2],h =>
   simp only [ArgsRep] at h
   obtain ⟨⟨d,hd,_,hc⟩,h1,h2,_⟩ := h
   cases hd
   simp only [Rep] at h1 h2
   subst h1
   subst h2
   rcases hc with ⟨_,hz,_⟩ | ⟨g,cap,cur,rfl,rfl,hgw,hTg,hcell,hlen,hcap,hsz,hrow⟩
   ·simp only [Dat.len] at hz; omega
   ·have hm : maxLen=9223372036854775807 := by decide
    have hsz' : cur.size=cap := by simpa [Dat.esz] using hsz
    have hlen' : l.length≤cap := hlen
    have hH : Sort.Holds (Value.int .i64) w g 0 l.toArray := by
     intro k hk
     have hk' : k<l.length := by simpa using hk
     obtain ⟨y,hy1,hy2⟩ := hrow k 0 _ hk' (by rw [elem_ints]; rfl)
     simp only [Rep] at hy2
     subst hy2
     have e1 : cur[k]? = some (.int .i64 (l.getD k 0)) := by simpa [Dat.esz] using hy1
     constructor
     ·unfold World.cell?
      simp only [hcell,Nat.zero_add]
      rw [if_neg (by simp),e1]
      simp [List.getD_eq_getElem?_getD,hk']
     ·unfold World.frozen?
      simp only [hcell]
      simp
    have hcall := Any.slices_Delete_int L g 0 cap i.toNat j.toNat l w hH hlen' (by omega) (by omega) (by omega)
    rw [show ((i.toNat:Nat):Int)=i by omega,show ((j.toNat:Nat):Int)=j by omega] at hcall
    refine hcall.mono ?_
    rintro e w' ⟨rfl,q,rfl⟩
    let res := l.take i.toNat++l.drop j.toNat
    have hrl : res.length=l.length - (j.toNat - i.toNat) := by
     simp only [res,List.length_append,List.length_take,List.length_drop]; omega
    let all := (l.take i.toNat++l.drop j.toNat++List.replicate (j.toNat - i.toNat) 0)
    have hal : all.length=l.length := by
     simp only [all,List.length_append,List.length_take,List.length_drop,List.length_replicate]; omega
    have hcell' : (Sort.putRow (Value.int .i64) (Sort.ahead w q) g 0 all.toArray).heap[g]? = some (.cells (Sort.putCells (Value.int .i64) 0 all.toArray cur) t (0,0)) := by
     show (w.heap.modify g _)[g]? = _
     rw [Array.getElem?_modify,if_pos rfl,hcell]
     rfl
    refine ⟨_,fun k=>if k=0 then some (.blk g cap) else none,rfl,?_⟩
    refine ⟨rfl,rfl,rfl,?_,?_,?_,?_,?_,?_,?_⟩
    ·simp [Sort.ahead]
    ·intro b hb hne
     show (w.heap.modify g _)[b]? = _
     rw [Array.getElem?_modify,if_neg (fun hh=>hne (by rw [hh]))]
    ·simp only [Rep,OwnRep]
     exact .inr ⟨g,cap,rfl,(show res.length≤cap by omega),by rw [← hrl]⟩
    ·intro k c hk
     cases k with
     | succ k=>simp [rowsHeap] at hk
     | zero =>
      simp only [rowsHeap,List.getElem?_cons_zero,Option.map_some,Option.some.injEq] at hk
      subst hk
      simp only [LocOK,CellsOK]
      refine .inr ⟨g,cap,_,rfl,hcell',?_,hcap,?_,?_⟩
      ·show res.length≤cap
       omega
      ·simp [Sort.putCells,hsz',Dat.esz]
      ·intro k jj x hk hx
       have hk' : k<res.length := hk
       rw [elem_ints] at hx
       cases jj with
       | succ jj=>simp at hx
       | zero =>
        simp only [List.getElem?_cons_zero,Option.some.injEq] at hx
        subst hx
        refine ⟨.int .i64 (res.getD k 0),?_,by simp only [Rep]; rfl⟩
        have hkc : k<cur.size := by omega
        have hka : k<all.length := by omega
        simp only [Dat.esz,Nat.mul_one,Nat.add_zero,Sort.putCells,Array.getElem?_mapIdx]
        rw [Array.getElem?_eq_getElem hkc,Option.map_some,if_pos (by constructor <;> simp <;> omega)]
        have e2 : all.getD k 0=res.getD k 0 := by
         simp only [List.getD_eq_getElem?_getD]
         show (res++_)[k]?.getD 0=_
         rw [List.getElem?_append_left hk']
        rw [← e2]
        simp [List.getD_eq_getElem?_getD,hka]
    ·intro k k' c c' g1 cap1 cap2 e1 e2 _ _
     cases k with
     | succ k=>simp [rowsHeap] at e1
     | zero =>
      cases k' with
      | succ k'=>simp [rowsHeap] at e2
      | zero=>rfl
    ·intro k c g1 cap1 _ hb
     by_cases hk : k=0
     ·subst hk
      simp only [if_true,Option.some.injEq,Bl.blk.injEq] at hb
      left; rw [hb.1]
     ·rw [if_neg hk] at hb; cases hb
    ·intro k p hp
     by_cases hk : k=0
     ·subst hk; simp
     ·rw [if_neg hk] at hp; cases hp
theorem delete_ok {P : Program} {ρ : Ren} (L : Lays2.n23 P ρ) {t : TypeId} :
  FnOK P (ρ.f 23) (fnS [.c .ints t,.o,.o] [.ints,.int,.int] (fun _ (l,i,j,_)=>(.own 0 (List.length (l.take i.toNat++l.drop j.toNat)),[(t,.ints (l.take i.toNat++l.drop j.toNat))],0≤i∧i<j∧j≤((List.length l:Nat):Int)))) := by
 intro fl args r rows φ hg hφ w T vals bC hT _ hargs
 simp only [fnS] at hg
 split at hg
 ·rename_i a ha
  simp only [Option.some.injEq] at hg
  have hx := decL_encL ha
  subst hx
  obtain ⟨l,i,j,u⟩ := a
  simp only [Prod.mk.injEq] at hg
  obtain ⟨rfl,rfl,rfl⟩ := hg
  exact delete_core L l i j hφ.1 hφ.2.1 hφ.2.2 w T vals bC hargs
 ·cases hg
end Go.Ab

namespace Go.Ab
open Go.RowKit Go.Shelf Go.Proofs
theorem clone_post {w w' : World} {T : Nat→Prop} {t : TypeId} {l : List Int} {v' : Value} (hown : w'.ownsRow w.heap.size t 1 v' l.length (l.map (Value.int .i64))) (hb : Below w.heap.size w w') :
  ∃ β',PostF w T none w' β' (.own 0 l.length) [(t,.ints l)] v' := by
 obtain ⟨_,h⟩ := hown
 rcases h with ⟨rfl,hn⟩ | ⟨g,cap,cur,rfl,hg,hcell,hlen,hcap,hsz,htake⟩
 ·refine ⟨fun k=>if k=0 then some .nil else none,hb.os,hb.tape,hb.output,hb.size,fun b hb' _=>hb.block b hb',?_,?_,?_,?_,?_⟩
  ·simp only [Rep]; exact Or.inl ⟨rfl,hn,rfl⟩
  ·intro k c hk
   cases k with
   | succ k=>simp [rowsHeap] at hk
   | zero =>
    simp only [rowsHeap,List.getElem?_cons_zero,Option.map_some,Option.some.injEq] at hk
    subst hk
    simp only [LocOK,CellsOK]
    exact .inl ⟨rfl,hn⟩
  ·intro k k' c c' g1 cap1 cap2 e1 e2 hb1 _
   by_cases hk : k=0
   ·rw [hk] at hb1; simp at hb1
   ·rw [if_neg hk] at hb1; cases hb1
  ·intro k c g1 cap1 _ hb1
   by_cases hk : k=0
   ·rw [hk] at hb1; simp at hb1
   ·rw [if_neg hk] at hb1; cases hb1
  ·intro k p hp
   by_cases hk : k=0
   ·subst hk; simp
   ·rw [if_neg hk] at hp; cases hp
 ·refine ⟨fun k=>if k=0 then some (.blk g cap) else none,hb.os,hb.tape,hb.output,hb.size,fun b hb' _=>hb.block b hb',?_,?_,?_,?_,?_⟩
  ·simp only [Rep,OwnRep]; exact .inr ⟨g,cap,rfl,hlen,rfl⟩
  ·intro k c hk
   cases k with
   | succ k=>simp [rowsHeap] at hk
   | zero =>
    simp only [rowsHeap,List.getElem?_cons_zero,Option.map_some,Option.some.injEq] at hk
    subst hk
    simp only [LocOK,CellsOK]
    refine .inr ⟨g,cap,cur,rfl,hcell,hlen,hcap,hsz,?_⟩
    intro k jj x hk hx
    have hk' : k<l.length := hk
    rw [elem_ints] at hx
    cases jj with
    | succ jj=>simp at hx
    | zero =>
     simp only [List.getElem?_cons_zero,Option.some.injEq] at hx
     subst hx
     refine ⟨.int .i64 (l.getD k 0),?_,by simp only [Rep]⟩
     have e1 : (cur.toList.take (l.length * 1))[k]? = some (.int .i64 (l.getD k 0)) := by
      rw [htake,List.getElem?_map,List.getElem?_eq_getElem hk']
      simp [List.getD_eq_getElem?_getD,hk']
     rw [List.getElem?_take,if_pos (by omega)] at e1
     simpa [Dat.esz] using e1
  ·intro k k' c c' g1 cap1 cap2 e1 e2 _ _
   cases k with
   | succ k=>simp [rowsHeap] at e1
   | zero =>
    cases k' with
    | succ k'=>simp [rowsHeap] at e2
    | zero=>rfl
  ·intro k c g1 cap1 _ hb1
   by_cases hk : k=0
   ·subst hk
    simp only [if_true,Option.some.injEq,Bl.blk.injEq] at hb1
    right; omega
   ·rw [if_neg hk] at hb1; cases hb1
  ·intro k p hp
   by_cases hk : k=0
   ·subst hk; simp
   ·rw [if_neg hk] at hp; cases hp
theorem clone_core {P : Program} {ρ : Ren} (L : Lays2.n15 P ρ) (l : List Int) (hbig : l.length * 8≤140737488355328) (w : World) (T : Nat→Prop) (vals : List Value) (bC : Option Nat)
  (hargs : ArgsRep w T [.s .ints] [.sl (.ints l)] vals bC) :
  Calls P (ρ.f 15) vals.toArray w fun en w' => ∃ y β',en=.returned y∧PostF w T bC w' β' (.own 0 (List.length l)) [(ρ.t 3,.ints l)] y := by
 match vals,hargs with
 | [y0],h =>
  simp only [ArgsRep] at h
  obtain ⟨h1,rfl⟩ := h
  simp only [Rep,SlRep,FlatRep] at h1
  obtain ⟨a,c,rfl,hlc,hcm,hd⟩ := h1
  cases l with
  | nil =>
   cases a with
   | none =>
    refine (Any.slices_Clone_int_nil L 0 c w).mono ?_
    rintro e w' ⟨rfl,rfl⟩
    obtain ⟨β',h⟩ := clone_post (T := T) (t := ρ.t 3) (l := []) (World.ownsRow_nil w' w'.heap.size (ρ.t 3) 1) (Below.refl w'.heap.size w')
    exact ⟨_,β',rfl,h⟩
   | some ad =>
    refine (Any.slices_Clone_int_zero L ad c w).mono ?_
    rintro e w' ⟨v',rfl,hown,_,hb⟩
    obtain ⟨β',h⟩ := clone_post (T := T) (t := ρ.t 3) (l := []) hown hb
    exact ⟨_,β',rfl,h⟩
  | cons x0 l0 =>
   rcases hd with hd | ⟨ad,rfl,hT,hc⟩
   ·simp at hd
   ·have hcc : ∀ k,k<(x0 :: l0).length→w.cell? (ad.add k)=some (.int .i64 ((x0 :: l0).getD k 0)) := fun k hk=>by
     have := hc k 0 _ hk (show ((Dat.ints (x0 :: l0)).flat k)[0]? = some (.int .i64 ((x0 :: l0).getD k 0)) from rfl)
     simpa using this
    obtain ⟨b,off,sp⟩ := ad
    cases sp with
    | some s0 =>
     have := hcc 0 (by simp)
     rw [Addr.add_zero'] at this
     unfold World.cell? at this
     simp at this
     split at this <;> cases this
    | none =>
     refine (Any.slices_Clone_int L b off (x0 :: l0).length c (x0 :: l0) w (Nat.le_refl _) hbig (fun j hj=>by
      have := hcc j hj
      rwa [Addr.add_lit] at this)).mono ?_
     rintro e w' ⟨v',rfl,hown,_,hb⟩
     rw [List.take_length] at hown
     obtain ⟨β',h⟩ := clone_post (T := T) (t := ρ.t 3) (l := x0 :: l0) hown hb
     exact ⟨_,β',rfl,h⟩
theorem clone_ok {P : Program} {ρ : Ren} (L : Lays2.n15 P ρ) :
  FnOK P (ρ.f 15) (fnS [.s .ints] [.ints] (fun _ (l,_)=>(.own 0 (List.length l),[(ρ.t 3,.ints l)],List.length l * 8≤140737488355328))) := by
 intro fl args r rows φ hg hφ w T vals bC hT _ hargs
 simp only [fnS] at hg
 split at hg
 ·rename_i a ha
  simp only [Option.some.injEq] at hg
  have hx := decL_encL ha
  subst hx
  obtain ⟨l,u⟩ := a
  simp only [Prod.mk.injEq] at hg
  obtain ⟨rfl,rfl,rfl⟩ := hg
  exact clone_core L l hφ w T vals bC hargs
 ·cases hg
end Go.Ab

set_option linter.unusedSimpArgs false
set_option linter.unusedVariables false
namespace Go.Proofs.Tryz
open Go.Ab Go.RowKit Go.Shelf Go.Proofs
def fs81 : FnS := fnS [.s .ints] [.ints] (fun _ (l,_)=>(.own 0 l.length,[(3,.ints l)],(l.length * 8≤140737488355328)))
def ren15 : Go.Shelf.Ren := ⟨fun _=>81,fun k=>bif Nat.beq k 22 then 36 else bif Nat.beq k 3 then 3 else bif Nat.beq k 4 then 4 else k,fun k=>k⟩
set_option maxRecDepth 100000 in
theorem lays15 : Lays2.n15 prog ren15 where
 mixed := by kernel_rfl
 f15 := by kernel_rfl
 t3 := underlying3
 a3 := isAgg3
 z3 := sizeOf3
 v3 := zeroValue3
 t4 := underlying4
 a4 := isAgg4
 z4 := sizeOf4
 v4 := zeroValue4
 t22 := underlying36
 a22 := isAgg36
 z22 := sizeOf36
 v22 := zeroValue36
 i3 := by kernel_rfl
theorem ok81 : FnOK prog 81 fs81 := clone_ok lays15
theorem ent81 : Entr prog 81 := ⟨_,func81,rfl,by decide⟩
end Go.Proofs.Tryz

set_option linter.unusedSimpArgs false
set_option linter.unusedVariables false
namespace Go.Proofs.Tryz
open Go.Ab Go.RowKit
def fs119 : FnS := fnS [.o,.c .ints 3,.o] [.str,.ints,.call] (fun _ (s,l,c,_)=>(.tup [.sl (.ints ((iSingle s l c).1)),.i ((iSingle s l c).2)],[],(∀ j,j<l.length→0≤l.getD j 0∧l.getD j 0≤20)∧(0≤c.arg∧c.arg≤3)∧(l.length≤20)))
abbrev T119 : Tab := lk []
theorem tab119 : TabOK prog T119 := TabOK.nil
theorem ok119 : FnOK prog 119 fs119 := by
 refine FnOK.mk cok func119 rfl rfl rfl ?_
 rintro fl ⟨(s:ByteArray),(l : List Int),(c:CallD),_⟩ hpre F hnt0 _
 have hnt : F.nt=45 := hnt0.trans ntmps119
 replace hpre : (∀ j,j<l.length→0≤l.getD j 0∧l.getD j 0≤20)∧(0≤c.arg∧c.arg≤3)∧(l.length≤20) := hpre
 obtain ⟨hs,ha,hl⟩ := hpre
 refine W.to (⟨[(0,.v (.string s)),(1,.own 999 l.length),(2,.agg [.i c.proc,.i c.obj,.i c.kind,.i c.arg,.i c.ret,.i c.frm,.i c.to])],[(999,⟨3,.row (.ints l)⟩)],[999]⟩) rfl ?_
 refine kS tab119 hnt [(0,.v (.string s)),(1,.own 999 l.length),(5,.ptr 5 0)] [(5,⟨59,.fix [.i c.proc,.i c.obj,.i c.kind,.i c.arg,.i c.ret,.i c.frm,.i c.to]⟩),(999,⟨3,.row (.ints l)⟩)] [5,999] 182 [] tt ?_
 refine kE tab119 hnt [(0,.v (.string s)),(1,.own 999 l.length),(5,.ptr 5 0),(8,.i (0:Int))] 2 [] tt ?_
 refine W.seq ?_
 refine kE tab119 hnt [(0,.v (.string s)),(1,.own 999 l.length),(5,.ptr 5 0),(8,.i (0:Int)),(11,.b (decide ((l.length:Int)=(1:Int))))] 5042 [] tt ?_
 refine W.meetT (ι := Int) (fun (v:Int)=>(⟨[(0,.v (.string s)),(1,.own 999 l.length),(5,.ptr 5 0),(8,.i v)],[(5,⟨59,.fix [.i c.proc,.i c.obj,.i c.kind,.i c.arg,.i c.ret,.i c.frm,.i c.to]⟩),(999,⟨3,.row (.ints l)⟩)],[5,999]⟩:St)) (fun (v:Int)=>(v=oneOf l)∧(0≤v∧v≤20)) ?_ ?_
 ·skip
  refine ifp ((l.length:Int)=(1:Int)) ?_ ?_
  ·intro h11
   refine lE tab119 hnt [(0,.v (.string s)),(1,.own 999 l.length),(5,.ptr 5 0),(8,.i (l.getD 0 0))] 11663831 [0≤(0:Int),(0:Int)<(l.length:Int),0<l.length] ⟨om,om,om⟩ ?_
   refine thenQ_normal ?_
   refine ⟨((l.getD 0 0)),⟨(by unfold oneOf; first | (rw [decide_eq_true h11]; rfl) | (rw [decide_eq_false n11]; rfl)),(by first | omega | (have := hs 0 (by omega); omega))⟩,?_⟩
   exact Sk
  ·intro n11
   refine W.skip (thenQ_normal ?_)
   refine ⟨((0:Int)),⟨(by unfold oneOf; first | (rw [decide_eq_true h11]; rfl) | (rw [decide_eq_false n11]; rfl)),(by first | omega | (have := hs 0 (by omega); omega))⟩,?_⟩
   exact Sk
 ·rintro v hC0
  obtain ⟨hv,hvb⟩ := hC0
  refine W.seq ?_
  refine W.block ?_
  refine kE tab119 hnt [(0,.v (.string s)),(1,.own 999 l.length),(5,.ptr 5 0),(8,.i v),(15,.b (decide (c.kind=(2:Int))))] 123140 [] tt ?_
  refine ifp (c.kind=(2:Int)) ?_ ?_
  ·intro h15
   refine kE tab119 hnt [(6,.own 999 l.length),(7,.i v)] 1640 [] tt ?_
   refine W.ret (blockQ_ret (thenQ_ret ?_))
   exact endQ_ret (.tup [.own 999 l.length,.i v]) (by kernel_rfl) (@cast (((l.length=l.length)∧((.ints l:Dat)=.ints ((iSingle s l c).1))∧((999:Nat) ∉ ([] : List Nat)))∧((.int .i64 v:Value)=.int .i64 ((iSingle s l c).2))∧Y) _ (by kernel_rfl) ⟨⟨rfl,(congrArg Dat.ints (by subst hv; simp only [iSingle,(decide_eq_true h15),bb,List.length_nil])),(by decide)⟩,(congrArg (Value.int .i64) (by subst hv; simp only [iSingle,(decide_eq_true h15),bb,List.length_nil])),tt⟩)
  ·intro n15
   refine kE tab119 hnt [(0,.v (.string s)),(5,.ptr 5 0),(8,.i v),(21,.b (decide (c.kind=(1:Int))))] 123140 [] tt ?_
   refine ifp (c.kind=(1:Int)) ?_ ?_
   ·intro h21
    refine kE tab119 hnt [(6,.v (.slice none 0 0)),(7,.i v)] 182 [] tt ?_
    refine W.ret (blockQ_ret (thenQ_ret ?_))
    exact endQ_ret (.tup [.v (.slice none 0 0),.i v]) (by kernel_rfl) (@cast ((((Value.slice none 0 0:Value)=.slice none 0 0)∧((Dat.ints ((iSingle s l c).1)).len=0))∧((.int .i64 v:Value)=.int .i64 ((iSingle s l c).2))∧Y) _ (by kernel_rfl) ⟨⟨rfl,(by show List.length ((iSingle s l c).1)=0; subst hv; simp only [iSingle,(decide_eq_true h21),(decide_eq_false n15),bb,List.length_nil])⟩,(congrArg (Value.int .i64) (by subst hv; simp only [iSingle,(decide_eq_true h21),(decide_eq_false n15),bb,List.length_nil])),tt⟩)
   ·intro n21
    refine kE tab119 hnt [(0,.v (.string s)),(5,.ptr 5 0),(8,.i v),(26,.b (eqS s nCounter))] 13682 [] tt ?_
    refine ifb (eqS s nCounter) ?_ ?_
    ·intro h26
     refine kS tab119 hnt [(6,.sl (.ints ([(v+c.arg)]))),(7,.i (0:Int))] [(5,⟨59,.fix [.i c.proc,.i c.obj,.i c.kind,.i c.arg,.i c.ret,.i c.frm,.i c.to]⟩),(999,⟨3,.row (.ints l)⟩)] [33,5,999] 865408475 [Fits .i64 (v+c.arg)] fi ?_
     refine W.ret (blockQ_ret (thenQ_ret ?_))
     exact endQ_ret (.tup [.sl (.ints ([(v+c.arg)])),.i (0:Int)]) (by kernel_rfl) (@cast (((.ints ([(v+c.arg)]):Dat)=.ints ((iSingle s l c).1))∧((.int .i64 (0:Int):Value)=.int .i64 ((iSingle s l c).2))∧Y) _ (by kernel_rfl) ⟨(congrArg Dat.ints (by subst hv; simp only [iSingle,h26,(decide_eq_false n15),(decide_eq_false n21),bb,List.length_nil])),(congrArg (Value.int .i64) (by subst hv; simp only [iSingle,h26,(decide_eq_false n15),(decide_eq_false n21),bb,List.length_nil])),tt⟩)
    ·intro n26
     refine kE tab119 hnt [(5,.ptr 5 0),(8,.i v),(34,.b (eqS s nMost))] 13682 [] tt ?_
     refine ifb (eqS s nMost) ?_ ?_
     ·intro h34
      refine kS tab119 hnt [(6,.sl (.ints ([(max v c.arg)]))),(7,.i (0:Int))] [(5,⟨59,.fix [.i c.proc,.i c.obj,.i c.kind,.i c.arg,.i c.ret,.i c.frm,.i c.to]⟩),(999,⟨3,.row (.ints l)⟩)] [41,5,999] 96137786 [] tt ?_
      refine W.ret (blockQ_ret (thenQ_ret ?_))
      exact endQ_ret (.tup [.sl (.ints ([(max v c.arg)])),.i (0:Int)]) (by kernel_rfl) (@cast (((.ints ([(max v c.arg)]):Dat)=.ints ((iSingle s l c).1))∧((.int .i64 (0:Int):Value)=.int .i64 ((iSingle s l c).2))∧Y) _ (by kernel_rfl) ⟨(congrArg Dat.ints (by subst hv; simp only [iSingle,h34,(decide_eq_false n15),(decide_eq_false n21),n26,bb,List.length_nil])),(congrArg (Value.int .i64) (by subst hv; simp only [iSingle,h34,(decide_eq_false n15),(decide_eq_false n21),n26,bb,List.length_nil])),tt⟩)
     ·intro n34
      refine W.skip (blockQ_normal (thenQ_normal ?_))
      refine kS tab119 hnt [(6,.sl (.ints ([c.arg]))),(7,.i (0:Int))] [(5,⟨59,.fix [.i c.proc,.i c.obj,.i c.kind,.i c.arg,.i c.ret,.i c.frm,.i c.to]⟩),(999,⟨3,.row (.ints l)⟩)] [44,5,999] 131888 [] tt ?_
      refine W.ret ?_
      exact endQ_ret (.tup [.sl (.ints ([c.arg])),.i (0:Int)]) (by kernel_rfl) (@cast (((.ints ([c.arg]):Dat)=.ints ((iSingle s l c).1))∧((.int .i64 (0:Int):Value)=.int .i64 ((iSingle s l c).2))∧Y) _ (by kernel_rfl) ⟨(congrArg Dat.ints (by subst hv; simp only [iSingle,(decide_eq_false n15),(decide_eq_false n21),n26,n34,bb,List.length_nil])),(congrArg (Value.int .i64) (by subst hv; simp only [iSingle,(decide_eq_false n15),(decide_eq_false n21),n26,n34,bb,List.length_nil])),tt⟩)
theorem ent119 : Entr prog 119 := ⟨_,func119,rfl,by decide⟩
end Go.Proofs.Tryz

set_option linter.unusedSimpArgs false
set_option linter.unusedVariables false
namespace Go.Proofs.Tryz
open Go.Ab Go.RowKit
def fs133 : FnS := fnS [.s .ints,.o] [.ints,.int] (fun _ (l,x,_)=>(.i (findI l x),[],Y))
abbrev T133 : Tab := lk []
theorem tab133 : TabOK prog T133 := TabOK.nil
abbrev v1330 (l:List Int):AV:=.i (l.length:Int)
theorem ok133 : FnOK prog 133 fs133 := by
 refine FnOK.mk cok func133 rfl rfl rfl ?_
 rintro fl ⟨(l : List Int),(x:Int),_⟩ hpre F hnt0 _
 have hnt : F.nt=19 := hnt0.trans ntmps133
 clear hpre
 refine W.to (⟨[(0,.sl (.ints l)),(1,.i x)],[],[999]⟩) rfl ?_
 refine W.lenOf 0 (.ints l) (by kernel_rfl) ?_
 intro hl_l; replace hl_l : List.length l≤9223372036854775807 := hl_l
 refine kE tab133 hnt [(0,.sl (.ints l)),(1,.i x)] 2 [] tt ?_
 refine W.seq ?_
 refine kE tab133 hnt [(0,.sl (.ints l)),(1,.i x),(7,(v1330 l)),(8,.i (0:Int))] 182 [] tt ?_
 refine W.block ?_
 refine W.loop (ι := Nat) (fun (i:Nat)=>(⟨[(0,.sl (.ints l)),(1,.i x),(7,(v1330 l)),(8,.i ((i:Nat):Int))],[],[999]⟩:St))
  (fun (i:Nat)=>(i≤l.length)∧(∀ j,j<i→¬ l.getD j 0=x))
  (fun (i:Nat)=>(l.length - i:Nat)) (0) ?_ ?_ ?_
 ·exact ⟨oi,(by exact upto_zero)⟩
 ·exact Sk
 ·rintro i hC0
  obtain ⟨hi,hA⟩ := hC0
  refine kE tab133 hnt [(0,.sl (.ints l)),(1,.i x),(7,(v1330 l)),(8,.i ((i:Nat):Int)),(9,.b (decide (((i:Nat):Int)<(l.length:Int))))] 62 [] tt ?_
  refine W.seq ?_
  refine ifp (((i:Nat):Int)<(l.length:Int)) ?_ ?_
  ·intro h9
   refine W.skip (thenQ_normal ?_)
   refine W.seq ?_
   refine W.block ?_
   refine kE tab133 hnt [(0,.sl (.ints l)),(1,.i x),(5,.i ((i:Nat):Int)),(7,(v1330 l)),(8,.i ((i:Nat):Int))] 20 [] tt ?_
   refine kE tab133 hnt [(0,.sl (.ints l)),(1,.i x),(5,.i ((i:Nat):Int)),(7,(v1330 l)),(8,.i ((i:Nat):Int)),(16,.b (decide (x=(l.getD i 0))))] 2680988078 [0≤((i:Nat):Int),((i:Nat):Int)<(l.length:Int)] ⟨om,om⟩ ?_
   refine ifp (x=(l.getD i 0)) ?_ ?_
   ·intro h16
    refine kE tab133 hnt [(4,.i ((i:Nat):Int))] 20 [] tt ?_
    refine W.ret (blockQ_ret (thenQ_ret (thenQ_ret (blockQ_ret (thenQ_ret ?_)))))
    exact eI (show ((i:Nat):Int)=(findI l x) from (by exact (findI_yes (by omega) h16 hA).symm))
   ·intro n16
    refine W.skip (blockQ_normal (thenQ_normal ?_))
    refine lE tab133 hnt [(0,.sl (.ints l)),(1,.i x),(7,(v1330 l)),(8,.i (((i+1):Nat):Int))] 1763 [Fits .i64 (((i+1):Nat):Int)] fi ?_
    refine thenQ_normal ?_
    refine ⟨((i+1)),⟨oi,(by exact upto_succ hA (fun e=>n16 e.symm))⟩,(show l.length - (i+1)<l.length - i from o2),?_⟩
    exact Sk
  ·intro n9
   refine W.exit (thenQ_exit (thenQ_exit (blockQ_hit ?_)))
   refine thenQ_normal ?_
   refine kE tab133 hnt [(4,.i (-1:Int))] 2 [] tt ?_
   refine W.ret ?_
   exact eI (show (-1:Int)=(findI l x) from (by exact (findI_no (fun j hj=>hA j (by omega))).symm))
theorem ent133 : Entr prog 133 := ⟨_,func133,rfl,by decide⟩
end Go.Proofs.Tryz

set_option linter.unusedSimpArgs false
set_option linter.unusedVariables false
namespace Go.Proofs.Tryz
open Go.Ab Go.RowKit Go.Shelf Go.Proofs
def fs134 : FnS := fnS [.c .ints 3,.o,.o] [.ints,.int,.int] (fun _ (l,i,j,_)=>(.own 0 (List.length (l.take i.toNat++l.drop j.toNat)),[(3,.ints (l.take i.toNat++l.drop j.toNat))],(0≤i)∧(i<j)∧(j≤l.length)))
def ren23 : Go.Shelf.Ren := ⟨fun _=>134,fun k=>bif Nat.beq k 22 then 36 else bif Nat.beq k 3 then 3 else bif Nat.beq k 4 then 4 else k,fun k=>k⟩
set_option maxRecDepth 100000 in
theorem lays23 : Lays2.n23 prog ren23 where
 mixed := by kernel_rfl
 f23 := by kernel_rfl
 t0 := underlying0
 a0 := isAgg0
 z0 := sizeOf0
 v0 := zeroValue0
 t3 := underlying3
 a3 := isAgg3
 z3 := sizeOf3
 v3 := zeroValue3
 t4 := underlying4
 a4 := isAgg4
 z4 := sizeOf4
 v4 := zeroValue4
 t22 := underlying36
 a22 := isAgg36
 z22 := sizeOf36
 v22 := zeroValue36
 i3 := by kernel_rfl
theorem ok134 : FnOK prog 134 fs134 := delete_ok lays23
theorem ent134 : Entr prog 134 := ⟨_,func134,rfl,by decide⟩
end Go.Proofs.Tryz

set_option linter.unusedSimpArgs false
set_option linter.unusedVariables false
namespace Go.Proofs.Tryz
open Go.Ab Go.RowKit
def fs120 : FnS := fnS [.c .ints 3,.o] [.ints,.call] (fun _ (l,c,_)=>(.tup [.sl (.ints ((iSet l c).1)),.i ((iSet l c).2)],[],(∀ j,j<l.length→0≤l.getD j 0∧l.getD j 0≤20)∧(0≤c.arg∧c.arg≤3)∧(l.length≤20)))
abbrev T120 : Tab := lk [(133,fs133),(134,fs134)]
theorem tab120 : TabOK prog T120 := (TabOK.cons ok133 ent133 (TabOK.cons ok134 ent134 TabOK.nil))
theorem ok120 : FnOK prog 120 fs120 := by
 refine FnOK.mk cok func120 rfl rfl rfl ?_
 rintro fl ⟨(l : List Int),(c:CallD),_⟩ hpre F hnt0 _
 have hnt : F.nt=43 := hnt0.trans ntmps120
 replace hpre : (∀ j,j<l.length→0≤l.getD j 0∧l.getD j 0≤20)∧(0≤c.arg∧c.arg≤3)∧(l.length≤20) := hpre
 obtain ⟨hs,ha,hl⟩ := hpre
 refine W.to (⟨[(0,.own 999 l.length),(1,.agg [.i c.proc,.i c.obj,.i c.kind,.i c.arg,.i c.ret,.i c.frm,.i c.to])],[(999,⟨3,.row (.ints l)⟩)],[999]⟩) rfl ?_
 have hfl := find_lt l c.arg
 refine kS tab120 hnt [(0,.own 999 l.length),(3,.ptr 3 0)] [(3,⟨59,.fix [.i c.proc,.i c.obj,.i c.kind,.i c.arg,.i c.ret,.i c.frm,.i c.to]⟩),(999,⟨3,.row (.ints l)⟩)] [3,999] 182 [] tt ?_
 refine kE tab120 hnt [(0,.own 999 l.length),(3,.ptr 3 0),(6,.i (findI l c.arg))] 786519011 [l.length=l.length] rfl ?_
 refine W.seq ?_
 refine W.block ?_
 refine kE tab120 hnt [(0,.own 999 l.length),(3,.ptr 3 0),(6,.i (findI l c.arg)),(11,.b ((decide (c.kind=(0:Int))) && (decide ((findI l c.arg)<(0:Int)))))] 79404848714 ((fun (Z1:Bool)=>([Z1=true→Y,Z1=true→(((Z1=true)∧Y)∧(Y∧Y)),Z1=true→(Z1=true)∧Y,Z1=false→Y]:PL)) (decide (c.kind=(0:Int)))) ⟨(fun _=>trivial),(fun hG=>⟨⟨hG,tt⟩,tt,tt⟩),(fun hp=>⟨hp,tt⟩),(fun _=>trivial)⟩ ?_
 refine ifb ((decide (c.kind=(0:Int))) && (decide ((findI l c.arg)<(0:Int)))) ?_ ?_
 ·intro h11
  have h11_0 : c.kind=(0:Int) := of_decide_eq_true (and_l h11)
  have h11_1 : (findI l c.arg)<(0:Int) := of_decide_eq_true (and_r h11)
  refine kS tab120 hnt [(4,.sl (.ints (l++([c.arg])))),(5,.i (1:Int))] [(3,⟨59,.fix [.i c.proc,.i c.obj,.i c.kind,.i c.arg,.i c.ret,.i c.frm,.i c.to]⟩)] [23,22,3,999] 7912572014 [l.length=l.length,(l.length+(List.length ([c.arg]))) * 8≤140737488355328] ⟨rfl,ow⟩ ?_
  refine W.ret (blockQ_ret (thenQ_ret ?_))
  exact endQ_ret (.tup [.sl (.ints (l++([c.arg]))),.i (1:Int)]) (by kernel_rfl) (@cast (((.ints (l++([c.arg])):Dat)=.ints ((iSet l c).1))∧((.int .i64 (1:Int):Value)=.int .i64 ((iSet l c).2))∧Y) _ (by kernel_rfl) ⟨(congrArg Dat.ints (by first | (simp only [iSet,h11,(and_l h11),(and_r h11),bb]; done) | simp only [iSet,h11,(and_l h11),(and_r h11),bb])),(congrArg (Value.int .i64) (by first | (simp only [iSet,h11,(and_l h11),(and_r h11),bb]; done) | simp only [iSet,h11,(and_l h11),(and_r h11),bb])),tt⟩)
 ·intro n11
  refine kE tab120 hnt [(0,.own 999 l.length),(3,.ptr 3 0),(6,.i (findI l c.arg)),(24,.b ((decide (c.kind=(0:Int))) || (decide ((findI l c.arg)<(0:Int)))))] 79404848714 ((fun (Z1:Bool)=>([(!Z1)=true→Y,(!Z1)=true→((((!Z1)=true)∧Y)∧(Y∧Y)),Z1=true→Y,Z1=false→((!Z1)=true)∧Y]:PL)) (decide (c.kind=(0:Int)))) ⟨(fun _=>trivial),(fun hG=>⟨⟨hG,tt⟩,tt,tt⟩),(fun _=>trivial),(fun hp=>⟨(not_t hp),tt⟩)⟩ ?_
  refine ifb ((decide (c.kind=(0:Int))) || (decide ((findI l c.arg)<(0:Int)))) ?_ ?_
  ·intro h24
   refine kE tab120 hnt [(4,.own 999 l.length),(5,.i (0:Int))] 182 [] tt ?_
   refine W.ret (blockQ_ret (thenQ_ret ?_))
   exact endQ_ret (.tup [.own 999 l.length,.i (0:Int)]) (by kernel_rfl) (@cast (((l.length=l.length)∧((.ints l:Dat)=.ints ((iSet l c).1))∧((999:Nat) ∉ ([] : List Nat)))∧((.int .i64 (0:Int):Value)=.int .i64 ((iSet l c).2))∧Y) _ (by kernel_rfl) ⟨⟨rfl,(congrArg Dat.ints (by first | (simp only [iSet,h24,n11,bb]; done) | simp only [iSet,h24,n11,bb])),(by decide)⟩,(congrArg (Value.int .i64) (by first | (simp only [iSet,h24,n11,bb]; done) | simp only [iSet,h24,n11,bb])),tt⟩)
  ·intro n24
   have n24_0 : ¬ (c.kind=(0:Int)) := of_decide_eq_false (or_l n24)
   have n24_1 : ¬ ((findI l c.arg)<(0:Int)) := of_decide_eq_false (or_r n24)
   refine kE tab120 hnt [(0,.own 999 l.length),(6,.i (findI l c.arg)),(33,.b (decide (c.kind=(1:Int))))] 123140 [] tt ?_
   refine ifp (c.kind=(1:Int)) ?_ ?_
   ·intro h33
    refine kS tab120 hnt [(4,.own 41 (List.length (l.take (findI l c.arg).toNat++l.drop ((findI l c.arg)+(1:Int)).toNat))),(5,.i (1:Int))] [(3,⟨59,.fix [.i c.proc,.i c.obj,.i c.kind,.i c.arg,.i c.ret,.i c.frm,.i c.to]⟩),(41,⟨3,.row (.ints (l.take (findI l c.arg).toNat++l.drop ((findI l c.arg)+(1:Int)).toNat))⟩)] [41,3,999] 4228888725225137 [Fits .i64 ((findI l c.arg)+(1:Int)),l.length=l.length,0≤(findI l c.arg),(findI l c.arg)<((findI l c.arg)+(1:Int)),((findI l c.arg)+(1:Int))≤l.length] ⟨fi,rfl,om,om,om⟩ ?_ [41]
    refine W.ret (blockQ_ret (thenQ_ret ?_))
    exact endQ_ret (.tup [.own 41 (List.length (l.take (findI l c.arg).toNat++l.drop ((findI l c.arg)+(1:Int)).toNat)),.i (1:Int)]) (by kernel_rfl) (@cast ((((List.length (l.take (findI l c.arg).toNat++l.drop ((findI l c.arg)+(1:Int)).toNat))=(List.length (l.take (findI l c.arg).toNat++l.drop ((findI l c.arg)+(1:Int)).toNat)))∧((.ints (l.take (findI l c.arg).toNat++l.drop ((findI l c.arg)+(1:Int)).toNat):Dat)=.ints ((iSet l c).1))∧((41:Nat) ∉ ([] : List Nat)))∧((.int .i64 (1:Int):Value)=.int .i64 ((iSet l c).2))∧Y) _ (by kernel_rfl) ⟨⟨rfl,(congrArg Dat.ints (by first | (simp only [iSet,(decide_eq_true h33),n11,n24,(or_l n24),(or_r n24),bb]; done) | simp only [iSet,(decide_eq_true h33),n11,n24,(or_l n24),(or_r n24),bb])),(by decide)⟩,(congrArg (Value.int .i64) (by first | (simp only [iSet,(decide_eq_true h33),n11,n24,(or_l n24),(or_r n24),bb]; done) | simp only [iSet,(decide_eq_true h33),n11,n24,(or_l n24),(or_r n24),bb])),tt⟩)
   ·intro n33
    refine W.skip (blockQ_normal (thenQ_normal ?_))
    refine kE tab120 hnt [(4,.own 999 l.length),(5,.i (1:Int))] 182 [] tt ?_
    refine W.ret ?_
    exact endQ_ret (.tup [.own 999 l.length,.i (1:Int)]) (by kernel_rfl) (@cast (((l.length=l.length)∧((.ints l:Dat)=.ints ((iSet l c).1))∧((999:Nat) ∉ ([] : List Nat)))∧((.int .i64 (1:Int):Value)=.int .i64 ((iSet l c).2))∧Y) _ (by kernel_rfl) ⟨⟨rfl,(congrArg Dat.ints (by first | (simp only [iSet,n11,n24,(or_l n24),(or_r n24),(decide_eq_false n33),bb]; done) | simp only [iSet,n11,n24,(or_l n24),(or_r n24),(decide_eq_false n33),bb])),(by decide)⟩,(congrArg (Value.int .i64) (by first | (simp only [iSet,n11,n24,(or_l n24),(or_r n24),(decide_eq_false n33),bb]; done) | simp only [iSet,n11,n24,(or_l n24),(or_r n24),(decide_eq_false n33),bb])),tt⟩)
theorem ent120 : Entr prog 120 := ⟨_,func120,rfl,by decide⟩
end Go.Proofs.Tryz
