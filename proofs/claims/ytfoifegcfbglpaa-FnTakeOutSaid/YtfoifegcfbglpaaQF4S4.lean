import Derived.Test.YtfoifegcfbglpaaQF4S0
import Derived.Test.YtfoifegcfbglpaaQF4S1
set_option linter.unusedSimpArgs false
set_option linter.unusedVariables false
namespace Go.Proofs.Try
open Go.Ab Go.RowKit
abbrev T31n : Tab := lk [(13,fs13)]
theorem tab31n : TabOK prog T31n := (TabOK.cons ok13 ent13 TabOK.nil)
theorem ent31n : Entr prog 31 := ⟨_,func31,rfl,by decide⟩
set_option maxRecDepth 100000 in
set_option maxHeartbeats 1000000 in
theorem hok31n : ∀ (cu : List Int) (cd : List Int) (cv : Int) (ct : Int) (cp : Int) (cm : List MarkD),((validCopy (⟨cu,cd,cv,ct,cp,cm⟩ : CopyD) = false)) → HOK prog 31 [911,912,913] [.agg [.own 911 cu.length,.own 912 cd.length,.i cv,.i ct,.i cp,.own 913 cm.length]] [(911,⟨3,.row (.ints cu)⟩),(912,⟨3,.row (.ints cd)⟩),(913,⟨33,.row (.marks cm)⟩)] [911,912,913] (fun r s1 u1 => r = (.tup [.agg [.v (.slice none 0 0),.v (.slice none 0 0),.i (0 : Int),.i (0 : Int),.i (0 : Int),.v (.slice none 0 0)],.b false]) ∧ s1 = ([(911,⟨3,.row (.ints cu)⟩),(912,⟨3,.row (.ints cd)⟩),(913,⟨33,.row (.marks cm)⟩)]) ∧ u1 = ([911,912,913])) := by
 intro cu cd cv ct cp cm hpre
 have hV := hpre
 refine HOK.of cok func31 rfl rfl rfl ?_
 intro F hnt0
 have hnt : F.nt = 9 := hnt0.trans ntmps31
 refine W.to (⟨[(0,.agg [.own 911 cu.length,.own 912 cd.length,.i cv,.i ct,.i cp,.own 913 cm.length])],[(911,⟨3,.row (.ints cu)⟩),(912,⟨3,.row (.ints cd)⟩),(913,⟨33,.row (.marks cm)⟩)],[911,912,913]⟩) rfl ?_
 refine Kk cok tab31n hnt [] [1,2] (⟨[(1,.ptr 1 0),(2,.ptr 2 0)],[(1,⟨26,.fix [.own 911 cu.length,.own 912 cd.length,.i cv,.i ct,.i cp,.own 913 cm.length]⟩),(2,⟨26,.fix [.v (.slice none 0 0),.v (.slice none 0 0),.i (0 : Int),.i (0 : Int),.i (0 : Int),.v (.slice none 0 0)]⟩),(911,⟨3,.row (.ints cu)⟩),(912,⟨3,.row (.ints cd)⟩),(913,⟨33,.row (.marks cm)⟩)],[2,1,911,912,913]⟩)
  (True ∧ True ∧ True ∧ True)
  ⟨tt,tt,tt,tt⟩ ?_
 refine W.seq ?_
 refine Kk cok tab31n hnt [] [1,2,6] (⟨[(1,.ptr 1 0),(2,.ptr 2 0),(6,.b (!(validCopy ⟨cu,cd,cv,ct,cp,cm⟩)))],[(1,⟨26,.fix [.own 911 cu.length,.own 912 cd.length,.i cv,.i ct,.i cp,.own 913 cm.length]⟩),(2,⟨26,.fix [.v (.slice none 0 0),.v (.slice none 0 0),.i (0 : Int),.i (0 : Int),.i (0 : Int),.v (.slice none 0 0)]⟩),(911,⟨3,.row (.ints cu)⟩),(912,⟨3,.row (.ints cd)⟩),(913,⟨33,.row (.marks cm)⟩)],[2,1,911,912,913]⟩)
  (True ∧ (True ∧ ((True ∧ (True ∧ (cu.length = cu.length)) ∧ (True ∧ (cd.length = cd.length)) ∧ True ∧ True ∧ True ∧ (True ∧ (cm.length = cm.length)) ∧ True) ∧ True) ∧ True) ∧ True ∧ True)
  ⟨tt,⟨tt,⟨⟨tt,⟨tt,rfl⟩,⟨tt,rfl⟩,tt,tt,tt,⟨tt,rfl⟩,tt⟩,tt⟩,tt⟩,tt,tt⟩ ?_
 refine W.if' (!(validCopy ⟨cu,cd,cv,ct,cp,cm⟩)) (.b (!(validCopy ⟨cu,cd,cv,ct,cp,cm⟩))) (by kernel_rfl) rfl trivial ?_ ?_
 ·intro h6
  refine Kk cok tab31n hnt [] [2,3] (⟨[(2,.ptr 2 0),(3,.b false)],[(1,⟨26,.fix [.own 911 cu.length,.own 912 cd.length,.i cv,.i ct,.i cp,.own 913 cm.length]⟩),(2,⟨26,.fix [.v (.slice none 0 0),.v (.slice none 0 0),.i (0 : Int),.i (0 : Int),.i (0 : Int),.v (.slice none 0 0)]⟩),(911,⟨3,.row (.ints cu)⟩),(912,⟨3,.row (.ints cd)⟩),(913,⟨33,.row (.marks cm)⟩)],[2,1,911,912,913]⟩)
   (True ∧ (True ∧ True) ∧ True ∧ True)
   ⟨tt,⟨tt,tt⟩,tt,tt⟩ ?_
  refine W.ret (thenQ_ret ?_)
  exact endH_ret (.tup [.agg [.v (.slice none 0 0),.v (.slice none 0 0),.i (0 : Int),.i (0 : Int),.i (0 : Int),.v (.slice none 0 0)],.b false]) [(911,⟨3,.row (.ints cu)⟩),(912,⟨3,.row (.ints cd)⟩),(913,⟨33,.row (.marks cm)⟩)] [911,912,913] ⟨rfl,rfl,rfl⟩ [(911,911),(912,912),(913,913)] (.tup [.agg [.v (.slice none 0 0),.v (.slice none 0 0),.i (0 : Int),.i (0 : Int),.i (0 : Int),.v (.slice none 0 0)],.b false]) (by kernel_rfl) (@cast (((((Value.slice none 0 0 : Value) = .slice none 0 0) ∧ ((Value.slice none 0 0 : Value) = .slice none 0 0) ∧ (Si (0 : Int)) ∧ (Si (0 : Int)) ∧ (Si (0 : Int)) ∧ ((Value.slice none 0 0 : Value) = .slice none 0 0) ∧ True) ∧ (Sv (.bool false)) ∧ True) ∧ ((((3 : Nat) = 3) ∧ (Sd (.ints cu)) ∧ ((911 : Nat) ∈ ([911,912,913] : List Nat))) ∧ (((3 : Nat) = 3) ∧ (Sd (.ints cd)) ∧ ((912 : Nat) ∈ ([911,912,913] : List Nat))) ∧ (((33 : Nat) = 33) ∧ (Sd (.marks cm)) ∧ ((913 : Nat) ∈ ([911,912,913] : List Nat))) ∧ True) ∧ (true = true) ∧ (true = true)) _ (by kernel_rfl) ⟨⟨⟨rfl,rfl,rfl,rfl,rfl,rfl,tt⟩,rfl,tt⟩,⟨⟨rfl,rfl,(by decide)⟩,⟨rfl,rfl,(by decide)⟩,⟨rfl,rfl,(by decide)⟩,tt⟩,rfl,rfl⟩)
 ·intro n6
  exact (show False from (by rw [hV] at n6; cases n6)).elim
end Go.Proofs.Try
