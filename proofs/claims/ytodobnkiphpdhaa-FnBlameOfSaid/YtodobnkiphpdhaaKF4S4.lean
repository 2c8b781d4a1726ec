import Derived.Test.YtodobnkiphpdhaaKF4S0
import Derived.Test.YtodobnkiphpdhaaKF4S3
import Derived.Test.YtodobnkiphpdhaaKF4S1
import Derived.Test.YtodobnkiphpdhaaKF4S2
set_option linter.unusedSimpArgs false
set_option linter.unusedVariables false
namespace Go.Proofs.Try
open Go.Ab Go.RowKit
def fs24 : FnS := fnS [.o,.s .calls,.s .ints] [.str,.calls,.ints] (fun _ (s,h,rows,_) => (.sl (.intss (ordersF s h (bitF rows) h.length [])),[],(isObject s = true) ∧ (validHistory h = true) ∧ (rows = rowsOf h.length (bitF rows))))
abbrev T24 : Tab := lk []
theorem tab24 : TabOK prog T24 := TabOK.nil
set_option maxRecDepth 100000 in
set_option maxHeartbeats 1000000 in
theorem ok24 : FnOK prog 24 fs24 := by
 refine FnOK.mk cok func24 rfl rfl rfl ?_
 rintro fl ⟨(s : ByteArray),(h : List CallD),(rows : List Int),_⟩ hpre F hnt0 _
 have hnt : F.nt = 17 := hnt0.trans ntmps24
 replace hpre : (isObject s = true) ∧ (validHistory h = true) ∧ (rows = rowsOf h.length (bitF rows)) := hpre
 obtain ⟨hs,hv,hr⟩ := hpre
 refine W.to (⟨[(0,.v (.string s)),(1,.sl (.calls h)),(2,.sl (.ints rows))],[],[999]⟩) rfl ?_
 have hv6 := (valid_iff.1 hv).1
 refine W.lenOf 1 (.calls h) (by kernel_rfl) ?_
 intro hl_h; replace hl_h : List.length h ≤ 9223372036854775807 := hl_h
 refine W.lenOf 2 (.ints rows) (by kernel_rfl) ?_
 intro hl_rows; replace hl_rows : List.length rows ≤ 9223372036854775807 := hl_rows
 refine W.K cok tab24 hnt [] [3,4,5] (⟨[(3,.ptr 3 0),(4,.ptr 4 0),(5,.ptr 5 0)],[(3,⟨9,.fix [.v (.string s)]⟩),(4,⟨23,.fix [.sl (.calls h)]⟩),(5,⟨29,.fix [.sl (.ints rows)]⟩)],[5,4,3,999]⟩)
  (True ∧ True ∧ True ∧ True ∧ True) (by kernel_rfl)
  ⟨tt,tt,tt,tt,tt⟩ ?_
 refine W.subS [] (⟨[(3,.ep [.v (.string s)]),(4,.ep [.sl (.calls h)]),(5,.ep [.sl (.ints rows)])],[],[999]⟩) (@cast ((((([.v (.string s)] : List AV) = [.v (.string s)]) ∧ ((([] : List Nat) = []) ∧ ((3 : Nat) ∉ ([] : List Nat)))) ∧ (((([.sl (.calls h)] : List AV) = [.sl (.calls h)]) ∧ ((([] : List Nat) = []) ∧ ((4 : Nat) ∉ ([] : List Nat)))) ∧ (((([.sl (.ints rows)] : List AV) = [.sl (.ints rows)]) ∧ ((([] : List Nat) = []) ∧ ((5 : Nat) ∉ ([] : List Nat)))) ∧ True))) ∧ (True ∧ ((true = true) ∧ (true = true)))) _ (by kernel_rfl) ⟨⟨⟨rfl,rfl,(by decide)⟩,⟨rfl,rfl,(by decide)⟩,⟨rfl,rfl,(by decide)⟩,tt⟩,tt,rfl,rfl⟩) ?_
 refine W.K cok tab24 hnt [11] [3,4,5,7] (⟨[(3,.ep [.v (.string s)]),(4,.ep [.sl (.calls h)]),(5,.ep [.sl (.ints rows)]),(7,.ptr 7 0)],[(7,⟨26,.fix [.own 11 (List.length ([] : List (List Int)))]⟩),(11,⟨29,.row (.intss ([] : List (List Int)))⟩)],[7,11,999]⟩)
  (True ∧ True ∧ (True ∧ True) ∧ True) (by kernel_rfl)
  ⟨tt,tt,⟨tt,tt⟩,tt⟩ ?_
 refine W.K cok tab24 hnt [12] [3,4,5,7,8,9] (⟨[(3,.ep [.v (.string s)]),(4,.ep [.sl (.calls h)]),(5,.ep [.sl (.ints rows)]),(7,.ptr 7 0),(8,.ptr 8 0),(9,.ptr 9 0)],[(7,⟨26,.fix [.own 11 (List.length ([] : List (List Int)))]⟩),(8,⟨29,.fix [.own 12 (List.length ([] : List Int))]⟩),(9,⟨3,.fix [.i (0 : Int)]⟩),(11,⟨29,.row (.intss ([] : List (List Int)))⟩),(12,⟨3,.row (.ints ([] : List Int))⟩)],[9,8,12,7,11,999]⟩)
  (True ∧ True ∧ True ∧ (True ∧ True) ∧ (True ∧ True) ∧ True) (by kernel_rfl)
  ⟨tt,tt,tt,⟨tt,tt⟩,⟨tt,tt⟩,tt⟩ ?_
 refine W.K cok tab24 hnt [] [3,4,5,7,8,9,10] (⟨[(3,.ep [.v (.string s)]),(4,.ep [.sl (.calls h)]),(5,.ep [.sl (.ints rows)]),(7,.ptr 7 0),(8,.ptr 8 0),(9,.ptr 9 0),(10,.ptr 10 0)],[(7,⟨26,.fix [.own 11 (List.length ([] : List (List Int)))]⟩),(8,⟨29,.fix [.own 12 (List.length ([] : List Int))]⟩),(9,⟨3,.fix [.i (0 : Int)]⟩),(10,⟨1,.fix [.v (.nilFunc)]⟩),(11,⟨29,.row (.intss ([] : List (List Int)))⟩),(12,⟨3,.row (.ints ([] : List Int))⟩)],[10,9,8,12,7,11,999]⟩)
  (True ∧ True) (by kernel_rfl)
  ⟨tt,tt⟩ ?_
 refine W.K cok tab24 hnt [] [7,10] (⟨[(7,.ptr 7 0),(10,.ptr 10 0)],[(7,⟨26,.fix [.own 11 (List.length ([] : List (List Int)))]⟩),(8,⟨29,.fix [.own 12 (List.length ([] : List Int))]⟩),(9,⟨3,.fix [.i (0 : Int)]⟩),(10,⟨1,.fix [.fn 42 [.ptr 8 0,.ep [.sl (.calls h)],.ep [.v (.string s)],.ptr 7 0,.ptr 9 0,.ep [.sl (.ints rows)],.ptr 10 0]]⟩),(11,⟨29,.row (.intss ([] : List (List Int)))⟩),(12,⟨3,.row (.ints ([] : List Int))⟩)],[10,9,8,12,7,11,999]⟩)
  (True ∧ (True ∧ True) ∧ True) (by kernel_rfl)
  ⟨tt,⟨tt,tt⟩,tt⟩ ?_
 refine W.seq (W.wi ?_)
 refine WI.runT cok tab24 hnt [] 1 1 (⟨[(7,.ptr 7 0),(10,.ptr 10 0),(14,.fn 42 [.ptr 8 0,.ep [.sl (.calls h)],.ep [.v (.string s)],.ptr 7 0,.ptr 9 0,.ep [.sl (.ints rows)],.ptr 10 0])],[(7,⟨26,.fix [.own 11 (List.length ([] : List (List Int)))]⟩),(8,⟨29,.fix [.own 12 (List.length ([] : List Int))]⟩),(9,⟨3,.fix [.i (0 : Int)]⟩),(10,⟨1,.fix [.fn 42 [.ptr 8 0,.ep [.sl (.calls h)],.ep [.v (.string s)],.ptr 7 0,.ptr 9 0,.ep [.sl (.ints rows)],.ptr 10 0]]⟩),(11,⟨29,.row (.intss ([] : List (List Int)))⟩),(12,⟨3,.row (.ints ([] : List Int))⟩)],[10,9,8,12,7,11,999]⟩)
  (True ∧ True) (by kernel_rfl) rfl
  ⟨tt,tt⟩ ?_
 refine WI.callH _ [] [.ptr 8 0,.ep [.sl (.calls h)],.ep [.v (.string s)],.ptr 7 0,.ptr 9 0,.ep [.sl (.ints rows)],.ptr 10 0] (.fn 42 [.ptr 8 0,.ep [.sl (.calls h)],.ep [.v (.string s)],.ptr 7 0,.ptr 9 0,.ep [.sl (.ints rows)],.ptr 10 0]) _ _ [(901,8),(811,12),(902,7),(812,11),(903,9),(904,10)] (hok42 s h (bitF rows) rows ([] : List Int) (0 : Int) ([] : List (List Int)) ⟨(by exact hs),(by exact hv),(by exact hr),(by exact headO_nil h),(by exact (used_nil _).symm),(by have := pow6_le hv6; simp; omega)⟩) ent42 hnt rfl rfl (wanted_none rfl) (by kernel_rfl) (by kernel_rfl) trivial (by kernel_rfl) (by kernel_rfl) (by kernel_rfl) (@cast (((some ⟨3,.row (.ints ([] : List Int))⟩ : Option LB) = some ⟨3,.row (.ints ([] : List Int))⟩) ∧ ((true = true) ∧ (((some ⟨29,.row (.intss ([] : List (List Int)))⟩ : Option LB) = some ⟨29,.row (.intss ([] : List (List Int)))⟩) ∧ ((true = true) ∧ (((some ⟨29,.fix [.own 12 (List.length ([] : List Int))]⟩ : Option LB) = some ⟨29,.fix [.own 12 (List.length ([] : List Int))]⟩) ∧ ((true = true) ∧ (((some ⟨26,.fix [.own 11 (List.length ([] : List (List Int)))]⟩ : Option LB) = some ⟨26,.fix [.own 11 (List.length ([] : List (List Int)))]⟩) ∧ ((true = true) ∧ (((some ⟨3,.fix [.i (0 : Int)]⟩ : Option LB) = some ⟨3,.fix [.i (0 : Int)]⟩) ∧ ((true = true) ∧ (((some ⟨1,.fix [.fn 42 [.ptr 8 0,.ep [.sl (.calls h)],.ep [.v (.string s)],.ptr 7 0,.ptr 9 0,.ep [.sl (.ints rows)],.ptr 10 0]]⟩ : Option LB) = some ⟨1,.fix [.fn 42 [.ptr 8 0,.ep [.sl (.calls h)],.ep [.v (.string s)],.ptr 7 0,.ptr 9 0,.ep [.sl (.ints rows)],.ptr 10 0]]⟩) ∧ ((true = true) ∧ (True))))))))))))) _ (by kernel_rfl) ⟨rfl,rfl,rfl,rfl,rfl,rfl,rfl,rfl,rfl,rfl,rfl,rfl,tt⟩) (by kernel_rfl) rfl ?_
 rintro r s1 u1 ⟨rfl,rfl,rfl⟩
 refine ⟨[(901,8),(902,7),(903,9),(904,10),(811,15),(812,1015)],by kernel_rfl,WI.to (⟨[(7,.ptr 7 0),(10,.ptr 10 0),(14,.fn 42 [.ptr 8 0,.ep [.sl (.calls h)],.ep [.v (.string s)],.ptr 7 0,.ptr 9 0,.ep [.sl (.ints rows)],.ptr 10 0]),(15,.tup [])],[(7,⟨26,.fix [.own 1015 (List.length (([] : List (List Int)) ++ ordersF s h (bitF rows) (h.length - ([] : List Int).length) ([] : List Int)))]⟩),(8,⟨29,.fix [.own 15 (List.length ([] : List Int))]⟩),(9,⟨3,.fix [.i (0 : Int)]⟩),(10,⟨1,.fix [.fn 42 [.ptr 8 0,.ep [.sl (.calls h)],.ep [.v (.string s)],.ptr 7 0,.ptr 9 0,.ep [.sl (.ints rows)],.ptr 10 0]]⟩),(15,⟨3,.row (.ints ([] : List Int))⟩),(1015,⟨29,.row (.intss (([] : List (List Int)) ++ ordersF s h (bitF rows) (h.length - ([] : List Int).length) ([] : List Int)))⟩)],[1015,15,10,9,8,12,7,11,999]⟩) 2 (by kernel_rfl) rfl ?_⟩
 refine WI.nil rfl (thenQ_normal ?_)
 refine W.keepE [7] [(7,.ptr 7 0)] (by kernel_rfl) ?_
 refine W.to (⟨[(7,.ptr 7 0)],[(7,⟨26,.fix [.own 1015 (List.length (([] : List (List Int)) ++ ordersF s h (bitF rows) (h.length - ([] : List Int).length) ([] : List Int)))]⟩),(8,⟨29,.fix [.own 15 (List.length ([] : List Int))]⟩),(9,⟨3,.fix [.i (0 : Int)]⟩),(10,⟨1,.fix [.fn 42 [.ptr 8 0,.ep [.sl (.calls h)],.ep [.v (.string s)],.ptr 7 0,.ptr 9 0,.ep [.sl (.ints rows)],.ptr 10 0]]⟩),(15,⟨3,.row (.ints ([] : List Int))⟩),(1015,⟨29,.row (.intss (([] : List (List Int)) ++ ordersF s h (bitF rows) (h.length - ([] : List Int).length) ([] : List Int)))⟩)],[1015,15,10,9,8,12,7,11,999]⟩) rfl ?_
 refine W.K cok tab24 hnt [] [6] (⟨[(6,.own 1015 (List.length (([] : List (List Int)) ++ ordersF s h (bitF rows) (h.length - ([] : List Int).length) ([] : List Int))))],[(7,⟨26,.fix [.own 1015 (List.length (([] : List (List Int)) ++ ordersF s h (bitF rows) (h.length - ([] : List Int).length) ([] : List Int)))]⟩),(8,⟨29,.fix [.own 15 (List.length ([] : List Int))]⟩),(9,⟨3,.fix [.i (0 : Int)]⟩),(10,⟨1,.fix [.fn 42 [.ptr 8 0,.ep [.sl (.calls h)],.ep [.v (.string s)],.ptr 7 0,.ptr 9 0,.ep [.sl (.ints rows)],.ptr 10 0]]⟩),(15,⟨3,.row (.ints ([] : List Int))⟩),(1015,⟨29,.row (.intss (([] : List (List Int)) ++ ordersF s h (bitF rows) (h.length - ([] : List Int).length) ([] : List Int)))⟩)],[1015,15,10,9,8,12,7,11,999]⟩)
  (True ∧ True ∧ True) (by kernel_rfl)
  ⟨tt,tt,tt⟩ ?_
 refine W.ret ?_
 exact endQ_ret (.own 1015 (List.length (([] : List (List Int)) ++ ordersF s h (bitF rows) (h.length - ([] : List Int).length) ([] : List Int)))) (by kernel_rfl) (@cast (((List.length (([] : List (List Int)) ++ ordersF s h (bitF rows) (h.length - ([] : List Int).length) ([] : List Int))) = (List.length (([] : List (List Int)) ++ ordersF s h (bitF rows) (h.length - ([] : List Int).length) ([] : List Int)))) ∧ (((.intss (([] : List (List Int)) ++ ordersF s h (bitF rows) (h.length - ([] : List Int).length) ([] : List Int)) : Dat) = .intss (ordersF s h (bitF rows) h.length [])) ∧ ((1015 : Nat) ∉ ([] : List Nat)))) _ (by kernel_rfl) ⟨rfl,⟨(congrArg Dat.intss (by simp)),(by decide)⟩⟩)
theorem ent24 : Entr prog 24 := ⟨_,func24,rfl,by decide⟩
end Go.Proofs.Try

set_option linter.unusedSimpArgs false
set_option linter.unusedVariables false
namespace Go.Proofs.Try
open Go.Ab Go.RowKit
def fs6 : FnS := fnS [.o,.s .calls] [.str,.calls] (fun _ (s,h,_) => (.sl (.intss (ordersBy s h (aheadF h))),[],True))
abbrev T6 : Tab := lk [(22,fs22),(23,fs23),(24,fs24),(25,fs25)]
theorem tab6 : TabOK prog T6 := (TabOK.cons ok22 ent22 (TabOK.cons ok23 ent23 (TabOK.cons ok24 ent24 (TabOK.cons ok25 ent25 TabOK.nil))))
set_option maxRecDepth 100000 in
set_option maxHeartbeats 1000000 in
theorem ok6 : FnOK prog 6 fs6 := by
 refine FnOK.mk cok func6 rfl rfl rfl ?_
 rintro fl ⟨(s : ByteArray),(h : List CallD),_⟩ hpre F hnt0 _
 have hnt : F.nt = 18 := hnt0.trans ntmps6
 clear hpre
 refine W.to (⟨[(0,.v (.string s)),(1,.sl (.calls h))],[],[999]⟩) rfl ?_
 refine W.lenOf 1 (.calls h) (by kernel_rfl) ?_
 intro hl_h; replace hl_h : List.length h ≤ 9223372036854775807 := hl_h
 refine W.K cok tab6 hnt [] [0,1] (⟨[(0,.v (.string s)),(1,.sl (.calls h))],[],[999]⟩)
  (True ∧ True) (by kernel_rfl)
  ⟨tt,tt⟩ ?_
 refine W.seq ?_
 refine W.K cok tab6 hnt [] [0,1,12] (⟨[(0,.v (.string s)),(1,.sl (.calls h)),(12,.b ((!(isObject s)) || (!(validHistory h))))],[],[999]⟩)
  (True ∧ (True ∧ (True ∧ True) ∧ True) ∧ True ∧ True ∧ ((!(!(isObject s))) = true → True) ∧ ((!(!(isObject s))) = true → (True ∧ ((((!(!(isObject s))) = true) ∧ True) ∧ True) ∧ True)) ∧ ((!(!(isObject s))) = true → (((!(!(isObject s))) = true) ∧ True)) ∧ (True ∧ ((!(isObject s)) = true → True) ∧ ((!(isObject s)) = false → ((!(!(isObject s))) = true) ∧ True)) ∧ True) (by kernel_rfl)
  ⟨tt,⟨tt,⟨tt,tt⟩,tt⟩,tt,tt,(fun _ => trivial),(fun hG => ⟨tt,⟨⟨hG,tt⟩,tt⟩,tt⟩),(fun hG => ⟨hG,tt⟩),⟨tt,(fun _ => trivial),(fun hp => ⟨(not_t hp),tt⟩)⟩,tt⟩ ?_
 refine W.if' ((!(isObject s)) || (!(validHistory h))) (.b ((!(isObject s)) || (!(validHistory h)))) (by kernel_rfl) rfl trivial ?_ ?_
 ·intro h12
  refine W.K cok tab6 hnt [] [4] (⟨[(4,.v (.slice none 0 0))],[],[999]⟩)
   (True ∧ True) (by kernel_rfl)
   ⟨tt,tt⟩ ?_
  refine W.ret (thenQ_ret ?_)
  exact endQ_ret (.v (.slice none 0 0)) (by kernel_rfl) (@cast (((Value.slice none 0 0 : Value) = .slice none 0 0) ∧ ((Dat.intss (ordersBy s h (aheadF h))).len = 0)) _ (by kernel_rfl) ⟨rfl,(by show List.length (ordersBy s h (aheadF h)) = 0; first | exact (by_no' h12).symm | (rw [by_no' h12]; rfl))⟩)
 ·intro n12
  refine W.skip (thenQ_normal ?_)
  refine W.K cok tab6 hnt [] [4] (⟨[(4,.sl (.intss (ordersF s h (bitF (aheadOf h)) h.length [])))],[],[999]⟩)
   (True ∧ True ∧ True ∧ (True ∧ (True ∧ True) ∧ True) ∧ (True ∧ (True ∧ True ∧ True ∧ True) ∧ (isObject s = true) ∧ (validHistory h = true) ∧ ((aheadOf h) = rowsOf h.length (bitF (aheadOf h)))) ∧ True ∧ True) (by kernel_rfl)
   ⟨tt,tt,tt,⟨tt,⟨tt,tt⟩,tt⟩,⟨tt,⟨tt,tt,tt,tt⟩,(by exact and_l (by_yes' n12)),(by exact and_r (by_yes' n12)),(by exact ahead_rows (and_r (by_yes' n12)))⟩,tt,tt⟩ ?_
  refine W.ret ?_
  exact endQ_ret (.sl (.intss (ordersF s h (bitF (aheadOf h)) h.length []))) (by kernel_rfl) (@cast ((.intss (ordersF s h (bitF (aheadOf h)) h.length []) : Dat) = .intss (ordersBy s h (aheadF h))) _ (by kernel_rfl) (congrArg Dat.intss (by exact by_val (by_yes' n12) (ahead_eq (and_r (by_yes' n12))))))
theorem ent6 : Entr prog 6 := ⟨_,func6,rfl,by decide⟩
end Go.Proofs.Try

set_option linter.unusedSimpArgs false
set_option linter.unusedVariables false
namespace Go.Proofs.Try
open Go.Ab Go.RowKit
def fs18 : FnS := fnS [.o,.s .calls] [.str,.calls] (fun _ (s,h,_) => (.b (explains s h (aheadF h)),[],True))
abbrev T18 : Tab := lk [(6,fs6)]
theorem tab18 : TabOK prog T18 := (TabOK.cons ok6 ent6 TabOK.nil)
set_option maxRecDepth 100000 in
set_option maxHeartbeats 1000000 in
theorem ok18 : FnOK prog 18 fs18 := by
 refine FnOK.mk cok func18 rfl rfl rfl ?_
 rintro fl ⟨(s : ByteArray),(h : List CallD),_⟩ hpre F hnt0 _
 have hnt : F.nt = 10 := hnt0.trans ntmps18
 clear hpre
 refine W.to (⟨[(0,.v (.string s)),(1,.sl (.calls h))],[],[999]⟩) rfl ?_
 refine W.lenOf 1 (.calls h) (by kernel_rfl) ?_
 intro hl_h; replace hl_h : List.length h ≤ 9223372036854775807 := hl_h
 refine W.K cok tab18 hnt [] [0,1] (⟨[(0,.v (.string s)),(1,.sl (.calls h))],[],[999]⟩)
  (True ∧ True) (by kernel_rfl)
  ⟨tt,tt⟩ ?_
 refine W.K cok tab18 hnt [] [4] (⟨[(4,.b (decide ((0 : Int) < (((List.length (ordersBy s h (aheadF h))) : Nat) : Int))))],[],[999]⟩)
  (True ∧ True ∧ (True ∧ (True ∧ True ∧ True) ∧ True) ∧ True ∧ (True ∧ True ∧ True) ∧ True ∧ True) (by kernel_rfl)
  ⟨tt,tt,⟨tt,⟨tt,tt,tt⟩,tt⟩,tt,⟨tt,tt,tt⟩,tt,tt⟩ ?_
 refine W.ret ?_
 exact endQ_ret (.b (decide ((0 : Int) < (((List.length (ordersBy s h (aheadF h))) : Nat) : Int)))) (by kernel_rfl) (@cast ((.bool (decide ((0 : Int) < (((List.length (ordersBy s h (aheadF h))) : Nat) : Int))) : Value) = .bool (explains s h (aheadF h))) _ (by kernel_rfl) (congrArg Value.bool (by rfl)))
theorem ent18 : Entr prog 18 := ⟨_,func18,rfl,by decide⟩
end Go.Proofs.Try

set_option linter.unusedSimpArgs false
set_option linter.unusedVariables false
namespace Go.Proofs.Try
open Go.Ab Go.RowKit
def fs14 : FnS := fnS [.o,.s .calls] [.str,.calls] (fun _ (s,h,_) => (.tup [.sl (.ints ((blameP s h).1)),.b ((blameP s h).2)],[],True))
abbrev T14 : Tab := lk [(18,fs18),(22,fs22),(23,fs23)]
theorem tab14 : TabOK prog T14 := (TabOK.cons ok18 ent18 (TabOK.cons ok22 ent22 (TabOK.cons ok23 ent23 TabOK.nil)))
set_option maxRecDepth 100000 in
set_option maxHeartbeats 1000000 in
theorem ok14 : FnOK prog 14 fs14 := by
 refine FnOK.mk cok func14 rfl rfl rfl ?_
 rintro fl ⟨(s : ByteArray),(h : List CallD),_⟩ hpre F hnt0 _
 have hnt : F.nt = 73 := hnt0.trans ntmps14
 clear hpre
 refine W.to (⟨[(0,.v (.string s)),(1,.sl (.calls h))],[],[999]⟩) rfl ?_
 refine W.lenOf 1 (.calls h) (by kernel_rfl) ?_
 intro hl_h; replace hl_h : List.length h ≤ 9223372036854775807 := hl_h
 refine W.K cok tab14 hnt [] [0,1] (⟨[(0,.v (.string s)),(1,.sl (.calls h))],[],[999]⟩)
  (True ∧ True ∧ True) (by kernel_rfl)
  ⟨tt,tt,tt⟩ ?_
 refine W.seq ?_
 refine W.K cok tab14 hnt [] [0,1,25] (⟨[(0,.v (.string s)),(1,.sl (.calls h)),(25,.b (((!(isObject s)) || (!(validHistory h))) || (explains s h (aheadF h))))],[],[999]⟩)
  (True ∧ (True ∧ (True ∧ True) ∧ True) ∧ True ∧ True ∧ ((!(!(isObject s))) = true → True) ∧ ((!(!(isObject s))) = true → (True ∧ ((((!(!(isObject s))) = true) ∧ True) ∧ True) ∧ True)) ∧ ((!(!(isObject s))) = true → (((!(!(isObject s))) = true) ∧ True)) ∧ (True ∧ ((!(isObject s)) = true → True) ∧ ((!(isObject s)) = false → ((!(!(isObject s))) = true) ∧ True)) ∧ True ∧ ((!((!(isObject s)) || (!(validHistory h)))) = true → True) ∧ ((!((!(isObject s)) || (!(validHistory h)))) = true → True) ∧ ((!((!(isObject s)) || (!(validHistory h)))) = true → (True ∧ ((((!((!(isObject s)) || (!(validHistory h)))) = true) ∧ True) ∧ (((!((!(isObject s)) || (!(validHistory h)))) = true) ∧ True) ∧ True) ∧ True)) ∧ (True ∧ (((!(isObject s)) || (!(validHistory h))) = true → True) ∧ (((!(isObject s)) || (!(validHistory h))) = false → ((!((!(isObject s)) || (!(validHistory h)))) = true) ∧ True)) ∧ True) (by kernel_rfl)
  ⟨tt,⟨tt,⟨tt,tt⟩,tt⟩,tt,tt,(fun _ => trivial),(fun hG => ⟨tt,⟨⟨hG,tt⟩,tt⟩,tt⟩),(fun hG => ⟨hG,tt⟩),⟨tt,(fun _ => trivial),(fun hp => ⟨(not_t hp),tt⟩)⟩,tt,(fun _ => trivial),(fun _ => trivial),(fun hG => ⟨tt,⟨⟨hG,tt⟩,⟨hG,tt⟩,tt⟩,tt⟩),⟨tt,(fun _ => trivial),(fun hp => ⟨(not_t hp),tt⟩)⟩,tt⟩ ?_
 refine W.if' (((!(isObject s)) || (!(validHistory h))) || (explains s h (aheadF h))) (.b (((!(isObject s)) || (!(validHistory h))) || (explains s h (aheadF h)))) (by kernel_rfl) rfl trivial ?_ ?_
 ·intro h25
  refine W.K cok tab14 hnt [] [4,5] (⟨[(4,.v (.slice none 0 0)),(5,.b false)],[],[999]⟩)
   (True ∧ True ∧ True) (by kernel_rfl)
   ⟨tt,tt,tt⟩ ?_
  refine W.ret (thenQ_ret ?_)
  exact endQ_ret (.tup [.v (.slice none 0 0),.b false]) (by kernel_rfl) (@cast ((((Value.slice none 0 0 : Value) = .slice none 0 0) ∧ ((Dat.ints ((blameP s h).1)).len = 0)) ∧ (((.bool false : Value) = .bool ((blameP s h).2)) ∧ True)) _ (by kernel_rfl) ⟨⟨rfl,(by show List.length ((blameP s h).1) = 0; rw [blameP_no h25] <;> rfl)⟩,(congrArg Value.bool (by rw [blameP_no h25] <;> rfl)),tt⟩)
 ·intro n25
  have hv6 := (valid_iff.1 (not_g (or_r (or_l n25)))).1
  refine W.skip (thenQ_normal ?_)
  refine W.K cok tab14 hnt [26] [0,1,6] (⟨[(0,.v (.string s)),(1,.sl (.calls h)),(6,.own 26 (List.length ([] : List Int)))],[(26,⟨3,.row (.ints ([] : List Int))⟩)],[26,999]⟩)
   (True ∧ True ∧ True) (by kernel_rfl)
   ⟨tt,tt,tt⟩ ?_
  refine W.seq ?_
  refine W.K cok tab14 hnt [] [0,1,6,28,29] (⟨[(0,.v (.string s)),(1,.sl (.calls h)),(6,.own 26 (List.length ([] : List Int))),(28,.i (h.length : Int)),(29,.i (0 : Int))],[(26,⟨3,.row (.ints ([] : List Int))⟩)],[26,999]⟩)
   (True ∧ True ∧ True ∧ True) (by kernel_rfl)
   ⟨tt,tt,tt,tt⟩ ?_
  refine W.block ?_
  refine W.loop (ι := Nat × (List Int)) (fun (x : Nat × (List Int)) => match x with | (k,l0) => (⟨[(0,.v (.string s)),(1,.sl (.calls h)),(6,.own 26 l0.length),(28,.i (h.length : Int)),(29,.i ((k : Nat) : Int))],[(26,⟨3,.row (.ints l0)⟩)],[26,999]⟩ : St))
   (fun (x : Nat × (List Int)) => match x with | (k,l0) => (k ≤ h.length) ∧ (l0 = idx k))
   (fun (x : Nat × (List Int)) => match x with | (k,l0) => (h.length - k : Nat)) (0,([] : List Int)) ?_ ?_ ?_
  ·exact (show (0 ≤ h.length) ∧ (([] : List Int) = idx 0) from ⟨(by first | assumption | omega | rfl | (intro _ hjj; omega) | (simp; done) | (simp; omega)),(by rfl)⟩)
  ·exact Sub.of [] (@cast (((((.string s) : Value) = (.string s)) ∧ (((.calls h : Dat) = .calls h) ∧ ((((26 : Nat) = 26) ∧ (((List.length ([] : List Int)) = (List.length ([] : List Int))) ∧ ((26 : Nat) ∈ ([26,999] : List Nat)))) ∧ (((.int .i64 (h.length : Int) : Value) = .int .i64 (h.length : Int)) ∧ (((.int .i64 (0 : Int) : Value) = .int .i64 ((0 : Nat) : Int)) ∧ True))))) ∧ (((((3 : Nat) = 3) ∧ (((.ints ([] : List Int) : Dat) = .ints ([] : List Int)) ∧ ((26 : Nat) ∈ ([26,999] : List Nat)))) ∧ True) ∧ ((true = true) ∧ (true = true)))) _ (by kernel_rfl) ⟨⟨rfl,rfl,⟨rfl,rfl,(by decide)⟩,rfl,(congrArg (Value.int .i64) (by first | rfl | omega | assumption | simp | simp_all)),tt⟩,⟨⟨rfl,rfl,(by decide)⟩,tt⟩,rfl,rfl⟩)
  ·rintro ⟨k,l0⟩ hC0
   have hC : (k ≤ h.length) ∧ (l0 = idx k) := hC0
   clear hC0
   obtain ⟨hk,hl0⟩ := hC
   refine W.to (⟨[(0,.v (.string s)),(1,.sl (.calls h)),(6,.own 26 l0.length),(28,.i (h.length : Int)),(29,.i ((k : Nat) : Int))],[(26,⟨3,.row (.ints l0)⟩)],[26,999]⟩) rfl ?_
   have hl0l : l0.length = k := by rw [hl0]; exact idx_len k
   refine W.K cok tab14 hnt [] [0,1,6,28,29,30] (⟨[(0,.v (.string s)),(1,.sl (.calls h)),(6,.own 26 l0.length),(28,.i (h.length : Int)),(29,.i ((k : Nat) : Int)),(30,.b (decide (((k : Nat) : Int) < (h.length : Int))))],[(26,⟨3,.row (.ints l0)⟩)],[26,999]⟩)
    ((True ∧ True ∧ True) ∧ True) (by kernel_rfl)
    ⟨⟨tt,tt,tt⟩,tt⟩ ?_
   refine W.seq ?_
   refine W.ifP (((k : Nat) : Int) < (h.length : Int)) (.b (decide (((k : Nat) : Int) < (h.length : Int)))) (by kernel_rfl) rfl trivial ?_ ?_
   ·intro h30
    refine W.skip (thenQ_normal ?_)
    refine W.seq ?_
    refine W.block ?_
    refine W.K cok tab14 hnt [] [0,1,6,7,28,29] (⟨[(0,.v (.string s)),(1,.sl (.calls h)),(6,.own 26 l0.length),(7,.i ((k : Nat) : Int)),(28,.i (h.length : Int)),(29,.i ((k : Nat) : Int))],[(26,⟨3,.row (.ints l0)⟩)],[26,999]⟩)
     (True ∧ True ∧ True) (by kernel_rfl)
     ⟨tt,tt,tt⟩ ?_
    refine W.L cok tab14 hnt [35] (⟨[(0,.v (.string s)),(1,.sl (.calls h)),(6,.own 35 (List.length (l0 ++ ([((k : Nat) : Int)])))),(7,.i ((k : Nat) : Int)),(28,.i (h.length : Int)),(29,.i ((k : Nat) : Int)),(32,.own 26 l0.length),(33,.i ((k : Nat) : Int)),(34,.sl (.ints ([((k : Nat) : Int)]))),(35,.own 35 (List.length (l0 ++ ([((k : Nat) : Int)]))))],[(35,⟨3,.row (.ints (l0 ++ ([((k : Nat) : Int)])))⟩)],[35,34,26,999]⟩)
     (True ∧ True ∧ (True ∧ True) ∧ ((True ∧ (l0.length = l0.length)) ∧ True ∧ ((l0.length + (List.length ([((k : Nat) : Int)]))) * 8 ≤ 140737488355328)) ∧ True ∧ True) (by kernel_rfl)
     ⟨tt,tt,⟨tt,tt⟩,⟨⟨tt,rfl⟩,tt,(by (try simp only [List.length_cons,List.length_nil]); omega)⟩,tt,tt⟩ ?_
    refine blockQ_normal (thenQ_normal ?_)
    refine W.L cok tab14 hnt [] (⟨[(0,.v (.string s)),(1,.sl (.calls h)),(6,.own 35 (List.length (l0 ++ ([((k : Nat) : Int)])))),(7,.i ((k : Nat) : Int)),(28,.i (h.length : Int)),(29,.i (((k + 1) : Nat) : Int)),(32,.own 26 l0.length),(33,.i ((k : Nat) : Int)),(34,.sl (.ints ([((k : Nat) : Int)]))),(35,.own 35 (List.length (l0 ++ ([((k : Nat) : Int)])))),(36,.i (((k + 1) : Nat) : Int))],[(35,⟨3,.row (.ints (l0 ++ ([((k : Nat) : Int)])))⟩)],[35,34,26,999]⟩)
     ((True ∧ True ∧ (Fits .i64 (((k + 1) : Nat) : Int))) ∧ True ∧ True) (by kernel_rfl)
     ⟨⟨tt,tt,(by exact fits_i64 (by omega) (by omega))⟩,tt,tt⟩ ?_
    refine thenQ_normal ?_
    refine ⟨((k + 1),(l0 ++ ([((k : Nat) : Int)]))),(show ((k + 1) ≤ h.length) ∧ ((l0 ++ ([((k : Nat) : Int)])) = idx (k + 1)) from ⟨(by first | assumption | omega | rfl | (intro _ hjj; omega) | (simp; done) | (simp; omega)),(by rw [hl0]; rfl)⟩),(show h.length - (k + 1) < h.length - k from (by first | omega | (simp_all; omega))),?_⟩
    exact Sub.of [(26,35)] (@cast (((((.string s) : Value) = (.string s)) ∧ (((.calls h : Dat) = .calls h) ∧ ((((35 : Nat) = 35) ∧ (((List.length (l0 ++ ([((k : Nat) : Int)]))) = (List.length (l0 ++ ([((k : Nat) : Int)])))) ∧ ((26 : Nat) ∈ ([26,999] : List Nat)))) ∧ (((.int .i64 (h.length : Int) : Value) = .int .i64 (h.length : Int)) ∧ (((.int .i64 (((k + 1) : Nat) : Int) : Value) = .int .i64 (((k + 1) : Nat) : Int)) ∧ True))))) ∧ (((((3 : Nat) = 3) ∧ (((.ints (l0 ++ ([((k : Nat) : Int)])) : Dat) = .ints (l0 ++ ([((k : Nat) : Int)]))) ∧ ((26 : Nat) ∈ ([26,999] : List Nat)))) ∧ True) ∧ ((true = true) ∧ (true = true)))) _ (by kernel_rfl) ⟨⟨rfl,rfl,⟨rfl,rfl,(by decide)⟩,rfl,rfl,tt⟩,⟨⟨rfl,rfl,(by decide)⟩,tt⟩,rfl,rfl⟩)
   ·intro n30
    refine W.exit (thenQ_exit (thenQ_exit (blockQ_hit ?_)))
    refine thenQ_normal ?_
    refine W.seq ?_
    refine W.K cok tab14 hnt [] [0,1,6,8] (⟨[(0,.v (.string s)),(1,.sl (.calls h)),(6,.own 26 l0.length),(8,.i ((h.length : Int) - (1 : Int)))],[(26,⟨3,.row (.ints l0)⟩)],[26,999]⟩)
     (True ∧ True ∧ (True ∧ True ∧ (Fits .i64 ((h.length : Int) - (1 : Int)))) ∧ True ∧ True) (by kernel_rfl)
     ⟨tt,tt,⟨tt,tt,(by exact fits_i64 (by omega) (by omega))⟩,tt,tt⟩ ?_
    refine W.subS [] (⟨[(0,.v (.string s)),(1,.sl (.calls h)),(6,.sl (.ints l0)),(8,.i ((h.length : Int) - (1 : Int)))],[],[999]⟩) (@cast (((((.string s) : Value) = (.string s)) ∧ (((.calls h : Dat) = .calls h) ∧ (((l0.length = l0.length) ∧ (((.ints l0 : Dat) = .ints l0) ∧ ((26 : Nat) ∉ ([] : List Nat)))) ∧ (((.int .i64 ((h.length : Int) - (1 : Int)) : Value) = .int .i64 ((h.length : Int) - (1 : Int))) ∧ True)))) ∧ (True ∧ ((true = true) ∧ (true = true)))) _ (by kernel_rfl) ⟨⟨rfl,rfl,⟨rfl,rfl,(by decide)⟩,rfl,tt⟩,tt,rfl,rfl⟩) ?_
    refine W.block ?_
    refine W.loop (ι := Int × (List Int)) (fun (x : Int × (List Int)) => match x with | (i,lf) => (⟨[(0,.v (.string s)),(1,.sl (.calls h)),(6,.sl (.ints lf)),(8,.i i)],[],[999]⟩ : St))
     (fun (x : Int × (List Int)) => match x with | (i,lf) => (-1 ≤ i ∧ i < (h.length : Int)) ∧ (lf = blameR s h ((h.length : Int) - 1 - i).toNat))
     (fun (x : Int × (List Int)) => match x with | (i,lf) => ((i + 1).toNat : Nat)) (((h.length : Int) - (1 : Int)),l0) ?_ ?_ ?_
    ·exact (show (-1 ≤ ((h.length : Int) - (1 : Int)) ∧ ((h.length : Int) - (1 : Int)) < (h.length : Int)) ∧ (l0 = blameR s h ((h.length : Int) - 1 - ((h.length : Int) - (1 : Int))).toNat) from ⟨(by first | assumption | omega | rfl | (intro _ hjj; omega) | (simp; done) | (simp; omega)),(by exact blame_start hl0 (by omega))⟩)
    ·exact Sub.of [] (@cast (((((.string s) : Value) = (.string s)) ∧ (((.calls h : Dat) = .calls h) ∧ (((.ints l0 : Dat) = .ints l0) ∧ (((.int .i64 ((h.length : Int) - (1 : Int)) : Value) = .int .i64 ((h.length : Int) - (1 : Int))) ∧ True)))) ∧ (True ∧ ((true = true) ∧ (true = true)))) _ (by kernel_rfl) ⟨⟨rfl,rfl,rfl,rfl,tt⟩,tt,rfl,rfl⟩)
    ·rintro ⟨i,lf⟩ hC0
     have hC : (-1 ≤ i ∧ i < (h.length : Int)) ∧ (lf = blameR s h ((h.length : Int) - 1 - i).toNat) := hC0
     clear hC0
     obtain ⟨hi,hl⟩ := hC
     refine W.to (⟨[(0,.v (.string s)),(1,.sl (.calls h)),(6,.sl (.ints lf)),(8,.i i)],[],[999]⟩) rfl ?_
     have hin : ∀ x ∈ lf,0 ≤ x ∧ x < (h.length : Int) := by rw [hl]; exact blame_in _
     have hlfl : lf.length ≤ h.length := by rw [hl]; exact blame_len _
     refine W.seq ?_
     refine W.K cok tab14 hnt [] [0,1,6,8,41] (⟨[(0,.v (.string s)),(1,.sl (.calls h)),(6,.sl (.ints lf)),(8,.i i),(41,.b (decide ((0 : Int) ≤ i)))],[],[999]⟩)
      (True ∧ (True ∧ True ∧ True) ∧ True) (by kernel_rfl)
      ⟨tt,⟨tt,tt,tt⟩,tt⟩ ?_
     refine W.ifP ((0 : Int) ≤ i) (.b (decide ((0 : Int) ≤ i))) (by kernel_rfl) rfl trivial ?_ ?_
     ·intro h41
      refine W.skip (thenQ_normal ?_)
      refine W.seq ?_
      refine W.block ?_
      refine W.K cok tab14 hnt [44,45] [0,1,6,8,9,10] (⟨[(0,.v (.string s)),(1,.sl (.calls h)),(6,.sl (.ints lf)),(8,.i i),(9,.own 44 (List.length ([] : List Int))),(10,.own 45 (List.length ([] : List CallD)))],[(44,⟨3,.row (.ints ([] : List Int))⟩),(45,⟨49,.row (.calls ([] : List CallD))⟩)],[45,44,999]⟩)
       (True ∧ True ∧ True ∧ True ∧ True) (by kernel_rfl)
       ⟨tt,tt,tt,tt,tt⟩ ?_
      refine W.seq ?_
      refine W.K cok tab14 hnt [] [0,1,6,8,9,10,46,47,48] (⟨[(0,.v (.string s)),(1,.sl (.calls h)),(6,.sl (.ints lf)),(8,.i i),(9,.own 44 (List.length ([] : List Int))),(10,.own 45 (List.length ([] : List CallD))),(46,.sl (.ints lf)),(47,.i (lf.length : Int)),(48,.i (0 : Int))],[(44,⟨3,.row (.ints ([] : List Int))⟩),(45,⟨49,.row (.calls ([] : List CallD))⟩)],[45,44,999]⟩)
       (True ∧ True ∧ True ∧ True) (by kernel_rfl)
       ⟨tt,tt,tt,tt⟩ ?_
      refine W.block ?_
      refine W.loop (ι := Nat × (List Int) × (List CallD)) (fun (x : Nat × (List Int) × (List CallD)) => match x with | (j,ot,pt) => (⟨[(0,.v (.string s)),(1,.sl (.calls h)),(6,.sl (.ints lf)),(8,.i i),(9,.own 44 ot.length),(10,.own 45 pt.length),(46,.sl (.ints lf)),(47,.i (lf.length : Int)),(48,.i ((j : Nat) : Int))],[(44,⟨3,.row (.ints ot)⟩),(45,⟨49,.row (.calls pt)⟩)],[44,45,999]⟩ : St))
       (fun (x : Nat × (List Int) × (List CallD)) => match x with | (j,ot,pt) => (j ≤ lf.length) ∧ (ot = wUp lf i j) ∧ (pt = pickC h (wUp lf i j)))
       (fun (x : Nat × (List Int) × (List CallD)) => match x with | (j,ot,pt) => (lf.length - j : Nat)) (0,([] : List Int),([] : List CallD)) ?_ ?_ ?_
      ·exact (show (0 ≤ lf.length) ∧ (([] : List Int) = wUp lf i 0) ∧ (([] : List CallD) = pickC h (wUp lf i 0)) from ⟨(by first | assumption | omega | rfl | (intro _ hjj; omega) | (simp; done) | (simp; omega)),(by rfl),(by rfl)⟩)
      ·exact Sub.of [] (@cast (((((.string s) : Value) = (.string s)) ∧ (((.calls h : Dat) = .calls h) ∧ (((.ints lf : Dat) = .ints lf) ∧ (((.int .i64 i : Value) = .int .i64 i) ∧ ((((44 : Nat) = 44) ∧ (((List.length ([] : List Int)) = (List.length ([] : List Int))) ∧ ((44 : Nat) ∈ ([44,45,999] : List Nat)))) ∧ ((((45 : Nat) = 45) ∧ (((List.length ([] : List CallD)) = (List.length ([] : List CallD))) ∧ ((45 : Nat) ∈ ([44,45,999] : List Nat)))) ∧ (((.ints lf : Dat) = .ints lf) ∧ (((.int .i64 (lf.length : Int) : Value) = .int .i64 (lf.length : Int)) ∧ (((.int .i64 (0 : Int) : Value) = .int .i64 ((0 : Nat) : Int)) ∧ True))))))))) ∧ (((((3 : Nat) = 3) ∧ (((.ints ([] : List Int) : Dat) = .ints ([] : List Int)) ∧ ((44 : Nat) ∈ ([44,45,999] : List Nat)))) ∧ ((((49 : Nat) = 49) ∧ (((.calls ([] : List CallD) : Dat) = .calls ([] : List CallD)) ∧ ((45 : Nat) ∈ ([44,45,999] : List Nat)))) ∧ True)) ∧ ((true = true) ∧ (true = true)))) _ (by kernel_rfl) ⟨⟨rfl,rfl,rfl,rfl,⟨rfl,rfl,(by decide)⟩,⟨rfl,rfl,(by decide)⟩,rfl,rfl,(congrArg (Value.int .i64) (by first | rfl | omega | assumption | simp | simp_all)),tt⟩,⟨⟨rfl,rfl,(by decide)⟩,⟨rfl,rfl,(by decide)⟩,tt⟩,rfl,rfl⟩)
      ·rintro ⟨j,ot,pt⟩ hC0
       have hC : (j ≤ lf.length) ∧ (ot = wUp lf i j) ∧ (pt = pickC h (wUp lf i j)) := hC0
       clear hC0
       obtain ⟨hj,hot,hpt⟩ := hC
       refine W.to (⟨[(0,.v (.string s)),(1,.sl (.calls h)),(6,.sl (.ints lf)),(8,.i i),(9,.own 44 ot.length),(10,.own 45 pt.length),(46,.sl (.ints lf)),(47,.i (lf.length : Int)),(48,.i ((j : Nat) : Int))],[(44,⟨3,.row (.ints ot)⟩),(45,⟨49,.row (.calls pt)⟩)],[44,45,999]⟩) rfl ?_
       have hgj := fun (hj : j < lf.length) => hin _ (getD_mem lf 0 hj)
       have hotl : ot.length ≤ j := by rw [hot]; exact wUp_len _ _ _
       have hptl : pt.length ≤ j := by rw [hpt,pickC_len]; exact wUp_len _ _ _
       refine W.K cok tab14 hnt [] [0,1,6,8,9,10,46,47,48,49] (⟨[(0,.v (.string s)),(1,.sl (.calls h)),(6,.sl (.ints lf)),(8,.i i),(9,.own 44 ot.length),(10,.own 45 pt.length),(46,.sl (.ints lf)),(47,.i (lf.length : Int)),(48,.i ((j : Nat) : Int)),(49,.b (decide (((j : Nat) : Int) < (lf.length : Int))))],[(44,⟨3,.row (.ints ot)⟩),(45,⟨49,.row (.calls pt)⟩)],[44,45,999]⟩)
        ((True ∧ True ∧ True) ∧ True) (by kernel_rfl)
        ⟨⟨tt,tt,tt⟩,tt⟩ ?_
       refine W.seq ?_
       refine W.ifP (((j : Nat) : Int) < (lf.length : Int)) (.b (decide (((j : Nat) : Int) < (lf.length : Int)))) (by kernel_rfl) rfl trivial ?_ ?_
       ·intro h49
        refine W.skip (thenQ_normal ?_)
        refine W.seq ?_
        refine W.block ?_
        refine W.K cok tab14 hnt [] [0,1,6,8,9,10,12,46,47,48] (⟨[(0,.v (.string s)),(1,.sl (.calls h)),(6,.sl (.ints lf)),(8,.i i),(9,.own 44 ot.length),(10,.own 45 pt.length),(12,.i (lf.getD j 0)),(46,.sl (.ints lf)),(47,.i (lf.length : Int)),(48,.i ((j : Nat) : Int))],[(44,⟨3,.row (.ints ot)⟩),(45,⟨49,.row (.calls pt)⟩)],[44,45,999]⟩)
         ((True ∧ True ∧ (0 ≤ ((j : Nat) : Int)) ∧ (((j : Nat) : Int) < (lf.length : Int))) ∧ True ∧ True ∧ True) (by kernel_rfl)
         ⟨⟨tt,tt,(by omega),(by omega)⟩,tt,tt,tt⟩ ?_
        refine W.K cok tab14 hnt [] [0,1,6,8,9,10,12,46,47,48,54] (⟨[(0,.v (.string s)),(1,.sl (.calls h)),(6,.sl (.ints lf)),(8,.i i),(9,.own 44 ot.length),(10,.own 45 pt.length),(12,.i (lf.getD j 0)),(46,.sl (.ints lf)),(47,.i (lf.length : Int)),(48,.i ((j : Nat) : Int)),(54,.b (decide ((lf.getD j 0) ≠ i)))],[(44,⟨3,.row (.ints ot)⟩),(45,⟨49,.row (.calls pt)⟩)],[44,45,999]⟩)
         (True ∧ True ∧ (True ∧ True ∧ True) ∧ True) (by kernel_rfl)
         ⟨tt,tt,⟨tt,tt,tt⟩,tt⟩ ?_
        refine W.ifP ((lf.getD j 0) ≠ i) (.b (decide ((lf.getD j 0) ≠ i))) (by kernel_rfl) rfl trivial ?_ ?_
        ·intro h54
         refine W.LA cok tab14 hnt [58,65] (⟨[(0,.v (.string s)),(1,.sl (.calls h)),(6,.sl (.ints lf)),(8,.i i),(9,.own 58 (List.length (ot ++ ([(lf.getD j 0)])))),(10,.own 65 (List.length (pt ++ ([(h.getD (Int.toNat (lf.getD j 0)) default)])))),(12,.i (lf.getD j 0)),(46,.sl (.ints lf)),(47,.i (lf.length : Int)),(48,.i ((j : Nat) : Int)),(54,.b (decide ((lf.getD j 0) ≠ i))),(55,.own 44 ot.length),(56,.i (lf.getD j 0)),(57,.sl (.ints ([(lf.getD j 0)]))),(58,.own 58 (List.length (ot ++ ([(lf.getD j 0)])))),(59,.own 45 pt.length),(60,.sl (.calls h)),(61,.i (lf.getD j 0)),(62,.ep [.i ((h.getD (Int.toNat (lf.getD j 0)) default).proc),.i ((h.getD (Int.toNat (lf.getD j 0)) default).obj),.i ((h.getD (Int.toNat (lf.getD j 0)) default).kind),.i ((h.getD (Int.toNat (lf.getD j 0)) default).arg),.i ((h.getD (Int.toNat (lf.getD j 0)) default).ret),.i ((h.getD (Int.toNat (lf.getD j 0)) default).frm),.i ((h.getD (Int.toNat (lf.getD j 0)) default).to)]),(63,.agg [.i ((h.getD (Int.toNat (lf.getD j 0)) default).proc),.i ((h.getD (Int.toNat (lf.getD j 0)) default).obj),.i ((h.getD (Int.toNat (lf.getD j 0)) default).kind),.i ((h.getD (Int.toNat (lf.getD j 0)) default).arg),.i ((h.getD (Int.toNat (lf.getD j 0)) default).ret),.i ((h.getD (Int.toNat (lf.getD j 0)) default).frm),.i ((h.getD (Int.toNat (lf.getD j 0)) default).to)]),(64,.sl (.calls ([(h.getD (Int.toNat (lf.getD j 0)) default)]))),(65,.own 65 (List.length (pt ++ ([(h.getD (Int.toNat (lf.getD j 0)) default)]))))],[(58,⟨3,.row (.ints (ot ++ ([(lf.getD j 0)])))⟩),(65,⟨49,.row (.calls (pt ++ ([(h.getD (Int.toNat (lf.getD j 0)) default)])))⟩)],[65,64,58,57,44,45,999]⟩)
          (True ∧ True ∧ (True ∧ True) ∧ ((True ∧ (ot.length = ot.length)) ∧ True ∧ ((ot.length + (List.length ([(lf.getD j 0)]))) * 8 ≤ 140737488355328)) ∧ True ∧ True ∧ True ∧ (True ∧ True ∧ (0 ≤ (lf.getD j 0)) ∧ ((lf.getD j 0) < (h.length : Int))) ∧ True ∧ (True ∧ True) ∧ ((True ∧ (pt.length = pt.length)) ∧ True ∧ ((pt.length + (List.length ([(h.getD (Int.toNat (lf.getD j 0)) default)]))) * 56 ≤ 140737488355328)) ∧ True ∧ True ∧ True) (by kernel_rfl) (by kernel_rfl)
          ⟨tt,tt,⟨tt,tt⟩,⟨⟨tt,rfl⟩,tt,(by (try simp only [List.length_cons,List.length_nil]); omega)⟩,tt,tt,tt,⟨tt,tt,(by have h9 := hgj (by omega); omega),(by have h9 := hgj (by omega); omega)⟩,tt,⟨tt,tt⟩,⟨⟨tt,rfl⟩,tt,(by (try simp only [List.length_cons,List.length_nil]); omega)⟩,tt,tt,tt⟩ ?_
         refine blockQ_normal (thenQ_normal ?_)
         refine W.L cok tab14 hnt [] (⟨[(0,.v (.string s)),(1,.sl (.calls h)),(6,.sl (.ints lf)),(8,.i i),(9,.own 58 (List.length (ot ++ ([(lf.getD j 0)])))),(10,.own 65 (List.length (pt ++ ([(h.getD (Int.toNat (lf.getD j 0)) default)])))),(12,.i (lf.getD j 0)),(46,.sl (.ints lf)),(47,.i (lf.length : Int)),(48,.i (((j + 1) : Nat) : Int)),(54,.b (decide ((lf.getD j 0) ≠ i))),(55,.own 44 ot.length),(56,.i (lf.getD j 0)),(57,.sl (.ints ([(lf.getD j 0)]))),(58,.own 58 (List.length (ot ++ ([(lf.getD j 0)])))),(59,.own 45 pt.length),(60,.sl (.calls h)),(61,.i (lf.getD j 0)),(62,.ep [.i ((h.getD (Int.toNat (lf.getD j 0)) default).proc),.i ((h.getD (Int.toNat (lf.getD j 0)) default).obj),.i ((h.getD (Int.toNat (lf.getD j 0)) default).kind),.i ((h.getD (Int.toNat (lf.getD j 0)) default).arg),.i ((h.getD (Int.toNat (lf.getD j 0)) default).ret),.i ((h.getD (Int.toNat (lf.getD j 0)) default).frm),.i ((h.getD (Int.toNat (lf.getD j 0)) default).to)]),(63,.agg [.i ((h.getD (Int.toNat (lf.getD j 0)) default).proc),.i ((h.getD (Int.toNat (lf.getD j 0)) default).obj),.i ((h.getD (Int.toNat (lf.getD j 0)) default).kind),.i ((h.getD (Int.toNat (lf.getD j 0)) default).arg),.i ((h.getD (Int.toNat (lf.getD j 0)) default).ret),.i ((h.getD (Int.toNat (lf.getD j 0)) default).frm),.i ((h.getD (Int.toNat (lf.getD j 0)) default).to)]),(64,.sl (.calls ([(h.getD (Int.toNat (lf.getD j 0)) default)]))),(65,.own 65 (List.length (pt ++ ([(h.getD (Int.toNat (lf.getD j 0)) default)])))),(66,.i (((j + 1) : Nat) : Int))],[(58,⟨3,.row (.ints (ot ++ ([(lf.getD j 0)])))⟩),(65,⟨49,.row (.calls (pt ++ ([(h.getD (Int.toNat (lf.getD j 0)) default)])))⟩)],[65,64,58,57,44,45,999]⟩)
          ((True ∧ True ∧ (Fits .i64 (((j + 1) : Nat) : Int))) ∧ True ∧ True) (by kernel_rfl)
          ⟨⟨tt,tt,(by exact fits_i64 (by omega) (by omega))⟩,tt,tt⟩ ?_
         refine thenQ_normal ?_
         refine ⟨((j + 1),(ot ++ ([(lf.getD j 0)])),(pt ++ ([(h.getD (Int.toNat (lf.getD j 0)) default)]))),(show ((j + 1) ≤ lf.length) ∧ ((ot ++ ([(lf.getD j 0)])) = wUp lf i (j + 1)) ∧ ((pt ++ ([(h.getD (Int.toNat (lf.getD j 0)) default)])) = pickC h (wUp lf i (j + 1))) from ⟨(by first | assumption | omega | rfl | (intro _ hjj; omega) | (simp; done) | (simp; omega)),(by first | exact wUp_yes hot (by omega) h54 | exact wUp_no hot (by omega) n54),(by first | exact pUp_yes hpt (by omega) h54 | exact pUp_no hpt (by omega) n54)⟩),(show lf.length - (j + 1) < lf.length - j from (by first | omega | (simp_all; omega))),?_⟩
         exact Sub.of [(44,58),(45,65)] (@cast (((((.string s) : Value) = (.string s)) ∧ (((.calls h : Dat) = .calls h) ∧ (((.ints lf : Dat) = .ints lf) ∧ (((.int .i64 i : Value) = .int .i64 i) ∧ ((((58 : Nat) = 58) ∧ (((List.length (ot ++ ([(lf.getD j 0)]))) = (List.length (ot ++ ([(lf.getD j 0)])))) ∧ ((44 : Nat) ∈ ([44,45,999] : List Nat)))) ∧ ((((65 : Nat) = 65) ∧ (((List.length (pt ++ ([(h.getD (Int.toNat (lf.getD j 0)) default)]))) = (List.length (pt ++ ([(h.getD (Int.toNat (lf.getD j 0)) default)])))) ∧ ((45 : Nat) ∈ ([44,45,999] : List Nat)))) ∧ (((.ints lf : Dat) = .ints lf) ∧ (((.int .i64 (lf.length : Int) : Value) = .int .i64 (lf.length : Int)) ∧ (((.int .i64 (((j + 1) : Nat) : Int) : Value) = .int .i64 (((j + 1) : Nat) : Int)) ∧ True))))))))) ∧ (((((3 : Nat) = 3) ∧ (((.ints (ot ++ ([(lf.getD j 0)])) : Dat) = .ints (ot ++ ([(lf.getD j 0)]))) ∧ ((44 : Nat) ∈ ([44,45,999] : List Nat)))) ∧ ((((49 : Nat) = 49) ∧ (((.calls (pt ++ ([(h.getD (Int.toNat (lf.getD j 0)) default)])) : Dat) = .calls (pt ++ ([(h.getD (Int.toNat (lf.getD j 0)) default)]))) ∧ ((45 : Nat) ∈ ([44,45,999] : List Nat)))) ∧ True)) ∧ ((true = true) ∧ (true = true)))) _ (by kernel_rfl) ⟨⟨rfl,rfl,rfl,rfl,⟨rfl,rfl,(by decide)⟩,⟨rfl,rfl,(by decide)⟩,rfl,rfl,rfl,tt⟩,⟨⟨rfl,rfl,(by decide)⟩,⟨rfl,rfl,(by decide)⟩,tt⟩,rfl,rfl⟩)
        ·intro n54
         refine W.skip (blockQ_normal (thenQ_normal ?_))
         refine W.L cok tab14 hnt [] (⟨[(0,.v (.string s)),(1,.sl (.calls h)),(6,.sl (.ints lf)),(8,.i i),(9,.own 44 ot.length),(10,.own 45 pt.length),(12,.i (lf.getD j 0)),(46,.sl (.ints lf)),(47,.i (lf.length : Int)),(48,.i (((j + 1) : Nat) : Int)),(54,.b (decide ((lf.getD j 0) ≠ i))),(66,.i (((j + 1) : Nat) : Int))],[(44,⟨3,.row (.ints ot)⟩),(45,⟨49,.row (.calls pt)⟩)],[44,45,999]⟩)
          ((True ∧ True ∧ (Fits .i64 (((j + 1) : Nat) : Int))) ∧ True ∧ True) (by kernel_rfl)
          ⟨⟨tt,tt,(by exact fits_i64 (by omega) (by omega))⟩,tt,tt⟩ ?_
         refine thenQ_normal ?_
         refine ⟨((j + 1),ot,pt),(show ((j + 1) ≤ lf.length) ∧ (ot = wUp lf i (j + 1)) ∧ (pt = pickC h (wUp lf i (j + 1))) from ⟨(by first | assumption | omega | rfl | (intro _ hjj; omega) | (simp; done) | (simp; omega)),(by first | exact wUp_yes hot (by omega) h54 | exact wUp_no hot (by omega) n54),(by first | exact pUp_yes hpt (by omega) h54 | exact pUp_no hpt (by omega) n54)⟩),(show lf.length - (j + 1) < lf.length - j from (by first | omega | (simp_all; omega))),?_⟩
         exact Sub.of [] (@cast (((((.string s) : Value) = (.string s)) ∧ (((.calls h : Dat) = .calls h) ∧ (((.ints lf : Dat) = .ints lf) ∧ (((.int .i64 i : Value) = .int .i64 i) ∧ ((((44 : Nat) = 44) ∧ ((ot.length = ot.length) ∧ ((44 : Nat) ∈ ([44,45,999] : List Nat)))) ∧ ((((45 : Nat) = 45) ∧ ((pt.length = pt.length) ∧ ((45 : Nat) ∈ ([44,45,999] : List Nat)))) ∧ (((.ints lf : Dat) = .ints lf) ∧ (((.int .i64 (lf.length : Int) : Value) = .int .i64 (lf.length : Int)) ∧ (((.int .i64 (((j + 1) : Nat) : Int) : Value) = .int .i64 (((j + 1) : Nat) : Int)) ∧ True))))))))) ∧ (((((3 : Nat) = 3) ∧ (((.ints ot : Dat) = .ints ot) ∧ ((44 : Nat) ∈ ([44,45,999] : List Nat)))) ∧ ((((49 : Nat) = 49) ∧ (((.calls pt : Dat) = .calls pt) ∧ ((45 : Nat) ∈ ([44,45,999] : List Nat)))) ∧ True)) ∧ ((true = true) ∧ (true = true)))) _ (by kernel_rfl) ⟨⟨rfl,rfl,rfl,rfl,⟨rfl,rfl,(by decide)⟩,⟨rfl,rfl,(by decide)⟩,rfl,rfl,rfl,tt⟩,⟨⟨rfl,rfl,(by decide)⟩,⟨rfl,rfl,(by decide)⟩,tt⟩,rfl,rfl⟩)
       ·intro n49
        refine W.exit (thenQ_exit (thenQ_exit (blockQ_hit ?_)))
        refine thenQ_normal ?_
        refine W.subS [] (⟨[(0,.v (.string s)),(1,.sl (.calls h)),(6,.sl (.ints lf)),(8,.i i),(9,.sl (.ints ot)),(10,.own 45 pt.length),(46,.sl (.ints lf)),(47,.i (lf.length : Int)),(48,.i ((j : Nat) : Int)),(49,.b (decide (((j : Nat) : Int) < (lf.length : Int))))],[(45,⟨49,.row (.calls pt)⟩)],[45,999]⟩) (@cast (((((.string s) : Value) = (.string s)) ∧ (((.calls h : Dat) = .calls h) ∧ (((.ints lf : Dat) = .ints lf) ∧ (((.int .i64 i : Value) = .int .i64 i) ∧ (((ot.length = ot.length) ∧ (((.ints ot : Dat) = .ints ot) ∧ ((44 : Nat) ∉ ([45] : List Nat)))) ∧ ((((45 : Nat) = 45) ∧ ((pt.length = pt.length) ∧ ((45 : Nat) ∈ ([45,999] : List Nat)))) ∧ (((.ints lf : Dat) = .ints lf) ∧ (((.int .i64 (lf.length : Int) : Value) = .int .i64 (lf.length : Int)) ∧ (((.int .i64 ((j : Nat) : Int) : Value) = .int .i64 ((j : Nat) : Int)) ∧ (((.bool (decide (((j : Nat) : Int) < (lf.length : Int))) : Value) = .bool (decide (((j : Nat) : Int) < (lf.length : Int)))) ∧ True)))))))))) ∧ (((((49 : Nat) = 49) ∧ (((.calls pt : Dat) = .calls pt) ∧ ((45 : Nat) ∈ ([45,999] : List Nat)))) ∧ True) ∧ ((true = true) ∧ (true = true)))) _ (by kernel_rfl) ⟨⟨rfl,rfl,rfl,rfl,⟨rfl,rfl,(by decide)⟩,⟨rfl,rfl,(by decide)⟩,rfl,rfl,rfl,rfl,tt⟩,⟨⟨rfl,rfl,(by decide)⟩,tt⟩,rfl,rfl⟩) ?_
        refine W.K cok tab14 hnt [] [0,1,6,8,9,70] (⟨[(0,.v (.string s)),(1,.sl (.calls h)),(6,.sl (.ints lf)),(8,.i i),(9,.sl (.ints ot)),(70,.b (!(explains s pt (aheadF pt))))],[(45,⟨49,.row (.calls pt)⟩)],[45,999]⟩)
         (True ∧ True ∧ (True ∧ (True ∧ (True ∧ (pt.length = pt.length)) ∧ True) ∧ True) ∧ True ∧ True) (by kernel_rfl)
         ⟨tt,tt,⟨tt,⟨tt,⟨tt,rfl⟩,tt⟩,tt⟩,tt,tt⟩ ?_
        refine W.if' (!(explains s pt (aheadF pt))) (.b (!(explains s pt (aheadF pt)))) (by kernel_rfl) rfl trivial ?_ ?_
        ·intro h70
         refine W.L cok tab14 hnt [] (⟨[(0,.v (.string s)),(1,.sl (.calls h)),(6,.sl (.ints ot)),(8,.i i),(9,.sl (.ints ot)),(70,.b (!(explains s pt (aheadF pt)))),(71,.sl (.ints ot))],[(45,⟨49,.row (.calls pt)⟩)],[45,999]⟩)
          (True ∧ True ∧ True) (by kernel_rfl)
          ⟨tt,tt,tt⟩ ?_
         refine blockQ_normal (thenQ_normal ?_)
         refine W.L cok tab14 hnt [] (⟨[(0,.v (.string s)),(1,.sl (.calls h)),(6,.sl (.ints ot)),(8,.i (i - (1 : Int))),(9,.sl (.ints ot)),(42,.i i),(43,.i (i - (1 : Int))),(70,.b (!(explains s pt (aheadF pt)))),(71,.sl (.ints ot))],[(45,⟨49,.row (.calls pt)⟩)],[45,999]⟩)
          (True ∧ (True ∧ True ∧ (Fits .i64 (i - (1 : Int)))) ∧ True ∧ True) (by kernel_rfl)
          ⟨tt,⟨tt,tt,(by exact fits_i64 (by omega) (by omega))⟩,tt,tt⟩ ?_
         refine thenQ_normal ?_
         refine ⟨((i - (1 : Int)),ot),(show (-1 ≤ (i - (1 : Int)) ∧ (i - (1 : Int)) < (h.length : Int)) ∧ (ot = blameR s h ((h.length : Int) - 1 - (i - (1 : Int))).toNat) from ⟨(by first | assumption | omega | rfl | (intro _ hjj; omega) | (simp; done) | (simp; omega)),(by first | exact blame_yes hl (by omega) (by omega) (by omega) hot hpt h70 | exact blame_no hl (by omega) (by omega) (by omega) hpt n70)⟩),(show ((i - (1 : Int)) + 1).toNat < (i + 1).toNat from (by first | omega | (simp_all; omega))),?_⟩
         exact Sub.of [] (@cast (((((.string s) : Value) = (.string s)) ∧ (((.calls h : Dat) = .calls h) ∧ (((.ints ot : Dat) = .ints ot) ∧ (((.int .i64 (i - (1 : Int)) : Value) = .int .i64 (i - (1 : Int))) ∧ True)))) ∧ (True ∧ ((true = true) ∧ (true = true)))) _ (by kernel_rfl) ⟨⟨rfl,rfl,rfl,rfl,tt⟩,tt,rfl,rfl⟩)
        ·intro n70
         refine W.skip (blockQ_normal (thenQ_normal ?_))
         refine W.L cok tab14 hnt [] (⟨[(0,.v (.string s)),(1,.sl (.calls h)),(6,.sl (.ints lf)),(8,.i (i - (1 : Int))),(9,.sl (.ints ot)),(42,.i i),(43,.i (i - (1 : Int))),(70,.b (!(explains s pt (aheadF pt))))],[(45,⟨49,.row (.calls pt)⟩)],[45,999]⟩)
          (True ∧ (True ∧ True ∧ (Fits .i64 (i - (1 : Int)))) ∧ True ∧ True) (by kernel_rfl)
          ⟨tt,⟨tt,tt,(by exact fits_i64 (by omega) (by omega))⟩,tt,tt⟩ ?_
         refine thenQ_normal ?_
         refine ⟨((i - (1 : Int)),lf),(show (-1 ≤ (i - (1 : Int)) ∧ (i - (1 : Int)) < (h.length : Int)) ∧ (lf = blameR s h ((h.length : Int) - 1 - (i - (1 : Int))).toNat) from ⟨(by first | assumption | omega | rfl | (intro _ hjj; omega) | (simp; done) | (simp; omega)),(by first | exact blame_yes hl (by omega) (by omega) (by omega) hot hpt h70 | exact blame_no hl (by omega) (by omega) (by omega) hpt n70)⟩),(show ((i - (1 : Int)) + 1).toNat < (i + 1).toNat from (by first | omega | (simp_all; omega))),?_⟩
         exact Sub.of [] (@cast (((((.string s) : Value) = (.string s)) ∧ (((.calls h : Dat) = .calls h) ∧ (((.ints lf : Dat) = .ints lf) ∧ (((.int .i64 (i - (1 : Int)) : Value) = .int .i64 (i - (1 : Int))) ∧ True)))) ∧ (True ∧ ((true = true) ∧ (true = true)))) _ (by kernel_rfl) ⟨⟨rfl,rfl,rfl,rfl,tt⟩,tt,rfl,rfl⟩)
     ·intro n41
      refine W.exit (thenQ_exit (thenQ_exit (blockQ_hit ?_)))
      refine thenQ_normal ?_
      refine W.K cok tab14 hnt [] [4,5] (⟨[(4,.sl (.ints lf)),(5,.b true)],[],[999]⟩)
       (True ∧ True ∧ True ∧ True) (by kernel_rfl)
       ⟨tt,tt,tt,tt⟩ ?_
      refine W.ret ?_
      exact endQ_ret (.tup [.sl (.ints lf),.b true]) (by kernel_rfl) (@cast (((.ints lf : Dat) = .ints ((blameP s h).1)) ∧ (((.bool true : Value) = .bool ((blameP s h).2)) ∧ True)) _ (by kernel_rfl) ⟨(congrArg Dat.ints (by rw [blameP_yes n25] <;> first | rfl | exact blame_done hl (by omega))),(congrArg Value.bool (by rw [blameP_yes n25] <;> first | rfl | exact blame_done hl (by omega))),tt⟩)
theorem ent14 : Entr prog 14 := ⟨_,func14,rfl,by decide⟩
end Go.Proofs.Try

set_option linter.unusedSimpArgs false
set_option linter.unusedVariables false
namespace Go.Proofs.Try
open Go.Ab Go.RowKit
def fs47 : FnS := fnS [.o] [.str] (fun _ (s,_) => (.b (isObject s),[],True))
abbrev T47 : Tab := lk []
theorem tab47 : TabOK prog T47 := TabOK.nil
set_option maxRecDepth 100000 in
set_option maxHeartbeats 1000000 in
theorem ok47 : FnOK prog 47 fs47 := by
 refine FnOK.mk cok func47 rfl rfl rfl ?_
 rintro fl ⟨(s : ByteArray),_⟩ hpre F hnt0 _
 have hnt : F.nt = 25 := hnt0.trans ntmps47
 clear hpre
 refine W.to (⟨[(0,.v (.string s))],[],[999]⟩) rfl ?_
 refine W.K cok tab47 hnt [] [0] (⟨[(0,.v (.string s))],[],[999]⟩)
  (True ∧ True) (by kernel_rfl)
  ⟨tt,tt⟩ ?_
 refine W.K cok tab47 hnt [] [2] (⟨[(2,.b ((((((eqS s nRegister) || (eqS s nQueue)) || (eqS s nStack)) || (eqS s nCounter)) || (eqS s nSet)) || (eqS s nMost)))],[],[999]⟩)
  (True ∧ (True ∧ True ∧ True) ∧ True ∧ ((!(eqS s nRegister)) = true → True) ∧ ((!(eqS s nRegister)) = true → ((((!(eqS s nRegister)) = true) ∧ True) ∧ True ∧ True)) ∧ (True ∧ ((eqS s nRegister) = true → True) ∧ ((eqS s nRegister) = false → ((!(eqS s nRegister)) = true) ∧ True)) ∧ True ∧ ((!((eqS s nRegister) || (eqS s nQueue))) = true → True) ∧ ((!((eqS s nRegister) || (eqS s nQueue))) = true → ((((!((eqS s nRegister) || (eqS s nQueue))) = true) ∧ True) ∧ True ∧ True)) ∧ (True ∧ (((eqS s nRegister) || (eqS s nQueue)) = true → True) ∧ (((eqS s nRegister) || (eqS s nQueue)) = false → ((!((eqS s nRegister) || (eqS s nQueue))) = true) ∧ True)) ∧ True ∧ ((!(((eqS s nRegister) || (eqS s nQueue)) || (eqS s nStack))) = true → True) ∧ ((!(((eqS s nRegister) || (eqS s nQueue)) || (eqS s nStack))) = true → ((((!(((eqS s nRegister) || (eqS s nQueue)) || (eqS s nStack))) = true) ∧ True) ∧ True ∧ True)) ∧ (True ∧ ((((eqS s nRegister) || (eqS s nQueue)) || (eqS s nStack)) = true → True) ∧ ((((eqS s nRegister) || (eqS s nQueue)) || (eqS s nStack)) = false → ((!(((eqS s nRegister) || (eqS s nQueue)) || (eqS s nStack))) = true) ∧ True)) ∧ True ∧ ((!((((eqS s nRegister) || (eqS s nQueue)) || (eqS s nStack)) || (eqS s nCounter))) = true → True) ∧ ((!((((eqS s nRegister) || (eqS s nQueue)) || (eqS s nStack)) || (eqS s nCounter))) = true → ((((!((((eqS s nRegister) || (eqS s nQueue)) || (eqS s nStack)) || (eqS s nCounter))) = true) ∧ True) ∧ True ∧ True)) ∧ (True ∧ (((((eqS s nRegister) || (eqS s nQueue)) || (eqS s nStack)) || (eqS s nCounter)) = true → True) ∧ (((((eqS s nRegister) || (eqS s nQueue)) || (eqS s nStack)) || (eqS s nCounter)) = false → ((!((((eqS s nRegister) || (eqS s nQueue)) || (eqS s nStack)) || (eqS s nCounter))) = true) ∧ True)) ∧ True ∧ ((!(((((eqS s nRegister) || (eqS s nQueue)) || (eqS s nStack)) || (eqS s nCounter)) || (eqS s nSet))) = true → True) ∧ ((!(((((eqS s nRegister) || (eqS s nQueue)) || (eqS s nStack)) || (eqS s nCounter)) || (eqS s nSet))) = true → ((((!(((((eqS s nRegister) || (eqS s nQueue)) || (eqS s nStack)) || (eqS s nCounter)) || (eqS s nSet))) = true) ∧ True) ∧ True ∧ True)) ∧ (True ∧ ((((((eqS s nRegister) || (eqS s nQueue)) || (eqS s nStack)) || (eqS s nCounter)) || (eqS s nSet)) = true → True) ∧ ((((((eqS s nRegister) || (eqS s nQueue)) || (eqS s nStack)) || (eqS s nCounter)) || (eqS s nSet)) = false → ((!(((((eqS s nRegister) || (eqS s nQueue)) || (eqS s nStack)) || (eqS s nCounter)) || (eqS s nSet))) = true) ∧ True)) ∧ True ∧ True) (by kernel_rfl)
  ⟨tt,⟨tt,tt,tt⟩,tt,(fun _ => trivial),(fun hG => ⟨⟨hG,tt⟩,tt,tt⟩),⟨tt,(fun _ => trivial),(fun hp => ⟨(not_t hp),tt⟩)⟩,tt,(fun _ => trivial),(fun hG => ⟨⟨hG,tt⟩,tt,tt⟩),⟨tt,(fun _ => trivial),(fun hp => ⟨(not_t hp),tt⟩)⟩,tt,(fun _ => trivial),(fun hG => ⟨⟨hG,tt⟩,tt,tt⟩),⟨tt,(fun _ => trivial),(fun hp => ⟨(not_t hp),tt⟩)⟩,tt,(fun _ => trivial),(fun hG => ⟨⟨hG,tt⟩,tt,tt⟩),⟨tt,(fun _ => trivial),(fun hp => ⟨(not_t hp),tt⟩)⟩,tt,(fun _ => trivial),(fun hG => ⟨⟨hG,tt⟩,tt,tt⟩),⟨tt,(fun _ => trivial),(fun hp => ⟨(not_t hp),tt⟩)⟩,tt,tt⟩ ?_
 refine W.ret ?_
 exact endQ_ret (.b ((((((eqS s nRegister) || (eqS s nQueue)) || (eqS s nStack)) || (eqS s nCounter)) || (eqS s nSet)) || (eqS s nMost))) (by kernel_rfl) (@cast ((.bool ((((((eqS s nRegister) || (eqS s nQueue)) || (eqS s nStack)) || (eqS s nCounter)) || (eqS s nSet)) || (eqS s nMost)) : Value) = .bool (isObject s)) _ (by kernel_rfl) (congrArg Value.bool (by first | rfl | simp_all)))
theorem ent47 : Entr prog 47 := ⟨_,func47,rfl,by decide⟩
end Go.Proofs.Try

set_option linter.unusedSimpArgs false
set_option linter.unusedVariables false
namespace Go.Proofs.Try
open Go.Ab Go.RowKit
def fs66 : FnS := fnS [.o,.o,.o] [.int,.int,.int] (fun _ (n,low,high,_) => (.b (within n low high),[],True))
abbrev T66 : Tab := lk []
theorem tab66 : TabOK prog T66 := TabOK.nil
set_option maxRecDepth 100000 in
set_option maxHeartbeats 1000000 in
theorem ok66 : FnOK prog 66 fs66 := by
 refine FnOK.mk cok func66 rfl rfl rfl ?_
 rintro fl ⟨(n : Int),(low : Int),(high : Int),_⟩ hpre F hnt0 _
 have hnt : F.nt = 15 := hnt0.trans ntmps66
 clear hpre
 refine W.to (⟨[(0,.i n),(1,.i low),(2,.i high)],[],[999]⟩) rfl ?_
 refine W.K cok tab66 hnt [] [0,1,2] (⟨[(0,.i n),(1,.i low),(2,.i high)],[],[999]⟩)
  (True ∧ True) (by kernel_rfl)
  ⟨tt,tt⟩ ?_
 refine W.K cok tab66 hnt [] [6] (⟨[(6,.b ((decide (low ≤ n)) && (decide (n ≤ high))))],[],[999]⟩)
  (True ∧ True ∧ (True ∧ True ∧ True) ∧ True ∧ ((decide (low ≤ n)) = true → True) ∧ ((decide (low ≤ n)) = true → True) ∧ ((decide (low ≤ n)) = true → ((((decide (low ≤ n)) = true) ∧ True) ∧ (((decide (low ≤ n)) = true) ∧ True) ∧ True)) ∧ (True ∧ ((decide (low ≤ n)) = true → ((decide (low ≤ n)) = true) ∧ True) ∧ ((decide (low ≤ n)) = false → True)) ∧ True ∧ True) (by kernel_rfl)
  ⟨tt,tt,⟨tt,tt,tt⟩,tt,(fun _ => trivial),(fun _ => trivial),(fun hG => ⟨⟨hG,tt⟩,⟨hG,tt⟩,tt⟩),⟨tt,(fun hp => ⟨hp,tt⟩),(fun _ => trivial)⟩,tt,tt⟩ ?_
 refine W.ret ?_
 exact endQ_ret (.b ((decide (low ≤ n)) && (decide (n ≤ high)))) (by kernel_rfl) (@cast ((.bool ((decide (low ≤ n)) && (decide (n ≤ high))) : Value) = .bool (within n low high)) _ (by kernel_rfl) (congrArg Value.bool (by first | rfl | simp_all)))
theorem ent66 : Entr prog 66 := ⟨_,func66,rfl,by decide⟩
end Go.Proofs.Try

set_option linter.unusedSimpArgs false
set_option linter.unusedVariables false
namespace Go.Proofs.Try
open Go.Ab Go.RowKit
def fs60 : FnS := fnS [.o] [.call] (fun _ (c,_) => (.b (isCall c),[],True))
abbrev T60 : Tab := lk [(66,fs66)]
theorem tab60 : TabOK prog T60 := (TabOK.cons ok66 ent66 TabOK.nil)
set_option maxRecDepth 100000 in
set_option maxHeartbeats 1000000 in
theorem ok60 : FnOK prog 60 fs60 := by
 refine FnOK.mk cok func60 rfl rfl rfl ?_
 rintro fl ⟨(c : CallD),_⟩ hpre F hnt0 _
 have hnt : F.nt = 39 := hnt0.trans ntmps60
 clear hpre
 refine W.to (⟨[(0,.agg [.i c.proc,.i c.obj,.i c.kind,.i c.arg,.i c.ret,.i c.frm,.i c.to])],[],[999]⟩) rfl ?_
 refine W.K cok tab60 hnt [] [1] (⟨[(1,.ptr 1 0)],[(1,⟨49,.fix [.i c.proc,.i c.obj,.i c.kind,.i c.arg,.i c.ret,.i c.frm,.i c.to]⟩)],[1,999]⟩)
  (True ∧ True ∧ True) (by kernel_rfl)
  ⟨tt,tt,tt⟩ ?_
 refine W.K cok tab60 hnt [] [2] (⟨[(2,.b (((((((within c.proc (0 : Int) (2 : Int)) && (within c.obj (0 : Int) (1 : Int))) && (within c.kind (0 : Int) (2 : Int))) && (within c.arg (0 : Int) (3 : Int))) && (within c.ret (-1 : Int) (20 : Int))) && (within c.frm (0 : Int) (30 : Int))) && (within c.to (c.frm + (1 : Int)) (30 : Int))))],[(1,⟨49,.fix [.i c.proc,.i c.obj,.i c.kind,.i c.arg,.i c.ret,.i c.frm,.i c.to]⟩)],[1,999]⟩)
  (True ∧ True ∧ (True ∧ (True ∧ True ∧ True ∧ True) ∧ True) ∧ True ∧ ((within c.proc (0 : Int) (2 : Int)) = true → True) ∧ ((within c.proc (0 : Int) (2 : Int)) = true → (((within c.proc (0 : Int) (2 : Int)) = true) ∧ True)) ∧ ((within c.proc (0 : Int) (2 : Int)) = true → (True ∧ ((((within c.proc (0 : Int) (2 : Int)) = true) ∧ True) ∧ True ∧ True ∧ True) ∧ True)) ∧ (True ∧ ((within c.proc (0 : Int) (2 : Int)) = true → ((within c.proc (0 : Int) (2 : Int)) = true) ∧ True) ∧ ((within c.proc (0 : Int) (2 : Int)) = false → True)) ∧ True ∧ (((within c.proc (0 : Int) (2 : Int)) && (within c.obj (0 : Int) (1 : Int))) = true → True) ∧ (((within c.proc (0 : Int) (2 : Int)) && (within c.obj (0 : Int) (1 : Int))) = true → ((((within c.proc (0 : Int) (2 : Int)) && (within c.obj (0 : Int) (1 : Int))) = true) ∧ True)) ∧ (((within c.proc (0 : Int) (2 : Int)) && (within c.obj (0 : Int) (1 : Int))) = true → (True ∧ (((((within c.proc (0 : Int) (2 : Int)) && (within c.obj (0 : Int) (1 : Int))) = true) ∧ True) ∧ True ∧ True ∧ True) ∧ True)) ∧ (True ∧ (((within c.proc (0 : Int) (2 : Int)) && (within c.obj (0 : Int) (1 : Int))) = true → (((within c.proc (0 : Int) (2 : Int)) && (within c.obj (0 : Int) (1 : Int))) = true) ∧ True) ∧ (((within c.proc (0 : Int) (2 : Int)) && (within c.obj (0 : Int) (1 : Int))) = false → True)) ∧ True ∧ ((((within c.proc (0 : Int) (2 : Int)) && (within c.obj (0 : Int) (1 : Int))) && (within c.kind (0 : Int) (2 : Int))) = true → True) ∧ ((((within c.proc (0 : Int) (2 : Int)) && (within c.obj (0 : Int) (1 : Int))) && (within c.kind (0 : Int) (2 : Int))) = true → (((((within c.proc (0 : Int) (2 : Int)) && (within c.obj (0 : Int) (1 : Int))) && (within c.kind (0 : Int) (2 : Int))) = true) ∧ True)) ∧ ((((within c.proc (0 : Int) (2 : Int)) && (within c.obj (0 : Int) (1 : Int))) && (within c.kind (0 : Int) (2 : Int))) = true → (True ∧ ((((((within c.proc (0 : Int) (2 : Int)) && (within c.obj (0 : Int) (1 : Int))) && (within c.kind (0 : Int) (2 : Int))) = true) ∧ True) ∧ True ∧ True ∧ True) ∧ True)) ∧ (True ∧ ((((within c.proc (0 : Int) (2 : Int)) && (within c.obj (0 : Int) (1 : Int))) && (within c.kind (0 : Int) (2 : Int))) = true → ((((within c.proc (0 : Int) (2 : Int)) && (within c.obj (0 : Int) (1 : Int))) && (within c.kind (0 : Int) (2 : Int))) = true) ∧ True) ∧ ((((within c.proc (0 : Int) (2 : Int)) && (within c.obj (0 : Int) (1 : Int))) && (within c.kind (0 : Int) (2 : Int))) = false → True)) ∧ True ∧ (((((within c.proc (0 : Int) (2 : Int)) && (within c.obj (0 : Int) (1 : Int))) && (within c.kind (0 : Int) (2 : Int))) && (within c.arg (0 : Int) (3 : Int))) = true → True) ∧ (((((within c.proc (0 : Int) (2 : Int)) && (within c.obj (0 : Int) (1 : Int))) && (within c.kind (0 : Int) (2 : Int))) && (within c.arg (0 : Int) (3 : Int))) = true → ((((((within c.proc (0 : Int) (2 : Int)) && (within c.obj (0 : Int) (1 : Int))) && (within c.kind (0 : Int) (2 : Int))) && (within c.arg (0 : Int) (3 : Int))) = true) ∧ True)) ∧ (((((within c.proc (0 : Int) (2 : Int)) && (within c.obj (0 : Int) (1 : Int))) && (within c.kind (0 : Int) (2 : Int))) && (within c.arg (0 : Int) (3 : Int))) = true → (True ∧ (((((((within c.proc (0 : Int) (2 : Int)) && (within c.obj (0 : Int) (1 : Int))) && (within c.kind (0 : Int) (2 : Int))) && (within c.arg (0 : Int) (3 : Int))) = true) ∧ True) ∧ True ∧ True ∧ True) ∧ True)) ∧ (True ∧ (((((within c.proc (0 : Int) (2 : Int)) && (within c.obj (0 : Int) (1 : Int))) && (within c.kind (0 : Int) (2 : Int))) && (within c.arg (0 : Int) (3 : Int))) = true → (((((within c.proc (0 : Int) (2 : Int)) && (within c.obj (0 : Int) (1 : Int))) && (within c.kind (0 : Int) (2 : Int))) && (within c.arg (0 : Int) (3 : Int))) = true) ∧ True) ∧ (((((within c.proc (0 : Int) (2 : Int)) && (within c.obj (0 : Int) (1 : Int))) && (within c.kind (0 : Int) (2 : Int))) && (within c.arg (0 : Int) (3 : Int))) = false → True)) ∧ True ∧ ((((((within c.proc (0 : Int) (2 : Int)) && (within c.obj (0 : Int) (1 : Int))) && (within c.kind (0 : Int) (2 : Int))) && (within c.arg (0 : Int) (3 : Int))) && (within c.ret (-1 : Int) (20 : Int))) = true → True) ∧ ((((((within c.proc (0 : Int) (2 : Int)) && (within c.obj (0 : Int) (1 : Int))) && (within c.kind (0 : Int) (2 : Int))) && (within c.arg (0 : Int) (3 : Int))) && (within c.ret (-1 : Int) (20 : Int))) = true → (((((((within c.proc (0 : Int) (2 : Int)) && (within c.obj (0 : Int) (1 : Int))) && (within c.kind (0 : Int) (2 : Int))) && (within c.arg (0 : Int) (3 : Int))) && (within c.ret (-1 : Int) (20 : Int))) = true) ∧ True)) ∧ ((((((within c.proc (0 : Int) (2 : Int)) && (within c.obj (0 : Int) (1 : Int))) && (within c.kind (0 : Int) (2 : Int))) && (within c.arg (0 : Int) (3 : Int))) && (within c.ret (-1 : Int) (20 : Int))) = true → (True ∧ ((((((((within c.proc (0 : Int) (2 : Int)) && (within c.obj (0 : Int) (1 : Int))) && (within c.kind (0 : Int) (2 : Int))) && (within c.arg (0 : Int) (3 : Int))) && (within c.ret (-1 : Int) (20 : Int))) = true) ∧ True) ∧ True ∧ True ∧ True) ∧ True)) ∧ (True ∧ ((((((within c.proc (0 : Int) (2 : Int)) && (within c.obj (0 : Int) (1 : Int))) && (within c.kind (0 : Int) (2 : Int))) && (within c.arg (0 : Int) (3 : Int))) && (within c.ret (-1 : Int) (20 : Int))) = true → ((((((within c.proc (0 : Int) (2 : Int)) && (within c.obj (0 : Int) (1 : Int))) && (within c.kind (0 : Int) (2 : Int))) && (within c.arg (0 : Int) (3 : Int))) && (within c.ret (-1 : Int) (20 : Int))) = true) ∧ True) ∧ ((((((within c.proc (0 : Int) (2 : Int)) && (within c.obj (0 : Int) (1 : Int))) && (within c.kind (0 : Int) (2 : Int))) && (within c.arg (0 : Int) (3 : Int))) && (within c.ret (-1 : Int) (20 : Int))) = false → True)) ∧ True ∧ (((((((within c.proc (0 : Int) (2 : Int)) && (within c.obj (0 : Int) (1 : Int))) && (within c.kind (0 : Int) (2 : Int))) && (within c.arg (0 : Int) (3 : Int))) && (within c.ret (-1 : Int) (20 : Int))) && (within c.frm (0 : Int) (30 : Int))) = true → True) ∧ (((((((within c.proc (0 : Int) (2 : Int)) && (within c.obj (0 : Int) (1 : Int))) && (within c.kind (0 : Int) (2 : Int))) && (within c.arg (0 : Int) (3 : Int))) && (within c.ret (-1 : Int) (20 : Int))) && (within c.frm (0 : Int) (30 : Int))) = true → ((((((((within c.proc (0 : Int) (2 : Int)) && (within c.obj (0 : Int) (1 : Int))) && (within c.kind (0 : Int) (2 : Int))) && (within c.arg (0 : Int) (3 : Int))) && (within c.ret (-1 : Int) (20 : Int))) && (within c.frm (0 : Int) (30 : Int))) = true) ∧ True)) ∧ (((((((within c.proc (0 : Int) (2 : Int)) && (within c.obj (0 : Int) (1 : Int))) && (within c.kind (0 : Int) (2 : Int))) && (within c.arg (0 : Int) (3 : Int))) && (within c.ret (-1 : Int) (20 : Int))) && (within c.frm (0 : Int) (30 : Int))) = true → True) ∧ (((((((within c.proc (0 : Int) (2 : Int)) && (within c.obj (0 : Int) (1 : Int))) && (within c.kind (0 : Int) (2 : Int))) && (within c.arg (0 : Int) (3 : Int))) && (within c.ret (-1 : Int) (20 : Int))) && (within c.frm (0 : Int) (30 : Int))) = true → ((((((((within c.proc (0 : Int) (2 : Int)) && (within c.obj (0 : Int) (1 : Int))) && (within c.kind (0 : Int) (2 : Int))) && (within c.arg (0 : Int) (3 : Int))) && (within c.ret (-1 : Int) (20 : Int))) && (within c.frm (0 : Int) (30 : Int))) = true) ∧ True)) ∧ (((((((within c.proc (0 : Int) (2 : Int)) && (within c.obj (0 : Int) (1 : Int))) && (within c.kind (0 : Int) (2 : Int))) && (within c.arg (0 : Int) (3 : Int))) && (within c.ret (-1 : Int) (20 : Int))) && (within c.frm (0 : Int) (30 : Int))) = true → (((((((((within c.proc (0 : Int) (2 : Int)) && (within c.obj (0 : Int) (1 : Int))) && (within c.kind (0 : Int) (2 : Int))) && (within c.arg (0 : Int) (3 : Int))) && (within c.ret (-1 : Int) (20 : Int))) && (within c.frm (0 : Int) (30 : Int))) = true) ∧ True) ∧ True ∧ (Fits .i64 (c.frm + (1 : Int))))) ∧ (((((((within c.proc (0 : Int) (2 : Int)) && (within c.obj (0 : Int) (1 : Int))) && (within c.kind (0 : Int) (2 : Int))) && (within c.arg (0 : Int) (3 : Int))) && (within c.ret (-1 : Int) (20 : Int))) && (within c.frm (0 : Int) (30 : Int))) = true → (True ∧ (((((((((within c.proc (0 : Int) (2 : Int)) && (within c.obj (0 : Int) (1 : Int))) && (within c.kind (0 : Int) (2 : Int))) && (within c.arg (0 : Int) (3 : Int))) && (within c.ret (-1 : Int) (20 : Int))) && (within c.frm (0 : Int) (30 : Int))) = true) ∧ True) ∧ ((((((((within c.proc (0 : Int) (2 : Int)) && (within c.obj (0 : Int) (1 : Int))) && (within c.kind (0 : Int) (2 : Int))) && (within c.arg (0 : Int) (3 : Int))) && (within c.ret (-1 : Int) (20 : Int))) && (within c.frm (0 : Int) (30 : Int))) = true) ∧ True) ∧ True ∧ True) ∧ True)) ∧ (True ∧ (((((((within c.proc (0 : Int) (2 : Int)) && (within c.obj (0 : Int) (1 : Int))) && (within c.kind (0 : Int) (2 : Int))) && (within c.arg (0 : Int) (3 : Int))) && (within c.ret (-1 : Int) (20 : Int))) && (within c.frm (0 : Int) (30 : Int))) = true → (((((((within c.proc (0 : Int) (2 : Int)) && (within c.obj (0 : Int) (1 : Int))) && (within c.kind (0 : Int) (2 : Int))) && (within c.arg (0 : Int) (3 : Int))) && (within c.ret (-1 : Int) (20 : Int))) && (within c.frm (0 : Int) (30 : Int))) = true) ∧ True) ∧ (((((((within c.proc (0 : Int) (2 : Int)) && (within c.obj (0 : Int) (1 : Int))) && (within c.kind (0 : Int) (2 : Int))) && (within c.arg (0 : Int) (3 : Int))) && (within c.ret (-1 : Int) (20 : Int))) && (within c.frm (0 : Int) (30 : Int))) = false → True)) ∧ True ∧ True) (by kernel_rfl)
  ⟨tt,tt,⟨tt,⟨tt,tt,tt,tt⟩,tt⟩,tt,(fun _ => trivial),(fun hG => ⟨hG,tt⟩),(fun hG => ⟨tt,⟨⟨hG,tt⟩,tt,tt,tt⟩,tt⟩),⟨tt,(fun hp => ⟨hp,tt⟩),(fun _ => trivial)⟩,tt,(fun _ => trivial),(fun hG => ⟨hG,tt⟩),(fun hG => ⟨tt,⟨⟨hG,tt⟩,tt,tt,tt⟩,tt⟩),⟨tt,(fun hp => ⟨hp,tt⟩),(fun _ => trivial)⟩,tt,(fun _ => trivial),(fun hG => ⟨hG,tt⟩),(fun hG => ⟨tt,⟨⟨hG,tt⟩,tt,tt,tt⟩,tt⟩),⟨tt,(fun hp => ⟨hp,tt⟩),(fun _ => trivial)⟩,tt,(fun _ => trivial),(fun hG => ⟨hG,tt⟩),(fun hG => ⟨tt,⟨⟨hG,tt⟩,tt,tt,tt⟩,tt⟩),⟨tt,(fun hp => ⟨hp,tt⟩),(fun _ => trivial)⟩,tt,(fun _ => trivial),(fun hG => ⟨hG,tt⟩),(fun hG => ⟨tt,⟨⟨hG,tt⟩,tt,tt,tt⟩,tt⟩),⟨tt,(fun hp => ⟨hp,tt⟩),(fun _ => trivial)⟩,tt,(fun _ => trivial),(fun hG => ⟨hG,tt⟩),(fun _ => trivial),(fun hG => ⟨hG,tt⟩),(fun hG => ⟨⟨hG,tt⟩,tt,(by have hh := hG; simp only [Bool.and_eq_true,inRange_iff] at hh; exact fits_i64 (by omega) (by omega))⟩),(fun hG => ⟨tt,⟨⟨hG,tt⟩,⟨hG,tt⟩,tt,tt⟩,tt⟩),⟨tt,(fun hp => ⟨hp,tt⟩),(fun _ => trivial)⟩,tt,tt⟩ ?_
 refine W.ret ?_
 exact endQ_ret (.b (((((((within c.proc (0 : Int) (2 : Int)) && (within c.obj (0 : Int) (1 : Int))) && (within c.kind (0 : Int) (2 : Int))) && (within c.arg (0 : Int) (3 : Int))) && (within c.ret (-1 : Int) (20 : Int))) && (within c.frm (0 : Int) (30 : Int))) && (within c.to (c.frm + (1 : Int)) (30 : Int)))) (by kernel_rfl) (@cast ((.bool (((((((within c.proc (0 : Int) (2 : Int)) && (within c.obj (0 : Int) (1 : Int))) && (within c.kind (0 : Int) (2 : Int))) && (within c.arg (0 : Int) (3 : Int))) && (within c.ret (-1 : Int) (20 : Int))) && (within c.frm (0 : Int) (30 : Int))) && (within c.to (c.frm + (1 : Int)) (30 : Int))) : Value) = .bool (isCall c)) _ (by kernel_rfl) (congrArg Value.bool (by rw [validCall_eq])))
theorem ent60 : Entr prog 60 := ⟨_,func60,rfl,by decide⟩
end Go.Proofs.Try
