import Derived.Test.YtggcajkjoaichaaIF7S0
import Derived.Test.YtggcajkjoaichaaIF7S1
import Derived.Test.YtggcajkjoaichaaIF7S4
import Derived.Test.YtggcajkjoaichaaIF7S6
import Derived.Test.YtggcajkjoaichaaIF7S2
import Derived.Test.YtggcajkjoaichaaIF7S7
import Derived.Test.YtggcajkjoaichaaIF7S10
set_option linter.unusedSimpArgs false
set_option linter.unusedVariables false
namespace Go.Proofs.Try
open Go.Ab Go.RowKit
def fs7 : FnS := fnS [.s .bytes] [.bytes] (fun _ (code,_) => (.b true,[],True))
abbrev T7 : Tab := lk [(10,fs10),(14,fs14),(21,fs21),(28,fs28),(29,fs29),(30,fs30),(31,fs31)]
theorem tab7 : TabOK prog T7 := (TabOK.cons ok10 ent10 (TabOK.cons ok14 ent14 (TabOK.cons ok21 ent21 (TabOK.cons ok28 ent28 (TabOK.cons ok29 ent29 (TabOK.cons ok30 ent30 (TabOK.cons ok31 ent31 TabOK.nil)))))))
set_option maxRecDepth 100000 in
set_option maxHeartbeats 1000000 in
theorem ok7 : FnOK prog 7 fs7 := by
 refine FnOK.mk cok func7 rfl rfl rfl ?_
 rintro fl ⟨(code : List UInt8),_⟩ hpre F hnt0 _
 have hnt : F.nt = 111 := hnt0.trans ntmps7
 clear hpre
 refine W.to (⟨[(0,.sl (.bytes code))],[],[999]⟩) rfl ?_
 refine W.lenOf 0 (.bytes code) (by kernel_rfl) ?_
 intro hl_code; replace hl_code : List.length code ≤ 9223372036854775807 := hl_code
 refine W.K cok tab7 hnt [] [0] (⟨[(0,.sl (.bytes code))],[],[999]⟩)
  (True ∧ True) (by kernel_rfl)
  ⟨tt,tt⟩ ?_
 refine W.seq ?_
 refine W.K cok tab7 hnt [] [0,12] (⟨[(0,.sl (.bytes code)),(12,.b (decide ((1048576 : Int) < (code.length : Int))))],[],[999]⟩)
  (True ∧ True ∧ (True ∧ True ∧ True) ∧ True) (by kernel_rfl)
  ⟨tt,tt,⟨tt,tt,tt⟩,tt⟩ ?_
 refine W.ifP ((1048576 : Int) < (code.length : Int)) (.b (decide ((1048576 : Int) < (code.length : Int)))) (by kernel_rfl) rfl trivial ?_ ?_
 ·intro h12
  refine W.K cok tab7 hnt [] [2] (⟨[(2,.b true)],[],[999]⟩)
   (True ∧ True) (by kernel_rfl)
   ⟨tt,tt⟩ ?_
  refine W.ret (thenQ_ret ?_)
  exact endQ_ret (.b true) (by kernel_rfl) (@cast ((.bool true : Value) = .bool true) _ (by kernel_rfl) rfl)
 ·intro n12
  refine W.skip (thenQ_normal ?_)
  refine W.seq (W.wi ?_)
  refine WI.runT cok tab7 hnt [] 1 1 (⟨[(0,.sl (.bytes code)),(12,.b (decide ((1048576 : Int) < (code.length : Int)))),(14,.sl (.bytes code))],[],[999]⟩)
   (True ∧ True) (by kernel_rfl) rfl
   ⟨tt,tt⟩ ?_
  refine WI.call [.sl (.bytes code)] [] [.sl (.bytes code)] [.sl (.bytes code)] none (True) (True ∧ True) none rok27 ent27 hnt rfl rfl (wanted_none rfl) (by kernel_rfl) (by kernel_rfl) (by kernel_rfl) ⟨tt,tt,tt⟩
   (@cast (True) _ (by kernel_rfl) trivial) (Or.inl rfl) rfl ?_
  rintro r bl fx2 hR
  obtain ⟨⟨nm15,g15⟩,hq15,rfl,rfl,rfl⟩ := (@cast _ (∃ x : ByteArray × (List CallD),((x.2.length ≤ 6)) ∧ r = (.tup [.v (.string x.1),.sl (.calls x.2)]) ∧ bl = ([]) ∧ fx2 = ([])) (by kernel_rfl) hR)
  clear hR
  replace hq15 : (g15.length ≤ 6) := hq15
  have hg15 := hq15
  refine ⟨by kernel_rfl,WI.to (⟨[(0,.sl (.bytes code)),(12,.b (decide ((1048576 : Int) < (code.length : Int)))),(14,.sl (.bytes code)),(15,.tup [.v (.string nm15),.sl (.calls g15)])],[],[999]⟩) 2 (by kernel_rfl) rfl ?_⟩
  refine WI.runT cok tab7 hnt [] 5 7 (⟨[(0,.sl (.bytes code)),(3,.v (.string nm15)),(4,.sl (.calls g15)),(12,.b (decide ((1048576 : Int) < (code.length : Int)))),(13,.tup [.v (.string nm15),.sl (.calls g15)]),(14,.sl (.bytes code)),(15,.tup [.v (.string nm15),.sl (.calls g15)]),(16,.v (.string nm15)),(17,.sl (.calls g15))],[],[999]⟩)
   (True ∧ True ∧ True ∧ True ∧ True ∧ True) (by kernel_rfl) rfl
   ⟨tt,tt,tt,tt,tt,tt⟩ ?_
  refine WI.nil rfl (thenQ_normal ?_)
  refine W.keepE [3,4] [(3,.v (.string nm15)),(4,.sl (.calls g15))] (by kernel_rfl) ?_
  refine W.to (⟨[(3,.v (.string nm15)),(4,.sl (.calls g15))],[],[999]⟩) rfl ?_
  refine W.K cok tab7 hnt [] [3,4,5] (⟨[(3,.v (.string nm15)),(4,.sl (.calls g15)),(5,.sl (.intss (ordersBy nm15 g15 (ownF g15))))],[],[999]⟩)
   (True ∧ True ∧ (True ∧ (True ∧ True ∧ True) ∧ True) ∧ True ∧ True) (by kernel_rfl)
   ⟨tt,tt,⟨tt,⟨tt,tt,tt⟩,tt⟩,tt,tt⟩ ?_
  refine W.seq ?_
  refine W.K cok tab7 hnt [] [3,4,5,31] (⟨[(3,.v (.string nm15)),(4,.sl (.calls g15)),(5,.sl (.intss (ordersBy nm15 g15 (ownF g15)))),(31,.b ((!(decide ((ordersBy nm15 g15 (ownF g15)) = (ordersBy nm15 g15 (ownF g15))))) || (decide ((((List.length (ordersBy nm15 g15 (ownF g15))) : Nat) : Int) = (0 : Int)))))],[],[999]⟩)
   (True ∧ True ∧ True ∧ (True ∧ (True ∧ True ∧ True) ∧ True) ∧ (True ∧ (True ∧ True ∧ True) ∧ True) ∧ True ∧ True ∧ ((!(!(decide ((ordersBy nm15 g15 (ownF g15)) = (ordersBy nm15 g15 (ownF g15)))))) = true → True) ∧ ((!(!(decide ((ordersBy nm15 g15 (ownF g15)) = (ordersBy nm15 g15 (ownF g15)))))) = true → (((!(!(decide ((ordersBy nm15 g15 (ownF g15)) = (ordersBy nm15 g15 (ownF g15)))))) = true) ∧ True)) ∧ ((!(!(decide ((ordersBy nm15 g15 (ownF g15)) = (ordersBy nm15 g15 (ownF g15)))))) = true → ((((!(!(decide ((ordersBy nm15 g15 (ownF g15)) = (ordersBy nm15 g15 (ownF g15)))))) = true) ∧ True) ∧ True ∧ True)) ∧ (True ∧ ((!(decide ((ordersBy nm15 g15 (ownF g15)) = (ordersBy nm15 g15 (ownF g15))))) = true → True) ∧ ((!(decide ((ordersBy nm15 g15 (ownF g15)) = (ordersBy nm15 g15 (ownF g15))))) = false → ((!(!(decide ((ordersBy nm15 g15 (ownF g15)) = (ordersBy nm15 g15 (ownF g15)))))) = true) ∧ True)) ∧ True) (by kernel_rfl)
   ⟨tt,tt,tt,⟨tt,⟨tt,tt,tt⟩,tt⟩,⟨tt,⟨tt,tt,tt⟩,tt⟩,tt,tt,(fun _ => trivial),(fun hG => ⟨hG,tt⟩),(fun hG => ⟨⟨hG,tt⟩,tt,tt⟩),⟨tt,(fun _ => trivial),(fun hp => ⟨(not_t hp),tt⟩)⟩,tt⟩ ?_
  refine W.if' ((!(decide ((ordersBy nm15 g15 (ownF g15)) = (ordersBy nm15 g15 (ownF g15))))) || (decide ((((List.length (ordersBy nm15 g15 (ownF g15))) : Nat) : Int) = (0 : Int)))) (.b ((!(decide ((ordersBy nm15 g15 (ownF g15)) = (ordersBy nm15 g15 (ownF g15))))) || (decide ((((List.length (ordersBy nm15 g15 (ownF g15))) : Nat) : Int) = (0 : Int))))) (by kernel_rfl) rfl trivial ?_ ?_
  ·intro h31
   refine W.K cok tab7 hnt [] [2] (⟨[(2,.b (decide ((ordersBy nm15 g15 (ownF g15)) = (ordersBy nm15 g15 (ownF g15)))))],[],[999]⟩)
    (True ∧ True ∧ True ∧ (True ∧ (True ∧ True ∧ True) ∧ True) ∧ (True ∧ (True ∧ True ∧ True) ∧ True) ∧ True ∧ True) (by kernel_rfl)
    ⟨tt,tt,tt,⟨tt,⟨tt,tt,tt⟩,tt⟩,⟨tt,⟨tt,tt,tt⟩,tt⟩,tt,tt⟩ ?_
   refine W.ret (thenQ_ret ?_)
   exact endQ_ret (.b (decide ((ordersBy nm15 g15 (ownF g15)) = (ordersBy nm15 g15 (ownF g15))))) (by kernel_rfl) (@cast ((.bool (decide ((ordersBy nm15 g15 (ownF g15)) = (ordersBy nm15 g15 (ownF g15)))) : Value) = .bool true) _ (by kernel_rfl) (congrArg Value.bool (by simp)))
  ·intro n31
   have n31_0 : ¬ ((((List.length (ordersBy nm15 g15 (ownF g15))) : Nat) : Int) = (0 : Int)) := of_decide_eq_false (or_r n31)
   have hpos : 0 < (ordersBy nm15 g15 (ownF g15)).length := by have h9 := of_decide_eq_false (or_r n31); omega
   have hgd := by_guard (getD_mem (ordersBy nm15 g15 (ownF g15)) [] hpos)
   have hv : validHistory g15 = true := and_r hgd
   have hv6 := (valid_iff.1 hv).1
   have hrl := own_len hv
   have hcnt := by_count (s := nm15) (h := g15) (f := ownF g15)
   refine W.skip (thenQ_normal ?_)
   refine W.K cok tab7 hnt [] [3,4,5,6] (⟨[(3,.v (.string nm15)),(4,.sl (.calls g15)),(5,.sl (.intss (ordersBy nm15 g15 (ownF g15)))),(6,.sl (.ints (ownAhead g15)))],[],[999]⟩)
    (True ∧ (True ∧ (True ∧ True) ∧ True) ∧ True ∧ True) (by kernel_rfl)
    ⟨tt,⟨tt,⟨tt,tt⟩,tt⟩,tt,tt⟩ ?_
   refine W.seq ?_
   refine W.K cok tab7 hnt [] [3,4,5,6,7] (⟨[(3,.v (.string nm15)),(4,.sl (.calls g15)),(5,.sl (.intss (ordersBy nm15 g15 (ownF g15)))),(6,.sl (.ints (ownAhead g15))),(7,.i (0 : Int))],[],[999]⟩)
    (True ∧ True) (by kernel_rfl)
    ⟨tt,tt⟩ ?_
   refine W.block ?_
   refine W.loop (ι := Nat) (fun (i : Nat) => (⟨[(3,.v (.string nm15)),(4,.sl (.calls g15)),(5,.sl (.intss (ordersBy nm15 g15 (ownF g15)))),(6,.sl (.ints (ownAhead g15))),(7,.i ((i : Nat) : Int))],[],[999]⟩ : St))
    (fun (i : Nat) => (i ≤ (ordersBy nm15 g15 (ownF g15)).length))
    (fun (i : Nat) => ((ordersBy nm15 g15 (ownF g15)).length - i : Nat)) (0) ?_ ?_ ?_
   ·exact (show (0 ≤ (ordersBy nm15 g15 (ownF g15)).length) from (by first | assumption | omega | rfl | (intro _ hjj; omega) | (simp; done) | (simp; omega)))
   ·exact Sub.of [] (@cast (((((.string nm15) : Value) = (.string nm15)) ∧ (((.calls g15 : Dat) = .calls g15) ∧ (((.intss (ordersBy nm15 g15 (ownF g15)) : Dat) = .intss (ordersBy nm15 g15 (ownF g15))) ∧ (((.ints (ownAhead g15) : Dat) = .ints (ownAhead g15)) ∧ (((.int .i64 (0 : Int) : Value) = .int .i64 ((0 : Nat) : Int)) ∧ True))))) ∧ (True ∧ ((true = true) ∧ (true = true)))) _ (by kernel_rfl) ⟨⟨rfl,rfl,rfl,rfl,(congrArg (Value.int .i64) (by first | rfl | omega | assumption | simp | simp_all)),tt⟩,tt,rfl,rfl⟩)
   ·rintro i hC0
    have hC : (i ≤ (ordersBy nm15 g15 (ownF g15)).length) := hC0
    clear hC0
    obtain hi := hC
    refine W.to (⟨[(3,.v (.string nm15)),(4,.sl (.calls g15)),(5,.sl (.intss (ordersBy nm15 g15 (ownF g15)))),(6,.sl (.ints (ownAhead g15))),(7,.i ((i : Nat) : Int))],[],[999]⟩) rfl ?_
    have hmem := fun (hi : i < (ordersBy nm15 g15 (ownF g15)).length) => by_mem (getD_mem (ordersBy nm15 g15 (ownF g15)) [] hi)
    refine W.seq ?_
    refine W.K cok tab7 hnt [] [3,4,5,6,7,42] (⟨[(3,.v (.string nm15)),(4,.sl (.calls g15)),(5,.sl (.intss (ordersBy nm15 g15 (ownF g15)))),(6,.sl (.ints (ownAhead g15))),(7,.i ((i : Nat) : Int)),(42,.b (decide (((i : Nat) : Int) < (((List.length (ordersBy nm15 g15 (ownF g15))) : Nat) : Int))))],[],[999]⟩)
     (True ∧ True ∧ True ∧ (True ∧ True ∧ True) ∧ True) (by kernel_rfl)
     ⟨tt,tt,tt,⟨tt,tt,tt⟩,tt⟩ ?_
    refine W.ifP (((i : Nat) : Int) < (((List.length (ordersBy nm15 g15 (ownF g15))) : Nat) : Int)) (.b (decide (((i : Nat) : Int) < (((List.length (ordersBy nm15 g15 (ownF g15))) : Nat) : Int)))) (by kernel_rfl) rfl trivial ?_ ?_
    ·intro h42
     refine W.skip (thenQ_normal ?_)
     refine W.seq ?_
     refine W.block ?_
     refine W.K cok tab7 hnt [] [3,4,5,6,7,8] (⟨[(3,.v (.string nm15)),(4,.sl (.calls g15)),(5,.sl (.intss (ordersBy nm15 g15 (ownF g15)))),(6,.sl (.ints (ownAhead g15))),(7,.i ((i : Nat) : Int)),(8,.i (0 : Int))],[],[999]⟩)
      (True ∧ True) (by kernel_rfl)
      ⟨tt,tt⟩ ?_
     refine W.seq ?_
     refine W.K cok tab7 hnt [] [3,4,5,6,7,8,9] (⟨[(3,.v (.string nm15)),(4,.sl (.calls g15)),(5,.sl (.intss (ordersBy nm15 g15 (ownF g15)))),(6,.sl (.ints (ownAhead g15))),(7,.i ((i : Nat) : Int)),(8,.i (0 : Int)),(9,.i (0 : Int))],[],[999]⟩)
      (True ∧ True) (by kernel_rfl)
      ⟨tt,tt⟩ ?_
     refine W.block ?_
     refine W.loop (ι := Int × Nat) (fun (x : Int × Nat) => match x with | (d,k) => (⟨[(3,.v (.string nm15)),(4,.sl (.calls g15)),(5,.sl (.intss (ordersBy nm15 g15 (ownF g15)))),(6,.sl (.ints (ownAhead g15))),(7,.i ((i : Nat) : Int)),(8,.i d),(9,.i ((k : Nat) : Int))],[],[999]⟩ : St))
      (fun (x : Int × Nat) => match x with | (d,k) => (k ≤ ((ordersBy nm15 g15 (ownF g15)).getD i []).length) ∧ (d = mask g15.length (doneF ((ordersBy nm15 g15 (ownF g15)).getD i []) k)))
      (fun (x : Int × Nat) => match x with | (d,k) => (((ordersBy nm15 g15 (ownF g15)).getD i []).length - k : Nat)) ((0 : Int),0) ?_ ?_ ?_
     ·exact (show (0 ≤ ((ordersBy nm15 g15 (ownF g15)).getD i []).length) ∧ ((0 : Int) = mask g15.length (doneF ((ordersBy nm15 g15 (ownF g15)).getD i []) 0)) from ⟨(by first | assumption | omega | rfl | (intro _ hjj; omega) | (simp; done) | (simp; omega)),(by exact (done_zero _ _).symm)⟩)
     ·exact Sub.of [] (@cast (((((.string nm15) : Value) = (.string nm15)) ∧ (((.calls g15 : Dat) = .calls g15) ∧ (((.intss (ordersBy nm15 g15 (ownF g15)) : Dat) = .intss (ordersBy nm15 g15 (ownF g15))) ∧ (((.ints (ownAhead g15) : Dat) = .ints (ownAhead g15)) ∧ (((.int .i64 ((i : Nat) : Int) : Value) = .int .i64 ((i : Nat) : Int)) ∧ (((.int .i64 (0 : Int) : Value) = .int .i64 (0 : Int)) ∧ (((.int .i64 (0 : Int) : Value) = .int .i64 ((0 : Nat) : Int)) ∧ True))))))) ∧ (True ∧ ((true = true) ∧ (true = true)))) _ (by kernel_rfl) ⟨⟨rfl,rfl,rfl,rfl,rfl,rfl,(congrArg (Value.int .i64) (by first | rfl | omega | assumption | simp | simp_all)),tt⟩,tt,rfl,rfl⟩)
     ·rintro ⟨d,k⟩ hC0
      have hC : (k ≤ ((ordersBy nm15 g15 (ownF g15)).getD i []).length) ∧ (d = mask g15.length (doneF ((ordersBy nm15 g15 (ownF g15)).getD i []) k)) := hC0
      clear hC0
      obtain ⟨hk,hd⟩ := hC
      refine W.to (⟨[(3,.v (.string nm15)),(4,.sl (.calls g15)),(5,.sl (.intss (ordersBy nm15 g15 (ownF g15)))),(6,.sl (.ints (ownAhead g15))),(7,.i ((i : Nat) : Int)),(8,.i d),(9,.i ((k : Nat) : Int))],[],[999]⟩) rfl ?_
      have hx := hmem (by omega)
      have hk0 := hx.1.1 k
      have hdb := mask_bnd g15.length (doneF ((ordersBy nm15 g15 (ownF g15)).getD i []) k) (by omega)
      have hxl := hx.2.1
      refine W.seq ?_
      refine W.K cok tab7 hnt [] [3,4,5,6,7,8,9,51] (⟨[(3,.v (.string nm15)),(4,.sl (.calls g15)),(5,.sl (.intss (ordersBy nm15 g15 (ownF g15)))),(6,.sl (.ints (ownAhead g15))),(7,.i ((i : Nat) : Int)),(8,.i d),(9,.i ((k : Nat) : Int)),(51,.b (decide (((k : Nat) : Int) < (((List.length (List.getD (ordersBy nm15 g15 (ownF g15)) i [])) : Nat) : Int))))],[],[999]⟩)
       (True ∧ True ∧ True ∧ (True ∧ True ∧ (0 ≤ ((i : Nat) : Int)) ∧ (((i : Nat) : Int) < (((List.length (ordersBy nm15 g15 (ownF g15))) : Nat) : Int))) ∧ True ∧ True ∧ (True ∧ True ∧ True) ∧ True) (by kernel_rfl)
       ⟨tt,tt,tt,⟨tt,tt,(by omega),(by omega)⟩,tt,tt,⟨tt,tt,tt⟩,tt⟩ ?_
      refine W.ifP (((k : Nat) : Int) < (((List.length (List.getD (ordersBy nm15 g15 (ownF g15)) i [])) : Nat) : Int)) (.b (decide (((k : Nat) : Int) < (((List.length (List.getD (ordersBy nm15 g15 (ownF g15)) i [])) : Nat) : Int)))) (by kernel_rfl) rfl trivial ?_ ?_
      ·intro h51
       refine W.skip (thenQ_normal ?_)
       refine W.seq ?_
       refine W.block ?_
       refine W.seq ?_
       refine W.KA cok tab7 hnt [] [3,4,5,6,7,8,9,76] (⟨[(3,.v (.string nm15)),(4,.sl (.calls g15)),(5,.sl (.intss (ordersBy nm15 g15 (ownF g15)))),(6,.sl (.ints (ownAhead g15))),(7,.i ((i : Nat) : Int)),(8,.i d),(9,.i ((k : Nat) : Int)),(76,.b (decide ((bitsI .and .i64 (List.getD (ownAhead g15) (Int.toNat (List.getD (List.getD (ordersBy nm15 g15 (ownF g15)) i []) k 0)) 0) d) ≠ (List.getD (ownAhead g15) (Int.toNat (List.getD (List.getD (ordersBy nm15 g15 (ownF g15)) i []) k 0)) 0))))],[],[999]⟩)
        (True ∧ True ∧ True ∧ (True ∧ True ∧ (0 ≤ ((i : Nat) : Int)) ∧ (((i : Nat) : Int) < (((List.length (ordersBy nm15 g15 (ownF g15))) : Nat) : Int))) ∧ True ∧ True ∧ (True ∧ True ∧ (0 ≤ ((k : Nat) : Int)) ∧ (((k : Nat) : Int) < (((List.length (List.getD (ordersBy nm15 g15 (ownF g15)) i [])) : Nat) : Int))) ∧ True ∧ (True ∧ True ∧ (0 ≤ (List.getD (List.getD (ordersBy nm15 g15 (ownF g15)) i []) k 0)) ∧ ((List.getD (List.getD (ordersBy nm15 g15 (ownF g15)) i []) k 0) < (((List.length (ownAhead g15)) : Nat) : Int))) ∧ True ∧ True ∧ (True ∧ True ∧ True) ∧ True ∧ True ∧ True ∧ (True ∧ True ∧ (0 ≤ ((i : Nat) : Int)) ∧ (((i : Nat) : Int) < (((List.length (ordersBy nm15 g15 (ownF g15))) : Nat) : Int))) ∧ True ∧ True ∧ (True ∧ True ∧ (0 ≤ ((k : Nat) : Int)) ∧ (((k : Nat) : Int) < (((List.length (List.getD (ordersBy nm15 g15 (ownF g15)) i [])) : Nat) : Int))) ∧ True ∧ (True ∧ True ∧ (0 ≤ (List.getD (List.getD (ordersBy nm15 g15 (ownF g15)) i []) k 0)) ∧ ((List.getD (List.getD (ordersBy nm15 g15 (ownF g15)) i []) k 0) < (((List.length (ownAhead g15)) : Nat) : Int))) ∧ True ∧ (True ∧ True ∧ True) ∧ True) (by kernel_rfl) (by kernel_rfl)
        ⟨tt,tt,tt,⟨tt,tt,(by omega),(by omega)⟩,tt,tt,⟨tt,tt,(by omega),(by (first | omega | (simp only [List.length_append,List.length_cons,List.length_nil,List.length_take,List.length_drop,List.length_set,List.length_replicate,List.length_map] at *; omega) | assumption))⟩,tt,⟨tt,tt,(by have h9 := hk0 (by omega); omega),(by have h9 := hk0 (by omega); omega)⟩,tt,tt,⟨tt,tt,tt⟩,tt,tt,tt,⟨tt,tt,(by omega),(by omega)⟩,tt,tt,⟨tt,tt,(by omega),(by (first | omega | (simp only [List.length_append,List.length_cons,List.length_nil,List.length_take,List.length_drop,List.length_set,List.length_replicate,List.length_map] at *; omega) | assumption))⟩,tt,⟨tt,tt,(by have h9 := hk0 (by omega); omega),(by have h9 := hk0 (by omega); omega)⟩,tt,⟨tt,tt,tt⟩,tt⟩ ?_
       refine W.ifP ((bitsI .and .i64 (List.getD (ownAhead g15) (Int.toNat (List.getD (List.getD (ordersBy nm15 g15 (ownF g15)) i []) k 0)) 0) d) ≠ (List.getD (ownAhead g15) (Int.toNat (List.getD (List.getD (ordersBy nm15 g15 (ownF g15)) i []) k 0)) 0)) (.b (decide ((bitsI .and .i64 (List.getD (ownAhead g15) (Int.toNat (List.getD (List.getD (ordersBy nm15 g15 (ownF g15)) i []) k 0)) 0) d) ≠ (List.getD (ownAhead g15) (Int.toNat (List.getD (List.getD (ordersBy nm15 g15 (ownF g15)) i []) k 0)) 0)))) (by kernel_rfl) rfl trivial ?_ ?_
       ·intro h76
        refine W.K cok tab7 hnt [] [2] (⟨[(2,.b false)],[],[999]⟩)
         (True ∧ True) (by kernel_rfl)
         ⟨tt,tt⟩ ?_
        refine W.ret (thenQ_ret (blockQ_ret (thenQ_ret (thenQ_ret (blockQ_ret (thenQ_ret (blockQ_ret (thenQ_ret (thenQ_ret (blockQ_ret (thenQ_ret ?_)))))))))))
        exact endQ_ret (.b false) (by kernel_rfl) (@cast ((.bool false : Value) = .bool true) _ (by kernel_rfl) (congrArg Value.bool (by exact (h76 (by rw [hd,own_eq hv]; exact resp_mask (by omega) hx (by omega))).elim)))
       ·intro n76
        refine W.skip (thenQ_normal ?_)
        refine W.L cok tab7 hnt [] (⟨[(3,.v (.string nm15)),(4,.sl (.calls g15)),(5,.sl (.intss (ordersBy nm15 g15 (ownF g15)))),(6,.sl (.ints (ownAhead g15))),(7,.i ((i : Nat) : Int)),(8,.i (d + (power (List.getD (List.getD (ordersBy nm15 g15 (ownF g15)) i []) k 0)))),(9,.i ((k : Nat) : Int)),(76,.b (decide ((bitsI .and .i64 (List.getD (ownAhead g15) (Int.toNat (List.getD (List.getD (ordersBy nm15 g15 (ownF g15)) i []) k 0)) 0) d) ≠ (List.getD (ownAhead g15) (Int.toNat (List.getD (List.getD (ordersBy nm15 g15 (ownF g15)) i []) k 0)) 0)))),(77,.i d),(78,.sl (.intss (ordersBy nm15 g15 (ownF g15)))),(79,.i ((i : Nat) : Int)),(80,.ep [.sl (.ints (List.getD (ordersBy nm15 g15 (ownF g15)) i []))]),(81,.sl (.ints (List.getD (ordersBy nm15 g15 (ownF g15)) i []))),(82,.i ((k : Nat) : Int)),(83,.ep [.i (List.getD (List.getD (ordersBy nm15 g15 (ownF g15)) i []) k 0)]),(84,.i (List.getD (List.getD (ordersBy nm15 g15 (ownF g15)) i []) k 0)),(85,.i (power (List.getD (List.getD (ordersBy nm15 g15 (ownF g15)) i []) k 0))),(86,.i (d + (power (List.getD (List.getD (ordersBy nm15 g15 (ownF g15)) i []) k 0))))],[],[999]⟩)
         (True ∧ True ∧ True ∧ (True ∧ True ∧ (0 ≤ ((i : Nat) : Int)) ∧ (((i : Nat) : Int) < (((List.length (ordersBy nm15 g15 (ownF g15))) : Nat) : Int))) ∧ True ∧ True ∧ (True ∧ True ∧ (0 ≤ ((k : Nat) : Int)) ∧ (((k : Nat) : Int) < (((List.length (List.getD (ordersBy nm15 g15 (ownF g15)) i [])) : Nat) : Int))) ∧ True ∧ (True ∧ (True ∧ True) ∧ ((List.getD (List.getD (ordersBy nm15 g15 (ownF g15)) i []) k 0) ≤ 60)) ∧ (True ∧ True ∧ (Fits .i64 (d + (power (List.getD (List.getD (ordersBy nm15 g15 (ownF g15)) i []) k 0))))) ∧ True ∧ True) (by kernel_rfl)
         ⟨tt,tt,tt,⟨tt,tt,(by omega),(by omega)⟩,tt,tt,⟨tt,tt,(by omega),(by (first | omega | (simp only [List.length_append,List.length_cons,List.length_nil,List.length_take,List.length_drop,List.length_set,List.length_replicate,List.length_map] at *; omega) | assumption))⟩,tt,⟨tt,⟨tt,tt⟩,(by have h9 := hk0 (by omega); omega)⟩,⟨tt,tt,(by rw [hd,done_next hx.1.2.1 (by omega) (hk0 (by omega)).1 (hk0 (by omega)).2]; have := mask_bnd g15.length (doneF ((ordersBy nm15 g15 (ownF g15)).getD i []) (k + 1)) (by omega); exact fits_i64 (by omega) (by omega))⟩,tt,tt⟩ ?_
        refine blockQ_normal (thenQ_normal ?_)
        refine W.L cok tab7 hnt [] (⟨[(3,.v (.string nm15)),(4,.sl (.calls g15)),(5,.sl (.intss (ordersBy nm15 g15 (ownF g15)))),(6,.sl (.ints (ownAhead g15))),(7,.i ((i : Nat) : Int)),(8,.i (d + (power (List.getD (List.getD (ordersBy nm15 g15 (ownF g15)) i []) k 0)))),(9,.i (((k + 1) : Nat) : Int)),(52,.i ((k : Nat) : Int)),(53,.i (((k + 1) : Nat) : Int)),(76,.b (decide ((bitsI .and .i64 (List.getD (ownAhead g15) (Int.toNat (List.getD (List.getD (ordersBy nm15 g15 (ownF g15)) i []) k 0)) 0) d) ≠ (List.getD (ownAhead g15) (Int.toNat (List.getD (List.getD (ordersBy nm15 g15 (ownF g15)) i []) k 0)) 0)))),(77,.i d),(78,.sl (.intss (ordersBy nm15 g15 (ownF g15)))),(79,.i ((i : Nat) : Int)),(80,.ep [.sl (.ints (List.getD (ordersBy nm15 g15 (ownF g15)) i []))]),(81,.sl (.ints (List.getD (ordersBy nm15 g15 (ownF g15)) i []))),(82,.i ((k : Nat) : Int)),(83,.ep [.i (List.getD (List.getD (ordersBy nm15 g15 (ownF g15)) i []) k 0)]),(84,.i (List.getD (List.getD (ordersBy nm15 g15 (ownF g15)) i []) k 0)),(85,.i (power (List.getD (List.getD (ordersBy nm15 g15 (ownF g15)) i []) k 0))),(86,.i (d + (power (List.getD (List.getD (ordersBy nm15 g15 (ownF g15)) i []) k 0))))],[],[999]⟩)
         (True ∧ (True ∧ True ∧ (Fits .i64 (((k + 1) : Nat) : Int))) ∧ True ∧ True) (by kernel_rfl)
         ⟨tt,⟨tt,tt,(by exact fits_i64 (by omega) (by omega))⟩,tt,tt⟩ ?_
        refine thenQ_normal ?_
        refine ⟨((d + (power (List.getD (List.getD (ordersBy nm15 g15 (ownF g15)) i []) k 0))),(k + 1)),(show ((k + 1) ≤ ((ordersBy nm15 g15 (ownF g15)).getD i []).length) ∧ ((d + (power (List.getD (List.getD (ordersBy nm15 g15 (ownF g15)) i []) k 0))) = mask g15.length (doneF ((ordersBy nm15 g15 (ownF g15)).getD i []) (k + 1))) from ⟨(by first | assumption | omega | rfl | (intro _ hjj; omega) | (simp; done) | (simp; omega)),(by rw [hd]; exact done_next hx.1.2.1 (by omega) (hk0 (by omega)).1 (hk0 (by omega)).2)⟩),(show ((ordersBy nm15 g15 (ownF g15)).getD i []).length - (k + 1) < ((ordersBy nm15 g15 (ownF g15)).getD i []).length - k from (by first | omega | (simp_all; omega))),?_⟩
        exact Sub.of [] (@cast (((((.string nm15) : Value) = (.string nm15)) ∧ (((.calls g15 : Dat) = .calls g15) ∧ (((.intss (ordersBy nm15 g15 (ownF g15)) : Dat) = .intss (ordersBy nm15 g15 (ownF g15))) ∧ (((.ints (ownAhead g15) : Dat) = .ints (ownAhead g15)) ∧ (((.int .i64 ((i : Nat) : Int) : Value) = .int .i64 ((i : Nat) : Int)) ∧ (((.int .i64 (d + (power (List.getD (List.getD (ordersBy nm15 g15 (ownF g15)) i []) k 0))) : Value) = .int .i64 (d + (power (List.getD (List.getD (ordersBy nm15 g15 (ownF g15)) i []) k 0)))) ∧ (((.int .i64 (((k + 1) : Nat) : Int) : Value) = .int .i64 (((k + 1) : Nat) : Int)) ∧ True))))))) ∧ (True ∧ ((true = true) ∧ (true = true)))) _ (by kernel_rfl) ⟨⟨rfl,rfl,rfl,rfl,rfl,rfl,rfl,tt⟩,tt,rfl,rfl⟩)
      ·intro n51
       refine W.exit (thenQ_exit (thenQ_exit (blockQ_hit ?_)))
       refine thenQ_normal ?_
       refine W.KA cok tab7 hnt [] [3,4,5,6,7,110] (⟨[(3,.v (.string nm15)),(4,.sl (.calls g15)),(5,.sl (.intss (ordersBy nm15 g15 (ownF g15)))),(6,.sl (.ints (ownAhead g15))),(7,.i ((i : Nat) : Int)),(110,.b ((!(rightB nm15 g15 (List.getD (ordersBy nm15 g15 (ownF g15)) i []))) || ((decide ((0 : Int) < ((i : Nat) : Int))) && (decide ((List.getD (ordersBy nm15 g15 (ownF g15)) (Int.toNat (((i : Nat) : Int) - (1 : Int))) []) = (List.getD (ordersBy nm15 g15 (ownF g15)) i []))))))],[],[999]⟩)
        (True ∧ True ∧ True ∧ True ∧ (True ∧ True ∧ (0 ≤ ((i : Nat) : Int)) ∧ (((i : Nat) : Int) < (((List.length (ordersBy nm15 g15 (ownF g15))) : Nat) : Int))) ∧ True ∧ (True ∧ (True ∧ True ∧ True ∧ True) ∧ True) ∧ True ∧ True ∧ ((!(!(rightB nm15 g15 (List.getD (ordersBy nm15 g15 (ownF g15)) i [])))) = true → True) ∧ ((!(!(rightB nm15 g15 (List.getD (ordersBy nm15 g15 (ownF g15)) i [])))) = true → ((((!(!(rightB nm15 g15 (List.getD (ordersBy nm15 g15 (ownF g15)) i [])))) = true) ∧ True) ∧ True ∧ True)) ∧ ((!(!(rightB nm15 g15 (List.getD (ordersBy nm15 g15 (ownF g15)) i [])))) = true → True) ∧ (((!(!(rightB nm15 g15 (List.getD (ordersBy nm15 g15 (ownF g15)) i [])))) && ((!(!(rightB nm15 g15 (List.getD (ordersBy nm15 g15 (ownF g15)) i [])))) && (decide ((0 : Int) < ((i : Nat) : Int))))) = true → True) ∧ (((!(!(rightB nm15 g15 (List.getD (ordersBy nm15 g15 (ownF g15)) i [])))) && ((!(!(rightB nm15 g15 (List.getD (ordersBy nm15 g15 (ownF g15)) i [])))) && (decide ((0 : Int) < ((i : Nat) : Int))))) = true → True) ∧ (((!(!(rightB nm15 g15 (List.getD (ordersBy nm15 g15 (ownF g15)) i [])))) && ((!(!(rightB nm15 g15 (List.getD (ordersBy nm15 g15 (ownF g15)) i [])))) && (decide ((0 : Int) < ((i : Nat) : Int))))) = true → (((((!(!(rightB nm15 g15 (List.getD (ordersBy nm15 g15 (ownF g15)) i [])))) && ((!(!(rightB nm15 g15 (List.getD (ordersBy nm15 g15 (ownF g15)) i [])))) && (decide ((0 : Int) < ((i : Nat) : Int))))) = true) ∧ True) ∧ True ∧ (Fits .i64 (((i : Nat) : Int) - (1 : Int))))) ∧ (((!(!(rightB nm15 g15 (List.getD (ordersBy nm15 g15 (ownF g15)) i [])))) && ((!(!(rightB nm15 g15 (List.getD (ordersBy nm15 g15 (ownF g15)) i [])))) && (decide ((0 : Int) < ((i : Nat) : Int))))) = true → (((((!(!(rightB nm15 g15 (List.getD (ordersBy nm15 g15 (ownF g15)) i [])))) && ((!(!(rightB nm15 g15 (List.getD (ordersBy nm15 g15 (ownF g15)) i [])))) && (decide ((0 : Int) < ((i : Nat) : Int))))) = true) ∧ True) ∧ ((((!(!(rightB nm15 g15 (List.getD (ordersBy nm15 g15 (ownF g15)) i [])))) && ((!(!(rightB nm15 g15 (List.getD (ordersBy nm15 g15 (ownF g15)) i [])))) && (decide ((0 : Int) < ((i : Nat) : Int))))) = true) ∧ True) ∧ (0 ≤ (((i : Nat) : Int) - (1 : Int))) ∧ ((((i : Nat) : Int) - (1 : Int)) < (((List.length (ordersBy nm15 g15 (ownF g15))) : Nat) : Int)))) ∧ (((!(!(rightB nm15 g15 (List.getD (ordersBy nm15 g15 (ownF g15)) i [])))) && ((!(!(rightB nm15 g15 (List.getD (ordersBy nm15 g15 (ownF g15)) i [])))) && (decide ((0 : Int) < ((i : Nat) : Int))))) = true → ((((!(!(rightB nm15 g15 (List.getD (ordersBy nm15 g15 (ownF g15)) i [])))) && ((!(!(rightB nm15 g15 (List.getD (ordersBy nm15 g15 (ownF g15)) i [])))) && (decide ((0 : Int) < ((i : Nat) : Int))))) = true) ∧ True)) ∧ (((!(!(rightB nm15 g15 (List.getD (ordersBy nm15 g15 (ownF g15)) i [])))) && ((!(!(rightB nm15 g15 (List.getD (ordersBy nm15 g15 (ownF g15)) i [])))) && (decide ((0 : Int) < ((i : Nat) : Int))))) = true → True) ∧ (((!(!(rightB nm15 g15 (List.getD (ordersBy nm15 g15 (ownF g15)) i [])))) && ((!(!(rightB nm15 g15 (List.getD (ordersBy nm15 g15 (ownF g15)) i [])))) && (decide ((0 : Int) < ((i : Nat) : Int))))) = true → True) ∧ (((!(!(rightB nm15 g15 (List.getD (ordersBy nm15 g15 (ownF g15)) i [])))) && ((!(!(rightB nm15 g15 (List.getD (ordersBy nm15 g15 (ownF g15)) i [])))) && (decide ((0 : Int) < ((i : Nat) : Int))))) = true → (((((!(!(rightB nm15 g15 (List.getD (ordersBy nm15 g15 (ownF g15)) i [])))) && ((!(!(rightB nm15 g15 (List.getD (ordersBy nm15 g15 (ownF g15)) i [])))) && (decide ((0 : Int) < ((i : Nat) : Int))))) = true) ∧ True) ∧ ((((!(!(rightB nm15 g15 (List.getD (ordersBy nm15 g15 (ownF g15)) i [])))) && ((!(!(rightB nm15 g15 (List.getD (ordersBy nm15 g15 (ownF g15)) i [])))) && (decide ((0 : Int) < ((i : Nat) : Int))))) = true) ∧ True) ∧ (0 ≤ ((i : Nat) : Int)) ∧ (((i : Nat) : Int) < (((List.length (ordersBy nm15 g15 (ownF g15))) : Nat) : Int)))) ∧ (((!(!(rightB nm15 g15 (List.getD (ordersBy nm15 g15 (ownF g15)) i [])))) && ((!(!(rightB nm15 g15 (List.getD (ordersBy nm15 g15 (ownF g15)) i [])))) && (decide ((0 : Int) < ((i : Nat) : Int))))) = true → ((((!(!(rightB nm15 g15 (List.getD (ordersBy nm15 g15 (ownF g15)) i [])))) && ((!(!(rightB nm15 g15 (List.getD (ordersBy nm15 g15 (ownF g15)) i [])))) && (decide ((0 : Int) < ((i : Nat) : Int))))) = true) ∧ True)) ∧ (((!(!(rightB nm15 g15 (List.getD (ordersBy nm15 g15 (ownF g15)) i [])))) && ((!(!(rightB nm15 g15 (List.getD (ordersBy nm15 g15 (ownF g15)) i [])))) && (decide ((0 : Int) < ((i : Nat) : Int))))) = true → (True ∧ (((((!(!(rightB nm15 g15 (List.getD (ordersBy nm15 g15 (ownF g15)) i [])))) && ((!(!(rightB nm15 g15 (List.getD (ordersBy nm15 g15 (ownF g15)) i [])))) && (decide ((0 : Int) < ((i : Nat) : Int))))) = true) ∧ True) ∧ ((((!(!(rightB nm15 g15 (List.getD (ordersBy nm15 g15 (ownF g15)) i [])))) && ((!(!(rightB nm15 g15 (List.getD (ordersBy nm15 g15 (ownF g15)) i [])))) && (decide ((0 : Int) < ((i : Nat) : Int))))) = true) ∧ True) ∧ True) ∧ True)) ∧ ((!(!(rightB nm15 g15 (List.getD (ordersBy nm15 g15 (ownF g15)) i [])))) = true → ((((!(!(rightB nm15 g15 (List.getD (ordersBy nm15 g15 (ownF g15)) i [])))) = true) ∧ ((!(!(rightB nm15 g15 (List.getD (ordersBy nm15 g15 (ownF g15)) i [])))) = true) ∧ True) ∧ ((decide ((0 : Int) < ((i : Nat) : Int))) = true → (((!(!(rightB nm15 g15 (List.getD (ordersBy nm15 g15 (ownF g15)) i [])))) && ((!(!(rightB nm15 g15 (List.getD (ordersBy nm15 g15 (ownF g15)) i [])))) && (decide ((0 : Int) < ((i : Nat) : Int))))) = true) ∧ True) ∧ ((decide ((0 : Int) < ((i : Nat) : Int))) = false → True))) ∧ (True ∧ ((!(rightB nm15 g15 (List.getD (ordersBy nm15 g15 (ownF g15)) i []))) = true → True) ∧ ((!(rightB nm15 g15 (List.getD (ordersBy nm15 g15 (ownF g15)) i []))) = false → ((!(!(rightB nm15 g15 (List.getD (ordersBy nm15 g15 (ownF g15)) i [])))) = true) ∧ True)) ∧ True) (by kernel_rfl) (by kernel_rfl)
        ⟨tt,tt,tt,tt,⟨tt,tt,(by omega),(by omega)⟩,tt,⟨tt,⟨tt,tt,tt,tt⟩,tt⟩,tt,tt,(fun _ => trivial),(fun hG => ⟨⟨hG,tt⟩,tt,tt⟩),(fun _ => trivial),(fun _ => trivial),(fun _ => trivial),(fun hG => ⟨⟨hG,tt⟩,tt,(by have hg0 : (0 : Int) < ((i : Nat) : Int) := of_decide_eq_true (and_r (and_r hG)); exact fits_i64 (by omega) (by omega))⟩),(fun hG => ⟨⟨hG,tt⟩,⟨hG,tt⟩,(by have hg0 : (0 : Int) < ((i : Nat) : Int) := of_decide_eq_true (and_r (and_r hG)); omega),(by have hg0 : (0 : Int) < ((i : Nat) : Int) := of_decide_eq_true (and_r (and_r hG)); omega)⟩),(fun hG => ⟨hG,tt⟩),(fun _ => trivial),(fun _ => trivial),(fun hG => ⟨⟨hG,tt⟩,⟨hG,tt⟩,(by have hg0 : (0 : Int) < ((i : Nat) : Int) := of_decide_eq_true (and_r (and_r hG)); omega),(by have hg0 : (0 : Int) < ((i : Nat) : Int) := of_decide_eq_true (and_r (and_r hG)); omega)⟩),(fun hG => ⟨hG,tt⟩),(fun hG => ⟨tt,⟨⟨hG,tt⟩,⟨hG,tt⟩,tt⟩,tt⟩),(fun hG => ⟨⟨hG,hG,tt⟩,(fun hp => ⟨(and_t hG (and_t hG hp)),tt⟩),(fun _ => trivial)⟩),⟨tt,(fun _ => trivial),(fun hp => ⟨(not_t hp),tt⟩)⟩,tt⟩ ?_
       refine W.if' ((!(rightB nm15 g15 (List.getD (ordersBy nm15 g15 (ownF g15)) i []))) || ((decide ((0 : Int) < ((i : Nat) : Int))) && (decide ((List.getD (ordersBy nm15 g15 (ownF g15)) (Int.toNat (((i : Nat) : Int) - (1 : Int))) []) = (List.getD (ordersBy nm15 g15 (ownF g15)) i []))))) (.b ((!(rightB nm15 g15 (List.getD (ordersBy nm15 g15 (ownF g15)) i []))) || ((decide ((0 : Int) < ((i : Nat) : Int))) && (decide ((List.getD (ordersBy nm15 g15 (ownF g15)) (Int.toNat (((i : Nat) : Int) - (1 : Int))) []) = (List.getD (ordersBy nm15 g15 (ownF g15)) i [])))))) (by kernel_rfl) rfl trivial ?_ ?_
       ·intro h110
        refine W.K cok tab7 hnt [] [2] (⟨[(2,.b false)],[],[999]⟩)
         (True ∧ True) (by kernel_rfl)
         ⟨tt,tt⟩ ?_
        refine W.ret (blockQ_ret (thenQ_ret (thenQ_ret (blockQ_ret (thenQ_ret ?_)))))
        exact endQ_ret (.b false) (by kernel_rfl) (@cast ((.bool false : Value) = .bool true) _ (by kernel_rfl) (congrArg Value.bool (by exact (own_orders_next (by omega) h110).symm)))
       ·intro n110
        refine W.skip (blockQ_normal (thenQ_normal ?_))
        refine W.L cok tab7 hnt [] (⟨[(3,.v (.string nm15)),(4,.sl (.calls g15)),(5,.sl (.intss (ordersBy nm15 g15 (ownF g15)))),(6,.sl (.ints (ownAhead g15))),(7,.i (((i + 1) : Nat) : Int)),(43,.i ((i : Nat) : Int)),(44,.i (((i + 1) : Nat) : Int)),(110,.b ((!(rightB nm15 g15 (List.getD (ordersBy nm15 g15 (ownF g15)) i []))) || ((decide ((0 : Int) < ((i : Nat) : Int))) && (decide ((List.getD (ordersBy nm15 g15 (ownF g15)) (Int.toNat (((i : Nat) : Int) - (1 : Int))) []) = (List.getD (ordersBy nm15 g15 (ownF g15)) i []))))))],[],[999]⟩)
         (True ∧ (True ∧ True ∧ (Fits .i64 (((i + 1) : Nat) : Int))) ∧ True ∧ True) (by kernel_rfl)
         ⟨tt,⟨tt,tt,(by exact fits_i64 (by omega) (by omega))⟩,tt,tt⟩ ?_
        refine thenQ_normal ?_
        refine ⟨((i + 1)),(show ((i + 1) ≤ (ordersBy nm15 g15 (ownF g15)).length) from (by first | assumption | omega | rfl | (intro _ hjj; omega) | (simp; done) | (simp; omega))),(show (ordersBy nm15 g15 (ownF g15)).length - (i + 1) < (ordersBy nm15 g15 (ownF g15)).length - i from (by first | omega | (simp_all; omega))),?_⟩
        exact Sub.of [] (@cast (((((.string nm15) : Value) = (.string nm15)) ∧ (((.calls g15 : Dat) = .calls g15) ∧ (((.intss (ordersBy nm15 g15 (ownF g15)) : Dat) = .intss (ordersBy nm15 g15 (ownF g15))) ∧ (((.ints (ownAhead g15) : Dat) = .ints (ownAhead g15)) ∧ (((.int .i64 (((i + 1) : Nat) : Int) : Value) = .int .i64 (((i + 1) : Nat) : Int)) ∧ True))))) ∧ (True ∧ ((true = true) ∧ (true = true)))) _ (by kernel_rfl) ⟨⟨rfl,rfl,rfl,rfl,rfl,tt⟩,tt,rfl,rfl⟩)
    ·intro n42
     refine W.exit (thenQ_exit (thenQ_exit (blockQ_hit ?_)))
     refine thenQ_normal ?_
     refine W.K cok tab7 hnt [] [2] (⟨[(2,.b true)],[],[999]⟩)
      (True ∧ True) (by kernel_rfl)
      ⟨tt,tt⟩ ?_
     refine W.ret ?_
     exact endQ_ret (.b true) (by kernel_rfl) (@cast ((.bool true : Value) = .bool true) _ (by kernel_rfl) rfl)
end Go.Proofs.Try
