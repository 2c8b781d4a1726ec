import Derived.Test.YtmmndgfkaccgfaaNF4S0
import Derived.Test.YtmmndgfkaccgfaaNF4S4
import Derived.Test.YtmmndgfkaccgfaaNF4S5
import Derived.Test.YtmmndgfkaccgfaaNF4S7
import Derived.Test.YtmmndgfkaccgfaaNF4S1
set_option linter.unusedSimpArgs false
set_option linter.unusedVariables false
namespace Go.Proofs.Try
open Go.Ab Go.RowKit
def fs20 : FnS := fnS [.o,.s .calls] [.str,.calls] (fun _ (s,h,_) => (.sl (.intss (ordersBy s h (aheadF h))),[],True))
abbrev T20 : Tab := lk [(40,fs40),(41,fs41),(45,fs45),(46,fs46)]
theorem tab20 : TabOK prog T20 := (TabOK.cons ok40 ent40 (TabOK.cons ok41 ent41 (TabOK.cons ok45 ent45 (TabOK.cons ok46 ent46 TabOK.nil))))
set_option maxRecDepth 100000 in
set_option maxHeartbeats 1000000 in
theorem ok20 : FnOK prog 20 fs20 := by
 refine FnOK.mk cok func20 rfl rfl rfl ?_
 rintro fl ⟨(s : ByteArray),(h : List CallD),_⟩ hpre F hnt0 _
 have hnt : F.nt = 18 := hnt0.trans ntmps20
 clear hpre
 refine W.to (⟨[(0,.v (.string s)),(1,.sl (.calls h))],[],[999]⟩) rfl ?_
 refine W.lenOf 1 (.calls h) (by kernel_rfl) ?_
 intro hl_h; replace hl_h : List.length h ≤ 9223372036854775807 := hl_h
 refine W.K cok tab20 hnt [] [0,1] (⟨[(0,.v (.string s)),(1,.sl (.calls h))],[],[999]⟩)
  (True ∧ True) (by kernel_rfl)
  ⟨tt,tt⟩ ?_
 refine W.seq ?_
 refine W.K cok tab20 hnt [] [0,1,12] (⟨[(0,.v (.string s)),(1,.sl (.calls h)),(12,.b ((!(isObject s)) || (!(validHistory h))))],[],[999]⟩)
  (True ∧ (True ∧ (True ∧ True) ∧ True) ∧ True ∧ True ∧ ((!(!(isObject s))) = true → True) ∧ ((!(!(isObject s))) = true → (True ∧ ((((!(!(isObject s))) = true) ∧ True) ∧ True) ∧ True)) ∧ ((!(!(isObject s))) = true → (((!(!(isObject s))) = true) ∧ True)) ∧ (True ∧ ((!(isObject s)) = true → True) ∧ ((!(isObject s)) = false → ((!(!(isObject s))) = true) ∧ True)) ∧ True) (by kernel_rfl)
  ⟨tt,⟨tt,⟨tt,tt⟩,tt⟩,tt,tt,(fun _ => trivial),(fun hG => ⟨tt,⟨⟨hG,tt⟩,tt⟩,tt⟩),(fun hG => ⟨hG,tt⟩),⟨tt,(fun _ => trivial),(fun hp => ⟨(not_t hp),tt⟩)⟩,tt⟩ ?_
 refine W.if' ((!(isObject s)) || (!(validHistory h))) (.b ((!(isObject s)) || (!(validHistory h)))) (by kernel_rfl) rfl trivial ?_ ?_
 ·intro h12
  refine W.K cok tab20 hnt [] [4] (⟨[(4,.v (.slice none 0 0))],[],[999]⟩)
   (True ∧ True) (by kernel_rfl)
   ⟨tt,tt⟩ ?_
  refine W.ret (thenQ_ret ?_)
  exact endQ_ret (.v (.slice none 0 0)) (by kernel_rfl) (@cast (((Value.slice none 0 0 : Value) = .slice none 0 0) ∧ ((Dat.intss (ordersBy s h (aheadF h))).len = 0)) _ (by kernel_rfl) ⟨rfl,(by show List.length (ordersBy s h (aheadF h)) = 0; first | exact (by_no' h12).symm | (rw [by_no' h12]; rfl))⟩)
 ·intro n12
  refine W.skip (thenQ_normal ?_)
  refine W.K cok tab20 hnt [] [4] (⟨[(4,.sl (.intss (ordersF s h (bitF (aheadOf h)) h.length [])))],[],[999]⟩)
   (True ∧ True ∧ True ∧ (True ∧ (True ∧ True) ∧ True) ∧ (True ∧ (True ∧ True ∧ True ∧ True) ∧ (isObject s = true) ∧ (validHistory h = true) ∧ ((aheadOf h) = rowsOf h.length (bitF (aheadOf h)))) ∧ True ∧ True) (by kernel_rfl)
   ⟨tt,tt,tt,⟨tt,⟨tt,tt⟩,tt⟩,⟨tt,⟨tt,tt,tt,tt⟩,(by exact and_l (by_yes' n12)),(by exact and_r (by_yes' n12)),(by exact ahead_rows (and_r (by_yes' n12)))⟩,tt,tt⟩ ?_
  refine W.ret ?_
  exact endQ_ret (.sl (.intss (ordersF s h (bitF (aheadOf h)) h.length []))) (by kernel_rfl) (@cast ((.intss (ordersF s h (bitF (aheadOf h)) h.length []) : Dat) = .intss (ordersBy s h (aheadF h))) _ (by kernel_rfl) (congrArg Dat.intss (by exact by_val (by_yes' n12) (ahead_eq (and_r (by_yes' n12))))))
theorem ent20 : Entr prog 20 := ⟨_,func20,rfl,by decide⟩
end Go.Proofs.Try

set_option linter.unusedSimpArgs false
set_option linter.unusedVariables false
namespace Go.Proofs.Try
open Go.Ab Go.RowKit
def fs42 : FnS := fnS [.o,.s .calls] [.str,.calls] (fun _ (s,h,_) => (.b (explains s h (aheadF h)),[],True))
abbrev T42 : Tab := lk [(20,fs20)]
theorem tab42 : TabOK prog T42 := (TabOK.cons ok20 ent20 TabOK.nil)
set_option maxRecDepth 100000 in
set_option maxHeartbeats 1000000 in
theorem ok42 : FnOK prog 42 fs42 := by
 refine FnOK.mk cok func42 rfl rfl rfl ?_
 rintro fl ⟨(s : ByteArray),(h : List CallD),_⟩ hpre F hnt0 _
 have hnt : F.nt = 10 := hnt0.trans ntmps42
 clear hpre
 refine W.to (⟨[(0,.v (.string s)),(1,.sl (.calls h))],[],[999]⟩) rfl ?_
 refine W.lenOf 1 (.calls h) (by kernel_rfl) ?_
 intro hl_h; replace hl_h : List.length h ≤ 9223372036854775807 := hl_h
 refine W.K cok tab42 hnt [] [0,1] (⟨[(0,.v (.string s)),(1,.sl (.calls h))],[],[999]⟩)
  (True ∧ True) (by kernel_rfl)
  ⟨tt,tt⟩ ?_
 refine W.K cok tab42 hnt [] [4] (⟨[(4,.b (decide ((0 : Int) < (((List.length (ordersBy s h (aheadF h))) : Nat) : Int))))],[],[999]⟩)
  (True ∧ True ∧ (True ∧ (True ∧ True ∧ True) ∧ True) ∧ True ∧ (True ∧ True ∧ True) ∧ True ∧ True) (by kernel_rfl)
  ⟨tt,tt,⟨tt,⟨tt,tt,tt⟩,tt⟩,tt,⟨tt,tt,tt⟩,tt,tt⟩ ?_
 refine W.ret ?_
 exact endQ_ret (.b (decide ((0 : Int) < (((List.length (ordersBy s h (aheadF h))) : Nat) : Int)))) (by kernel_rfl) (@cast ((.bool (decide ((0 : Int) < (((List.length (ordersBy s h (aheadF h))) : Nat) : Int))) : Value) = .bool (explains s h (aheadF h))) _ (by kernel_rfl) (congrArg Value.bool (by rfl)))
theorem ent42 : Entr prog 42 := ⟨_,func42,rfl,by decide⟩
end Go.Proofs.Try

set_option linter.unusedSimpArgs false
set_option linter.unusedVariables false
namespace Go.Proofs.Try
open Go.Ab Go.RowKit
def fs18o : FnS := fnS [.o,.s .calls] [.str,.calls] (fun _ (s,h,_) => (.tup [.own 0 (List.length ((blameP s h).1)),.b ((blameP s h).2)],[(3,.ints ((blameP s h).1))],True))
abbrev T18o : Tab := lk [(40,fs40),(41,fs41),(42,fs42)]
theorem tab18o : TabOK prog T18o := (TabOK.cons ok40 ent40 (TabOK.cons ok41 ent41 (TabOK.cons ok42 ent42 TabOK.nil)))
set_option maxRecDepth 100000 in
set_option maxHeartbeats 1000000 in
theorem ok18o : FnOK prog 18 fs18o := by
 refine FnOK.mk cok func18 rfl rfl rfl ?_
 rintro fl ⟨(s : ByteArray),(h : List CallD),_⟩ hpre F hnt0 _
 have hnt : F.nt = 73 := hnt0.trans ntmps18
 clear hpre
 refine W.to (⟨[(0,.v (.string s)),(1,.sl (.calls h))],[],[999]⟩) rfl ?_
 refine W.lenOf 1 (.calls h) (by kernel_rfl) ?_
 intro hl_h; replace hl_h : List.length h ≤ 9223372036854775807 := hl_h
 refine W.K cok tab18o hnt [] [0,1] (⟨[(0,.v (.string s)),(1,.sl (.calls h))],[],[999]⟩)
  (True ∧ True ∧ True) (by kernel_rfl)
  ⟨tt,tt,tt⟩ ?_
 refine W.seq ?_
 refine W.K cok tab18o hnt [] [0,1,25] (⟨[(0,.v (.string s)),(1,.sl (.calls h)),(25,.b (((!(isObject s)) || (!(validHistory h))) || (explains s h (aheadF h))))],[],[999]⟩)
  (True ∧ (True ∧ (True ∧ True) ∧ True) ∧ True ∧ True ∧ ((!(!(isObject s))) = true → True) ∧ ((!(!(isObject s))) = true → (True ∧ ((((!(!(isObject s))) = true) ∧ True) ∧ True) ∧ True)) ∧ ((!(!(isObject s))) = true → (((!(!(isObject s))) = true) ∧ True)) ∧ (True ∧ ((!(isObject s)) = true → True) ∧ ((!(isObject s)) = false → ((!(!(isObject s))) = true) ∧ True)) ∧ True ∧ ((!((!(isObject s)) || (!(validHistory h)))) = true → True) ∧ ((!((!(isObject s)) || (!(validHistory h)))) = true → True) ∧ ((!((!(isObject s)) || (!(validHistory h)))) = true → (True ∧ ((((!((!(isObject s)) || (!(validHistory h)))) = true) ∧ True) ∧ (((!((!(isObject s)) || (!(validHistory h)))) = true) ∧ True) ∧ True) ∧ True)) ∧ (True ∧ (((!(isObject s)) || (!(validHistory h))) = true → True) ∧ (((!(isObject s)) || (!(validHistory h))) = false → ((!((!(isObject s)) || (!(validHistory h)))) = true) ∧ True)) ∧ True) (by kernel_rfl)
  ⟨tt,⟨tt,⟨tt,tt⟩,tt⟩,tt,tt,(fun _ => trivial),(fun hG => ⟨tt,⟨⟨hG,tt⟩,tt⟩,tt⟩),(fun hG => ⟨hG,tt⟩),⟨tt,(fun _ => trivial),(fun hp => ⟨(not_t hp),tt⟩)⟩,tt,(fun _ => trivial),(fun _ => trivial),(fun hG => ⟨tt,⟨⟨hG,tt⟩,⟨hG,tt⟩,tt⟩,tt⟩),⟨tt,(fun _ => trivial),(fun hp => ⟨(not_t hp),tt⟩)⟩,tt⟩ ?_
 refine W.if' (((!(isObject s)) || (!(validHistory h))) || (explains s h (aheadF h))) (.b (((!(isObject s)) || (!(validHistory h))) || (explains s h (aheadF h)))) (by kernel_rfl) rfl trivial ?_ ?_
 ·intro h25
  refine W.K cok tab18o hnt [] [4,5] (⟨[(4,.v (.slice none 0 0)),(5,.b false)],[],[999]⟩)
   (True ∧ True ∧ True) (by kernel_rfl)
   ⟨tt,tt,tt⟩ ?_
  refine W.nilOwn 4 813 none 3 (.ints ([] : List Int)) (.v (.slice none 0 0)) (.own 813 0) (⟨[(4,.own 813 0),(5,.b false)],[(813,⟨3,.row (.ints ([] : List Int))⟩)],[813,999]⟩) (by kernel_rfl) (by kernel_rfl) (by kernel_rfl) (by kernel_rfl) (by kernel_rfl) ?_
  refine W.ret (thenQ_ret ?_)
  exact endQ_rows [(0,813)] (.tup [.own 813 0,.b false]) (by kernel_rfl) (@cast ((((813 : Nat) = 813) ∧ ((0 = (List.length ((blameP s h).1))) ∧ ((0 : Nat) ∈ ([0] : List Nat)))) ∧ (((.bool false : Value) = .bool ((blameP s h).2)) ∧ True)) _ (by kernel_rfl) ⟨⟨rfl,(by first | rfl | omega | assumption | (symm; assumption) | (exact congrArg List.length (by rw [blameP_no h25] <;> rfl)) | (rw [blameP_no h25] <;> rfl; done) | simp | simp_all),(by decide)⟩,(congrArg Value.bool (by first | rfl | omega | assumption | (rw [blameP_no h25] <;> rfl; done) | simp | simp_all)),tt⟩) (@cast ((((3 : Nat) = 3) ∧ (((.ints ([] : List Int) : Dat) = .ints ((blameP s h).1)) ∧ ((0 : Nat) ∈ ([0] : List Nat)))) ∧ True) _ (by kernel_rfl) ⟨⟨rfl,(congrArg Dat.ints (by rw [blameP_no h25] <;> rfl)),(by decide)⟩,tt⟩) (by kernel_rfl)
 ·intro n25
  have hv6 := (valid_iff.1 (not_g (or_r (or_l n25)))).1
  refine W.skip (thenQ_normal ?_)
  refine W.K cok tab18o hnt [26] [0,1,6] (⟨[(0,.v (.string s)),(1,.sl (.calls h)),(6,.own 26 (List.length ([] : List Int)))],[(26,⟨3,.row (.ints ([] : List Int))⟩)],[26,999]⟩)
   (True ∧ True ∧ True) (by kernel_rfl)
   ⟨tt,tt,tt⟩ ?_
  refine W.seq ?_
  refine W.K cok tab18o hnt [] [0,1,6,28,29] (⟨[(0,.v (.string s)),(1,.sl (.calls h)),(6,.own 26 (List.length ([] : List Int))),(28,.i (h.length : Int)),(29,.i (0 : Int))],[(26,⟨3,.row (.ints ([] : List Int))⟩)],[26,999]⟩)
   (True ∧ True ∧ True ∧ True) (by kernel_rfl)
   ⟨tt,tt,tt,tt⟩ ?_
  refine W.block ?_
  refine W.loop (ι := Nat × (List Int)) (fun (x : Nat × (List Int)) => match x with | (k,l0) => (⟨[(0,.v (.string s)),(1,.sl (.calls h)),(6,.own 26 l0.length),(28,.i (h.length : Int)),(29,.i ((k : Nat) : Int))],[(26,⟨3,.row (.ints l0)⟩)],[26,999]⟩ : St))
   (fun (x : Nat × (List Int)) => match x with | (k,l0) => (k ≤ h.length) ∧ (l0 = idx k))
   (fun (x : Nat × (List Int)) => match x with | (k,l0) => (h.length - k : Nat)) (0,([] : List Int)) ?_ ?_ ?_
  ·exact (show (0 ≤ h.length) ∧ (([] : List Int) = idx 0) from ⟨(by first | assumption | omega | rfl | (intro _ hjj; omega) | (simp; done) | (simp; omega)),(by rfl)⟩)
  ·exact Sub.of [] (@cast (((((.string s) : Value) = (.string s)) ∧ (((.calls h : Dat) = .calls h) ∧ ((((26 : Nat) = 26) ∧ (((List.length ([] : List Int)) = (List.length ([] : List Int))) ∧ ((26 : Nat) ∈ ([26,999] : List Nat)))) ∧ (((.int .i64 (h.length : Int) : Value) = .int .i64 (h.length : Int)) ∧ (((.int .i64 (0 : Int) : Value) = .int .i64 ((0 : Nat) : Int)) ∧ True))))) ∧ (((((3 : Nat) = 3) ∧ (((.ints ([] : List Int) : Dat) = .ints ([] : List Int)) ∧ ((26 : Nat) ∈ ([26,999] : List Nat)))) ∧ True) ∧ ((true = true) ∧ (true = true)))) _ (by kernel_rfl) ⟨⟨rfl,rfl,⟨rfl,rfl,(by decide)⟩,rfl,(congrArg (Value.int .i64) (by first | rfl | omega | assumption | simp | simp_all)),tt⟩,⟨⟨rfl,rfl,(by decide)⟩,tt⟩,rfl,rfl⟩)
  ·rintro ⟨k,l0⟩ hC0
   have hC : (k ≤ h.length) ∧ (l0 = idx k) := hC0
   clear hC0
   obtain ⟨hk,hl0⟩ := hC
   refine W.to (⟨[(0,.v (.string s)),(1,.sl (.calls h)),(6,.own 26 l0.length),(28,.i (h.length : Int)),(29,.i ((k : Nat) : Int))],[(26,⟨3,.row (.ints l0)⟩)],[26,999]⟩) rfl ?_
   have hl0l : l0.length = k := by rw [hl0]; exact idx_len k
   refine W.K cok tab18o hnt [] [0,1,6,28,29,30] (⟨[(0,.v (.string s)),(1,.sl (.calls h)),(6,.own 26 l0.length),(28,.i (h.length : Int)),(29,.i ((k : Nat) : Int)),(30,.b (decide (((k : Nat) : Int) < (h.length : Int))))],[(26,⟨3,.row (.ints l0)⟩)],[26,999]⟩)
    ((True ∧ True ∧ True) ∧ True) (by kernel_rfl)
    ⟨⟨tt,tt,tt⟩,tt⟩ ?_
   refine W.seq ?_
   refine W.ifP (((k : Nat) : Int) < (h.length : Int)) (.b (decide (((k : Nat) : Int) < (h.length : Int)))) (by kernel_rfl) rfl trivial ?_ ?_
   ·intro h30
    refine W.skip (thenQ_normal ?_)
    refine W.seq ?_
    refine W.block ?_
    refine W.K cok tab18o hnt [] [0,1,6,7,28,29] (⟨[(0,.v (.string s)),(1,.sl (.calls h)),(6,.own 26 l0.length),(7,.i ((k : Nat) : Int)),(28,.i (h.length : Int)),(29,.i ((k : Nat) : Int))],[(26,⟨3,.row (.ints l0)⟩)],[26,999]⟩)
     (True ∧ True ∧ True) (by kernel_rfl)
     ⟨tt,tt,tt⟩ ?_
    refine W.L cok tab18o hnt [35] (⟨[(0,.v (.string s)),(1,.sl (.calls h)),(6,.own 35 (List.length (l0 ++ ([((k : Nat) : Int)])))),(7,.i ((k : Nat) : Int)),(28,.i (h.length : Int)),(29,.i ((k : Nat) : Int)),(32,.own 26 l0.length),(33,.i ((k : Nat) : Int)),(34,.sl (.ints ([((k : Nat) : Int)]))),(35,.own 35 (List.length (l0 ++ ([((k : Nat) : Int)]))))],[(35,⟨3,.row (.ints (l0 ++ ([((k : Nat) : Int)])))⟩)],[35,34,26,999]⟩)
     (True ∧ True ∧ (True ∧ True) ∧ ((True ∧ (l0.length = l0.length)) ∧ True ∧ ((l0.length + (List.length ([((k : Nat) : Int)]))) * 8 ≤ 140737488355328)) ∧ True ∧ True) (by kernel_rfl)
     ⟨tt,tt,⟨tt,tt⟩,⟨⟨tt,rfl⟩,tt,(by (try simp only [List.length_cons,List.length_nil]); omega)⟩,tt,tt⟩ ?_
    refine blockQ_normal (thenQ_normal ?_)
    refine W.L cok tab18o hnt [] (⟨[(0,.v (.string s)),(1,.sl (.calls h)),(6,.own 35 (List.length (l0 ++ ([((k : Nat) : Int)])))),(7,.i ((k : Nat) : Int)),(28,.i (h.length : Int)),(29,.i (((k + 1) : Nat) : Int)),(32,.own 26 l0.length),(33,.i ((k : Nat) : Int)),(34,.sl (.ints ([((k : Nat) : Int)]))),(35,.own 35 (List.length (l0 ++ ([((k : Nat) : Int)])))),(36,.i (((k + 1) : Nat) : Int))],[(35,⟨3,.row (.ints (l0 ++ ([((k : Nat) : Int)])))⟩)],[35,34,26,999]⟩)
     ((True ∧ True ∧ (Fits .i64 (((k + 1) : Nat) : Int))) ∧ True ∧ True) (by kernel_rfl)
     ⟨⟨tt,tt,(by exact fits_i64 (by omega) (by omega))⟩,tt,tt⟩ ?_
    refine thenQ_normal ?_
    refine ⟨((k + 1),(l0 ++ ([((k : Nat) : Int)]))),(show ((k + 1) ≤ h.length) ∧ ((l0 ++ ([((k : Nat) : Int)])) = idx (k + 1)) from ⟨(by first | assumption | omega | rfl | (intro _ hjj; omega) | (simp; done) | (simp; omega)),(by rw [hl0]; rfl)⟩),(show h.length - (k + 1) < h.length - k from (by first | omega | (simp_all; omega))),?_⟩
    exact Sub.of [(26,35)] (@cast (((((.string s) : Value) = (.string s)) ∧ (((.calls h : Dat) = .calls h) ∧ ((((35 : Nat) = 35) ∧ (((List.length (l0 ++ ([((k : Nat) : Int)]))) = (List.length (l0 ++ ([((k : Nat) : Int)])))) ∧ ((26 : Nat) ∈ ([26,999] : List Nat)))) ∧ (((.int .i64 (h.length : Int) : Value) = .int .i64 (h.length : Int)) ∧ (((.int .i64 (((k + 1) : Nat) : Int) : Value) = .int .i64 (((k + 1) : Nat) : Int)) ∧ True))))) ∧ (((((3 : Nat) = 3) ∧ (((.ints (l0 ++ ([((k : Nat) : Int)])) : Dat) = .ints (l0 ++ ([((k : Nat) : Int)]))) ∧ ((26 : Nat) ∈ ([26,999] : List Nat)))) ∧ True) ∧ ((true = true) ∧ (true = true)))) _ (by kernel_rfl) ⟨⟨rfl,rfl,⟨rfl,rfl,(by decide)⟩,rfl,rfl,tt⟩,⟨⟨rfl,rfl,(by decide)⟩,tt⟩,rfl,rfl⟩)
   ·intro n30
    refine W.exit (thenQ_exit (thenQ_exit (blockQ_hit ?_)))
    refine thenQ_normal ?_
    refine W.seq ?_
    refine W.K cok tab18o hnt [] [0,1,6,8] (⟨[(0,.v (.string s)),(1,.sl (.calls h)),(6,.own 26 l0.length),(8,.i ((h.length : Int) - (1 : Int)))],[(26,⟨3,.row (.ints l0)⟩)],[26,999]⟩)
     (True ∧ True ∧ (True ∧ True ∧ (Fits .i64 ((h.length : Int) - (1 : Int)))) ∧ True ∧ True) (by kernel_rfl)
     ⟨tt,tt,⟨tt,tt,(by exact fits_i64 (by omega) (by omega))⟩,tt,tt⟩ ?_
    refine W.block ?_
    refine W.loop (ι := Int × (List Int)) (fun (x : Int × (List Int)) => match x with | (i,lf) => (⟨[(0,.v (.string s)),(1,.sl (.calls h)),(6,.own 26 lf.length),(8,.i i)],[(26,⟨3,.row (.ints lf)⟩)],[26,999]⟩ : St))
     (fun (x : Int × (List Int)) => match x with | (i,lf) => (-1 ≤ i ∧ i < (h.length : Int)) ∧ (lf = blameR s h ((h.length : Int) - 1 - i).toNat))
     (fun (x : Int × (List Int)) => match x with | (i,lf) => ((i + 1).toNat : Nat)) (((h.length : Int) - (1 : Int)),l0) ?_ ?_ ?_
    ·exact (show (-1 ≤ ((h.length : Int) - (1 : Int)) ∧ ((h.length : Int) - (1 : Int)) < (h.length : Int)) ∧ (l0 = blameR s h ((h.length : Int) - 1 - ((h.length : Int) - (1 : Int))).toNat) from ⟨(by first | assumption | omega | rfl | (intro _ hjj; omega) | (simp; done) | (simp; omega)),(by exact blame_start hl0 (by omega))⟩)
    ·exact Sub.of [] (@cast (((((.string s) : Value) = (.string s)) ∧ (((.calls h : Dat) = .calls h) ∧ ((((26 : Nat) = 26) ∧ ((l0.length = l0.length) ∧ ((26 : Nat) ∈ ([26,999] : List Nat)))) ∧ (((.int .i64 ((h.length : Int) - (1 : Int)) : Value) = .int .i64 ((h.length : Int) - (1 : Int))) ∧ True)))) ∧ (((((3 : Nat) = 3) ∧ (((.ints l0 : Dat) = .ints l0) ∧ ((26 : Nat) ∈ ([26,999] : List Nat)))) ∧ True) ∧ ((true = true) ∧ (true = true)))) _ (by kernel_rfl) ⟨⟨rfl,rfl,⟨rfl,rfl,(by decide)⟩,rfl,tt⟩,⟨⟨rfl,rfl,(by decide)⟩,tt⟩,rfl,rfl⟩)
    ·rintro ⟨i,lf⟩ hC0
     have hC : (-1 ≤ i ∧ i < (h.length : Int)) ∧ (lf = blameR s h ((h.length : Int) - 1 - i).toNat) := hC0
     clear hC0
     obtain ⟨hi,hl⟩ := hC
     refine W.to (⟨[(0,.v (.string s)),(1,.sl (.calls h)),(6,.own 26 lf.length),(8,.i i)],[(26,⟨3,.row (.ints lf)⟩)],[26,999]⟩) rfl ?_
     have hin : ∀ x ∈ lf,0 ≤ x ∧ x < (h.length : Int) := by rw [hl]; exact blame_in _
     have hlfl : lf.length ≤ h.length := by rw [hl]; exact blame_len _
     refine W.seq ?_
     refine W.K cok tab18o hnt [] [0,1,6,8,41] (⟨[(0,.v (.string s)),(1,.sl (.calls h)),(6,.own 26 lf.length),(8,.i i),(41,.b (decide ((0 : Int) ≤ i)))],[(26,⟨3,.row (.ints lf)⟩)],[26,999]⟩)
      (True ∧ (True ∧ True ∧ True) ∧ True) (by kernel_rfl)
      ⟨tt,⟨tt,tt,tt⟩,tt⟩ ?_
     refine W.ifP ((0 : Int) ≤ i) (.b (decide ((0 : Int) ≤ i))) (by kernel_rfl) rfl trivial ?_ ?_
     ·intro h41
      refine W.skip (thenQ_normal ?_)
      refine W.seq ?_
      refine W.block ?_
      refine W.K cok tab18o hnt [44,45] [0,1,6,8,9,10] (⟨[(0,.v (.string s)),(1,.sl (.calls h)),(6,.own 26 lf.length),(8,.i i),(9,.own 44 (List.length ([] : List Int))),(10,.own 45 (List.length ([] : List CallD)))],[(26,⟨3,.row (.ints lf)⟩),(44,⟨3,.row (.ints ([] : List Int))⟩),(45,⟨47,.row (.calls ([] : List CallD))⟩)],[45,44,26,999]⟩)
       (True ∧ True ∧ True ∧ True ∧ True) (by kernel_rfl)
       ⟨tt,tt,tt,tt,tt⟩ ?_
      refine W.seq ?_
      refine W.K cok tab18o hnt [] [0,1,6,8,9,10,46,47,48] (⟨[(0,.v (.string s)),(1,.sl (.calls h)),(6,.own 26 lf.length),(8,.i i),(9,.own 44 (List.length ([] : List Int))),(10,.own 45 (List.length ([] : List CallD))),(46,.own 26 lf.length),(47,.i (lf.length : Int)),(48,.i (0 : Int))],[(26,⟨3,.row (.ints lf)⟩),(44,⟨3,.row (.ints ([] : List Int))⟩),(45,⟨47,.row (.calls ([] : List CallD))⟩)],[45,44,26,999]⟩)
       (True ∧ True ∧ True ∧ True) (by kernel_rfl)
       ⟨tt,tt,tt,tt⟩ ?_
      refine W.block ?_
      refine W.loop (ι := Nat × (List Int) × (List CallD)) (fun (x : Nat × (List Int) × (List CallD)) => match x with | (j,ot,pt) => (⟨[(0,.v (.string s)),(1,.sl (.calls h)),(6,.own 26 lf.length),(8,.i i),(9,.own 44 ot.length),(10,.own 45 pt.length),(46,.own 26 lf.length),(47,.i (lf.length : Int)),(48,.i ((j : Nat) : Int))],[(26,⟨3,.row (.ints lf)⟩),(44,⟨3,.row (.ints ot)⟩),(45,⟨47,.row (.calls pt)⟩)],[26,44,45,999]⟩ : St))
       (fun (x : Nat × (List Int) × (List CallD)) => match x with | (j,ot,pt) => (j ≤ lf.length) ∧ (ot = wUp lf i j) ∧ (pt = pickC h (wUp lf i j)))
       (fun (x : Nat × (List Int) × (List CallD)) => match x with | (j,ot,pt) => (lf.length - j : Nat)) (0,([] : List Int),([] : List CallD)) ?_ ?_ ?_
      ·exact (show (0 ≤ lf.length) ∧ (([] : List Int) = wUp lf i 0) ∧ (([] : List CallD) = pickC h (wUp lf i 0)) from ⟨(by first | assumption | omega | rfl | (intro _ hjj; omega) | (simp; done) | (simp; omega)),(by rfl),(by rfl)⟩)
      ·exact Sub.of [] (@cast (((((.string s) : Value) = (.string s)) ∧ (((.calls h : Dat) = .calls h) ∧ ((((26 : Nat) = 26) ∧ ((lf.length = lf.length) ∧ ((26 : Nat) ∈ ([26,44,45,999] : List Nat)))) ∧ (((.int .i64 i : Value) = .int .i64 i) ∧ ((((44 : Nat) = 44) ∧ (((List.length ([] : List Int)) = (List.length ([] : List Int))) ∧ ((44 : Nat) ∈ ([26,44,45,999] : List Nat)))) ∧ ((((45 : Nat) = 45) ∧ (((List.length ([] : List CallD)) = (List.length ([] : List CallD))) ∧ ((45 : Nat) ∈ ([26,44,45,999] : List Nat)))) ∧ ((((26 : Nat) = 26) ∧ ((lf.length = lf.length) ∧ ((26 : Nat) ∈ ([26,44,45,999] : List Nat)))) ∧ (((.int .i64 (lf.length : Int) : Value) = .int .i64 (lf.length : Int)) ∧ (((.int .i64 (0 : Int) : Value) = .int .i64 ((0 : Nat) : Int)) ∧ True))))))))) ∧ (((((3 : Nat) = 3) ∧ (((.ints lf : Dat) = .ints lf) ∧ ((26 : Nat) ∈ ([26,44,45,999] : List Nat)))) ∧ ((((3 : Nat) = 3) ∧ (((.ints ([] : List Int) : Dat) = .ints ([] : List Int)) ∧ ((44 : Nat) ∈ ([26,44,45,999] : List Nat)))) ∧ ((((47 : Nat) = 47) ∧ (((.calls ([] : List CallD) : Dat) = .calls ([] : List CallD)) ∧ ((45 : Nat) ∈ ([26,44,45,999] : List Nat)))) ∧ True))) ∧ ((true = true) ∧ (true = true)))) _ (by kernel_rfl) ⟨⟨rfl,rfl,⟨rfl,rfl,(by decide)⟩,rfl,⟨rfl,rfl,(by decide)⟩,⟨rfl,rfl,(by decide)⟩,⟨rfl,rfl,(by decide)⟩,rfl,(congrArg (Value.int .i64) (by first | rfl | omega | assumption | simp | simp_all)),tt⟩,⟨⟨rfl,rfl,(by decide)⟩,⟨rfl,rfl,(by decide)⟩,⟨rfl,rfl,(by decide)⟩,tt⟩,rfl,rfl⟩)
      ·rintro ⟨j,ot,pt⟩ hC0
       have hC : (j ≤ lf.length) ∧ (ot = wUp lf i j) ∧ (pt = pickC h (wUp lf i j)) := hC0
       clear hC0
       obtain ⟨hj,hot,hpt⟩ := hC
       refine W.to (⟨[(0,.v (.string s)),(1,.sl (.calls h)),(6,.own 26 lf.length),(8,.i i),(9,.own 44 ot.length),(10,.own 45 pt.length),(46,.own 26 lf.length),(47,.i (lf.length : Int)),(48,.i ((j : Nat) : Int))],[(26,⟨3,.row (.ints lf)⟩),(44,⟨3,.row (.ints ot)⟩),(45,⟨47,.row (.calls pt)⟩)],[26,44,45,999]⟩) rfl ?_
       have hgj := fun (hj : j < lf.length) => hin _ (getD_mem lf 0 hj)
       have hotl : ot.length ≤ j := by rw [hot]; exact wUp_len _ _ _
       have hptl : pt.length ≤ j := by rw [hpt,pickC_len]; exact wUp_len _ _ _
       refine W.K cok tab18o hnt [] [0,1,6,8,9,10,46,47,48,49] (⟨[(0,.v (.string s)),(1,.sl (.calls h)),(6,.own 26 lf.length),(8,.i i),(9,.own 44 ot.length),(10,.own 45 pt.length),(46,.own 26 lf.length),(47,.i (lf.length : Int)),(48,.i ((j : Nat) : Int)),(49,.b (decide (((j : Nat) : Int) < (lf.length : Int))))],[(26,⟨3,.row (.ints lf)⟩),(44,⟨3,.row (.ints ot)⟩),(45,⟨47,.row (.calls pt)⟩)],[26,44,45,999]⟩)
        ((True ∧ True ∧ True) ∧ True) (by kernel_rfl)
        ⟨⟨tt,tt,tt⟩,tt⟩ ?_
       refine W.seq ?_
       refine W.ifP (((j : Nat) : Int) < (lf.length : Int)) (.b (decide (((j : Nat) : Int) < (lf.length : Int)))) (by kernel_rfl) rfl trivial ?_ ?_
       ·intro h49
        refine W.skip (thenQ_normal ?_)
        refine W.seq ?_
        refine W.block ?_
        refine W.K cok tab18o hnt [] [0,1,6,8,9,10,12,46,47,48] (⟨[(0,.v (.string s)),(1,.sl (.calls h)),(6,.own 26 lf.length),(8,.i i),(9,.own 44 ot.length),(10,.own 45 pt.length),(12,.i (lf.getD j 0)),(46,.own 26 lf.length),(47,.i (lf.length : Int)),(48,.i ((j : Nat) : Int))],[(26,⟨3,.row (.ints lf)⟩),(44,⟨3,.row (.ints ot)⟩),(45,⟨47,.row (.calls pt)⟩)],[26,44,45,999]⟩)
         ((True ∧ True ∧ (0 ≤ ((j : Nat) : Int)) ∧ (((j : Nat) : Int) < (lf.length : Int))) ∧ (True ∧ (j < lf.length)) ∧ True ∧ True) (by kernel_rfl)
         ⟨⟨tt,tt,(by omega),(by omega)⟩,⟨tt,(by omega)⟩,tt,tt⟩ ?_
        refine W.K cok tab18o hnt [] [0,1,6,8,9,10,12,46,47,48,54] (⟨[(0,.v (.string s)),(1,.sl (.calls h)),(6,.own 26 lf.length),(8,.i i),(9,.own 44 ot.length),(10,.own 45 pt.length),(12,.i (lf.getD j 0)),(46,.own 26 lf.length),(47,.i (lf.length : Int)),(48,.i ((j : Nat) : Int)),(54,.b (decide ((lf.getD j 0) ≠ i)))],[(26,⟨3,.row (.ints lf)⟩),(44,⟨3,.row (.ints ot)⟩),(45,⟨47,.row (.calls pt)⟩)],[26,44,45,999]⟩)
         (True ∧ True ∧ (True ∧ True ∧ True) ∧ True) (by kernel_rfl)
         ⟨tt,tt,⟨tt,tt,tt⟩,tt⟩ ?_
        refine W.ifP ((lf.getD j 0) ≠ i) (.b (decide ((lf.getD j 0) ≠ i))) (by kernel_rfl) rfl trivial ?_ ?_
        ·intro h54
         refine W.LA cok tab18o hnt [58,65] (⟨[(0,.v (.string s)),(1,.sl (.calls h)),(6,.own 26 lf.length),(8,.i i),(9,.own 58 (List.length (ot ++ ([(lf.getD j 0)])))),(10,.own 65 (List.length (pt ++ ([(h.getD (Int.toNat (lf.getD j 0)) default)])))),(12,.i (lf.getD j 0)),(46,.own 26 lf.length),(47,.i (lf.length : Int)),(48,.i ((j : Nat) : Int)),(54,.b (decide ((lf.getD j 0) ≠ i))),(55,.own 44 ot.length),(56,.i (lf.getD j 0)),(57,.sl (.ints ([(lf.getD j 0)]))),(58,.own 58 (List.length (ot ++ ([(lf.getD j 0)])))),(59,.own 45 pt.length),(60,.sl (.calls h)),(61,.i (lf.getD j 0)),(62,.ep [.i ((h.getD (Int.toNat (lf.getD j 0)) default).proc),.i ((h.getD (Int.toNat (lf.getD j 0)) default).obj),.i ((h.getD (Int.toNat (lf.getD j 0)) default).kind),.i ((h.getD (Int.toNat (lf.getD j 0)) default).arg),.i ((h.getD (Int.toNat (lf.getD j 0)) default).ret),.i ((h.getD (Int.toNat (lf.getD j 0)) default).frm),.i ((h.getD (Int.toNat (lf.getD j 0)) default).to)]),(63,.agg [.i ((h.getD (Int.toNat (lf.getD j 0)) default).proc),.i ((h.getD (Int.toNat (lf.getD j 0)) default).obj),.i ((h.getD (Int.toNat (lf.getD j 0)) default).kind),.i ((h.getD (Int.toNat (lf.getD j 0)) default).arg),.i ((h.getD (Int.toNat (lf.getD j 0)) default).ret),.i ((h.getD (Int.toNat (lf.getD j 0)) default).frm),.i ((h.getD (Int.toNat (lf.getD j 0)) default).to)]),(64,.sl (.calls ([(h.getD (Int.toNat (lf.getD j 0)) default)]))),(65,.own 65 (List.length (pt ++ ([(h.getD (Int.toNat (lf.getD j 0)) default)]))))],[(26,⟨3,.row (.ints lf)⟩),(58,⟨3,.row (.ints (ot ++ ([(lf.getD j 0)])))⟩),(65,⟨47,.row (.calls (pt ++ ([(h.getD (Int.toNat (lf.getD j 0)) default)])))⟩)],[65,64,58,57,26,44,45,999]⟩)
          (True ∧ True ∧ (True ∧ True) ∧ ((True ∧ (ot.length = ot.length)) ∧ True ∧ ((ot.length + (List.length ([(lf.getD j 0)]))) * 8 ≤ 140737488355328)) ∧ True ∧ True ∧ True ∧ (True ∧ True ∧ (0 ≤ (lf.getD j 0)) ∧ ((lf.getD j 0) < (h.length : Int))) ∧ True ∧ (True ∧ True) ∧ ((True ∧ (pt.length = pt.length)) ∧ True ∧ ((pt.length + (List.length ([(h.getD (Int.toNat (lf.getD j 0)) default)]))) * 56 ≤ 140737488355328)) ∧ True ∧ True ∧ True) (by kernel_rfl) (by kernel_rfl)
          ⟨tt,tt,⟨tt,tt⟩,⟨⟨tt,rfl⟩,tt,(by (try simp only [List.length_cons,List.length_nil]); omega)⟩,tt,tt,tt,⟨tt,tt,(by have h9 := hgj (by omega); omega),(by have h9 := hgj (by omega); omega)⟩,tt,⟨tt,tt⟩,⟨⟨tt,rfl⟩,tt,(by (try simp only [List.length_cons,List.length_nil]); omega)⟩,tt,tt,tt⟩ ?_
         refine blockQ_normal (thenQ_normal ?_)
         refine W.L cok tab18o hnt [] (⟨[(0,.v (.string s)),(1,.sl (.calls h)),(6,.own 26 lf.length),(8,.i i),(9,.own 58 (List.length (ot ++ ([(lf.getD j 0)])))),(10,.own 65 (List.length (pt ++ ([(h.getD (Int.toNat (lf.getD j 0)) default)])))),(12,.i (lf.getD j 0)),(46,.own 26 lf.length),(47,.i (lf.length : Int)),(48,.i (((j + 1) : Nat) : Int)),(54,.b (decide ((lf.getD j 0) ≠ i))),(55,.own 44 ot.length),(56,.i (lf.getD j 0)),(57,.sl (.ints ([(lf.getD j 0)]))),(58,.own 58 (List.length (ot ++ ([(lf.getD j 0)])))),(59,.own 45 pt.length),(60,.sl (.calls h)),(61,.i (lf.getD j 0)),(62,.ep [.i ((h.getD (Int.toNat (lf.getD j 0)) default).proc),.i ((h.getD (Int.toNat (lf.getD j 0)) default).obj),.i ((h.getD (Int.toNat (lf.getD j 0)) default).kind),.i ((h.getD (Int.toNat (lf.getD j 0)) default).arg),.i ((h.getD (Int.toNat (lf.getD j 0)) default).ret),.i ((h.getD (Int.toNat (lf.getD j 0)) default).frm),.i ((h.getD (Int.toNat (lf.getD j 0)) default).to)]),(63,.agg [.i ((h.getD (Int.toNat (lf.getD j 0)) default).proc),.i ((h.getD (Int.toNat (lf.getD j 0)) default).obj),.i ((h.getD (Int.toNat (lf.getD j 0)) default).kind),.i ((h.getD (Int.toNat (lf.getD j 0)) default).arg),.i ((h.getD (Int.toNat (lf.getD j 0)) default).ret),.i ((h.getD (Int.toNat (lf.getD j 0)) default).frm),.i ((h.getD (Int.toNat (lf.getD j 0)) default).to)]),(64,.sl (.calls ([(h.getD (Int.toNat (lf.getD j 0)) default)]))),(65,.own 65 (List.length (pt ++ ([(h.getD (Int.toNat (lf.getD j 0)) default)])))),(66,.i (((j + 1) : Nat) : Int))],[(26,⟨3,.row (.ints lf)⟩),(58,⟨3,.row (.ints (ot ++ ([(lf.getD j 0)])))⟩),(65,⟨47,.row (.calls (pt ++ ([(h.getD (Int.toNat (lf.getD j 0)) default)])))⟩)],[65,64,58,57,26,44,45,999]⟩)
          ((True ∧ True ∧ (Fits .i64 (((j + 1) : Nat) : Int))) ∧ True ∧ True) (by kernel_rfl)
          ⟨⟨tt,tt,(by exact fits_i64 (by omega) (by omega))⟩,tt,tt⟩ ?_
         refine thenQ_normal ?_
         refine ⟨((j + 1),(ot ++ ([(lf.getD j 0)])),(pt ++ ([(h.getD (Int.toNat (lf.getD j 0)) default)]))),(show ((j + 1) ≤ lf.length) ∧ ((ot ++ ([(lf.getD j 0)])) = wUp lf i (j + 1)) ∧ ((pt ++ ([(h.getD (Int.toNat (lf.getD j 0)) default)])) = pickC h (wUp lf i (j + 1))) from ⟨(by first | assumption | omega | rfl | (intro _ hjj; omega) | (simp; done) | (simp; omega)),(by first | exact wUp_yes hot (by omega) h54 | exact wUp_no hot (by omega) n54),(by first | exact pUp_yes hpt (by omega) h54 | exact pUp_no hpt (by omega) n54)⟩),(show lf.length - (j + 1) < lf.length - j from (by first | omega | (simp_all; omega))),?_⟩
         exact Sub.of [(44,58),(45,65)] (@cast (((((.string s) : Value) = (.string s)) ∧ (((.calls h : Dat) = .calls h) ∧ ((((26 : Nat) = 26) ∧ ((lf.length = lf.length) ∧ ((26 : Nat) ∈ ([26,44,45,999] : List Nat)))) ∧ (((.int .i64 i : Value) = .int .i64 i) ∧ ((((58 : Nat) = 58) ∧ (((List.length (ot ++ ([(lf.getD j 0)]))) = (List.length (ot ++ ([(lf.getD j 0)])))) ∧ ((44 : Nat) ∈ ([26,44,45,999] : List Nat)))) ∧ ((((65 : Nat) = 65) ∧ (((List.length (pt ++ ([(h.getD (Int.toNat (lf.getD j 0)) default)]))) = (List.length (pt ++ ([(h.getD (Int.toNat (lf.getD j 0)) default)])))) ∧ ((45 : Nat) ∈ ([26,44,45,999] : List Nat)))) ∧ ((((26 : Nat) = 26) ∧ ((lf.length = lf.length) ∧ ((26 : Nat) ∈ ([26,44,45,999] : List Nat)))) ∧ (((.int .i64 (lf.length : Int) : Value) = .int .i64 (lf.length : Int)) ∧ (((.int .i64 (((j + 1) : Nat) : Int) : Value) = .int .i64 (((j + 1) : Nat) : Int)) ∧ True))))))))) ∧ (((((3 : Nat) = 3) ∧ (((.ints lf : Dat) = .ints lf) ∧ ((26 : Nat) ∈ ([26,44,45,999] : List Nat)))) ∧ ((((3 : Nat) = 3) ∧ (((.ints (ot ++ ([(lf.getD j 0)])) : Dat) = .ints (ot ++ ([(lf.getD j 0)]))) ∧ ((44 : Nat) ∈ ([26,44,45,999] : List Nat)))) ∧ ((((47 : Nat) = 47) ∧ (((.calls (pt ++ ([(h.getD (Int.toNat (lf.getD j 0)) default)])) : Dat) = .calls (pt ++ ([(h.getD (Int.toNat (lf.getD j 0)) default)]))) ∧ ((45 : Nat) ∈ ([26,44,45,999] : List Nat)))) ∧ True))) ∧ ((true = true) ∧ (true = true)))) _ (by kernel_rfl) ⟨⟨rfl,rfl,⟨rfl,rfl,(by decide)⟩,rfl,⟨rfl,rfl,(by decide)⟩,⟨rfl,rfl,(by decide)⟩,⟨rfl,rfl,(by decide)⟩,rfl,rfl,tt⟩,⟨⟨rfl,rfl,(by decide)⟩,⟨rfl,rfl,(by decide)⟩,⟨rfl,rfl,(by decide)⟩,tt⟩,rfl,rfl⟩)
        ·intro n54
         refine W.skip (blockQ_normal (thenQ_normal ?_))
         refine W.L cok tab18o hnt [] (⟨[(0,.v (.string s)),(1,.sl (.calls h)),(6,.own 26 lf.length),(8,.i i),(9,.own 44 ot.length),(10,.own 45 pt.length),(12,.i (lf.getD j 0)),(46,.own 26 lf.length),(47,.i (lf.length : Int)),(48,.i (((j + 1) : Nat) : Int)),(54,.b (decide ((lf.getD j 0) ≠ i))),(66,.i (((j + 1) : Nat) : Int))],[(26,⟨3,.row (.ints lf)⟩),(44,⟨3,.row (.ints ot)⟩),(45,⟨47,.row (.calls pt)⟩)],[26,44,45,999]⟩)
          ((True ∧ True ∧ (Fits .i64 (((j + 1) : Nat) : Int))) ∧ True ∧ True) (by kernel_rfl)
          ⟨⟨tt,tt,(by exact fits_i64 (by omega) (by omega))⟩,tt,tt⟩ ?_
         refine thenQ_normal ?_
         refine ⟨((j + 1),ot,pt),(show ((j + 1) ≤ lf.length) ∧ (ot = wUp lf i (j + 1)) ∧ (pt = pickC h (wUp lf i (j + 1))) from ⟨(by first | assumption | omega | rfl | (intro _ hjj; omega) | (simp; done) | (simp; omega)),(by first | exact wUp_yes hot (by omega) h54 | exact wUp_no hot (by omega) n54),(by first | exact pUp_yes hpt (by omega) h54 | exact pUp_no hpt (by omega) n54)⟩),(show lf.length - (j + 1) < lf.length - j from (by first | omega | (simp_all; omega))),?_⟩
         exact Sub.of [] (@cast (((((.string s) : Value) = (.string s)) ∧ (((.calls h : Dat) = .calls h) ∧ ((((26 : Nat) = 26) ∧ ((lf.length = lf.length) ∧ ((26 : Nat) ∈ ([26,44,45,999] : List Nat)))) ∧ (((.int .i64 i : Value) = .int .i64 i) ∧ ((((44 : Nat) = 44) ∧ ((ot.length = ot.length) ∧ ((44 : Nat) ∈ ([26,44,45,999] : List Nat)))) ∧ ((((45 : Nat) = 45) ∧ ((pt.length = pt.length) ∧ ((45 : Nat) ∈ ([26,44,45,999] : List Nat)))) ∧ ((((26 : Nat) = 26) ∧ ((lf.length = lf.length) ∧ ((26 : Nat) ∈ ([26,44,45,999] : List Nat)))) ∧ (((.int .i64 (lf.length : Int) : Value) = .int .i64 (lf.length : Int)) ∧ (((.int .i64 (((j + 1) : Nat) : Int) : Value) = .int .i64 (((j + 1) : Nat) : Int)) ∧ True))))))))) ∧ (((((3 : Nat) = 3) ∧ (((.ints lf : Dat) = .ints lf) ∧ ((26 : Nat) ∈ ([26,44,45,999] : List Nat)))) ∧ ((((3 : Nat) = 3) ∧ (((.ints ot : Dat) = .ints ot) ∧ ((44 : Nat) ∈ ([26,44,45,999] : List Nat)))) ∧ ((((47 : Nat) = 47) ∧ (((.calls pt : Dat) = .calls pt) ∧ ((45 : Nat) ∈ ([26,44,45,999] : List Nat)))) ∧ True))) ∧ ((true = true) ∧ (true = true)))) _ (by kernel_rfl) ⟨⟨rfl,rfl,⟨rfl,rfl,(by decide)⟩,rfl,⟨rfl,rfl,(by decide)⟩,⟨rfl,rfl,(by decide)⟩,⟨rfl,rfl,(by decide)⟩,rfl,rfl,tt⟩,⟨⟨rfl,rfl,(by decide)⟩,⟨rfl,rfl,(by decide)⟩,⟨rfl,rfl,(by decide)⟩,tt⟩,rfl,rfl⟩)
       ·intro n49
        refine W.exit (thenQ_exit (thenQ_exit (blockQ_hit ?_)))
        refine thenQ_normal ?_
        refine W.K cok tab18o hnt [] [0,1,6,8,9,70] (⟨[(0,.v (.string s)),(1,.sl (.calls h)),(6,.own 26 lf.length),(8,.i i),(9,.own 44 ot.length),(70,.b (!(explains s pt (aheadF pt))))],[(26,⟨3,.row (.ints lf)⟩),(44,⟨3,.row (.ints ot)⟩),(45,⟨47,.row (.calls pt)⟩)],[26,44,45,999]⟩)
         (True ∧ True ∧ (True ∧ (True ∧ (True ∧ (pt.length = pt.length)) ∧ True) ∧ True) ∧ True ∧ True) (by kernel_rfl)
         ⟨tt,tt,⟨tt,⟨tt,⟨tt,rfl⟩,tt⟩,tt⟩,tt,tt⟩ ?_
        refine W.if' (!(explains s pt (aheadF pt))) (.b (!(explains s pt (aheadF pt)))) (by kernel_rfl) rfl trivial ?_ ?_
        ·intro h70
         refine W.L cok tab18o hnt [] (⟨[(0,.v (.string s)),(1,.sl (.calls h)),(6,.own 44 ot.length),(8,.i i),(9,.own 44 ot.length),(70,.b (!(explains s pt (aheadF pt)))),(71,.own 44 ot.length)],[(26,⟨3,.row (.ints lf)⟩),(44,⟨3,.row (.ints ot)⟩),(45,⟨47,.row (.calls pt)⟩)],[26,44,45,999]⟩)
          (True ∧ True ∧ True) (by kernel_rfl)
          ⟨tt,tt,tt⟩ ?_
         refine blockQ_normal (thenQ_normal ?_)
         refine W.L cok tab18o hnt [] (⟨[(0,.v (.string s)),(1,.sl (.calls h)),(6,.own 44 ot.length),(8,.i (i - (1 : Int))),(9,.own 44 ot.length),(42,.i i),(43,.i (i - (1 : Int))),(70,.b (!(explains s pt (aheadF pt)))),(71,.own 44 ot.length)],[(26,⟨3,.row (.ints lf)⟩),(44,⟨3,.row (.ints ot)⟩),(45,⟨47,.row (.calls pt)⟩)],[26,44,45,999]⟩)
          (True ∧ (True ∧ True ∧ (Fits .i64 (i - (1 : Int)))) ∧ True ∧ True) (by kernel_rfl)
          ⟨tt,⟨tt,tt,(by exact fits_i64 (by omega) (by omega))⟩,tt,tt⟩ ?_
         refine thenQ_normal ?_
         refine ⟨((i - (1 : Int)),ot),(show (-1 ≤ (i - (1 : Int)) ∧ (i - (1 : Int)) < (h.length : Int)) ∧ (ot = blameR s h ((h.length : Int) - 1 - (i - (1 : Int))).toNat) from ⟨(by first | assumption | omega | rfl | (intro _ hjj; omega) | (simp; done) | (simp; omega)),(by first | exact blame_yes hl (by omega) (by omega) (by omega) hot hpt h70 | exact blame_no hl (by omega) (by omega) (by omega) hpt n70)⟩),(show ((i - (1 : Int)) + 1).toNat < (i + 1).toNat from (by first | omega | (simp_all; omega))),?_⟩
         exact Sub.of [(26,44)] (@cast (((((.string s) : Value) = (.string s)) ∧ (((.calls h : Dat) = .calls h) ∧ ((((44 : Nat) = 44) ∧ ((ot.length = ot.length) ∧ ((26 : Nat) ∈ ([26,999] : List Nat)))) ∧ (((.int .i64 (i - (1 : Int)) : Value) = .int .i64 (i - (1 : Int))) ∧ True)))) ∧ (((((3 : Nat) = 3) ∧ (((.ints ot : Dat) = .ints ot) ∧ ((26 : Nat) ∈ ([26,999] : List Nat)))) ∧ True) ∧ ((true = true) ∧ (true = true)))) _ (by kernel_rfl) ⟨⟨rfl,rfl,⟨rfl,rfl,(by decide)⟩,rfl,tt⟩,⟨⟨rfl,rfl,(by decide)⟩,tt⟩,rfl,rfl⟩)
        ·intro n70
         refine W.skip (blockQ_normal (thenQ_normal ?_))
         refine W.L cok tab18o hnt [] (⟨[(0,.v (.string s)),(1,.sl (.calls h)),(6,.own 26 lf.length),(8,.i (i - (1 : Int))),(9,.own 44 ot.length),(42,.i i),(43,.i (i - (1 : Int))),(70,.b (!(explains s pt (aheadF pt))))],[(26,⟨3,.row (.ints lf)⟩),(44,⟨3,.row (.ints ot)⟩),(45,⟨47,.row (.calls pt)⟩)],[26,44,45,999]⟩)
          (True ∧ (True ∧ True ∧ (Fits .i64 (i - (1 : Int)))) ∧ True ∧ True) (by kernel_rfl)
          ⟨tt,⟨tt,tt,(by exact fits_i64 (by omega) (by omega))⟩,tt,tt⟩ ?_
         refine thenQ_normal ?_
         refine ⟨((i - (1 : Int)),lf),(show (-1 ≤ (i - (1 : Int)) ∧ (i - (1 : Int)) < (h.length : Int)) ∧ (lf = blameR s h ((h.length : Int) - 1 - (i - (1 : Int))).toNat) from ⟨(by first | assumption | omega | rfl | (intro _ hjj; omega) | (simp; done) | (simp; omega)),(by first | exact blame_yes hl (by omega) (by omega) (by omega) hot hpt h70 | exact blame_no hl (by omega) (by omega) (by omega) hpt n70)⟩),(show ((i - (1 : Int)) + 1).toNat < (i + 1).toNat from (by first | omega | (simp_all; omega))),?_⟩
         exact Sub.of [] (@cast (((((.string s) : Value) = (.string s)) ∧ (((.calls h : Dat) = .calls h) ∧ ((((26 : Nat) = 26) ∧ ((lf.length = lf.length) ∧ ((26 : Nat) ∈ ([26,999] : List Nat)))) ∧ (((.int .i64 (i - (1 : Int)) : Value) = .int .i64 (i - (1 : Int))) ∧ True)))) ∧ (((((3 : Nat) = 3) ∧ (((.ints lf : Dat) = .ints lf) ∧ ((26 : Nat) ∈ ([26,999] : List Nat)))) ∧ True) ∧ ((true = true) ∧ (true = true)))) _ (by kernel_rfl) ⟨⟨rfl,rfl,⟨rfl,rfl,(by decide)⟩,rfl,tt⟩,⟨⟨rfl,rfl,(by decide)⟩,tt⟩,rfl,rfl⟩)
     ·intro n41
      refine W.exit (thenQ_exit (thenQ_exit (blockQ_hit ?_)))
      refine thenQ_normal ?_
      refine W.K cok tab18o hnt [] [4,5] (⟨[(4,.own 26 lf.length),(5,.b true)],[(26,⟨3,.row (.ints lf)⟩)],[26,999]⟩)
       (True ∧ True ∧ True ∧ True) (by kernel_rfl)
       ⟨tt,tt,tt,tt⟩ ?_
      refine W.ret ?_
      exact endQ_rows [(0,26)] (.tup [.own 26 lf.length,.b true]) (by kernel_rfl) (@cast ((((26 : Nat) = 26) ∧ ((lf.length = (List.length ((blameP s h).1))) ∧ ((0 : Nat) ∈ ([0] : List Nat)))) ∧ (((.bool true : Value) = .bool ((blameP s h).2)) ∧ True)) _ (by kernel_rfl) ⟨⟨rfl,(by first | rfl | omega | assumption | (symm; assumption) | (exact congrArg List.length (by rw [blameP_yes n25] <;> first | rfl | exact blame_done hl (by omega))) | (rw [blameP_yes n25] <;> first | rfl | exact blame_done hl (by omega); done) | simp | simp_all),(by decide)⟩,(congrArg Value.bool (by first | rfl | omega | assumption | (rw [blameP_yes n25] <;> first | rfl | exact blame_done hl (by omega); done) | simp | simp_all)),tt⟩) (@cast ((((3 : Nat) = 3) ∧ (((.ints lf : Dat) = .ints ((blameP s h).1)) ∧ ((0 : Nat) ∈ ([0] : List Nat)))) ∧ True) _ (by kernel_rfl) ⟨⟨rfl,(congrArg Dat.ints (by rw [blameP_yes n25] <;> first | rfl | exact blame_done hl (by omega))),(by decide)⟩,tt⟩) (by kernel_rfl)
theorem ent18o : Entr prog 18 := ⟨_,func18,rfl,by decide⟩
end Go.Proofs.Try

set_option linter.unusedSimpArgs false
set_option linter.unusedVariables false
namespace Go.Proofs.Try
open Go.Ab Go.RowKit
def fs12 : FnS := fnS [.s .ints,.s .ints] [.ints,.ints] (fun _ (a,b,_) => (.b (decide (a = b)),[],True))
abbrev T12 : Tab := lk []
theorem tab12 : TabOK prog T12 := TabOK.nil
set_option maxRecDepth 100000 in
set_option maxHeartbeats 1000000 in
theorem ok12 : FnOK prog 12 fs12 := by
 refine FnOK.mk cok func12 rfl rfl rfl ?_
 rintro fl ⟨(a : List Int),(b : List Int),_⟩ hpre F hnt0 _
 have hnt : F.nt = 26 := hnt0.trans ntmps12
 clear hpre
 refine W.to (⟨[(0,.sl (.ints a)),(1,.sl (.ints b))],[],[999]⟩) rfl ?_
 refine W.lenOf 0 (.ints a) (by kernel_rfl) ?_
 intro hl_a; replace hl_a : List.length a ≤ 9223372036854775807 := hl_a
 refine W.lenOf 1 (.ints b) (by kernel_rfl) ?_
 intro hl_b; replace hl_b : List.length b ≤ 9223372036854775807 := hl_b
 refine W.K cok tab12 hnt [] [0,1] (⟨[(0,.sl (.ints a)),(1,.sl (.ints b))],[],[999]⟩)
  (True ∧ True) (by kernel_rfl)
  ⟨tt,tt⟩ ?_
 refine W.seq ?_
 refine W.K cok tab12 hnt [] [0,1,10] (⟨[(0,.sl (.ints a)),(1,.sl (.ints b)),(10,.b (decide ((a.length : Int) ≠ (b.length : Int))))],[],[999]⟩)
  (True ∧ True ∧ True ∧ True ∧ (True ∧ True ∧ True) ∧ True) (by kernel_rfl)
  ⟨tt,tt,tt,tt,⟨tt,tt,tt⟩,tt⟩ ?_
 refine W.ifP ((a.length : Int) ≠ (b.length : Int)) (.b (decide ((a.length : Int) ≠ (b.length : Int)))) (by kernel_rfl) rfl trivial ?_ ?_
 ·intro h10
  refine W.K cok tab12 hnt [] [4] (⟨[(4,.b false)],[],[999]⟩)
   (True ∧ True) (by kernel_rfl)
   ⟨tt,tt⟩ ?_
  refine W.ret (thenQ_ret ?_)
  exact endQ_ret (.b false) (by kernel_rfl) (@cast ((.bool false : Value) = .bool (decide (a = b))) _ (by kernel_rfl) (congrArg Value.bool (by symm; exact decide_eq_false (fun e => h10 (by rw [e])))))
 ·intro n10
  refine W.skip (thenQ_normal ?_)
  refine W.seq ?_
  refine W.K cok tab12 hnt [] [0,1,5] (⟨[(0,.sl (.ints a)),(1,.sl (.ints b)),(5,.i (0 : Int))],[],[999]⟩)
   (True ∧ True) (by kernel_rfl)
   ⟨tt,tt⟩ ?_
  refine W.block ?_
  refine W.loop (ι := Nat) (fun (i : Nat) => (⟨[(0,.sl (.ints a)),(1,.sl (.ints b)),(5,.i ((i : Nat) : Int))],[],[999]⟩ : St))
   (fun (i : Nat) => (i ≤ a.length) ∧ (∀ j,j < i → a.getD j 0 = b.getD j 0))
   (fun (i : Nat) => (a.length - i : Nat)) (0) ?_ ?_ ?_
  ·exact (show (0 ≤ a.length) ∧ (∀ j,j < 0 → a.getD j 0 = b.getD j 0) from ⟨(by first | assumption | omega | rfl | (intro _ hjj; omega) | (simp; done) | (simp; omega)),(by exact upto_zero)⟩)
  ·exact Sub.of [] (@cast ((((.ints a : Dat) = .ints a) ∧ (((.ints b : Dat) = .ints b) ∧ (((.int .i64 (0 : Int) : Value) = .int .i64 ((0 : Nat) : Int)) ∧ True))) ∧ (True ∧ ((true = true) ∧ (true = true)))) _ (by kernel_rfl) ⟨⟨rfl,rfl,(congrArg (Value.int .i64) (by first | rfl | omega | assumption | simp | simp_all)),tt⟩,tt,rfl,rfl⟩)
  ·rintro i hC0
   have hC : (i ≤ a.length) ∧ (∀ j,j < i → a.getD j 0 = b.getD j 0) := hC0
   clear hC0
   obtain ⟨hi,hA⟩ := hC
   refine W.to (⟨[(0,.sl (.ints a)),(1,.sl (.ints b)),(5,.i ((i : Nat) : Int))],[],[999]⟩) rfl ?_
   refine W.seq ?_
   refine W.K cok tab12 hnt [] [0,1,5,14] (⟨[(0,.sl (.ints a)),(1,.sl (.ints b)),(5,.i ((i : Nat) : Int)),(14,.b (decide (((i : Nat) : Int) < (a.length : Int))))],[],[999]⟩)
    (True ∧ True ∧ True ∧ (True ∧ True ∧ True) ∧ True) (by kernel_rfl)
    ⟨tt,tt,tt,⟨tt,tt,tt⟩,tt⟩ ?_
   refine W.ifP (((i : Nat) : Int) < (a.length : Int)) (.b (decide (((i : Nat) : Int) < (a.length : Int)))) (by kernel_rfl) rfl trivial ?_ ?_
   ·intro h14
    refine W.skip (thenQ_normal ?_)
    refine W.seq ?_
    refine W.block ?_
    refine W.KA cok tab12 hnt [] [0,1,5,25] (⟨[(0,.sl (.ints a)),(1,.sl (.ints b)),(5,.i ((i : Nat) : Int)),(25,.b (decide ((a.getD i 0) ≠ (b.getD i 0))))],[],[999]⟩)
     (True ∧ True ∧ (True ∧ True ∧ (0 ≤ ((i : Nat) : Int)) ∧ (((i : Nat) : Int) < (a.length : Int))) ∧ True ∧ True ∧ True ∧ (True ∧ True ∧ (0 ≤ ((i : Nat) : Int)) ∧ (((i : Nat) : Int) < (b.length : Int))) ∧ True ∧ (True ∧ True ∧ True) ∧ True) (by kernel_rfl) (by kernel_rfl)
     ⟨tt,tt,⟨tt,tt,(by omega),(by omega)⟩,tt,tt,tt,⟨tt,tt,(by omega),(by omega)⟩,tt,⟨tt,tt,tt⟩,tt⟩ ?_
    refine W.ifP ((a.getD i 0) ≠ (b.getD i 0)) (.b (decide ((a.getD i 0) ≠ (b.getD i 0)))) (by kernel_rfl) rfl trivial ?_ ?_
    ·intro h25
     refine W.K cok tab12 hnt [] [4] (⟨[(4,.b false)],[],[999]⟩)
      (True ∧ True) (by kernel_rfl)
      ⟨tt,tt⟩ ?_
     refine W.ret (blockQ_ret (thenQ_ret (thenQ_ret (blockQ_ret (thenQ_ret ?_)))))
     exact endQ_ret (.b false) (by kernel_rfl) (@cast ((.bool false : Value) = .bool (decide (a = b))) _ (by kernel_rfl) (congrArg Value.bool (by symm; exact decide_eq_false (fun e => h25 (by rw [e])))))
    ·intro n25
     refine W.skip (blockQ_normal (thenQ_normal ?_))
     refine W.L cok tab12 hnt [] (⟨[(0,.sl (.ints a)),(1,.sl (.ints b)),(5,.i (((i + 1) : Nat) : Int)),(15,.i ((i : Nat) : Int)),(16,.i (((i + 1) : Nat) : Int)),(25,.b (decide ((a.getD i 0) ≠ (b.getD i 0))))],[],[999]⟩)
      (True ∧ (True ∧ True ∧ (Fits .i64 (((i + 1) : Nat) : Int))) ∧ True ∧ True) (by kernel_rfl)
      ⟨tt,⟨tt,tt,(by exact fits_i64 (by omega) (by omega))⟩,tt,tt⟩ ?_
     refine thenQ_normal ?_
     refine ⟨((i + 1)),(show ((i + 1) ≤ a.length) ∧ (∀ j,j < (i + 1) → a.getD j 0 = b.getD j 0) from ⟨(by first | assumption | omega | rfl | (intro _ hjj; omega) | (simp; done) | (simp; omega)),(by exact upto_succ hA (Decidable.not_not.1 n25))⟩),(show a.length - (i + 1) < a.length - i from (by first | omega | (simp_all; omega))),?_⟩
     exact Sub.of [] (@cast ((((.ints a : Dat) = .ints a) ∧ (((.ints b : Dat) = .ints b) ∧ (((.int .i64 (((i + 1) : Nat) : Int) : Value) = .int .i64 (((i + 1) : Nat) : Int)) ∧ True))) ∧ (True ∧ ((true = true) ∧ (true = true)))) _ (by kernel_rfl) ⟨⟨rfl,rfl,rfl,tt⟩,tt,rfl,rfl⟩)
   ·intro n14
    refine W.exit (thenQ_exit (thenQ_exit (blockQ_hit ?_)))
    refine thenQ_normal ?_
    refine W.K cok tab12 hnt [] [4] (⟨[(4,.b true)],[],[999]⟩)
     (True ∧ True) (by kernel_rfl)
     ⟨tt,tt⟩ ?_
    refine W.ret ?_
    exact endQ_ret (.b true) (by kernel_rfl) (@cast ((.bool true : Value) = .bool (decide (a = b))) _ (by kernel_rfl) (congrArg Value.bool (by symm; exact decide_eq_true (ints_ext (by omega) (fun j hj => hA j (by omega))))))
theorem ent12 : Entr prog 12 := ⟨_,func12,rfl,by decide⟩
end Go.Proofs.Try

set_option linter.unusedSimpArgs false
set_option linter.unusedVariables false
namespace Go.Proofs.Try
open Go.Ab Go.RowKit
def fs36 : FnS := fnS [.o,.o] [.call,.call] (fun _ (a,b,_) => (.b (decide (a = b)),[],True))
abbrev T36 : Tab := lk []
theorem tab36 : TabOK prog T36 := TabOK.nil
set_option maxRecDepth 100000 in
set_option maxHeartbeats 1000000 in
theorem ok36 : FnOK prog 36 fs36 := by
 refine FnOK.mk cok func36 rfl rfl rfl ?_
 rintro fl ⟨(a : CallD),(b : CallD),_⟩ hpre F hnt0 _
 have hnt : F.nt = 40 := hnt0.trans ntmps36
 clear hpre
 refine W.to (⟨[(0,.agg [.i a.proc,.i a.obj,.i a.kind,.i a.arg,.i a.ret,.i a.frm,.i a.to]),(1,.agg [.i b.proc,.i b.obj,.i b.kind,.i b.arg,.i b.ret,.i b.frm,.i b.to])],[],[999]⟩) rfl ?_
 refine W.K cok tab36 hnt [] [2,3] (⟨[(2,.ptr 2 0),(3,.ptr 3 0)],[(2,⟨47,.fix [.i a.proc,.i a.obj,.i a.kind,.i a.arg,.i a.ret,.i a.frm,.i a.to]⟩),(3,⟨47,.fix [.i b.proc,.i b.obj,.i b.kind,.i b.arg,.i b.ret,.i b.frm,.i b.to]⟩)],[3,2,999]⟩)
  (True ∧ True ∧ True ∧ True) (by kernel_rfl)
  ⟨tt,tt,tt,tt⟩ ?_
 refine W.seq ?_
 refine W.K cok tab36 hnt [] [2,3,9] (⟨[(2,.ptr 2 0),(3,.ptr 3 0),(9,.b (decide (a.proc ≠ b.proc)))],[(2,⟨47,.fix [.i a.proc,.i a.obj,.i a.kind,.i a.arg,.i a.ret,.i a.frm,.i a.to]⟩),(3,⟨47,.fix [.i b.proc,.i b.obj,.i b.kind,.i b.arg,.i b.ret,.i b.frm,.i b.to]⟩)],[3,2,999]⟩)
  (True ∧ True ∧ True ∧ True ∧ (True ∧ True ∧ True) ∧ True) (by kernel_rfl)
  ⟨tt,tt,tt,tt,⟨tt,tt,tt⟩,tt⟩ ?_
 refine W.ifP (a.proc ≠ b.proc) (.b (decide (a.proc ≠ b.proc))) (by kernel_rfl) rfl trivial ?_ ?_
 ·intro h9
  refine W.K cok tab36 hnt [] [4] (⟨[(4,.b false)],[(2,⟨47,.fix [.i a.proc,.i a.obj,.i a.kind,.i a.arg,.i a.ret,.i a.frm,.i a.to]⟩),(3,⟨47,.fix [.i b.proc,.i b.obj,.i b.kind,.i b.arg,.i b.ret,.i b.frm,.i b.to]⟩)],[3,2,999]⟩)
   (True ∧ True) (by kernel_rfl)
   ⟨tt,tt⟩ ?_
  refine W.ret (thenQ_ret ?_)
  exact endQ_ret (.b false) (by kernel_rfl) (@cast ((.bool false : Value) = .bool (decide (a = b))) _ (by kernel_rfl) (congrArg Value.bool (by first | (symm; exact decide_eq_true (call_ext (by omega) (by omega) (by omega) (by omega) (by omega) (by omega) (by omega))) | (symm; exact decide_eq_false (fun e => by subst e; simp_all)))))
 ·intro n9
  refine W.skip (thenQ_normal ?_)
  refine W.seq ?_
  refine W.K cok tab36 hnt [] [2,3,14] (⟨[(2,.ptr 2 0),(3,.ptr 3 0),(14,.b (decide (a.obj ≠ b.obj)))],[(2,⟨47,.fix [.i a.proc,.i a.obj,.i a.kind,.i a.arg,.i a.ret,.i a.frm,.i a.to]⟩),(3,⟨47,.fix [.i b.proc,.i b.obj,.i b.kind,.i b.arg,.i b.ret,.i b.frm,.i b.to]⟩)],[3,2,999]⟩)
   (True ∧ True ∧ True ∧ True ∧ (True ∧ True ∧ True) ∧ True) (by kernel_rfl)
   ⟨tt,tt,tt,tt,⟨tt,tt,tt⟩,tt⟩ ?_
  refine W.ifP (a.obj ≠ b.obj) (.b (decide (a.obj ≠ b.obj))) (by kernel_rfl) rfl trivial ?_ ?_
  ·intro h14
   refine W.K cok tab36 hnt [] [4] (⟨[(4,.b false)],[(2,⟨47,.fix [.i a.proc,.i a.obj,.i a.kind,.i a.arg,.i a.ret,.i a.frm,.i a.to]⟩),(3,⟨47,.fix [.i b.proc,.i b.obj,.i b.kind,.i b.arg,.i b.ret,.i b.frm,.i b.to]⟩)],[3,2,999]⟩)
    (True ∧ True) (by kernel_rfl)
    ⟨tt,tt⟩ ?_
   refine W.ret (thenQ_ret ?_)
   exact endQ_ret (.b false) (by kernel_rfl) (@cast ((.bool false : Value) = .bool (decide (a = b))) _ (by kernel_rfl) (congrArg Value.bool (by first | (symm; exact decide_eq_true (call_ext (by omega) (by omega) (by omega) (by omega) (by omega) (by omega) (by omega))) | (symm; exact decide_eq_false (fun e => by subst e; simp_all)))))
  ·intro n14
   refine W.skip (thenQ_normal ?_)
   refine W.seq ?_
   refine W.K cok tab36 hnt [] [2,3,19] (⟨[(2,.ptr 2 0),(3,.ptr 3 0),(19,.b (decide (a.kind ≠ b.kind)))],[(2,⟨47,.fix [.i a.proc,.i a.obj,.i a.kind,.i a.arg,.i a.ret,.i a.frm,.i a.to]⟩),(3,⟨47,.fix [.i b.proc,.i b.obj,.i b.kind,.i b.arg,.i b.ret,.i b.frm,.i b.to]⟩)],[3,2,999]⟩)
    (True ∧ True ∧ True ∧ True ∧ (True ∧ True ∧ True) ∧ True) (by kernel_rfl)
    ⟨tt,tt,tt,tt,⟨tt,tt,tt⟩,tt⟩ ?_
   refine W.ifP (a.kind ≠ b.kind) (.b (decide (a.kind ≠ b.kind))) (by kernel_rfl) rfl trivial ?_ ?_
   ·intro h19
    refine W.K cok tab36 hnt [] [4] (⟨[(4,.b false)],[(2,⟨47,.fix [.i a.proc,.i a.obj,.i a.kind,.i a.arg,.i a.ret,.i a.frm,.i a.to]⟩),(3,⟨47,.fix [.i b.proc,.i b.obj,.i b.kind,.i b.arg,.i b.ret,.i b.frm,.i b.to]⟩)],[3,2,999]⟩)
     (True ∧ True) (by kernel_rfl)
     ⟨tt,tt⟩ ?_
    refine W.ret (thenQ_ret ?_)
    exact endQ_ret (.b false) (by kernel_rfl) (@cast ((.bool false : Value) = .bool (decide (a = b))) _ (by kernel_rfl) (congrArg Value.bool (by first | (symm; exact decide_eq_true (call_ext (by omega) (by omega) (by omega) (by omega) (by omega) (by omega) (by omega))) | (symm; exact decide_eq_false (fun e => by subst e; simp_all)))))
   ·intro n19
    refine W.skip (thenQ_normal ?_)
    refine W.seq ?_
    refine W.K cok tab36 hnt [] [2,3,24] (⟨[(2,.ptr 2 0),(3,.ptr 3 0),(24,.b (decide (a.arg ≠ b.arg)))],[(2,⟨47,.fix [.i a.proc,.i a.obj,.i a.kind,.i a.arg,.i a.ret,.i a.frm,.i a.to]⟩),(3,⟨47,.fix [.i b.proc,.i b.obj,.i b.kind,.i b.arg,.i b.ret,.i b.frm,.i b.to]⟩)],[3,2,999]⟩)
     (True ∧ True ∧ True ∧ True ∧ (True ∧ True ∧ True) ∧ True) (by kernel_rfl)
     ⟨tt,tt,tt,tt,⟨tt,tt,tt⟩,tt⟩ ?_
    refine W.ifP (a.arg ≠ b.arg) (.b (decide (a.arg ≠ b.arg))) (by kernel_rfl) rfl trivial ?_ ?_
    ·intro h24
     refine W.K cok tab36 hnt [] [4] (⟨[(4,.b false)],[(2,⟨47,.fix [.i a.proc,.i a.obj,.i a.kind,.i a.arg,.i a.ret,.i a.frm,.i a.to]⟩),(3,⟨47,.fix [.i b.proc,.i b.obj,.i b.kind,.i b.arg,.i b.ret,.i b.frm,.i b.to]⟩)],[3,2,999]⟩)
      (True ∧ True) (by kernel_rfl)
      ⟨tt,tt⟩ ?_
     refine W.ret (thenQ_ret ?_)
     exact endQ_ret (.b false) (by kernel_rfl) (@cast ((.bool false : Value) = .bool (decide (a = b))) _ (by kernel_rfl) (congrArg Value.bool (by first | (symm; exact decide_eq_true (call_ext (by omega) (by omega) (by omega) (by omega) (by omega) (by omega) (by omega))) | (symm; exact decide_eq_false (fun e => by subst e; simp_all)))))
    ·intro n24
     refine W.skip (thenQ_normal ?_)
     refine W.seq ?_
     refine W.K cok tab36 hnt [] [2,3,29] (⟨[(2,.ptr 2 0),(3,.ptr 3 0),(29,.b (decide (a.ret ≠ b.ret)))],[(2,⟨47,.fix [.i a.proc,.i a.obj,.i a.kind,.i a.arg,.i a.ret,.i a.frm,.i a.to]⟩),(3,⟨47,.fix [.i b.proc,.i b.obj,.i b.kind,.i b.arg,.i b.ret,.i b.frm,.i b.to]⟩)],[3,2,999]⟩)
      (True ∧ True ∧ True ∧ True ∧ (True ∧ True ∧ True) ∧ True) (by kernel_rfl)
      ⟨tt,tt,tt,tt,⟨tt,tt,tt⟩,tt⟩ ?_
     refine W.ifP (a.ret ≠ b.ret) (.b (decide (a.ret ≠ b.ret))) (by kernel_rfl) rfl trivial ?_ ?_
     ·intro h29
      refine W.K cok tab36 hnt [] [4] (⟨[(4,.b false)],[(2,⟨47,.fix [.i a.proc,.i a.obj,.i a.kind,.i a.arg,.i a.ret,.i a.frm,.i a.to]⟩),(3,⟨47,.fix [.i b.proc,.i b.obj,.i b.kind,.i b.arg,.i b.ret,.i b.frm,.i b.to]⟩)],[3,2,999]⟩)
       (True ∧ True) (by kernel_rfl)
       ⟨tt,tt⟩ ?_
      refine W.ret (thenQ_ret ?_)
      exact endQ_ret (.b false) (by kernel_rfl) (@cast ((.bool false : Value) = .bool (decide (a = b))) _ (by kernel_rfl) (congrArg Value.bool (by first | (symm; exact decide_eq_true (call_ext (by omega) (by omega) (by omega) (by omega) (by omega) (by omega) (by omega))) | (symm; exact decide_eq_false (fun e => by subst e; simp_all)))))
     ·intro n29
      refine W.skip (thenQ_normal ?_)
      refine W.seq ?_
      refine W.K cok tab36 hnt [] [2,3,34] (⟨[(2,.ptr 2 0),(3,.ptr 3 0),(34,.b (decide (a.frm ≠ b.frm)))],[(2,⟨47,.fix [.i a.proc,.i a.obj,.i a.kind,.i a.arg,.i a.ret,.i a.frm,.i a.to]⟩),(3,⟨47,.fix [.i b.proc,.i b.obj,.i b.kind,.i b.arg,.i b.ret,.i b.frm,.i b.to]⟩)],[3,2,999]⟩)
       (True ∧ True ∧ True ∧ True ∧ (True ∧ True ∧ True) ∧ True) (by kernel_rfl)
       ⟨tt,tt,tt,tt,⟨tt,tt,tt⟩,tt⟩ ?_
      refine W.ifP (a.frm ≠ b.frm) (.b (decide (a.frm ≠ b.frm))) (by kernel_rfl) rfl trivial ?_ ?_
      ·intro h34
       refine W.K cok tab36 hnt [] [4] (⟨[(4,.b false)],[(2,⟨47,.fix [.i a.proc,.i a.obj,.i a.kind,.i a.arg,.i a.ret,.i a.frm,.i a.to]⟩),(3,⟨47,.fix [.i b.proc,.i b.obj,.i b.kind,.i b.arg,.i b.ret,.i b.frm,.i b.to]⟩)],[3,2,999]⟩)
        (True ∧ True) (by kernel_rfl)
        ⟨tt,tt⟩ ?_
       refine W.ret (thenQ_ret ?_)
       exact endQ_ret (.b false) (by kernel_rfl) (@cast ((.bool false : Value) = .bool (decide (a = b))) _ (by kernel_rfl) (congrArg Value.bool (by first | (symm; exact decide_eq_true (call_ext (by omega) (by omega) (by omega) (by omega) (by omega) (by omega) (by omega))) | (symm; exact decide_eq_false (fun e => by subst e; simp_all)))))
      ·intro n34
       refine W.skip (thenQ_normal ?_)
       refine W.seq ?_
       refine W.K cok tab36 hnt [] [39] (⟨[(39,.b (decide (a.to ≠ b.to)))],[(2,⟨47,.fix [.i a.proc,.i a.obj,.i a.kind,.i a.arg,.i a.ret,.i a.frm,.i a.to]⟩),(3,⟨47,.fix [.i b.proc,.i b.obj,.i b.kind,.i b.arg,.i b.ret,.i b.frm,.i b.to]⟩)],[3,2,999]⟩)
        (True ∧ True ∧ True ∧ True ∧ (True ∧ True ∧ True) ∧ True) (by kernel_rfl)
        ⟨tt,tt,tt,tt,⟨tt,tt,tt⟩,tt⟩ ?_
       refine W.ifP (a.to ≠ b.to) (.b (decide (a.to ≠ b.to))) (by kernel_rfl) rfl trivial ?_ ?_
       ·intro h39
        refine W.K cok tab36 hnt [] [4] (⟨[(4,.b false)],[(2,⟨47,.fix [.i a.proc,.i a.obj,.i a.kind,.i a.arg,.i a.ret,.i a.frm,.i a.to]⟩),(3,⟨47,.fix [.i b.proc,.i b.obj,.i b.kind,.i b.arg,.i b.ret,.i b.frm,.i b.to]⟩)],[3,2,999]⟩)
         (True ∧ True) (by kernel_rfl)
         ⟨tt,tt⟩ ?_
        refine W.ret (thenQ_ret ?_)
        exact endQ_ret (.b false) (by kernel_rfl) (@cast ((.bool false : Value) = .bool (decide (a = b))) _ (by kernel_rfl) (congrArg Value.bool (by first | (symm; exact decide_eq_true (call_ext (by omega) (by omega) (by omega) (by omega) (by omega) (by omega) (by omega))) | (symm; exact decide_eq_false (fun e => by subst e; simp_all)))))
       ·intro n39
        refine W.skip (thenQ_normal ?_)
        refine W.K cok tab36 hnt [] [4] (⟨[(4,.b true)],[(2,⟨47,.fix [.i a.proc,.i a.obj,.i a.kind,.i a.arg,.i a.ret,.i a.frm,.i a.to]⟩),(3,⟨47,.fix [.i b.proc,.i b.obj,.i b.kind,.i b.arg,.i b.ret,.i b.frm,.i b.to]⟩)],[3,2,999]⟩)
         (True ∧ True) (by kernel_rfl)
         ⟨tt,tt⟩ ?_
        refine W.ret ?_
        exact endQ_ret (.b true) (by kernel_rfl) (@cast ((.bool true : Value) = .bool (decide (a = b))) _ (by kernel_rfl) (congrArg Value.bool (by first | (symm; exact decide_eq_true (call_ext (by omega) (by omega) (by omega) (by omega) (by omega) (by omega) (by omega))) | (symm; exact decide_eq_false (fun e => by subst e; simp_all)))))
theorem ent36 : Entr prog 36 := ⟨_,func36,rfl,by decide⟩
end Go.Proofs.Try

set_option linter.unusedSimpArgs false
set_option linter.unusedVariables false
namespace Go.Proofs.Try
open Go.Ab Go.RowKit
def fs13 : FnS := fnS [.s .calls,.s .calls] [.calls,.calls] (fun _ (a,b,_) => (.b (decide (a = b)),[],True))
abbrev T13 : Tab := lk [(36,fs36)]
theorem tab13 : TabOK prog T13 := (TabOK.cons ok36 ent36 TabOK.nil)
set_option maxRecDepth 100000 in
set_option maxHeartbeats 1000000 in
theorem ok13 : FnOK prog 13 fs13 := by
 refine FnOK.mk cok func13 rfl rfl rfl ?_
 rintro fl ⟨(a : List CallD),(b : List CallD),_⟩ hpre F hnt0 _
 have hnt : F.nt = 27 := hnt0.trans ntmps13
 clear hpre
 refine W.to (⟨[(0,.sl (.calls a)),(1,.sl (.calls b))],[],[999]⟩) rfl ?_
 refine W.lenOf 0 (.calls a) (by kernel_rfl) ?_
 intro hl_a; replace hl_a : List.length a ≤ 9223372036854775807 := hl_a
 refine W.lenOf 1 (.calls b) (by kernel_rfl) ?_
 intro hl_b; replace hl_b : List.length b ≤ 9223372036854775807 := hl_b
 refine W.K cok tab13 hnt [] [0,1] (⟨[(0,.sl (.calls a)),(1,.sl (.calls b))],[],[999]⟩)
  (True ∧ True) (by kernel_rfl)
  ⟨tt,tt⟩ ?_
 refine W.seq ?_
 refine W.K cok tab13 hnt [] [0,1,10] (⟨[(0,.sl (.calls a)),(1,.sl (.calls b)),(10,.b (decide ((a.length : Int) ≠ (b.length : Int))))],[],[999]⟩)
  (True ∧ True ∧ True ∧ True ∧ (True ∧ True ∧ True) ∧ True) (by kernel_rfl)
  ⟨tt,tt,tt,tt,⟨tt,tt,tt⟩,tt⟩ ?_
 refine W.ifP ((a.length : Int) ≠ (b.length : Int)) (.b (decide ((a.length : Int) ≠ (b.length : Int)))) (by kernel_rfl) rfl trivial ?_ ?_
 ·intro h10
  refine W.K cok tab13 hnt [] [4] (⟨[(4,.b false)],[],[999]⟩)
   (True ∧ True) (by kernel_rfl)
   ⟨tt,tt⟩ ?_
  refine W.ret (thenQ_ret ?_)
  exact endQ_ret (.b false) (by kernel_rfl) (@cast ((.bool false : Value) = .bool (decide (a = b))) _ (by kernel_rfl) (congrArg Value.bool (by symm; exact decide_eq_false (fun e => h10 (by rw [e])))))
 ·intro n10
  refine W.skip (thenQ_normal ?_)
  refine W.seq ?_
  refine W.K cok tab13 hnt [] [0,1,5] (⟨[(0,.sl (.calls a)),(1,.sl (.calls b)),(5,.i (0 : Int))],[],[999]⟩)
   (True ∧ True) (by kernel_rfl)
   ⟨tt,tt⟩ ?_
  refine W.block ?_
  refine W.loop (ι := Nat) (fun (i : Nat) => (⟨[(0,.sl (.calls a)),(1,.sl (.calls b)),(5,.i ((i : Nat) : Int))],[],[999]⟩ : St))
   (fun (i : Nat) => (i ≤ a.length) ∧ (∀ j,j < i → a.getD j default = b.getD j default))
   (fun (i : Nat) => (a.length - i : Nat)) (0) ?_ ?_ ?_
  ·exact (show (0 ≤ a.length) ∧ (∀ j,j < 0 → a.getD j default = b.getD j default) from ⟨(by first | assumption | omega | rfl | (intro _ hjj; omega) | (simp; done) | (simp; omega)),(by exact upto_zero)⟩)
  ·exact Sub.of [] (@cast ((((.calls a : Dat) = .calls a) ∧ (((.calls b : Dat) = .calls b) ∧ (((.int .i64 (0 : Int) : Value) = .int .i64 ((0 : Nat) : Int)) ∧ True))) ∧ (True ∧ ((true = true) ∧ (true = true)))) _ (by kernel_rfl) ⟨⟨rfl,rfl,(congrArg (Value.int .i64) (by first | rfl | omega | assumption | simp | simp_all)),tt⟩,tt,rfl,rfl⟩)
  ·rintro i hC0
   have hC : (i ≤ a.length) ∧ (∀ j,j < i → a.getD j default = b.getD j default) := hC0
   clear hC0
   obtain ⟨hi,hA⟩ := hC
   refine W.to (⟨[(0,.sl (.calls a)),(1,.sl (.calls b)),(5,.i ((i : Nat) : Int))],[],[999]⟩) rfl ?_
   refine W.seq ?_
   refine W.K cok tab13 hnt [] [0,1,5,14] (⟨[(0,.sl (.calls a)),(1,.sl (.calls b)),(5,.i ((i : Nat) : Int)),(14,.b (decide (((i : Nat) : Int) < (a.length : Int))))],[],[999]⟩)
    (True ∧ True ∧ True ∧ (True ∧ True ∧ True) ∧ True) (by kernel_rfl)
    ⟨tt,tt,tt,⟨tt,tt,tt⟩,tt⟩ ?_
   refine W.ifP (((i : Nat) : Int) < (a.length : Int)) (.b (decide (((i : Nat) : Int) < (a.length : Int)))) (by kernel_rfl) rfl trivial ?_ ?_
   ·intro h14
    refine W.skip (thenQ_normal ?_)
    refine W.seq ?_
    refine W.block ?_
    refine W.KA cok tab13 hnt [] [0,1,5,26] (⟨[(0,.sl (.calls a)),(1,.sl (.calls b)),(5,.i ((i : Nat) : Int)),(26,.b (!(decide ((a.getD i default) = (b.getD i default)))))],[],[999]⟩)
     (True ∧ True ∧ (True ∧ True ∧ (0 ≤ ((i : Nat) : Int)) ∧ (((i : Nat) : Int) < (a.length : Int))) ∧ True ∧ True ∧ True ∧ (True ∧ True ∧ (0 ≤ ((i : Nat) : Int)) ∧ (((i : Nat) : Int) < (b.length : Int))) ∧ True ∧ (True ∧ (True ∧ True ∧ True) ∧ True) ∧ True ∧ True) (by kernel_rfl) (by kernel_rfl)
     ⟨tt,tt,⟨tt,tt,(by omega),(by omega)⟩,tt,tt,tt,⟨tt,tt,(by omega),(by omega)⟩,tt,⟨tt,⟨tt,tt,tt⟩,tt⟩,tt,tt⟩ ?_
    refine W.if' (!(decide ((a.getD i default) = (b.getD i default)))) (.b (!(decide ((a.getD i default) = (b.getD i default))))) (by kernel_rfl) rfl trivial ?_ ?_
    ·intro h26
     refine W.K cok tab13 hnt [] [4] (⟨[(4,.b false)],[],[999]⟩)
      (True ∧ True) (by kernel_rfl)
      ⟨tt,tt⟩ ?_
     refine W.ret (blockQ_ret (thenQ_ret (thenQ_ret (blockQ_ret (thenQ_ret ?_)))))
     exact endQ_ret (.b false) (by kernel_rfl) (@cast ((.bool false : Value) = .bool (decide (a = b))) _ (by kernel_rfl) (congrArg Value.bool (by symm; exact decide_eq_false (fun e => by rw [e] at h26; simp at h26))))
    ·intro n26
     refine W.skip (blockQ_normal (thenQ_normal ?_))
     refine W.L cok tab13 hnt [] (⟨[(0,.sl (.calls a)),(1,.sl (.calls b)),(5,.i (((i + 1) : Nat) : Int)),(15,.i ((i : Nat) : Int)),(16,.i (((i + 1) : Nat) : Int)),(26,.b (!(decide ((a.getD i default) = (b.getD i default)))))],[],[999]⟩)
      (True ∧ (True ∧ True ∧ (Fits .i64 (((i + 1) : Nat) : Int))) ∧ True ∧ True) (by kernel_rfl)
      ⟨tt,⟨tt,tt,(by exact fits_i64 (by omega) (by omega))⟩,tt,tt⟩ ?_
     refine thenQ_normal ?_
     refine ⟨((i + 1)),(show ((i + 1) ≤ a.length) ∧ (∀ j,j < (i + 1) → a.getD j default = b.getD j default) from ⟨(by first | assumption | omega | rfl | (intro _ hjj; omega) | (simp; done) | (simp; omega)),(by exact upto_succ hA (by simpa using n26))⟩),(show a.length - (i + 1) < a.length - i from (by first | omega | (simp_all; omega))),?_⟩
     exact Sub.of [] (@cast ((((.calls a : Dat) = .calls a) ∧ (((.calls b : Dat) = .calls b) ∧ (((.int .i64 (((i + 1) : Nat) : Int) : Value) = .int .i64 (((i + 1) : Nat) : Int)) ∧ True))) ∧ (True ∧ ((true = true) ∧ (true = true)))) _ (by kernel_rfl) ⟨⟨rfl,rfl,rfl,tt⟩,tt,rfl,rfl⟩)
   ·intro n14
    refine W.exit (thenQ_exit (thenQ_exit (blockQ_hit ?_)))
    refine thenQ_normal ?_
    refine W.K cok tab13 hnt [] [4] (⟨[(4,.b true)],[],[999]⟩)
     (True ∧ True) (by kernel_rfl)
     ⟨tt,tt⟩ ?_
    refine W.ret ?_
    exact endQ_ret (.b true) (by kernel_rfl) (@cast ((.bool true : Value) = .bool (decide (a = b))) _ (by kernel_rfl) (congrArg Value.bool (by symm; exact decide_eq_true (calls_ext (by omega) (fun j hj => hA j (by omega))))))
theorem ent13 : Entr prog 13 := ⟨_,func13,rfl,by decide⟩
end Go.Proofs.Try
