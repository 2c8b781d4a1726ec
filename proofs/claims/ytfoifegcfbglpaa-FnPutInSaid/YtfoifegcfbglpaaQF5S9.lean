import Derived.Test.YtfoifegcfbglpaaQF5S0
import Derived.Test.YtfoifegcfbglpaaQF5S8
import Derived.Test.YtfoifegcfbglpaaQF5S4
import Derived.Test.YtfoifegcfbglpaaQF5S3
import Derived.Test.YtfoifegcfbglpaaQF5S7
set_option linter.unusedSimpArgs false
set_option linter.unusedVariables false
namespace Go.Proofs.Try
open Go.Ab Go.RowKit
def pre42x : List AV → List AV → Prop := preP [.ints] [.bytes,.int] (fun (xs,_) (l,p,_) => (0 ≤ p ∧ p ≤ 1000000) ∧ (0 < xs.length) ∧ (xs.length ≤ 1000))
def rel42x : RelS := relP [.ints] [.bytes,.int] (ι := Unit) (fun (xs,_) (l,p,_) _ => True) (fun (xs,_) (l,p,_) _ => (.i (oneV l p xs),[],[.sl (.bytes l),.i (p + 1)]))
abbrev T42x : Tab := lk [(23,fs23x)]
theorem tab42x : TabOK prog T42x := (TabOK.cons ok23x ent23x TabOK.nil)
set_option maxRecDepth 100000 in
set_option maxHeartbeats 1000000 in
theorem rok42x : RelOK prog 42 (some 70) [.s .ints] pre42x rel42x := by
 refine RelOK.mk cok func42 rfl rfl rfl ?_
 rintro ⟨(xs : List Int),_⟩ ⟨(l : List UInt8),(p : Int),_⟩ hpre F hnt0
 have hnt : F.nt = 12 := hnt0.trans ntmps42
 replace hpre : (0 ≤ p ∧ p ≤ 1000000) ∧ (0 < xs.length) ∧ (xs.length ≤ 1000) := hpre
 obtain ⟨hp,hx,hx2⟩ := hpre
 refine W.to (⟨[(0,.ptr 998 0),(1,.sl (.ints xs))],[(998,⟨70,.fix [.sl (.bytes l),.i p]⟩)],[998,999]⟩) rfl ?_
 refine Kk cok tab42x hnt [] [0,1] (⟨[(0,.ptr 998 0),(1,.sl (.ints xs))],[(998,⟨70,.fix [.sl (.bytes l),.i p]⟩)],[998,999]⟩)
  (True ∧ True)
  ⟨tt,tt⟩ ?_
 refine Kk cok tab42x hnt [] [4] (⟨[(4,.i (xs.getD (Int.toNat (pickV l p (xs.length : Int))) 0))],[(998,⟨70,.fix [.sl (.bytes l),.i (p + 1)]⟩)],[9,998,999]⟩)
  (True ∧ True ∧ True ∧ True ∧ (True ∧ True ∧ (True ∧ True) ∧ 0 ≤ p ∧ p ≤ 1000000) ∧ (True ∧ True ∧ (0 ≤ (pickV l p (xs.length : Int))) ∧ ((pickV l p (xs.length : Int)) < (xs.length : Int))) ∧ True ∧ True ∧ True)
  ⟨tt,tt,tt,tt,⟨tt,tt,⟨tt,tt⟩,(by omega)⟩,⟨tt,tt,(by have h9 := pickV_bnd (l := l) (n := (xs.length : Int)) hp; omega),(by have h9 := pickV_bnd (l := l) (n := (xs.length : Int)) hp; omega)⟩,tt,tt,tt⟩ ?_
 refine W.ret ?_
 exact endP_ret () (show True from trivial) [(0,998)] (.i (xs.getD (Int.toNat (pickV l p (xs.length : Int))) 0)) (by kernel_rfl) (@cast (((.int .i64 (xs.getD (Int.toNat (pickV l p (xs.length : Int))) 0) : Value) = .int .i64 (oneV l p xs)) ∧ ((((70 : Nat) = 70) ∧ ((Sd (.bytes l)) ∧ (Si (p + 1)) ∧ True) ∧ ((0 : Nat) ∈ ([0] : List Nat))) ∧ True) ∧ (true = true) ∧ ((([] : List Nat) = []) ∧ True) ∧ (true = true → (998 : Nat) = 998)) _ (by kernel_rfl) ⟨(congrArg (Value.int .i64) (by first | rfl | omega | assumption | (rfl; done) | simp | simp_all)),⟨⟨rfl,⟨rfl,rfl,tt⟩,(by decide)⟩,tt⟩,rfl,⟨rfl,tt⟩,(fun _ => rfl)⟩)
theorem ent42x : Entr prog 42 := ⟨_,func42,rfl,by decide⟩
def fs42x : FnS := fnP 70 [.s .ints] [.ints] [.bytes,.int] (fun (xs,_) (l,p,_) => (0 ≤ p ∧ p ≤ 1000000) ∧ (0 < xs.length) ∧ (xs.length ≤ 1000)) (fun (xs,_) (l,p,_) _ => (.i (oneV l p xs),[],[.sl (.bytes l),.i (p + 1)]))
theorem ok42x : FnX prog 42 fs42x := FnX.mk rok42x (fun _ _ => rfl)
end Go.Proofs.Try

set_option linter.unusedSimpArgs false
set_option linter.unusedVariables false
namespace Go.Proofs.Try
open Go.Ab Go.RowKit
def fs60 : FnS := fnS [.a [some .ints,some .ints,none,none,none,some .marks],.o,.o] [.copy,.int,.int] (fun _ (c,p,n,_) => (.tup [.agg (cC ((addTo c p n).1)),.b ((addTo c p n).2)],[],True))
abbrev T60 : Tab := lk [(32,fs32),(33,fs33),(43,fs43)]
theorem tab60 : TabOK prog T60 := (TabOK.cons ok32 ent32 (TabOK.cons ok33 ent33 (TabOK.cons ok43 ent43 TabOK.nil)))
set_option maxRecDepth 100000 in
set_option maxHeartbeats 1000000 in
theorem ok60 : FnOK prog 60 fs60 := by
 refine FnOK.mk cok func60 rfl rfl rfl ?_
 rintro fl ⟨(c : CopyD),(p : Int),(n : Int),_⟩ hpre F hnt0 _
 have hnt : F.nt = 55 := hnt0.trans ntmps60
 clear hpre
 refine W.to (⟨[(0,.agg (cC c)),(1,.i p),(2,.i n)],[],[999]⟩) rfl ?_
 refine W.lenA 0 0 (cC c) (.ints c.up) (by kernel_rfl) (by kernel_rfl) ?_
 intro hl_c_up; replace hl_c_up : List.length c.up ≤ 9223372036854775807 := hl_c_up
 refine W.lenA 0 1 (cC c) (.ints c.down) (by kernel_rfl) (by kernel_rfl) ?_
 intro hl_c_down; replace hl_c_down : List.length c.down ≤ 9223372036854775807 := hl_c_down
 refine W.lenA 0 5 (cC c) (.marks c.marks) (by kernel_rfl) (by kernel_rfl) ?_
 intro hl_c_marks; replace hl_c_marks : List.length c.marks ≤ 9223372036854775807 := hl_c_marks
 refine Kk cok tab60 hnt [] [1,2,3,6] (⟨[(1,.i p),(2,.i n),(3,.ptr 3 0),(6,.ptr 6 0)],[(3,⟨26,.fix (cC c)⟩),(6,⟨26,.fix [.v (.slice none 0 0),.v (.slice none 0 0),.i (0 : Int),.i (0 : Int),.i (0 : Int),.v (.slice none 0 0)]⟩)],[6,3,999]⟩)
  (True ∧ True ∧ True ∧ True)
  ⟨tt,tt,tt,tt⟩ ?_
 refine W.seq ?_
 refine Kk cok tab60 hnt [] [1,2,3,6,21] (⟨[(1,.i p),(2,.i n),(3,.ptr 3 0),(6,.ptr 6 0),(21,.b (((!(validCopy c)) || (!(within p (0 : Int) (2 : Int)))) || (!(within n (-20 : Int) (20 : Int)))))],[(3,⟨26,.fix (cC c)⟩),(6,⟨26,.fix [.v (.slice none 0 0),.v (.slice none 0 0),.i (0 : Int),.i (0 : Int),.i (0 : Int),.v (.slice none 0 0)]⟩)],[6,3,999]⟩)
  ((fun (Z1:Bool)=>((fun (Z2:Bool)=>(True ∧ ((True ∧ (((True ∧ (True ∧ (True ∧ (True ∧ (True ∧ (True ∧ (True ∧ True))))))) ∧ True) ∧ True)) ∧ (True ∧ (True ∧ (((!Z1) = true → True) ∧ (((!Z1) = true → (True ∧ (((((!Z1) = true) ∧ True) ∧ (True ∧ (True ∧ True))) ∧ True))) ∧ (((!Z1) = true → (((!Z1) = true) ∧ True)) ∧ ((True ∧ ((Z1 = true → True) ∧ (Z1 = false → ((!Z1) = true) ∧ True))) ∧ (True ∧ (((!Z2) = true → True) ∧ (((!Z2) = true → (True ∧ (((((!Z2) = true) ∧ True) ∧ (True ∧ (True ∧ True))) ∧ True))) ∧ (((!Z2) = true → (((!Z2) = true) ∧ True)) ∧ ((True ∧ ((Z2 = true → True) ∧ (Z2 = false → ((!Z2) = true) ∧ True))) ∧ True)))))))))))))) (Z1 || (!(within p (0 : Int) (2 : Int)))))) (!(validCopy c)))
  ⟨tt,⟨tt,⟨⟨tt,tt,tt,tt,tt,tt,tt,tt⟩,tt⟩,tt⟩,tt,tt,(fun _ => trivial),(fun hG => ⟨tt,⟨⟨hG,tt⟩,tt,tt,tt⟩,tt⟩),(fun hG => ⟨hG,tt⟩),⟨tt,(fun _ => trivial),(fun hp => ⟨(not_t hp),tt⟩)⟩,tt,(fun _ => trivial),(fun hG => ⟨tt,⟨⟨hG,tt⟩,tt,tt,tt⟩,tt⟩),(fun hG => ⟨hG,tt⟩),⟨tt,(fun _ => trivial),(fun hp => ⟨(not_t hp),tt⟩)⟩,tt⟩ ?_
 refine W.if' (((!(validCopy c)) || (!(within p (0 : Int) (2 : Int)))) || (!(within n (-20 : Int) (20 : Int)))) (.b (((!(validCopy c)) || (!(within p (0 : Int) (2 : Int)))) || (!(within n (-20 : Int) (20 : Int))))) (by kernel_rfl) rfl trivial ?_ ?_
 ·intro h21
  refine Kk cok tab60 hnt [] [6,7] (⟨[(6,.ptr 6 0),(7,.b false)],[(3,⟨26,.fix (cC c)⟩),(6,⟨26,.fix [.v (.slice none 0 0),.v (.slice none 0 0),.i (0 : Int),.i (0 : Int),.i (0 : Int),.v (.slice none 0 0)]⟩)],[6,3,999]⟩)
   (True ∧ (True ∧ True) ∧ True ∧ True)
   ⟨tt,⟨tt,tt⟩,tt,tt⟩ ?_
  refine W.ret (thenQ_ret ?_)
  exact endQ_ret (.tup [.agg [.v (.slice none 0 0),.v (.slice none 0 0),.i (0 : Int),.i (0 : Int),.i (0 : Int),.v (.slice none 0 0)],.b false]) (by kernel_rfl) (@cast (((((Value.slice none 0 0 : Value) = .slice none 0 0) ∧ ((Dat.ints ((addTo c p n).1.up)).len = 0)) ∧ (((Value.slice none 0 0 : Value) = .slice none 0 0) ∧ ((Dat.ints ((addTo c p n).1.down)).len = 0)) ∧ ((.int .i64 (0 : Int) : Value) = .int .i64 ((addTo c p n).1.value)) ∧ ((.int .i64 (0 : Int) : Value) = .int .i64 ((addTo c p n).1.time)) ∧ ((.int .i64 (0 : Int) : Value) = .int .i64 ((addTo c p n).1.proc)) ∧ (((Value.slice none 0 0 : Value) = .slice none 0 0) ∧ ((Dat.marks ((addTo c p n).1.marks)).len = 0)) ∧ True) ∧ ((.bool false : Value) = .bool ((addTo c p n).2)) ∧ True) _ (by kernel_rfl) ⟨⟨⟨rfl,(by show List.length ((addTo c p n).1.up) = 0; rw [addTo_no (gen_bad2 h21)]; try rfl)⟩,⟨rfl,(by show List.length ((addTo c p n).1.down) = 0; rw [addTo_no (gen_bad2 h21)]; try rfl)⟩,(congrArg (Value.int .i64) (by rw [addTo_no (gen_bad2 h21)]; try rfl)),(congrArg (Value.int .i64) (by rw [addTo_no (gen_bad2 h21)]; try rfl)),(congrArg (Value.int .i64) (by rw [addTo_no (gen_bad2 h21)]; try rfl)),⟨rfl,(by show List.length ((addTo c p n).1.marks) = 0; rw [addTo_no (gen_bad2 h21)]; try rfl)⟩,tt⟩,(congrArg Value.bool (by rw [addTo_no (gen_bad2 h21)]; try rfl)),tt⟩)
 ·intro n21
  have hg : addGood c p n = true := gen_ok2 n21
  have hf := add_facts hg
  refine W.skip (thenQ_normal ?_)
  refine Kk cok tab60 hnt [] [1,2,6,8] (⟨[(1,.i p),(2,.i n),(6,.ptr 6 0),(8,.ptr 8 0)],[(3,⟨26,.fix (cC c)⟩),(6,⟨26,.fix [.v (.slice none 0 0),.v (.slice none 0 0),.i (0 : Int),.i (0 : Int),.i (0 : Int),.v (.slice none 0 0)]⟩),(8,⟨26,.fix [.own 24 (List.length c.up),.own 1024 (List.length c.down),.i c.value,.i c.time,.i c.proc,.own 2024 (List.length c.marks)]⟩),(24,⟨3,.row (.ints c.up)⟩),(1024,⟨3,.row (.ints c.down)⟩),(2024,⟨33,.row (.marks c.marks)⟩)],[8,2024,1024,24,6,3,999]⟩)
   (True ∧ (True ∧ ((True ∧ True ∧ True ∧ True ∧ True ∧ True ∧ True ∧ True) ∧ True) ∧ c.up.length ≤ 1000 ∧ c.down.length ≤ 1000 ∧ c.marks.length ≤ 1000) ∧ True ∧ (True ∧ True) ∧ True)
   ⟨tt,⟨tt,⟨⟨tt,tt,tt,tt,tt,tt,tt,tt⟩,tt⟩,(by omega)⟩,tt,⟨tt,tt⟩,tt⟩ ?_
  refine W.KA cok tab60 hnt [] [1,2,6,8] (⟨[(1,.i p),(2,.i n),(6,.ptr 6 0),(8,.ptr 8 0)],[(3,⟨26,.fix (cC c)⟩),(6,⟨26,.fix [.v (.slice none 0 0),.v (.slice none 0 0),.i (0 : Int),.i (0 : Int),.i (0 : Int),.v (.slice none 0 0)]⟩),(8,⟨26,.fix [.own 24 (List.length c.up),.own 1024 (List.length c.down),.i c.value,.i c.time,.i c.proc,.own 2024 (List.length c.marks)]⟩),(24,⟨3,.row (.ints (List.set c.up (Int.toNat p) ((List.getD c.up (Int.toNat p) 0) + (max n (0 : Int)))))⟩),(1024,⟨3,.row (.ints c.down)⟩),(2024,⟨33,.row (.marks c.marks)⟩)],[8,2024,1024,24,6,3,999]⟩)
   (True ∧ True ∧ True ∧ True ∧ True ∧ True ∧ (True ∧ True ∧ (0 ≤ p) ∧ (p < (((List.length c.up) : Nat) : Int))) ∧ (True ∧ ((Int.toNat p) < (List.length c.up))) ∧ True ∧ (True ∧ True) ∧ (True ∧ True ∧ (Fits .i64 ((List.getD c.up (Int.toNat p) 0) + (max n (0 : Int))))) ∧ (True ∧ True ∧ (0 ≤ p) ∧ (p < (((List.length c.up) : Nat) : Int))) ∧ (True ∧ True ∧ ((Int.toNat p) < (List.length c.up))) ∧ True) (by kernel_rfl) (by kernel_rfl)
   ⟨tt,tt,tt,tt,tt,tt,⟨tt,tt,(by omega),(by omega)⟩,⟨tt,(by omega)⟩,tt,⟨tt,tt⟩,⟨tt,tt,(by exact fits_i64 (by (first | omega | (simp only [List.length_set]; done) | (simp only [List.length_append,List.length_cons,List.length_nil,List.length_take,List.length_drop,List.length_set,List.length_replicate,List.length_map] at *; omega) | assumption)) (by (first | omega | (simp only [List.length_set]; done) | (simp only [List.length_append,List.length_cons,List.length_nil,List.length_take,List.length_drop,List.length_set,List.length_replicate,List.length_map] at *; omega) | assumption)))⟩,⟨tt,tt,(by omega),(by omega)⟩,⟨tt,tt,(by omega)⟩,tt⟩ ?_
  refine W.KA cok tab60 hnt [] [6,8] (⟨[(6,.ptr 6 0),(8,.ptr 8 0)],[(3,⟨26,.fix (cC c)⟩),(6,⟨26,.fix [.v (.slice none 0 0),.v (.slice none 0 0),.i (0 : Int),.i (0 : Int),.i (0 : Int),.v (.slice none 0 0)]⟩),(8,⟨26,.fix [.own 24 (List.length c.up),.own 1024 (List.length c.down),.i c.value,.i c.time,.i c.proc,.own 2024 (List.length c.marks)]⟩),(24,⟨3,.row (.ints (List.set c.up (Int.toNat p) ((List.getD c.up (Int.toNat p) 0) + (max n (0 : Int)))))⟩),(1024,⟨3,.row (.ints (List.set c.down (Int.toNat p) ((List.getD c.down (Int.toNat p) 0) + (max (0 - n) (0 : Int)))))⟩),(2024,⟨33,.row (.marks c.marks)⟩)],[8,2024,1024,24,6,3,999]⟩)
   (True ∧ True ∧ True ∧ True ∧ True ∧ True ∧ (True ∧ True ∧ (0 ≤ p) ∧ (p < (((List.length c.down) : Nat) : Int))) ∧ (True ∧ ((Int.toNat p) < (List.length c.down))) ∧ True ∧ (True ∧ (Fits .i64 (0 - n))) ∧ (True ∧ True) ∧ (True ∧ True ∧ (Fits .i64 ((List.getD c.down (Int.toNat p) 0) + (max (0 - n) (0 : Int))))) ∧ (True ∧ True ∧ (0 ≤ p) ∧ (p < (((List.length c.down) : Nat) : Int))) ∧ (True ∧ True ∧ ((Int.toNat p) < (List.length c.down))) ∧ True) (by kernel_rfl) (by kernel_rfl)
   ⟨tt,tt,tt,tt,tt,tt,⟨tt,tt,(by omega),(by omega)⟩,⟨tt,(by omega)⟩,tt,⟨tt,(by exact fits_i64 (by omega) (by omega))⟩,⟨tt,tt⟩,⟨tt,tt,(by exact fits_i64 (by (first | omega | (simp only [List.length_set]; done) | (simp only [List.length_append,List.length_cons,List.length_nil,List.length_take,List.length_drop,List.length_set,List.length_replicate,List.length_map] at *; omega) | assumption)) (by (first | omega | (simp only [List.length_set]; done) | (simp only [List.length_append,List.length_cons,List.length_nil,List.length_take,List.length_drop,List.length_set,List.length_replicate,List.length_map] at *; omega) | assumption)))⟩,⟨tt,tt,(by omega),(by omega)⟩,⟨tt,tt,(by omega)⟩,tt⟩ ?_
  refine W.seq ?_
  refine Kk cok tab60 hnt [] [6,8,52] (⟨[(6,.ptr 6 0),(8,.ptr 8 0),(52,.b (!(validCopy ⟨List.set c.up (Int.toNat p) ((List.getD c.up (Int.toNat p) 0) + (max n (0 : Int))),List.set c.down (Int.toNat p) ((List.getD c.down (Int.toNat p) 0) + (max (0 - n) (0 : Int))),c.value,c.time,c.proc,c.marks⟩)))],[(3,⟨26,.fix (cC c)⟩),(6,⟨26,.fix [.v (.slice none 0 0),.v (.slice none 0 0),.i (0 : Int),.i (0 : Int),.i (0 : Int),.v (.slice none 0 0)]⟩),(8,⟨26,.fix [.own 24 (List.length c.up),.own 1024 (List.length c.down),.i c.value,.i c.time,.i c.proc,.own 2024 (List.length c.marks)]⟩),(24,⟨3,.row (.ints (List.set c.up (Int.toNat p) ((List.getD c.up (Int.toNat p) 0) + (max n (0 : Int)))))⟩),(1024,⟨3,.row (.ints (List.set c.down (Int.toNat p) ((List.getD c.down (Int.toNat p) 0) + (max (0 - n) (0 : Int)))))⟩),(2024,⟨33,.row (.marks c.marks)⟩)],[8,2024,1024,24,6,3,999]⟩)
   (True ∧ (True ∧ ((True ∧ (True ∧ ((List.length c.up) = (List.length (List.set c.up (Int.toNat p) ((List.getD c.up (Int.toNat p) 0) + (max n (0 : Int))))))) ∧ (True ∧ ((List.length c.down) = (List.length (List.set c.down (Int.toNat p) ((List.getD c.down (Int.toNat p) 0) + (max (0 - n) (0 : Int))))))) ∧ True ∧ True ∧ True ∧ (True ∧ ((List.length c.marks) = (List.length c.marks))) ∧ True) ∧ True) ∧ True) ∧ True ∧ True)
   ⟨tt,⟨tt,⟨⟨tt,⟨tt,(by (first | omega | (simp only [List.length_set]; done) | (simp only [List.length_append,List.length_cons,List.length_nil,List.length_take,List.length_drop,List.length_set,List.length_replicate,List.length_map] at *; omega) | assumption))⟩,⟨tt,(by (first | omega | (simp only [List.length_set]; done) | (simp only [List.length_append,List.length_cons,List.length_nil,List.length_take,List.length_drop,List.length_set,List.length_replicate,List.length_map] at *; omega) | assumption))⟩,tt,tt,tt,⟨tt,rfl⟩,tt⟩,tt⟩,tt⟩,tt,tt⟩ ?_
  refine W.if' (!(validCopy ⟨List.set c.up (Int.toNat p) ((List.getD c.up (Int.toNat p) 0) + (max n (0 : Int))),List.set c.down (Int.toNat p) ((List.getD c.down (Int.toNat p) 0) + (max (0 - n) (0 : Int))),c.value,c.time,c.proc,c.marks⟩)) (.b (!(validCopy ⟨List.set c.up (Int.toNat p) ((List.getD c.up (Int.toNat p) 0) + (max n (0 : Int))),List.set c.down (Int.toNat p) ((List.getD c.down (Int.toNat p) 0) + (max (0 - n) (0 : Int))),c.value,c.time,c.proc,c.marks⟩))) (by kernel_rfl) rfl trivial ?_ ?_
  ·intro h52
   refine Kk cok tab60 hnt [] [6,7] (⟨[(6,.ptr 6 0),(7,.b false)],[(3,⟨26,.fix (cC c)⟩),(6,⟨26,.fix [.v (.slice none 0 0),.v (.slice none 0 0),.i (0 : Int),.i (0 : Int),.i (0 : Int),.v (.slice none 0 0)]⟩),(8,⟨26,.fix [.own 24 (List.length c.up),.own 1024 (List.length c.down),.i c.value,.i c.time,.i c.proc,.own 2024 (List.length c.marks)]⟩),(24,⟨3,.row (.ints (List.set c.up (Int.toNat p) ((List.getD c.up (Int.toNat p) 0) + (max n (0 : Int)))))⟩),(1024,⟨3,.row (.ints (List.set c.down (Int.toNat p) ((List.getD c.down (Int.toNat p) 0) + (max (0 - n) (0 : Int)))))⟩),(2024,⟨33,.row (.marks c.marks)⟩)],[8,2024,1024,24,6,3,999]⟩)
    (True ∧ (True ∧ True) ∧ True ∧ True)
    ⟨tt,⟨tt,tt⟩,tt,tt⟩ ?_
   refine W.ret (thenQ_ret ?_)
   exact endQ_ret (.tup [.agg [.v (.slice none 0 0),.v (.slice none 0 0),.i (0 : Int),.i (0 : Int),.i (0 : Int),.v (.slice none 0 0)],.b false]) (by kernel_rfl) (@cast (((((Value.slice none 0 0 : Value) = .slice none 0 0) ∧ ((Dat.ints ((addTo c p n).1.up)).len = 0)) ∧ (((Value.slice none 0 0 : Value) = .slice none 0 0) ∧ ((Dat.ints ((addTo c p n).1.down)).len = 0)) ∧ ((.int .i64 (0 : Int) : Value) = .int .i64 ((addTo c p n).1.value)) ∧ ((.int .i64 (0 : Int) : Value) = .int .i64 ((addTo c p n).1.time)) ∧ ((.int .i64 (0 : Int) : Value) = .int .i64 ((addTo c p n).1.proc)) ∧ (((Value.slice none 0 0 : Value) = .slice none 0 0) ∧ ((Dat.marks ((addTo c p n).1.marks)).len = 0)) ∧ True) ∧ ((.bool false : Value) = .bool ((addTo c p n).2)) ∧ True) _ (by kernel_rfl) ⟨⟨⟨rfl,(by show List.length ((addTo c p n).1.up) = 0; rw [addTo_bad hg (not_f h52)]; try rfl)⟩,⟨rfl,(by show List.length ((addTo c p n).1.down) = 0; rw [addTo_bad hg (not_f h52)]; try rfl)⟩,(congrArg (Value.int .i64) (by rw [addTo_bad hg (not_f h52)]; try rfl)),(congrArg (Value.int .i64) (by rw [addTo_bad hg (not_f h52)]; try rfl)),(congrArg (Value.int .i64) (by rw [addTo_bad hg (not_f h52)]; try rfl)),⟨rfl,(by show List.length ((addTo c p n).1.marks) = 0; rw [addTo_bad hg (not_f h52)]; try rfl)⟩,tt⟩,(congrArg Value.bool (by rw [addTo_bad hg (not_f h52)]; try rfl)),tt⟩)
  ·intro n52
   refine W.skip (thenQ_normal ?_)
   refine Kk cok tab60 hnt [] [6,7] (⟨[(6,.ptr 6 0),(7,.b true)],[(3,⟨26,.fix (cC c)⟩),(6,⟨26,.fix [.own 24 (List.length c.up),.own 1024 (List.length c.down),.i c.value,.i c.time,.i c.proc,.own 2024 (List.length c.marks)]⟩),(8,⟨26,.fix [.own 24 (List.length c.up),.own 1024 (List.length c.down),.i c.value,.i c.time,.i c.proc,.own 2024 (List.length c.marks)]⟩),(24,⟨3,.row (.ints (List.set c.up (Int.toNat p) ((List.getD c.up (Int.toNat p) 0) + (max n (0 : Int)))))⟩),(1024,⟨3,.row (.ints (List.set c.down (Int.toNat p) ((List.getD c.down (Int.toNat p) 0) + (max (0 - n) (0 : Int)))))⟩),(2024,⟨33,.row (.marks c.marks)⟩)],[8,2024,1024,24,6,3,999]⟩)
    (True ∧ (True ∧ True) ∧ True ∧ True)
    ⟨tt,⟨tt,tt⟩,tt,tt⟩ ?_
   refine W.ret ?_
   exact endQ_ret (.tup [.agg [.own 24 (List.length c.up),.own 1024 (List.length c.down),.i c.value,.i c.time,.i c.proc,.own 2024 (List.length c.marks)],.b true]) (by kernel_rfl) (@cast (((((List.length c.up) = (List.length (List.set c.up (Int.toNat p) ((List.getD c.up (Int.toNat p) 0) + (max n (0 : Int)))))) ∧ ((.ints (List.set c.up (Int.toNat p) ((List.getD c.up (Int.toNat p) 0) + (max n (0 : Int)))) : Dat) = .ints ((addTo c p n).1.up)) ∧ ((24 : Nat) ∉ ([] : List Nat))) ∧ (((List.length c.down) = (List.length (List.set c.down (Int.toNat p) ((List.getD c.down (Int.toNat p) 0) + (max (0 - n) (0 : Int)))))) ∧ ((.ints (List.set c.down (Int.toNat p) ((List.getD c.down (Int.toNat p) 0) + (max (0 - n) (0 : Int)))) : Dat) = .ints ((addTo c p n).1.down)) ∧ ((1024 : Nat) ∉ ([] : List Nat))) ∧ ((.int .i64 c.value : Value) = .int .i64 ((addTo c p n).1.value)) ∧ ((.int .i64 c.time : Value) = .int .i64 ((addTo c p n).1.time)) ∧ ((.int .i64 c.proc : Value) = .int .i64 ((addTo c p n).1.proc)) ∧ (((List.length c.marks) = (List.length c.marks)) ∧ ((.marks c.marks : Dat) = .marks ((addTo c p n).1.marks)) ∧ ((2024 : Nat) ∉ ([] : List Nat))) ∧ True) ∧ ((.bool true : Value) = .bool ((addTo c p n).2)) ∧ True) _ (by kernel_rfl) ⟨⟨⟨(by first | rfl | omega | assumption | (symm; assumption) | simp | simp_all),(congrArg Dat.ints (by rw [addTo_ok hg (not_g n52)]; try rfl)),(by decide)⟩,⟨(by first | rfl | omega | assumption | (symm; assumption) | simp | simp_all),(congrArg Dat.ints (by rw [addTo_ok hg (not_g n52)]; try rfl)),(by decide)⟩,(congrArg (Value.int .i64) (by rw [addTo_ok hg (not_g n52)]; try rfl)),(congrArg (Value.int .i64) (by rw [addTo_ok hg (not_g n52)]; try rfl)),(congrArg (Value.int .i64) (by rw [addTo_ok hg (not_g n52)]; try rfl)),⟨rfl,(congrArg Dat.marks (by rw [addTo_ok hg (not_g n52)]; try rfl)),(by decide)⟩,tt⟩,(congrArg Value.bool (by rw [addTo_ok hg (not_g n52)]; try rfl)),tt⟩)
theorem ent60 : Entr prog 60 := ⟨_,func60,rfl,by decide⟩
end Go.Proofs.Try

set_option linter.unusedSimpArgs false
set_option linter.unusedVariables false
namespace Go.Proofs.Try
open Go.Ab Go.RowKit
def fs61 : FnS := fnS [.a [some .ints,some .ints,none,none,none,some .marks],.o,.o,.o] [.copy,.int,.int,.int] (fun _ (c,value,time,p,_) => (.tup [.agg (cC ((writeTo c value time p).1)),.b ((writeTo c value time p).2)],[],True))
abbrev T61 : Tab := lk [(32,fs32),(33,fs33),(34,fs34),(46,fs46)]
theorem tab61 : TabOK prog T61 := (TabOK.cons ok32 ent32 (TabOK.cons ok33 ent33 (TabOK.cons ok34 ent34 (TabOK.cons ok46 ent46 TabOK.nil))))
set_option maxRecDepth 100000 in
set_option maxHeartbeats 1000000 in
theorem ok61 : FnOK prog 61 fs61 := by
 refine FnOK.mk cok func61 rfl rfl rfl ?_
 rintro fl ⟨(c : CopyD),(value : Int),(time : Int),(p : Int),_⟩ hpre F hnt0 _
 have hnt : F.nt = 44 := hnt0.trans ntmps61
 clear hpre
 refine W.to (⟨[(0,.agg (cC c)),(1,.i value),(2,.i time),(3,.i p)],[],[999]⟩) rfl ?_
 refine W.lenA 0 0 (cC c) (.ints c.up) (by kernel_rfl) (by kernel_rfl) ?_
 intro hl_c_up; replace hl_c_up : List.length c.up ≤ 9223372036854775807 := hl_c_up
 refine W.lenA 0 1 (cC c) (.ints c.down) (by kernel_rfl) (by kernel_rfl) ?_
 intro hl_c_down; replace hl_c_down : List.length c.down ≤ 9223372036854775807 := hl_c_down
 refine W.lenA 0 5 (cC c) (.marks c.marks) (by kernel_rfl) (by kernel_rfl) ?_
 intro hl_c_marks; replace hl_c_marks : List.length c.marks ≤ 9223372036854775807 := hl_c_marks
 refine Kk cok tab61 hnt [] [1,2,3,4,8] (⟨[(1,.i value),(2,.i time),(3,.i p),(4,.ptr 4 0),(8,.ptr 8 0)],[(4,⟨26,.fix (cC c)⟩),(8,⟨26,.fix [.v (.slice none 0 0),.v (.slice none 0 0),.i (0 : Int),.i (0 : Int),.i (0 : Int),.v (.slice none 0 0)]⟩)],[8,4,999]⟩)
  (True ∧ True ∧ True ∧ True)
  ⟨tt,tt,tt,tt⟩ ?_
 refine Kk cok tab61 hnt [] [1,2,3,4,8,10] (⟨[(1,.i value),(2,.i time),(3,.i p),(4,.ptr 4 0),(8,.ptr 8 0),(10,.ptr 10 0)],[(4,⟨26,.fix (cC c)⟩),(8,⟨26,.fix [.v (.slice none 0 0),.v (.slice none 0 0),.i (0 : Int),.i (0 : Int),.i (0 : Int),.v (.slice none 0 0)]⟩),(10,⟨26,.fix (cC newC)⟩)],[10,8,4,999]⟩)
  ((True ∧ True ∧ True) ∧ True ∧ (True ∧ True) ∧ True)
  ⟨⟨tt,tt,tt⟩,tt,⟨tt,tt⟩,tt⟩ ?_
 refine Kk cok tab61 hnt [] [1,2,3,4,8,10] (⟨[(1,.i value),(2,.i time),(3,.i p),(4,.ptr 4 0),(8,.ptr 8 0),(10,.ptr 10 0)],[(4,⟨26,.fix (cC c)⟩),(8,⟨26,.fix [.v (.slice none 0 0),.v (.slice none 0 0),.i (0 : Int),.i (0 : Int),.i (0 : Int),.v (.slice none 0 0)]⟩),(10,⟨26,.fix [.sl (.ints newC.up),.sl (.ints newC.down),.i value,.i newC.time,.i newC.proc,.sl (.marks newC.marks)]⟩)],[10,8,4,999]⟩)
  (True ∧ True ∧ (True ∧ True) ∧ True)
  ⟨tt,tt,⟨tt,tt⟩,tt⟩ ?_
 refine Kk cok tab61 hnt [] [1,2,3,4,8,10] (⟨[(1,.i value),(2,.i time),(3,.i p),(4,.ptr 4 0),(8,.ptr 8 0),(10,.ptr 10 0)],[(4,⟨26,.fix (cC c)⟩),(8,⟨26,.fix [.v (.slice none 0 0),.v (.slice none 0 0),.i (0 : Int),.i (0 : Int),.i (0 : Int),.v (.slice none 0 0)]⟩),(10,⟨26,.fix [.sl (.ints newC.up),.sl (.ints newC.down),.i value,.i time,.i newC.proc,.sl (.marks newC.marks)]⟩)],[10,8,4,999]⟩)
  (True ∧ True ∧ (True ∧ True) ∧ True)
  ⟨tt,tt,⟨tt,tt⟩,tt⟩ ?_
 refine Kk cok tab61 hnt [] [1,2,3,4,8,10] (⟨[(1,.i value),(2,.i time),(3,.i p),(4,.ptr 4 0),(8,.ptr 8 0),(10,.ptr 10 0)],[(4,⟨26,.fix (cC c)⟩),(8,⟨26,.fix [.v (.slice none 0 0),.v (.slice none 0 0),.i (0 : Int),.i (0 : Int),.i (0 : Int),.v (.slice none 0 0)]⟩),(10,⟨26,.fix [.sl (.ints newC.up),.sl (.ints newC.down),.i value,.i time,.i p,.sl (.marks newC.marks)]⟩)],[10,8,4,999]⟩)
  (True ∧ True ∧ (True ∧ True) ∧ True)
  ⟨tt,tt,⟨tt,tt⟩,tt⟩ ?_
 refine W.seq ?_
 refine Kk cok tab61 hnt [] [1,2,3,4,8,10,30] (⟨[(1,.i value),(2,.i time),(3,.i p),(4,.ptr 4 0),(8,.ptr 8 0),(10,.ptr 10 0),(30,.b (((!(validCopy c)) || (!(validCopy ⟨newC.up,newC.down,value,time,p,newC.marks⟩))) || (decide (time < (1 : Int)))))],[(4,⟨26,.fix (cC c)⟩),(8,⟨26,.fix [.v (.slice none 0 0),.v (.slice none 0 0),.i (0 : Int),.i (0 : Int),.i (0 : Int),.v (.slice none 0 0)]⟩),(10,⟨26,.fix [.sl (.ints newC.up),.sl (.ints newC.down),.i value,.i time,.i p,.sl (.marks newC.marks)]⟩)],[10,8,4,999]⟩)
  ((fun (Z1:Bool)=>((fun (Z2:Bool)=>(True ∧ ((True ∧ (((True ∧ (True ∧ (True ∧ (True ∧ (True ∧ (True ∧ (True ∧ True))))))) ∧ True) ∧ True)) ∧ (True ∧ (True ∧ (((!Z1) = true → True) ∧ (((!Z1) = true → (True ∧ ((((((!Z1) = true) ∧ True) ∧ (True ∧ (True ∧ (True ∧ (True ∧ (True ∧ (True ∧ True))))))) ∧ True) ∧ True))) ∧ (((!Z1) = true → (((!Z1) = true) ∧ True)) ∧ ((True ∧ ((Z1 = true → True) ∧ (Z1 = false → ((!Z1) = true) ∧ True))) ∧ (True ∧ (((!Z2) = true → True) ∧ (((!Z2) = true → ((((!Z2) = true) ∧ True) ∧ (True ∧ True))) ∧ ((True ∧ ((Z2 = true → True) ∧ (Z2 = false → ((!Z2) = true) ∧ True))) ∧ True))))))))))))) (Z1 || (!(validCopy ⟨newC.up,newC.down,value,time,p,newC.marks⟩))))) (!(validCopy c)))
  ⟨tt,⟨tt,⟨⟨tt,tt,tt,tt,tt,tt,tt,tt⟩,tt⟩,tt⟩,tt,tt,(fun _ => trivial),(fun hG => ⟨tt,⟨⟨⟨hG,tt⟩,tt,tt,tt,tt,tt,tt,tt⟩,tt⟩,tt⟩),(fun hG => ⟨hG,tt⟩),⟨tt,(fun _ => trivial),(fun hp => ⟨(not_t hp),tt⟩)⟩,tt,(fun _ => trivial),(fun hG => ⟨⟨hG,tt⟩,tt,tt⟩),⟨tt,(fun _ => trivial),(fun hp => ⟨(not_t hp),tt⟩)⟩,tt⟩ ?_
 refine W.if' (((!(validCopy c)) || (!(validCopy ⟨newC.up,newC.down,value,time,p,newC.marks⟩))) || (decide (time < (1 : Int)))) (.b (((!(validCopy c)) || (!(validCopy ⟨newC.up,newC.down,value,time,p,newC.marks⟩))) || (decide (time < (1 : Int))))) (by kernel_rfl) rfl trivial ?_ ?_
 ·intro h30
  refine Kk cok tab61 hnt [] [8,9] (⟨[(8,.ptr 8 0),(9,.b false)],[(4,⟨26,.fix (cC c)⟩),(8,⟨26,.fix [.v (.slice none 0 0),.v (.slice none 0 0),.i (0 : Int),.i (0 : Int),.i (0 : Int),.v (.slice none 0 0)]⟩),(10,⟨26,.fix [.sl (.ints newC.up),.sl (.ints newC.down),.i value,.i time,.i p,.sl (.marks newC.marks)]⟩)],[10,8,4,999]⟩)
   (True ∧ (True ∧ True) ∧ True ∧ True)
   ⟨tt,⟨tt,tt⟩,tt,tt⟩ ?_
  refine W.ret (thenQ_ret ?_)
  exact endQ_ret (.tup [.agg [.v (.slice none 0 0),.v (.slice none 0 0),.i (0 : Int),.i (0 : Int),.i (0 : Int),.v (.slice none 0 0)],.b false]) (by kernel_rfl) (@cast (((((Value.slice none 0 0 : Value) = .slice none 0 0) ∧ ((Dat.ints ((writeTo c value time p).1.up)).len = 0)) ∧ (((Value.slice none 0 0 : Value) = .slice none 0 0) ∧ ((Dat.ints ((writeTo c value time p).1.down)).len = 0)) ∧ ((.int .i64 (0 : Int) : Value) = .int .i64 ((writeTo c value time p).1.value)) ∧ ((.int .i64 (0 : Int) : Value) = .int .i64 ((writeTo c value time p).1.time)) ∧ ((.int .i64 (0 : Int) : Value) = .int .i64 ((writeTo c value time p).1.proc)) ∧ (((Value.slice none 0 0 : Value) = .slice none 0 0) ∧ ((Dat.marks ((writeTo c value time p).1.marks)).len = 0)) ∧ True) ∧ ((.bool false : Value) = .bool ((writeTo c value time p).2)) ∧ True) _ (by kernel_rfl) ⟨⟨⟨rfl,(by show List.length ((writeTo c value time p).1.up) = 0; rw [writeTo_no (write_bad h30)]; try rfl)⟩,⟨rfl,(by show List.length ((writeTo c value time p).1.down) = 0; rw [writeTo_no (write_bad h30)]; try rfl)⟩,(congrArg (Value.int .i64) (by rw [writeTo_no (write_bad h30)]; try rfl)),(congrArg (Value.int .i64) (by rw [writeTo_no (write_bad h30)]; try rfl)),(congrArg (Value.int .i64) (by rw [writeTo_no (write_bad h30)]; try rfl)),⟨rfl,(by show List.length ((writeTo c value time p).1.marks) = 0; rw [writeTo_no (write_bad h30)]; try rfl)⟩,tt⟩,(congrArg Value.bool (by rw [writeTo_no (write_bad h30)]; try rfl)),tt⟩)
 ·intro n30
  have n30_0 : ¬ (time < (1 : Int)) := of_decide_eq_false (or_r n30)
  have hg := write_good n30
  have hf := up_len hg.2
  refine W.skip (thenQ_normal ?_)
  refine Kk cok tab61 hnt [] [1,2,3,4,8,10,11] (⟨[(1,.i value),(2,.i time),(3,.i p),(4,.ptr 4 0),(8,.ptr 8 0),(10,.ptr 10 0),(11,.ptr 11 0)],[(4,⟨26,.fix (cC c)⟩),(8,⟨26,.fix [.v (.slice none 0 0),.v (.slice none 0 0),.i (0 : Int),.i (0 : Int),.i (0 : Int),.v (.slice none 0 0)]⟩),(10,⟨26,.fix [.sl (.ints newC.up),.sl (.ints newC.down),.i value,.i time,.i p,.sl (.marks newC.marks)]⟩),(11,⟨26,.fix [.own 33 (List.length c.up),.own 1033 (List.length c.down),.i c.value,.i c.time,.i c.proc,.own 2033 (List.length c.marks)]⟩),(33,⟨3,.row (.ints c.up)⟩),(1033,⟨3,.row (.ints c.down)⟩),(2033,⟨33,.row (.marks c.marks)⟩)],[11,2033,1033,33,10,8,4,999]⟩)
   (True ∧ (True ∧ ((True ∧ True ∧ True ∧ True ∧ True ∧ True ∧ True ∧ True) ∧ True) ∧ c.up.length ≤ 1000 ∧ c.down.length ≤ 1000 ∧ c.marks.length ≤ 1000) ∧ True ∧ (True ∧ True) ∧ True)
   ⟨tt,⟨tt,⟨⟨tt,tt,tt,tt,tt,tt,tt,tt⟩,tt⟩,(by omega)⟩,tt,⟨tt,tt⟩,tt⟩ ?_
  refine W.seq ?_
  refine Kk cok tab61 hnt [] [1,2,3,8,11,36] (⟨[(1,.i value),(2,.i time),(3,.i p),(8,.ptr 8 0),(11,.ptr 11 0),(36,.b (newerC ⟨newC.up,newC.down,value,time,p,newC.marks⟩ c))],[(4,⟨26,.fix (cC c)⟩),(8,⟨26,.fix [.v (.slice none 0 0),.v (.slice none 0 0),.i (0 : Int),.i (0 : Int),.i (0 : Int),.v (.slice none 0 0)]⟩),(10,⟨26,.fix [.sl (.ints newC.up),.sl (.ints newC.down),.i value,.i time,.i p,.sl (.marks newC.marks)]⟩),(11,⟨26,.fix [.own 33 (List.length c.up),.own 1033 (List.length c.down),.i c.value,.i c.time,.i c.proc,.own 2033 (List.length c.marks)]⟩),(33,⟨3,.row (.ints c.up)⟩),(1033,⟨3,.row (.ints c.down)⟩),(2033,⟨33,.row (.marks c.marks)⟩)],[11,2033,1033,33,10,8,4,999]⟩)
   (True ∧ True ∧ (True ∧ ((True ∧ True ∧ True ∧ True ∧ True ∧ True ∧ True ∧ True) ∧ (True ∧ True ∧ True ∧ True ∧ True ∧ True ∧ True ∧ True) ∧ True) ∧ True) ∧ True)
   ⟨tt,tt,⟨tt,⟨⟨tt,tt,tt,tt,tt,tt,tt,tt⟩,⟨tt,tt,tt,tt,tt,tt,tt,tt⟩,tt⟩,tt⟩,tt⟩ ?_
  refine W.if' (newerC ⟨newC.up,newC.down,value,time,p,newC.marks⟩ c) (.b (newerC ⟨newC.up,newC.down,value,time,p,newC.marks⟩ c)) (by kernel_rfl) rfl trivial ?_ ?_
  ·intro h36
   refine Kk cok tab61 hnt [] [2,3,8,11] (⟨[(2,.i time),(3,.i p),(8,.ptr 8 0),(11,.ptr 11 0)],[(4,⟨26,.fix (cC c)⟩),(8,⟨26,.fix [.v (.slice none 0 0),.v (.slice none 0 0),.i (0 : Int),.i (0 : Int),.i (0 : Int),.v (.slice none 0 0)]⟩),(10,⟨26,.fix [.sl (.ints newC.up),.sl (.ints newC.down),.i value,.i time,.i p,.sl (.marks newC.marks)]⟩),(11,⟨26,.fix [.own 33 (List.length c.up),.own 1033 (List.length c.down),.i value,.i c.time,.i c.proc,.own 2033 (List.length c.marks)]⟩),(33,⟨3,.row (.ints c.up)⟩),(1033,⟨3,.row (.ints c.down)⟩),(2033,⟨33,.row (.marks c.marks)⟩)],[11,2033,1033,33,10,8,4,999]⟩)
    (True ∧ True ∧ (True ∧ True) ∧ True)
    ⟨tt,tt,⟨tt,tt⟩,tt⟩ ?_
   refine Kk cok tab61 hnt [] [3,8,11] (⟨[(3,.i p),(8,.ptr 8 0),(11,.ptr 11 0)],[(4,⟨26,.fix (cC c)⟩),(8,⟨26,.fix [.v (.slice none 0 0),.v (.slice none 0 0),.i (0 : Int),.i (0 : Int),.i (0 : Int),.v (.slice none 0 0)]⟩),(10,⟨26,.fix [.sl (.ints newC.up),.sl (.ints newC.down),.i value,.i time,.i p,.sl (.marks newC.marks)]⟩),(11,⟨26,.fix [.own 33 (List.length c.up),.own 1033 (List.length c.down),.i value,.i time,.i c.proc,.own 2033 (List.length c.marks)]⟩),(33,⟨3,.row (.ints c.up)⟩),(1033,⟨3,.row (.ints c.down)⟩),(2033,⟨33,.row (.marks c.marks)⟩)],[11,2033,1033,33,10,8,4,999]⟩)
    (True ∧ True ∧ (True ∧ True) ∧ True)
    ⟨tt,tt,⟨tt,tt⟩,tt⟩ ?_
   refine Lk cok tab61 hnt [] (⟨[(3,.i p),(8,.ptr 8 0),(11,.ptr 11 0),(41,.i p),(42,.ptr 11 4)],[(4,⟨26,.fix (cC c)⟩),(8,⟨26,.fix [.v (.slice none 0 0),.v (.slice none 0 0),.i (0 : Int),.i (0 : Int),.i (0 : Int),.v (.slice none 0 0)]⟩),(10,⟨26,.fix [.sl (.ints newC.up),.sl (.ints newC.down),.i value,.i time,.i p,.sl (.marks newC.marks)]⟩),(11,⟨26,.fix [.own 33 (List.length c.up),.own 1033 (List.length c.down),.i value,.i time,.i p,.own 2033 (List.length c.marks)]⟩),(33,⟨3,.row (.ints c.up)⟩),(1033,⟨3,.row (.ints c.down)⟩),(2033,⟨33,.row (.marks c.marks)⟩)],[11,2033,1033,33,10,8,4,999]⟩)
    (True ∧ True ∧ (True ∧ True) ∧ True)
    ⟨tt,tt,⟨tt,tt⟩,tt⟩ ?_
   refine thenQ_normal ?_
   refine Kk cok tab61 hnt [] [8,9] (⟨[(8,.ptr 8 0),(9,.b true)],[(4,⟨26,.fix (cC c)⟩),(8,⟨26,.fix [.own 33 (List.length c.up),.own 1033 (List.length c.down),.i value,.i time,.i p,.own 2033 (List.length c.marks)]⟩),(10,⟨26,.fix [.sl (.ints newC.up),.sl (.ints newC.down),.i value,.i time,.i p,.sl (.marks newC.marks)]⟩),(11,⟨26,.fix [.own 33 (List.length c.up),.own 1033 (List.length c.down),.i value,.i time,.i p,.own 2033 (List.length c.marks)]⟩),(33,⟨3,.row (.ints c.up)⟩),(1033,⟨3,.row (.ints c.down)⟩),(2033,⟨33,.row (.marks c.marks)⟩)],[11,2033,1033,33,10,8,4,999]⟩)
    (True ∧ (True ∧ True) ∧ True ∧ True)
    ⟨tt,⟨tt,tt⟩,tt,tt⟩ ?_
   refine W.ret ?_
   exact endQ_ret (.tup [.agg [.own 33 (List.length c.up),.own 1033 (List.length c.down),.i value,.i time,.i p,.own 2033 (List.length c.marks)],.b true]) (by kernel_rfl) (@cast (((((List.length c.up) = (List.length c.up)) ∧ ((.ints c.up : Dat) = .ints ((writeTo c value time p).1.up)) ∧ ((33 : Nat) ∉ ([] : List Nat))) ∧ (((List.length c.down) = (List.length c.down)) ∧ ((.ints c.down : Dat) = .ints ((writeTo c value time p).1.down)) ∧ ((1033 : Nat) ∉ ([] : List Nat))) ∧ ((.int .i64 value : Value) = .int .i64 ((writeTo c value time p).1.value)) ∧ ((.int .i64 time : Value) = .int .i64 ((writeTo c value time p).1.time)) ∧ ((.int .i64 p : Value) = .int .i64 ((writeTo c value time p).1.proc)) ∧ (((List.length c.marks) = (List.length c.marks)) ∧ ((.marks c.marks : Dat) = .marks ((writeTo c value time p).1.marks)) ∧ ((2033 : Nat) ∉ ([] : List Nat))) ∧ True) ∧ ((.bool true : Value) = .bool ((writeTo c value time p).2)) ∧ True) _ (by kernel_rfl) ⟨⟨⟨rfl,(congrArg Dat.ints (by rw [writeTo_yes hg.1 h36]; try rfl)),(by decide)⟩,⟨rfl,(congrArg Dat.ints (by rw [writeTo_yes hg.1 h36]; try rfl)),(by decide)⟩,(congrArg (Value.int .i64) (by rw [writeTo_yes hg.1 h36]; try rfl)),(congrArg (Value.int .i64) (by rw [writeTo_yes hg.1 h36]; try rfl)),(congrArg (Value.int .i64) (by rw [writeTo_yes hg.1 h36]; try rfl)),⟨rfl,(congrArg Dat.marks (by rw [writeTo_yes hg.1 h36]; try rfl)),(by decide)⟩,tt⟩,(congrArg Value.bool (by rw [writeTo_yes hg.1 h36]; try rfl)),tt⟩)
  ·intro n36
   refine W.skip (thenQ_normal ?_)
   refine Kk cok tab61 hnt [] [8,9] (⟨[(8,.ptr 8 0),(9,.b true)],[(4,⟨26,.fix (cC c)⟩),(8,⟨26,.fix [.own 33 (List.length c.up),.own 1033 (List.length c.down),.i c.value,.i c.time,.i c.proc,.own 2033 (List.length c.marks)]⟩),(10,⟨26,.fix [.sl (.ints newC.up),.sl (.ints newC.down),.i value,.i time,.i p,.sl (.marks newC.marks)]⟩),(11,⟨26,.fix [.own 33 (List.length c.up),.own 1033 (List.length c.down),.i c.value,.i c.time,.i c.proc,.own 2033 (List.length c.marks)]⟩),(33,⟨3,.row (.ints c.up)⟩),(1033,⟨3,.row (.ints c.down)⟩),(2033,⟨33,.row (.marks c.marks)⟩)],[11,2033,1033,33,10,8,4,999]⟩)
    (True ∧ (True ∧ True) ∧ True ∧ True)
    ⟨tt,⟨tt,tt⟩,tt,tt⟩ ?_
   refine W.ret ?_
   exact endQ_ret (.tup [.agg [.own 33 (List.length c.up),.own 1033 (List.length c.down),.i c.value,.i c.time,.i c.proc,.own 2033 (List.length c.marks)],.b true]) (by kernel_rfl) (@cast (((((List.length c.up) = (List.length c.up)) ∧ ((.ints c.up : Dat) = .ints ((writeTo c value time p).1.up)) ∧ ((33 : Nat) ∉ ([] : List Nat))) ∧ (((List.length c.down) = (List.length c.down)) ∧ ((.ints c.down : Dat) = .ints ((writeTo c value time p).1.down)) ∧ ((1033 : Nat) ∉ ([] : List Nat))) ∧ ((.int .i64 c.value : Value) = .int .i64 ((writeTo c value time p).1.value)) ∧ ((.int .i64 c.time : Value) = .int .i64 ((writeTo c value time p).1.time)) ∧ ((.int .i64 c.proc : Value) = .int .i64 ((writeTo c value time p).1.proc)) ∧ (((List.length c.marks) = (List.length c.marks)) ∧ ((.marks c.marks : Dat) = .marks ((writeTo c value time p).1.marks)) ∧ ((2033 : Nat) ∉ ([] : List Nat))) ∧ True) ∧ ((.bool true : Value) = .bool ((writeTo c value time p).2)) ∧ True) _ (by kernel_rfl) ⟨⟨⟨rfl,(congrArg Dat.ints (by rw [writeTo_old hg.1 n36]; try rfl)),(by decide)⟩,⟨rfl,(congrArg Dat.ints (by rw [writeTo_old hg.1 n36]; try rfl)),(by decide)⟩,(congrArg (Value.int .i64) (by rw [writeTo_old hg.1 n36]; try rfl)),(congrArg (Value.int .i64) (by rw [writeTo_old hg.1 n36]; try rfl)),(congrArg (Value.int .i64) (by rw [writeTo_old hg.1 n36]; try rfl)),⟨rfl,(congrArg Dat.marks (by rw [writeTo_old hg.1 n36]; try rfl)),(by decide)⟩,tt⟩,(congrArg Value.bool (by rw [writeTo_old hg.1 n36]; try rfl)),tt⟩)
theorem ent61 : Entr prog 61 := ⟨_,func61,rfl,by decide⟩
end Go.Proofs.Try

set_option linter.unusedSimpArgs false
set_option linter.unusedVariables false
namespace Go.Proofs.Try
open Go.Ab Go.RowKit
def fs16 : FnS := fnS [.a [some .ints,some .ints,none,none,none,some .marks],.o] [.copy,.int] (fun _ (c,v,_) => (.agg (cC ((takeOut c v))),[],True))
abbrev T16 : Tab := lk [(32,fs32),(33,fs33)]
theorem tab16 : TabOK prog T16 := (TabOK.cons ok32 ent32 (TabOK.cons ok33 ent33 TabOK.nil))
set_option maxRecDepth 100000 in
set_option maxHeartbeats 1000000 in
theorem ok16 : FnOK prog 16 fs16 := by
 refine FnOK.mk cok func16 rfl rfl rfl ?_
 rintro fl ⟨(c : CopyD),(v : Int),_⟩ hpre F hnt0 _
 have hnt : F.nt = 34 := hnt0.trans ntmps16
 clear hpre
 refine W.to (⟨[(0,.agg (cC c)),(1,.i v)],[],[999]⟩) rfl ?_
 refine W.lenA 0 0 (cC c) (.ints c.up) (by kernel_rfl) (by kernel_rfl) ?_
 intro hl_c_up; replace hl_c_up : List.length c.up ≤ 9223372036854775807 := hl_c_up
 refine W.lenA 0 1 (cC c) (.ints c.down) (by kernel_rfl) (by kernel_rfl) ?_
 intro hl_c_down; replace hl_c_down : List.length c.down ≤ 9223372036854775807 := hl_c_down
 refine W.lenA 0 5 (cC c) (.marks c.marks) (by kernel_rfl) (by kernel_rfl) ?_
 intro hl_c_marks; replace hl_c_marks : List.length c.marks ≤ 9223372036854775807 := hl_c_marks
 refine Kk cok tab16 hnt [] [1,2,4] (⟨[(1,.i v),(2,.ptr 2 0),(4,.ptr 4 0)],[(2,⟨26,.fix (cC c)⟩),(4,⟨26,.fix [.v (.slice none 0 0),.v (.slice none 0 0),.i (0 : Int),.i (0 : Int),.i (0 : Int),.v (.slice none 0 0)]⟩)],[4,2,999]⟩)
  (True ∧ True ∧ True)
  ⟨tt,tt,tt⟩ ?_
 refine W.seq ?_
 refine Kk cok tab16 hnt [] [1,2,4,9] (⟨[(1,.i v),(2,.ptr 2 0),(4,.ptr 4 0),(9,.b (!(validCopy c)))],[(2,⟨26,.fix (cC c)⟩),(4,⟨26,.fix [.v (.slice none 0 0),.v (.slice none 0 0),.i (0 : Int),.i (0 : Int),.i (0 : Int),.v (.slice none 0 0)]⟩)],[4,2,999]⟩)
  (True ∧ (True ∧ ((True ∧ True ∧ True ∧ True ∧ True ∧ True ∧ True ∧ True) ∧ True) ∧ True) ∧ True ∧ True)
  ⟨tt,⟨tt,⟨⟨tt,tt,tt,tt,tt,tt,tt,tt⟩,tt⟩,tt⟩,tt,tt⟩ ?_
 refine W.if' (!(validCopy c)) (.b (!(validCopy c))) (by kernel_rfl) rfl trivial ?_ ?_
 ·intro h9
  refine Kk cok tab16 hnt [] [4] (⟨[(4,.ptr 4 0)],[(2,⟨26,.fix (cC c)⟩),(4,⟨26,.fix [.v (.slice none 0 0),.v (.slice none 0 0),.i (0 : Int),.i (0 : Int),.i (0 : Int),.v (.slice none 0 0)]⟩)],[4,2,999]⟩)
   (True ∧ (True ∧ True) ∧ True)
   ⟨tt,⟨tt,tt⟩,tt⟩ ?_
  refine W.ret (thenQ_ret ?_)
  exact endQ_ret (.agg [.v (.slice none 0 0),.v (.slice none 0 0),.i (0 : Int),.i (0 : Int),.i (0 : Int),.v (.slice none 0 0)]) (by kernel_rfl) (@cast ((((Value.slice none 0 0 : Value) = .slice none 0 0) ∧ ((Dat.ints ((takeOut c v).up)).len = 0)) ∧ (((Value.slice none 0 0 : Value) = .slice none 0 0) ∧ ((Dat.ints ((takeOut c v).down)).len = 0)) ∧ ((.int .i64 (0 : Int) : Value) = .int .i64 ((takeOut c v).value)) ∧ ((.int .i64 (0 : Int) : Value) = .int .i64 ((takeOut c v).time)) ∧ ((.int .i64 (0 : Int) : Value) = .int .i64 ((takeOut c v).proc)) ∧ (((Value.slice none 0 0 : Value) = .slice none 0 0) ∧ ((Dat.marks ((takeOut c v).marks)).len = 0)) ∧ True) _ (by kernel_rfl) ⟨⟨rfl,(by show List.length ((takeOut c v).up) = 0; rw [takeOut_no (not_f h9)]; try rfl)⟩,⟨rfl,(by show List.length ((takeOut c v).down) = 0; rw [takeOut_no (not_f h9)]; try rfl)⟩,(congrArg (Value.int .i64) (by rw [takeOut_no (not_f h9)]; try rfl)),(congrArg (Value.int .i64) (by rw [takeOut_no (not_f h9)]; try rfl)),(congrArg (Value.int .i64) (by rw [takeOut_no (not_f h9)]; try rfl)),⟨rfl,(by show List.length ((takeOut c v).marks) = 0; rw [takeOut_no (not_f h9)]; try rfl)⟩,tt⟩)
 ·intro n9
  have hf := up_len (not_g n9)
  refine W.skip (thenQ_normal ?_)
  refine Kk cok tab16 hnt [] [1,4,5] (⟨[(1,.i v),(4,.ptr 4 0),(5,.ptr 5 0)],[(2,⟨26,.fix (cC c)⟩),(4,⟨26,.fix [.v (.slice none 0 0),.v (.slice none 0 0),.i (0 : Int),.i (0 : Int),.i (0 : Int),.v (.slice none 0 0)]⟩),(5,⟨26,.fix [.own 12 (List.length c.up),.own 1012 (List.length c.down),.i c.value,.i c.time,.i c.proc,.own 2012 (List.length c.marks)]⟩),(12,⟨3,.row (.ints c.up)⟩),(1012,⟨3,.row (.ints c.down)⟩),(2012,⟨33,.row (.marks c.marks)⟩)],[5,2012,1012,12,4,2,999]⟩)
   (True ∧ (True ∧ ((True ∧ True ∧ True ∧ True ∧ True ∧ True ∧ True ∧ True) ∧ True) ∧ c.up.length ≤ 1000 ∧ c.down.length ≤ 1000 ∧ c.marks.length ≤ 1000) ∧ True ∧ (True ∧ True) ∧ True)
   ⟨tt,⟨tt,⟨⟨tt,tt,tt,tt,tt,tt,tt,tt⟩,tt⟩,(by omega)⟩,tt,⟨tt,tt⟩,tt⟩ ?_
  refine W.seq ?_
  refine Kk cok tab16 hnt [] [1,4,5,6] (⟨[(1,.i v),(4,.ptr 4 0),(5,.ptr 5 0),(6,.i (0 : Int))],[(2,⟨26,.fix (cC c)⟩),(4,⟨26,.fix [.v (.slice none 0 0),.v (.slice none 0 0),.i (0 : Int),.i (0 : Int),.i (0 : Int),.v (.slice none 0 0)]⟩),(5,⟨26,.fix [.own 12 (List.length c.up),.own 1012 (List.length c.down),.i c.value,.i c.time,.i c.proc,.own 2012 (List.length c.marks)]⟩),(12,⟨3,.row (.ints c.up)⟩),(1012,⟨3,.row (.ints c.down)⟩),(2012,⟨33,.row (.marks c.marks)⟩)],[5,2012,1012,12,4,2,999]⟩)
   (True ∧ True)
   ⟨tt,tt⟩ ?_
  refine W.block ?_
  refine W.loop (ι := Nat × (List MarkD)) (fun (x : Nat × (List MarkD)) => match x with | (i,ms) => (⟨[(1,.i v),(4,.ptr 4 0),(5,.ptr 5 0),(6,.i ((i : Nat) : Int))],[(4,⟨26,.fix [.v (.slice none 0 0),.v (.slice none 0 0),.i (0 : Int),.i (0 : Int),.i (0 : Int),.v (.slice none 0 0)]⟩),(5,⟨26,.fix [.own 12 (List.length c.up),.own 1012 (List.length c.down),.i c.value,.i c.time,.i c.proc,.own 2012 ms.length]⟩),(12,⟨3,.row (.ints c.up)⟩),(1012,⟨3,.row (.ints c.down)⟩),(2012,⟨33,.row (.marks ms)⟩)],[4,5,12,999,1012,2012]⟩ : St))
   (fun (x : Nat × (List MarkD)) => match x with | (i,ms) => (i ≤ c.marks.length) ∧ (ms = goneUp v c.marks i))
   (fun (x : Nat × (List MarkD)) => match x with | (i,ms) => (c.marks.length - i : Nat)) (0,c.marks) ?_ ?_ ?_
  ·exact (show (0 ≤ c.marks.length) ∧ (c.marks = goneUp v c.marks 0) from ⟨(by first | assumption | omega | rfl | (intro _ hjj; omega) | (simp; done) | (simp; omega)),(by simp [goneUp])⟩)
  ·exact Sub.of [] (@cast (((Si v) ∧ (((4 : Nat) = 4) ∧ ((0 : Nat) = 0) ∧ ((4 : Nat) ∈ ([4,5,12,999,1012,2012] : List Nat))) ∧ (((5 : Nat) = 5) ∧ ((0 : Nat) = 0) ∧ ((5 : Nat) ∈ ([4,5,12,999,1012,2012] : List Nat))) ∧ ((.int .i64 (0 : Int) : Value) = .int .i64 ((0 : Nat) : Int)) ∧ True) ∧ ((((26 : Nat) = 26) ∧ ((((.slice none 0 0) : Value) = (.slice none 0 0)) ∧ (((.slice none 0 0) : Value) = (.slice none 0 0)) ∧ (Si (0 : Int)) ∧ (Si (0 : Int)) ∧ (Si (0 : Int)) ∧ (((.slice none 0 0) : Value) = (.slice none 0 0)) ∧ True) ∧ ((4 : Nat) ∈ ([4,5,12,999,1012,2012] : List Nat))) ∧ (((26 : Nat) = 26) ∧ ((((12 : Nat) = 12) ∧ ((List.length c.up) = (List.length c.up)) ∧ ((12 : Nat) ∈ ([4,5,12,999,1012,2012] : List Nat))) ∧ (((1012 : Nat) = 1012) ∧ ((List.length c.down) = (List.length c.down)) ∧ ((1012 : Nat) ∈ ([4,5,12,999,1012,2012] : List Nat))) ∧ (Si c.value) ∧ (Si c.time) ∧ (Si c.proc) ∧ (((2012 : Nat) = 2012) ∧ ((List.length c.marks) = (List.length c.marks)) ∧ ((2012 : Nat) ∈ ([4,5,12,999,1012,2012] : List Nat))) ∧ True) ∧ ((5 : Nat) ∈ ([4,5,12,999,1012,2012] : List Nat))) ∧ (((3 : Nat) = 3) ∧ (Sd (.ints c.up)) ∧ ((12 : Nat) ∈ ([4,5,12,999,1012,2012] : List Nat))) ∧ (((3 : Nat) = 3) ∧ (Sd (.ints c.down)) ∧ ((1012 : Nat) ∈ ([4,5,12,999,1012,2012] : List Nat))) ∧ (((33 : Nat) = 33) ∧ (Sd (.marks c.marks)) ∧ ((2012 : Nat) ∈ ([4,5,12,999,1012,2012] : List Nat))) ∧ True) ∧ (true = true) ∧ (true = true)) _ (by kernel_rfl) ⟨⟨rfl,⟨rfl,rfl,(by decide)⟩,⟨rfl,rfl,(by decide)⟩,(congrArg (Value.int .i64) (by first | rfl | omega | assumption | simp | simp_all)),tt⟩,⟨⟨rfl,⟨rfl,rfl,rfl,rfl,rfl,rfl,tt⟩,(by decide)⟩,⟨rfl,⟨⟨rfl,rfl,(by decide)⟩,⟨rfl,rfl,(by decide)⟩,rfl,rfl,rfl,⟨rfl,rfl,(by decide)⟩,tt⟩,(by decide)⟩,⟨rfl,rfl,(by decide)⟩,⟨rfl,rfl,(by decide)⟩,⟨rfl,rfl,(by decide)⟩,tt⟩,rfl,rfl⟩)
  ·rintro ⟨i,ms⟩ hC0
   have hC : (i ≤ c.marks.length) ∧ (ms = goneUp v c.marks i) := hC0
   clear hC0
   obtain ⟨hi,hm⟩ := hC
   refine W.to (⟨[(1,.i v),(4,.ptr 4 0),(5,.ptr 5 0),(6,.i ((i : Nat) : Int))],[(4,⟨26,.fix [.v (.slice none 0 0),.v (.slice none 0 0),.i (0 : Int),.i (0 : Int),.i (0 : Int),.v (.slice none 0 0)]⟩),(5,⟨26,.fix [.own 12 (List.length c.up),.own 1012 (List.length c.down),.i c.value,.i c.time,.i c.proc,.own 2012 ms.length]⟩),(12,⟨3,.row (.ints c.up)⟩),(1012,⟨3,.row (.ints c.down)⟩),(2012,⟨33,.row (.marks ms)⟩)],[4,5,12,999,1012,2012]⟩) rfl ?_
   have hml : ms.length = c.marks.length := by rw [hm]; exact goneUp_len _ _ _
   refine W.seq ?_
   refine Kk cok tab16 hnt [] [1,4,5,6,17] (⟨[(1,.i v),(4,.ptr 4 0),(5,.ptr 5 0),(6,.i ((i : Nat) : Int)),(17,.b (decide (((i : Nat) : Int) < (ms.length : Int))))],[(4,⟨26,.fix [.v (.slice none 0 0),.v (.slice none 0 0),.i (0 : Int),.i (0 : Int),.i (0 : Int),.v (.slice none 0 0)]⟩),(5,⟨26,.fix [.own 12 (List.length c.up),.own 1012 (List.length c.down),.i c.value,.i c.time,.i c.proc,.own 2012 ms.length]⟩),(12,⟨3,.row (.ints c.up)⟩),(1012,⟨3,.row (.ints c.down)⟩),(2012,⟨33,.row (.marks ms)⟩)],[4,5,12,999,1012,2012]⟩)
    (True ∧ True ∧ True ∧ True ∧ (True ∧ True ∧ True) ∧ True)
    ⟨tt,tt,tt,tt,⟨tt,tt,tt⟩,tt⟩ ?_
   refine W.ifP (((i : Nat) : Int) < (ms.length : Int)) (.b (decide (((i : Nat) : Int) < (ms.length : Int)))) (by kernel_rfl) rfl trivial ?_ ?_
   ·intro h17
    refine W.skip (thenQ_normal ?_)
    refine W.seq ?_
    refine W.block ?_
    refine Kk cok tab16 hnt [] [1,4,5,6,27] (⟨[(1,.i v),(4,.ptr 4 0),(5,.ptr 5 0),(6,.i ((i : Nat) : Int)),(27,.b (decide (((ms.getD i default).value) = v)))],[(4,⟨26,.fix [.v (.slice none 0 0),.v (.slice none 0 0),.i (0 : Int),.i (0 : Int),.i (0 : Int),.v (.slice none 0 0)]⟩),(5,⟨26,.fix [.own 12 (List.length c.up),.own 1012 (List.length c.down),.i c.value,.i c.time,.i c.proc,.own 2012 ms.length]⟩),(12,⟨3,.row (.ints c.up)⟩),(1012,⟨3,.row (.ints c.down)⟩),(2012,⟨33,.row (.marks ms)⟩)],[4,5,12,999,1012,2012]⟩)
     (True ∧ True ∧ True ∧ (True ∧ True ∧ (0 ≤ ((i : Nat) : Int)) ∧ (((i : Nat) : Int) < (ms.length : Int))) ∧ True ∧ (True ∧ (i < ms.length)) ∧ True ∧ (True ∧ True ∧ True) ∧ True)
     ⟨tt,tt,tt,⟨tt,tt,(by omega),(by omega)⟩,tt,⟨tt,(by omega)⟩,tt,⟨tt,tt,tt⟩,tt⟩ ?_
    refine W.ifP (((ms.getD i default).value) = v) (.b (decide (((ms.getD i default).value) = v))) (by kernel_rfl) rfl trivial ?_ ?_
    ·intro h27
     refine Lk cok tab16 hnt [] (⟨[(1,.i v),(4,.ptr 4 0),(5,.ptr 5 0),(6,.i ((i : Nat) : Int)),(27,.b (decide (((ms.getD i default).value) = v))),(28,.ptr 5 5),(29,.own 2012 ms.length),(30,.i ((i : Nat) : Int)),(31,.pel 2012 4 i 0),(32,.pel 2012 4 i 3)],[(4,⟨26,.fix [.v (.slice none 0 0),.v (.slice none 0 0),.i (0 : Int),.i (0 : Int),.i (0 : Int),.v (.slice none 0 0)]⟩),(5,⟨26,.fix [.own 12 (List.length c.up),.own 1012 (List.length c.down),.i c.value,.i c.time,.i c.proc,.own 2012 ms.length]⟩),(12,⟨3,.row (.ints c.up)⟩),(1012,⟨3,.row (.ints c.down)⟩),(2012,⟨33,.row (.marks (List.set ms i ({ ms.getD i default with gone := true })))⟩)],[4,5,12,999,1012,2012]⟩)
      (True ∧ True ∧ True ∧ (True ∧ True ∧ (0 ≤ ((i : Nat) : Int)) ∧ (((i : Nat) : Int) < (ms.length : Int))) ∧ True ∧ (True ∧ True ∧ (i < ms.length)) ∧ True)
      ⟨tt,tt,tt,⟨tt,tt,(by omega),(by omega)⟩,tt,⟨tt,tt,(by omega)⟩,tt⟩ ?_
     refine blockQ_normal (thenQ_normal ?_)
     refine Lk cok tab16 hnt [] (⟨[(1,.i v),(4,.ptr 4 0),(5,.ptr 5 0),(6,.i (((i + 1) : Nat) : Int)),(18,.i ((i : Nat) : Int)),(19,.i (((i + 1) : Nat) : Int)),(27,.b (decide (((ms.getD i default).value) = v))),(28,.ptr 5 5),(29,.own 2012 ms.length),(30,.i ((i : Nat) : Int)),(31,.pel 2012 4 i 0),(32,.pel 2012 4 i 3)],[(4,⟨26,.fix [.v (.slice none 0 0),.v (.slice none 0 0),.i (0 : Int),.i (0 : Int),.i (0 : Int),.v (.slice none 0 0)]⟩),(5,⟨26,.fix [.own 12 (List.length c.up),.own 1012 (List.length c.down),.i c.value,.i c.time,.i c.proc,.own 2012 ms.length]⟩),(12,⟨3,.row (.ints c.up)⟩),(1012,⟨3,.row (.ints c.down)⟩),(2012,⟨33,.row (.marks (List.set ms i ({ ms.getD i default with gone := true })))⟩)],[4,5,12,999,1012,2012]⟩)
      (True ∧ (True ∧ True ∧ (Fits .i64 (((i + 1) : Nat) : Int))) ∧ True ∧ True)
      ⟨tt,⟨tt,tt,(by exact fits_i64 (by omega) (by omega))⟩,tt,tt⟩ ?_
     refine thenQ_normal ?_
     refine ⟨((i + 1),(List.set ms i ({ ms.getD i default with gone := true }))),(show ((i + 1) ≤ c.marks.length) ∧ ((List.set ms i ({ ms.getD i default with gone := true })) = goneUp v c.marks (i + 1)) from ⟨(by first | assumption | omega | rfl | (intro _ hjj; omega) | (simp; done) | (simp; omega)),(by first | exact gone_yes hm (by omega) h27 | exact gone_no hm (by omega) n27)⟩),(show c.marks.length - (i + 1) < c.marks.length - i from (by first | omega | (simp_all; omega))),?_⟩
     exact Sub.of [] (@cast (((Si v) ∧ (((4 : Nat) = 4) ∧ ((0 : Nat) = 0) ∧ ((4 : Nat) ∈ ([4,5,12,999,1012,2012] : List Nat))) ∧ (((5 : Nat) = 5) ∧ ((0 : Nat) = 0) ∧ ((5 : Nat) ∈ ([4,5,12,999,1012,2012] : List Nat))) ∧ (Si (((i + 1) : Nat) : Int)) ∧ True) ∧ ((((26 : Nat) = 26) ∧ ((((.slice none 0 0) : Value) = (.slice none 0 0)) ∧ (((.slice none 0 0) : Value) = (.slice none 0 0)) ∧ (Si (0 : Int)) ∧ (Si (0 : Int)) ∧ (Si (0 : Int)) ∧ (((.slice none 0 0) : Value) = (.slice none 0 0)) ∧ True) ∧ ((4 : Nat) ∈ ([4,5,12,999,1012,2012] : List Nat))) ∧ (((26 : Nat) = 26) ∧ ((((12 : Nat) = 12) ∧ ((List.length c.up) = (List.length c.up)) ∧ ((12 : Nat) ∈ ([4,5,12,999,1012,2012] : List Nat))) ∧ (((1012 : Nat) = 1012) ∧ ((List.length c.down) = (List.length c.down)) ∧ ((1012 : Nat) ∈ ([4,5,12,999,1012,2012] : List Nat))) ∧ (Si c.value) ∧ (Si c.time) ∧ (Si c.proc) ∧ (((2012 : Nat) = 2012) ∧ (ms.length = (List.length (List.set ms i ({ ms.getD i default with gone := true })))) ∧ ((2012 : Nat) ∈ ([4,5,12,999,1012,2012] : List Nat))) ∧ True) ∧ ((5 : Nat) ∈ ([4,5,12,999,1012,2012] : List Nat))) ∧ (((3 : Nat) = 3) ∧ (Sd (.ints c.up)) ∧ ((12 : Nat) ∈ ([4,5,12,999,1012,2012] : List Nat))) ∧ (((3 : Nat) = 3) ∧ (Sd (.ints c.down)) ∧ ((1012 : Nat) ∈ ([4,5,12,999,1012,2012] : List Nat))) ∧ (((33 : Nat) = 33) ∧ (Sd (.marks (List.set ms i ({ ms.getD i default with gone := true })))) ∧ ((2012 : Nat) ∈ ([4,5,12,999,1012,2012] : List Nat))) ∧ True) ∧ (true = true) ∧ (true = true)) _ (by kernel_rfl) ⟨⟨rfl,⟨rfl,rfl,(by decide)⟩,⟨rfl,rfl,(by decide)⟩,rfl,tt⟩,⟨⟨rfl,⟨rfl,rfl,rfl,rfl,rfl,rfl,tt⟩,(by decide)⟩,⟨rfl,⟨⟨rfl,rfl,(by decide)⟩,⟨rfl,rfl,(by decide)⟩,rfl,rfl,rfl,⟨rfl,(by first | rfl | omega | assumption | (symm; assumption) | simp | simp_all),(by decide)⟩,tt⟩,(by decide)⟩,⟨rfl,rfl,(by decide)⟩,⟨rfl,rfl,(by decide)⟩,⟨rfl,rfl,(by decide)⟩,tt⟩,rfl,rfl⟩)
    ·intro n27
     refine W.skip (blockQ_normal (thenQ_normal ?_))
     refine Lk cok tab16 hnt [] (⟨[(1,.i v),(4,.ptr 4 0),(5,.ptr 5 0),(6,.i (((i + 1) : Nat) : Int)),(18,.i ((i : Nat) : Int)),(19,.i (((i + 1) : Nat) : Int)),(27,.b (decide (((ms.getD i default).value) = v)))],[(4,⟨26,.fix [.v (.slice none 0 0),.v (.slice none 0 0),.i (0 : Int),.i (0 : Int),.i (0 : Int),.v (.slice none 0 0)]⟩),(5,⟨26,.fix [.own 12 (List.length c.up),.own 1012 (List.length c.down),.i c.value,.i c.time,.i c.proc,.own 2012 ms.length]⟩),(12,⟨3,.row (.ints c.up)⟩),(1012,⟨3,.row (.ints c.down)⟩),(2012,⟨33,.row (.marks ms)⟩)],[4,5,12,999,1012,2012]⟩)
      (True ∧ (True ∧ True ∧ (Fits .i64 (((i + 1) : Nat) : Int))) ∧ True ∧ True)
      ⟨tt,⟨tt,tt,(by exact fits_i64 (by omega) (by omega))⟩,tt,tt⟩ ?_
     refine thenQ_normal ?_
     refine ⟨((i + 1),ms),(show ((i + 1) ≤ c.marks.length) ∧ (ms = goneUp v c.marks (i + 1)) from ⟨(by first | assumption | omega | rfl | (intro _ hjj; omega) | (simp; done) | (simp; omega)),(by first | exact gone_yes hm (by omega) h27 | exact gone_no hm (by omega) n27)⟩),(show c.marks.length - (i + 1) < c.marks.length - i from (by first | omega | (simp_all; omega))),?_⟩
     exact Sub.of [] (@cast (((Si v) ∧ (((4 : Nat) = 4) ∧ ((0 : Nat) = 0) ∧ ((4 : Nat) ∈ ([4,5,12,999,1012,2012] : List Nat))) ∧ (((5 : Nat) = 5) ∧ ((0 : Nat) = 0) ∧ ((5 : Nat) ∈ ([4,5,12,999,1012,2012] : List Nat))) ∧ (Si (((i + 1) : Nat) : Int)) ∧ True) ∧ ((((26 : Nat) = 26) ∧ ((((.slice none 0 0) : Value) = (.slice none 0 0)) ∧ (((.slice none 0 0) : Value) = (.slice none 0 0)) ∧ (Si (0 : Int)) ∧ (Si (0 : Int)) ∧ (Si (0 : Int)) ∧ (((.slice none 0 0) : Value) = (.slice none 0 0)) ∧ True) ∧ ((4 : Nat) ∈ ([4,5,12,999,1012,2012] : List Nat))) ∧ (((26 : Nat) = 26) ∧ ((((12 : Nat) = 12) ∧ ((List.length c.up) = (List.length c.up)) ∧ ((12 : Nat) ∈ ([4,5,12,999,1012,2012] : List Nat))) ∧ (((1012 : Nat) = 1012) ∧ ((List.length c.down) = (List.length c.down)) ∧ ((1012 : Nat) ∈ ([4,5,12,999,1012,2012] : List Nat))) ∧ (Si c.value) ∧ (Si c.time) ∧ (Si c.proc) ∧ (((2012 : Nat) = 2012) ∧ (ms.length = ms.length) ∧ ((2012 : Nat) ∈ ([4,5,12,999,1012,2012] : List Nat))) ∧ True) ∧ ((5 : Nat) ∈ ([4,5,12,999,1012,2012] : List Nat))) ∧ (((3 : Nat) = 3) ∧ (Sd (.ints c.up)) ∧ ((12 : Nat) ∈ ([4,5,12,999,1012,2012] : List Nat))) ∧ (((3 : Nat) = 3) ∧ (Sd (.ints c.down)) ∧ ((1012 : Nat) ∈ ([4,5,12,999,1012,2012] : List Nat))) ∧ (((33 : Nat) = 33) ∧ (Sd (.marks ms)) ∧ ((2012 : Nat) ∈ ([4,5,12,999,1012,2012] : List Nat))) ∧ True) ∧ (true = true) ∧ (true = true)) _ (by kernel_rfl) ⟨⟨rfl,⟨rfl,rfl,(by decide)⟩,⟨rfl,rfl,(by decide)⟩,rfl,tt⟩,⟨⟨rfl,⟨rfl,rfl,rfl,rfl,rfl,rfl,tt⟩,(by decide)⟩,⟨rfl,⟨⟨rfl,rfl,(by decide)⟩,⟨rfl,rfl,(by decide)⟩,rfl,rfl,rfl,⟨rfl,rfl,(by decide)⟩,tt⟩,(by decide)⟩,⟨rfl,rfl,(by decide)⟩,⟨rfl,rfl,(by decide)⟩,⟨rfl,rfl,(by decide)⟩,tt⟩,rfl,rfl⟩)
   ·intro n17
    refine W.exit (thenQ_exit (thenQ_exit (blockQ_hit ?_)))
    refine thenQ_normal ?_
    refine Kk cok tab16 hnt [] [4] (⟨[(4,.ptr 4 0)],[(4,⟨26,.fix [.own 12 (List.length c.up),.own 1012 (List.length c.down),.i c.value,.i c.time,.i c.proc,.own 2012 ms.length]⟩),(5,⟨26,.fix [.own 12 (List.length c.up),.own 1012 (List.length c.down),.i c.value,.i c.time,.i c.proc,.own 2012 ms.length]⟩),(12,⟨3,.row (.ints c.up)⟩),(1012,⟨3,.row (.ints c.down)⟩),(2012,⟨33,.row (.marks ms)⟩)],[4,5,12,999,1012,2012]⟩)
     (True ∧ (True ∧ True) ∧ True)
     ⟨tt,⟨tt,tt⟩,tt⟩ ?_
    refine W.ret ?_
    exact endQ_ret (.agg [.own 12 (List.length c.up),.own 1012 (List.length c.down),.i c.value,.i c.time,.i c.proc,.own 2012 ms.length]) (by kernel_rfl) (@cast ((((List.length c.up) = (List.length c.up)) ∧ ((.ints c.up : Dat) = .ints ((takeOut c v).up)) ∧ ((12 : Nat) ∉ ([] : List Nat))) ∧ (((List.length c.down) = (List.length c.down)) ∧ ((.ints c.down : Dat) = .ints ((takeOut c v).down)) ∧ ((1012 : Nat) ∉ ([] : List Nat))) ∧ ((.int .i64 c.value : Value) = .int .i64 ((takeOut c v).value)) ∧ ((.int .i64 c.time : Value) = .int .i64 ((takeOut c v).time)) ∧ ((.int .i64 c.proc : Value) = .int .i64 ((takeOut c v).proc)) ∧ ((ms.length = ms.length) ∧ ((.marks ms : Dat) = .marks ((takeOut c v).marks)) ∧ ((2012 : Nat) ∉ ([] : List Nat))) ∧ True) _ (by kernel_rfl) ⟨⟨rfl,(congrArg Dat.ints (by rw [takeOut_ok (not_g n9)]; first | rfl | exact gone_all hm (by omega))),(by decide)⟩,⟨rfl,(congrArg Dat.ints (by rw [takeOut_ok (not_g n9)]; first | rfl | exact gone_all hm (by omega))),(by decide)⟩,(congrArg (Value.int .i64) (by rw [takeOut_ok (not_g n9)]; first | rfl | exact gone_all hm (by omega))),(congrArg (Value.int .i64) (by rw [takeOut_ok (not_g n9)]; first | rfl | exact gone_all hm (by omega))),(congrArg (Value.int .i64) (by rw [takeOut_ok (not_g n9)]; first | rfl | exact gone_all hm (by omega))),⟨rfl,(congrArg Dat.marks (by rw [takeOut_ok (not_g n9)]; first | rfl | exact gone_all hm (by omega))),(by decide)⟩,tt⟩)
theorem ent16 : Entr prog 16 := ⟨_,func16,rfl,by decide⟩
end Go.Proofs.Try
