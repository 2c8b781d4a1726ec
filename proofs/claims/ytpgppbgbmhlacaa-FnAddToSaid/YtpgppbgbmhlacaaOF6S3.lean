import Derived.Test.YtpgppbgbmhlacaaOF6S0
import Derived.Test.YtpgppbgbmhlacaaOF6S2
import Derived.Test.YtpgppbgbmhlacaaOF6S1
set_option linter.unusedSimpArgs false
set_option linter.unusedVariables false
namespace Go.Proofs.Try
open Go.Ab Go.RowKit
def fs46 : FnS := fnS [.a [some .ints,some .ints,none,none,none,some .marks]] [.copy] (fun _ (c,_) => (.agg [.own 0 (List.length c.up),.own 1 (List.length c.down),.i c.value,.i c.time,.i c.proc,.own 2 (List.length c.marks)],[(3,.ints c.up),(3,.ints c.down),(52,.marks c.marks)],(c.up.length ≤ 1000 ∧ c.down.length ≤ 1000 ∧ c.marks.length ≤ 1000)))
abbrev T46 : Tab := lk []
theorem tab46 : TabOK prog T46 := TabOK.nil
set_option maxRecDepth 100000 in
set_option maxHeartbeats 1000000 in
theorem ok46 : FnOK prog 46 fs46 := by
 refine FnOK.mk cok func46 rfl rfl rfl ?_
 rintro fl ⟨(c : CopyD),_⟩ hpre F hnt0 _
 have hnt : F.nt = 22 := hnt0.trans ntmps46
 replace hpre : (c.up.length ≤ 1000 ∧ c.down.length ≤ 1000 ∧ c.marks.length ≤ 1000) := hpre
 have hs := hpre
 refine W.to (⟨[(0,.agg (cC c))],[],[999]⟩) rfl ?_
 refine W.lenA 0 0 (cC c) (.ints c.up) (by kernel_rfl) (by kernel_rfl) ?_
 intro hl_c_up; replace hl_c_up : List.length c.up ≤ 9223372036854775807 := hl_c_up
 refine W.lenA 0 1 (cC c) (.ints c.down) (by kernel_rfl) (by kernel_rfl) ?_
 intro hl_c_down; replace hl_c_down : List.length c.down ≤ 9223372036854775807 := hl_c_down
 refine W.lenA 0 5 (cC c) (.marks c.marks) (by kernel_rfl) (by kernel_rfl) ?_
 intro hl_c_marks; replace hl_c_marks : List.length c.marks ≤ 9223372036854775807 := hl_c_marks
 refine Kk cok tab46 hnt [] [1,2] (⟨[(1,.ptr 1 0),(2,.ptr 2 0)],[(1,⟨26,.fix (cC c)⟩),(2,⟨26,.fix [.v (.slice none 0 0),.v (.slice none 0 0),.i (0 : Int),.i (0 : Int),.i (0 : Int),.v (.slice none 0 0)]⟩)],[2,1,999]⟩)
  (True ∧ True ∧ True)
  ⟨tt,tt,tt⟩ ?_
 refine W.KA cok tab46 hnt [3,6,7,10,17,20] [2] (⟨[(2,.ptr 2 0)],[(1,⟨26,.fix (cC c)⟩),(2,⟨26,.fix [.own 6 (List.length c.up),.own 10 (List.length c.down),.i c.value,.i c.time,.i c.proc,.own 20 (List.length c.marks)]⟩),(6,⟨3,.row (.ints c.up)⟩),(10,⟨3,.row (.ints c.down)⟩),(20,⟨52,.row (.marks c.marks)⟩)],[20,17,10,7,6,3,2,1,999]⟩)
  (True ∧ True ∧ True ∧ ((True ∧ ((List.length ([] : List Int)) = (List.length ([] : List Int)))) ∧ True ∧ (((List.length ([] : List Int)) + (List.length c.up)) * 8 ≤ 140737488355328)) ∧ True ∧ True ∧ True ∧ ((True ∧ ((List.length ([] : List Int)) = (List.length ([] : List Int)))) ∧ True ∧ (((List.length ([] : List Int)) + (List.length c.down)) * 8 ≤ 140737488355328)) ∧ True ∧ True ∧ True ∧ True ∧ True ∧ True ∧ True ∧ True ∧ True ∧ ((True ∧ ((List.length ([] : List MarkD)) = (List.length ([] : List MarkD)))) ∧ True ∧ (((List.length ([] : List MarkD)) + (List.length c.marks)) * 32 ≤ 140737488355328)) ∧ (True ∧ True ∧ True ∧ True ∧ True ∧ True ∧ True) ∧ (True ∧ True) ∧ True) (by kernel_rfl) (by kernel_rfl)
  ⟨tt,tt,tt,⟨⟨tt,rfl⟩,tt,(by (try simp only [List.length_append,List.length_cons,List.length_nil,List.length_set]); omega)⟩,tt,tt,tt,⟨⟨tt,rfl⟩,tt,(by (try simp only [List.length_append,List.length_cons,List.length_nil,List.length_set]); omega)⟩,tt,tt,tt,tt,tt,tt,tt,tt,tt,⟨⟨tt,rfl⟩,tt,(by (try simp only [List.length_append,List.length_cons,List.length_nil,List.length_set]); omega)⟩,⟨tt,tt,tt,tt,tt,tt,tt⟩,⟨tt,tt⟩,tt⟩ ?_
 refine W.ret ?_
 exact endQ_rows [(0,6),(1,10),(2,20)] (.agg [.own 6 (List.length c.up),.own 10 (List.length c.down),.i c.value,.i c.time,.i c.proc,.own 20 (List.length c.marks)]) (by kernel_rfl) (@cast ((((6 : Nat) = 6) ∧ ((List.length c.up) = (List.length c.up)) ∧ ((0 : Nat) ∈ ([0,1,2] : List Nat))) ∧ (((10 : Nat) = 10) ∧ ((List.length c.down) = (List.length c.down)) ∧ ((1 : Nat) ∈ ([0,1,2] : List Nat))) ∧ (Si c.value) ∧ (Si c.time) ∧ (Si c.proc) ∧ (((20 : Nat) = 20) ∧ ((List.length c.marks) = (List.length c.marks)) ∧ ((2 : Nat) ∈ ([0,1,2] : List Nat))) ∧ True) _ (by kernel_rfl) ⟨⟨rfl,rfl,(by decide)⟩,⟨rfl,rfl,(by decide)⟩,rfl,rfl,rfl,⟨rfl,rfl,(by decide)⟩,tt⟩) (@cast ((((3 : Nat) = 3) ∧ (Sd (.ints c.up)) ∧ ((0 : Nat) ∈ ([0,1,2] : List Nat))) ∧ (((3 : Nat) = 3) ∧ (Sd (.ints c.down)) ∧ ((1 : Nat) ∈ ([0,1,2] : List Nat))) ∧ (((52 : Nat) = 52) ∧ (Sd (.marks c.marks)) ∧ ((2 : Nat) ∈ ([0,1,2] : List Nat))) ∧ True) _ (by kernel_rfl) ⟨⟨rfl,rfl,(by decide)⟩,⟨rfl,rfl,(by decide)⟩,⟨rfl,rfl,(by decide)⟩,tt⟩) (by kernel_rfl)
theorem ent46 : Entr prog 46 := ⟨_,func46,rfl,by decide⟩
end Go.Proofs.Try

set_option linter.unusedSimpArgs false
set_option linter.unusedVariables false
namespace Go.Proofs.Try
open Go.Ab Go.RowKit
def fs24 : FnS := fnS [.a [some .ints,some .ints,none,none,none,some .marks],.o,.o] [.copy,.int,.int] (fun _ (c,p,n,_) => (.tup [.agg (cC ((addTo c p n).1)),.b ((addTo c p n).2)],[],True))
abbrev T24 : Tab := lk [(36,fs36),(46,fs46),(49,fs49)]
theorem tab24 : TabOK prog T24 := (TabOK.cons ok36 ent36 (TabOK.cons ok46 ent46 (TabOK.cons ok49 ent49 TabOK.nil)))
set_option maxRecDepth 100000 in
set_option maxHeartbeats 1000000 in
theorem ok24 : FnOK prog 24 fs24 := by
 refine FnOK.mk cok func24 rfl rfl rfl ?_
 rintro fl ⟨(c : CopyD),(p : Int),(n : Int),_⟩ hpre F hnt0 _
 have hnt : F.nt = 55 := hnt0.trans ntmps24
 clear hpre
 refine W.to (⟨[(0,.agg (cC c)),(1,.i p),(2,.i n)],[],[999]⟩) rfl ?_
 refine W.lenA 0 0 (cC c) (.ints c.up) (by kernel_rfl) (by kernel_rfl) ?_
 intro hl_c_up; replace hl_c_up : List.length c.up ≤ 9223372036854775807 := hl_c_up
 refine W.lenA 0 1 (cC c) (.ints c.down) (by kernel_rfl) (by kernel_rfl) ?_
 intro hl_c_down; replace hl_c_down : List.length c.down ≤ 9223372036854775807 := hl_c_down
 refine W.lenA 0 5 (cC c) (.marks c.marks) (by kernel_rfl) (by kernel_rfl) ?_
 intro hl_c_marks; replace hl_c_marks : List.length c.marks ≤ 9223372036854775807 := hl_c_marks
 refine Kk cok tab24 hnt [] [1,2,3,6] (⟨[(1,.i p),(2,.i n),(3,.ptr 3 0),(6,.ptr 6 0)],[(3,⟨26,.fix (cC c)⟩),(6,⟨26,.fix [.v (.slice none 0 0),.v (.slice none 0 0),.i (0 : Int),.i (0 : Int),.i (0 : Int),.v (.slice none 0 0)]⟩)],[6,3,999]⟩)
  (True ∧ True ∧ True ∧ True)
  ⟨tt,tt,tt,tt⟩ ?_
 refine W.seq ?_
 refine Kk cok tab24 hnt [] [1,2,3,6,21] (⟨[(1,.i p),(2,.i n),(3,.ptr 3 0),(6,.ptr 6 0),(21,.b (((!(validCopy c)) || (!(within p (0 : Int) (2 : Int)))) || (!(within n (-20 : Int) (20 : Int)))))],[(3,⟨26,.fix (cC c)⟩),(6,⟨26,.fix [.v (.slice none 0 0),.v (.slice none 0 0),.i (0 : Int),.i (0 : Int),.i (0 : Int),.v (.slice none 0 0)]⟩)],[6,3,999]⟩)
  ((fun (Z1:Bool)=>((fun (Z2:Bool)=>(True ∧ ((True ∧ (((True ∧ (True ∧ (True ∧ (True ∧ (True ∧ (True ∧ (True ∧ True))))))) ∧ True) ∧ True)) ∧ (True ∧ (True ∧ (((!Z1) = true → True) ∧ (((!Z1) = true → (True ∧ (((((!Z1) = true) ∧ True) ∧ (True ∧ (True ∧ True))) ∧ True))) ∧ (((!Z1) = true → (((!Z1) = true) ∧ True)) ∧ ((True ∧ ((Z1 = true → True) ∧ (Z1 = false → ((!Z1) = true) ∧ True))) ∧ (True ∧ (((!Z2) = true → True) ∧ (((!Z2) = true → (True ∧ (((((!Z2) = true) ∧ True) ∧ (True ∧ (True ∧ True))) ∧ True))) ∧ (((!Z2) = true → (((!Z2) = true) ∧ True)) ∧ ((True ∧ ((Z2 = true → True) ∧ (Z2 = false → ((!Z2) = true) ∧ True))) ∧ True)))))))))))))) (Z1 || (!(within p (0 : Int) (2 : Int)))))) (!(validCopy c)))
  ⟨tt,⟨tt,⟨⟨tt,tt,tt,tt,tt,tt,tt,tt⟩,tt⟩,tt⟩,tt,tt,(fun _ => trivial),(fun hG => ⟨tt,⟨⟨hG,tt⟩,tt,tt,tt⟩,tt⟩),(fun hG => ⟨hG,tt⟩),⟨tt,(fun _ => trivial),(fun hp => ⟨(not_t hp),tt⟩)⟩,tt,(fun _ => trivial),(fun hG => ⟨tt,⟨⟨hG,tt⟩,tt,tt,tt⟩,tt⟩),(fun hG => ⟨hG,tt⟩),⟨tt,(fun _ => trivial),(fun hp => ⟨(not_t hp),tt⟩)⟩,tt⟩ ?_
 refine W.if' (((!(validCopy c)) || (!(within p (0 : Int) (2 : Int)))) || (!(within n (-20 : Int) (20 : Int)))) (.b (((!(validCopy c)) || (!(within p (0 : Int) (2 : Int)))) || (!(within n (-20 : Int) (20 : Int))))) (by kernel_rfl) rfl trivial ?_ ?_
 ·intro h21
  refine Kk cok tab24 hnt [] [6,7] (⟨[(6,.ptr 6 0),(7,.b false)],[(3,⟨26,.fix (cC c)⟩),(6,⟨26,.fix [.v (.slice none 0 0),.v (.slice none 0 0),.i (0 : Int),.i (0 : Int),.i (0 : Int),.v (.slice none 0 0)]⟩)],[6,3,999]⟩)
   (True ∧ (True ∧ True) ∧ True ∧ True)
   ⟨tt,⟨tt,tt⟩,tt,tt⟩ ?_
  refine W.ret (thenQ_ret ?_)
  exact endQ_ret (.tup [.agg [.v (.slice none 0 0),.v (.slice none 0 0),.i (0 : Int),.i (0 : Int),.i (0 : Int),.v (.slice none 0 0)],.b false]) (by kernel_rfl) (@cast (((((Value.slice none 0 0 : Value) = .slice none 0 0) ∧ ((Dat.ints ((addTo c p n).1.up)).len = 0)) ∧ (((Value.slice none 0 0 : Value) = .slice none 0 0) ∧ ((Dat.ints ((addTo c p n).1.down)).len = 0)) ∧ ((.int .i64 (0 : Int) : Value) = .int .i64 ((addTo c p n).1.value)) ∧ ((.int .i64 (0 : Int) : Value) = .int .i64 ((addTo c p n).1.time)) ∧ ((.int .i64 (0 : Int) : Value) = .int .i64 ((addTo c p n).1.proc)) ∧ (((Value.slice none 0 0 : Value) = .slice none 0 0) ∧ ((Dat.marks ((addTo c p n).1.marks)).len = 0)) ∧ True) ∧ ((.bool false : Value) = .bool ((addTo c p n).2)) ∧ True) _ (by kernel_rfl) ⟨⟨⟨rfl,(by show List.length ((addTo c p n).1.up) = 0; rw [addTo_no (gen_bad2 h21)]; try rfl)⟩,⟨rfl,(by show List.length ((addTo c p n).1.down) = 0; rw [addTo_no (gen_bad2 h21)]; try rfl)⟩,(congrArg (Value.int .i64) (by rw [addTo_no (gen_bad2 h21)]; try rfl)),(congrArg (Value.int .i64) (by rw [addTo_no (gen_bad2 h21)]; try rfl)),(congrArg (Value.int .i64) (by rw [addTo_no (gen_bad2 h21)]; try rfl)),⟨rfl,(by show List.length ((addTo c p n).1.marks) = 0; rw [addTo_no (gen_bad2 h21)]; try rfl)⟩,tt⟩,(congrArg Value.bool (by rw [addTo_no (gen_bad2 h21)]; try rfl)),tt⟩)
 ·intro n21
  have hg : addGood c p n = true := gen_ok2 n21
  have hf := add_facts hg
  refine W.skip (thenQ_normal ?_)
  refine Kk cok tab24 hnt [] [1,2,6,8] (⟨[(1,.i p),(2,.i n),(6,.ptr 6 0),(8,.ptr 8 0)],[(3,⟨26,.fix (cC c)⟩),(6,⟨26,.fix [.v (.slice none 0 0),.v (.slice none 0 0),.i (0 : Int),.i (0 : Int),.i (0 : Int),.v (.slice none 0 0)]⟩),(8,⟨26,.fix [.own 24 (List.length c.up),.own 1024 (List.length c.down),.i c.value,.i c.time,.i c.proc,.own 2024 (List.length c.marks)]⟩),(24,⟨3,.row (.ints c.up)⟩),(1024,⟨3,.row (.ints c.down)⟩),(2024,⟨52,.row (.marks c.marks)⟩)],[8,2024,1024,24,6,3,999]⟩)
   (True ∧ (True ∧ ((True ∧ True ∧ True ∧ True ∧ True ∧ True ∧ True ∧ True) ∧ True) ∧ c.up.length ≤ 1000 ∧ c.down.length ≤ 1000 ∧ c.marks.length ≤ 1000) ∧ True ∧ (True ∧ True) ∧ True)
   ⟨tt,⟨tt,⟨⟨tt,tt,tt,tt,tt,tt,tt,tt⟩,tt⟩,(by omega)⟩,tt,⟨tt,tt⟩,tt⟩ ?_
  refine W.KA cok tab24 hnt [] [1,2,6,8] (⟨[(1,.i p),(2,.i n),(6,.ptr 6 0),(8,.ptr 8 0)],[(3,⟨26,.fix (cC c)⟩),(6,⟨26,.fix [.v (.slice none 0 0),.v (.slice none 0 0),.i (0 : Int),.i (0 : Int),.i (0 : Int),.v (.slice none 0 0)]⟩),(8,⟨26,.fix [.own 24 (List.length c.up),.own 1024 (List.length c.down),.i c.value,.i c.time,.i c.proc,.own 2024 (List.length c.marks)]⟩),(24,⟨3,.row (.ints (List.set c.up (Int.toNat p) ((List.getD c.up (Int.toNat p) 0) + (max n (0 : Int)))))⟩),(1024,⟨3,.row (.ints c.down)⟩),(2024,⟨52,.row (.marks c.marks)⟩)],[8,2024,1024,24,6,3,999]⟩)
   (True ∧ True ∧ True ∧ True ∧ True ∧ True ∧ (True ∧ True ∧ (0 ≤ p) ∧ (p < (((List.length c.up) : Nat) : Int))) ∧ (True ∧ ((Int.toNat p) < (List.length c.up))) ∧ True ∧ (True ∧ True) ∧ (True ∧ True ∧ (Fits .i64 ((List.getD c.up (Int.toNat p) 0) + (max n (0 : Int))))) ∧ (True ∧ True ∧ (0 ≤ p) ∧ (p < (((List.length c.up) : Nat) : Int))) ∧ (True ∧ True ∧ ((Int.toNat p) < (List.length c.up))) ∧ True) (by kernel_rfl) (by kernel_rfl)
   ⟨tt,tt,tt,tt,tt,tt,⟨tt,tt,(by omega),(by omega)⟩,⟨tt,(by omega)⟩,tt,⟨tt,tt⟩,⟨tt,tt,(by exact fits_i64 (by (first | omega | (simp only [List.length_set]; done) | (simp only [List.length_append,List.length_cons,List.length_nil,List.length_take,List.length_drop,List.length_set,List.length_replicate,List.length_map] at *; omega) | assumption)) (by (first | omega | (simp only [List.length_set]; done) | (simp only [List.length_append,List.length_cons,List.length_nil,List.length_take,List.length_drop,List.length_set,List.length_replicate,List.length_map] at *; omega) | assumption)))⟩,⟨tt,tt,(by omega),(by omega)⟩,⟨tt,tt,(by omega)⟩,tt⟩ ?_
  refine W.KA cok tab24 hnt [] [6,8] (⟨[(6,.ptr 6 0),(8,.ptr 8 0)],[(3,⟨26,.fix (cC c)⟩),(6,⟨26,.fix [.v (.slice none 0 0),.v (.slice none 0 0),.i (0 : Int),.i (0 : Int),.i (0 : Int),.v (.slice none 0 0)]⟩),(8,⟨26,.fix [.own 24 (List.length c.up),.own 1024 (List.length c.down),.i c.value,.i c.time,.i c.proc,.own 2024 (List.length c.marks)]⟩),(24,⟨3,.row (.ints (List.set c.up (Int.toNat p) ((List.getD c.up (Int.toNat p) 0) + (max n (0 : Int)))))⟩),(1024,⟨3,.row (.ints (List.set c.down (Int.toNat p) ((List.getD c.down (Int.toNat p) 0) + (max (0 - n) (0 : Int)))))⟩),(2024,⟨52,.row (.marks c.marks)⟩)],[8,2024,1024,24,6,3,999]⟩)
   (True ∧ True ∧ True ∧ True ∧ True ∧ True ∧ (True ∧ True ∧ (0 ≤ p) ∧ (p < (((List.length c.down) : Nat) : Int))) ∧ (True ∧ ((Int.toNat p) < (List.length c.down))) ∧ True ∧ (True ∧ (Fits .i64 (0 - n))) ∧ (True ∧ True) ∧ (True ∧ True ∧ (Fits .i64 ((List.getD c.down (Int.toNat p) 0) + (max (0 - n) (0 : Int))))) ∧ (True ∧ True ∧ (0 ≤ p) ∧ (p < (((List.length c.down) : Nat) : Int))) ∧ (True ∧ True ∧ ((Int.toNat p) < (List.length c.down))) ∧ True) (by kernel_rfl) (by kernel_rfl)
   ⟨tt,tt,tt,tt,tt,tt,⟨tt,tt,(by omega),(by omega)⟩,⟨tt,(by omega)⟩,tt,⟨tt,(by exact fits_i64 (by omega) (by omega))⟩,⟨tt,tt⟩,⟨tt,tt,(by exact fits_i64 (by (first | omega | (simp only [List.length_set]; done) | (simp only [List.length_append,List.length_cons,List.length_nil,List.length_take,List.length_drop,List.length_set,List.length_replicate,List.length_map] at *; omega) | assumption)) (by (first | omega | (simp only [List.length_set]; done) | (simp only [List.length_append,List.length_cons,List.length_nil,List.length_take,List.length_drop,List.length_set,List.length_replicate,List.length_map] at *; omega) | assumption)))⟩,⟨tt,tt,(by omega),(by omega)⟩,⟨tt,tt,(by omega)⟩,tt⟩ ?_
  refine W.seq ?_
  refine Kk cok tab24 hnt [] [6,8,52] (⟨[(6,.ptr 6 0),(8,.ptr 8 0),(52,.b (!(validCopy ⟨List.set c.up (Int.toNat p) ((List.getD c.up (Int.toNat p) 0) + (max n (0 : Int))),List.set c.down (Int.toNat p) ((List.getD c.down (Int.toNat p) 0) + (max (0 - n) (0 : Int))),c.value,c.time,c.proc,c.marks⟩)))],[(3,⟨26,.fix (cC c)⟩),(6,⟨26,.fix [.v (.slice none 0 0),.v (.slice none 0 0),.i (0 : Int),.i (0 : Int),.i (0 : Int),.v (.slice none 0 0)]⟩),(8,⟨26,.fix [.own 24 (List.length c.up),.own 1024 (List.length c.down),.i c.value,.i c.time,.i c.proc,.own 2024 (List.length c.marks)]⟩),(24,⟨3,.row (.ints (List.set c.up (Int.toNat p) ((List.getD c.up (Int.toNat p) 0) + (max n (0 : Int)))))⟩),(1024,⟨3,.row (.ints (List.set c.down (Int.toNat p) ((List.getD c.down (Int.toNat p) 0) + (max (0 - n) (0 : Int)))))⟩),(2024,⟨52,.row (.marks c.marks)⟩)],[8,2024,1024,24,6,3,999]⟩)
   (True ∧ (True ∧ ((True ∧ (True ∧ ((List.length c.up) = (List.length (List.set c.up (Int.toNat p) ((List.getD c.up (Int.toNat p) 0) + (max n (0 : Int))))))) ∧ (True ∧ ((List.length c.down) = (List.length (List.set c.down (Int.toNat p) ((List.getD c.down (Int.toNat p) 0) + (max (0 - n) (0 : Int))))))) ∧ True ∧ True ∧ True ∧ (True ∧ ((List.length c.marks) = (List.length c.marks))) ∧ True) ∧ True) ∧ True) ∧ True ∧ True)
   ⟨tt,⟨tt,⟨⟨tt,⟨tt,(by (first | omega | (simp only [List.length_set]; done) | (simp only [List.length_append,List.length_cons,List.length_nil,List.length_take,List.length_drop,List.length_set,List.length_replicate,List.length_map] at *; omega) | assumption))⟩,⟨tt,(by (first | omega | (simp only [List.length_set]; done) | (simp only [List.length_append,List.length_cons,List.length_nil,List.length_take,List.length_drop,List.length_set,List.length_replicate,List.length_map] at *; omega) | assumption))⟩,tt,tt,tt,⟨tt,rfl⟩,tt⟩,tt⟩,tt⟩,tt,tt⟩ ?_
  refine W.if' (!(validCopy ⟨List.set c.up (Int.toNat p) ((List.getD c.up (Int.toNat p) 0) + (max n (0 : Int))),List.set c.down (Int.toNat p) ((List.getD c.down (Int.toNat p) 0) + (max (0 - n) (0 : Int))),c.value,c.time,c.proc,c.marks⟩)) (.b (!(validCopy ⟨List.set c.up (Int.toNat p) ((List.getD c.up (Int.toNat p) 0) + (max n (0 : Int))),List.set c.down (Int.toNat p) ((List.getD c.down (Int.toNat p) 0) + (max (0 - n) (0 : Int))),c.value,c.time,c.proc,c.marks⟩))) (by kernel_rfl) rfl trivial ?_ ?_
  ·intro h52
   refine Kk cok tab24 hnt [] [6,7] (⟨[(6,.ptr 6 0),(7,.b false)],[(3,⟨26,.fix (cC c)⟩),(6,⟨26,.fix [.v (.slice none 0 0),.v (.slice none 0 0),.i (0 : Int),.i (0 : Int),.i (0 : Int),.v (.slice none 0 0)]⟩),(8,⟨26,.fix [.own 24 (List.length c.up),.own 1024 (List.length c.down),.i c.value,.i c.time,.i c.proc,.own 2024 (List.length c.marks)]⟩),(24,⟨3,.row (.ints (List.set c.up (Int.toNat p) ((List.getD c.up (Int.toNat p) 0) + (max n (0 : Int)))))⟩),(1024,⟨3,.row (.ints (List.set c.down (Int.toNat p) ((List.getD c.down (Int.toNat p) 0) + (max (0 - n) (0 : Int)))))⟩),(2024,⟨52,.row (.marks c.marks)⟩)],[8,2024,1024,24,6,3,999]⟩)
    (True ∧ (True ∧ True) ∧ True ∧ True)
    ⟨tt,⟨tt,tt⟩,tt,tt⟩ ?_
   refine W.ret (thenQ_ret ?_)
   exact endQ_ret (.tup [.agg [.v (.slice none 0 0),.v (.slice none 0 0),.i (0 : Int),.i (0 : Int),.i (0 : Int),.v (.slice none 0 0)],.b false]) (by kernel_rfl) (@cast (((((Value.slice none 0 0 : Value) = .slice none 0 0) ∧ ((Dat.ints ((addTo c p n).1.up)).len = 0)) ∧ (((Value.slice none 0 0 : Value) = .slice none 0 0) ∧ ((Dat.ints ((addTo c p n).1.down)).len = 0)) ∧ ((.int .i64 (0 : Int) : Value) = .int .i64 ((addTo c p n).1.value)) ∧ ((.int .i64 (0 : Int) : Value) = .int .i64 ((addTo c p n).1.time)) ∧ ((.int .i64 (0 : Int) : Value) = .int .i64 ((addTo c p n).1.proc)) ∧ (((Value.slice none 0 0 : Value) = .slice none 0 0) ∧ ((Dat.marks ((addTo c p n).1.marks)).len = 0)) ∧ True) ∧ ((.bool false : Value) = .bool ((addTo c p n).2)) ∧ True) _ (by kernel_rfl) ⟨⟨⟨rfl,(by show List.length ((addTo c p n).1.up) = 0; rw [addTo_bad hg (not_f h52)]; try rfl)⟩,⟨rfl,(by show List.length ((addTo c p n).1.down) = 0; rw [addTo_bad hg (not_f h52)]; try rfl)⟩,(congrArg (Value.int .i64) (by rw [addTo_bad hg (not_f h52)]; try rfl)),(congrArg (Value.int .i64) (by rw [addTo_bad hg (not_f h52)]; try rfl)),(congrArg (Value.int .i64) (by rw [addTo_bad hg (not_f h52)]; try rfl)),⟨rfl,(by show List.length ((addTo c p n).1.marks) = 0; rw [addTo_bad hg (not_f h52)]; try rfl)⟩,tt⟩,(congrArg Value.bool (by rw [addTo_bad hg (not_f h52)]; try rfl)),tt⟩)
  ·intro n52
   refine W.skip (thenQ_normal ?_)
   refine Kk cok tab24 hnt [] [6,7] (⟨[(6,.ptr 6 0),(7,.b true)],[(3,⟨26,.fix (cC c)⟩),(6,⟨26,.fix [.own 24 (List.length c.up),.own 1024 (List.length c.down),.i c.value,.i c.time,.i c.proc,.own 2024 (List.length c.marks)]⟩),(8,⟨26,.fix [.own 24 (List.length c.up),.own 1024 (List.length c.down),.i c.value,.i c.time,.i c.proc,.own 2024 (List.length c.marks)]⟩),(24,⟨3,.row (.ints (List.set c.up (Int.toNat p) ((List.getD c.up (Int.toNat p) 0) + (max n (0 : Int)))))⟩),(1024,⟨3,.row (.ints (List.set c.down (Int.toNat p) ((List.getD c.down (Int.toNat p) 0) + (max (0 - n) (0 : Int)))))⟩),(2024,⟨52,.row (.marks c.marks)⟩)],[8,2024,1024,24,6,3,999]⟩)
    (True ∧ (True ∧ True) ∧ True ∧ True)
    ⟨tt,⟨tt,tt⟩,tt,tt⟩ ?_
   refine W.ret ?_
   exact endQ_ret (.tup [.agg [.own 24 (List.length c.up),.own 1024 (List.length c.down),.i c.value,.i c.time,.i c.proc,.own 2024 (List.length c.marks)],.b true]) (by kernel_rfl) (@cast (((((List.length c.up) = (List.length (List.set c.up (Int.toNat p) ((List.getD c.up (Int.toNat p) 0) + (max n (0 : Int)))))) ∧ ((.ints (List.set c.up (Int.toNat p) ((List.getD c.up (Int.toNat p) 0) + (max n (0 : Int)))) : Dat) = .ints ((addTo c p n).1.up)) ∧ ((24 : Nat) ∉ ([] : List Nat))) ∧ (((List.length c.down) = (List.length (List.set c.down (Int.toNat p) ((List.getD c.down (Int.toNat p) 0) + (max (0 - n) (0 : Int)))))) ∧ ((.ints (List.set c.down (Int.toNat p) ((List.getD c.down (Int.toNat p) 0) + (max (0 - n) (0 : Int)))) : Dat) = .ints ((addTo c p n).1.down)) ∧ ((1024 : Nat) ∉ ([] : List Nat))) ∧ ((.int .i64 c.value : Value) = .int .i64 ((addTo c p n).1.value)) ∧ ((.int .i64 c.time : Value) = .int .i64 ((addTo c p n).1.time)) ∧ ((.int .i64 c.proc : Value) = .int .i64 ((addTo c p n).1.proc)) ∧ (((List.length c.marks) = (List.length c.marks)) ∧ ((.marks c.marks : Dat) = .marks ((addTo c p n).1.marks)) ∧ ((2024 : Nat) ∉ ([] : List Nat))) ∧ True) ∧ ((.bool true : Value) = .bool ((addTo c p n).2)) ∧ True) _ (by kernel_rfl) ⟨⟨⟨(by first | rfl | omega | assumption | (symm; assumption) | simp | simp_all),(congrArg Dat.ints (by rw [addTo_ok hg (not_g n52)]; try rfl)),(by decide)⟩,⟨(by first | rfl | omega | assumption | (symm; assumption) | simp | simp_all),(congrArg Dat.ints (by rw [addTo_ok hg (not_g n52)]; try rfl)),(by decide)⟩,(congrArg (Value.int .i64) (by rw [addTo_ok hg (not_g n52)]; try rfl)),(congrArg (Value.int .i64) (by rw [addTo_ok hg (not_g n52)]; try rfl)),(congrArg (Value.int .i64) (by rw [addTo_ok hg (not_g n52)]; try rfl)),⟨rfl,(congrArg Dat.marks (by rw [addTo_ok hg (not_g n52)]; try rfl)),(by decide)⟩,tt⟩,(congrArg Value.bool (by rw [addTo_ok hg (not_g n52)]; try rfl)),tt⟩)
theorem ent24 : Entr prog 24 := ⟨_,func24,rfl,by decide⟩
end Go.Proofs.Try

set_option linter.unusedSimpArgs false
set_option linter.unusedVariables false
namespace Go.Proofs.Try
open Go.Ab Go.RowKit
def fs31 : FnS := fnS [.s .ints,.s .ints] [.ints,.ints] (fun _ (a,b,_) => (.b (decide (a = b)),[],True))
abbrev T31 : Tab := lk []
theorem tab31 : TabOK prog T31 := TabOK.nil
set_option maxRecDepth 100000 in
set_option maxHeartbeats 1000000 in
theorem ok31 : FnOK prog 31 fs31 := by
 refine FnOK.mk cok func31 rfl rfl rfl ?_
 rintro fl ⟨(a : List Int),(b : List Int),_⟩ hpre F hnt0 _
 have hnt : F.nt = 26 := hnt0.trans ntmps31
 clear hpre
 refine W.to (⟨[(0,.sl (.ints a)),(1,.sl (.ints b))],[],[999]⟩) rfl ?_
 refine W.lenOf 0 (.ints a) (by kernel_rfl) ?_
 intro hl_a; replace hl_a : List.length a ≤ 9223372036854775807 := hl_a
 refine W.lenOf 1 (.ints b) (by kernel_rfl) ?_
 intro hl_b; replace hl_b : List.length b ≤ 9223372036854775807 := hl_b
 refine Kk cok tab31 hnt [] [0,1] (⟨[(0,.sl (.ints a)),(1,.sl (.ints b))],[],[999]⟩)
  (True ∧ True)
  ⟨tt,tt⟩ ?_
 refine W.seq ?_
 refine Kk cok tab31 hnt [] [0,1,10] (⟨[(0,.sl (.ints a)),(1,.sl (.ints b)),(10,.b (decide ((a.length : Int) ≠ (b.length : Int))))],[],[999]⟩)
  (True ∧ True ∧ True ∧ True ∧ (True ∧ True ∧ True) ∧ True)
  ⟨tt,tt,tt,tt,⟨tt,tt,tt⟩,tt⟩ ?_
 refine W.ifP ((a.length : Int) ≠ (b.length : Int)) (.b (decide ((a.length : Int) ≠ (b.length : Int)))) (by kernel_rfl) rfl trivial ?_ ?_
 ·intro h10
  refine Kk cok tab31 hnt [] [4] (⟨[(4,.b false)],[],[999]⟩)
   (True ∧ True)
   ⟨tt,tt⟩ ?_
  refine W.ret (thenQ_ret ?_)
  exact endQ_ret (.b false) (by kernel_rfl) (@cast ((.bool false : Value) = .bool (decide (a = b))) _ (by kernel_rfl) (congrArg Value.bool (by symm; exact decide_eq_false (fun e => h10 (by rw [e])))))
 ·intro n10
  refine W.skip (thenQ_normal ?_)
  refine W.seq ?_
  refine Kk cok tab31 hnt [] [0,1,5] (⟨[(0,.sl (.ints a)),(1,.sl (.ints b)),(5,.i (0 : Int))],[],[999]⟩)
   (True ∧ True)
   ⟨tt,tt⟩ ?_
  refine W.block ?_
  refine W.loop (ι := Nat) (fun (i : Nat) => (⟨[(0,.sl (.ints a)),(1,.sl (.ints b)),(5,.i ((i : Nat) : Int))],[],[999]⟩ : St))
   (fun (i : Nat) => (i ≤ a.length) ∧ (∀ j,j < i → a.getD j 0 = b.getD j 0))
   (fun (i : Nat) => (a.length - i : Nat)) (0) ?_ ?_ ?_
  ·exact (show (0 ≤ a.length) ∧ (∀ j,j < 0 → a.getD j 0 = b.getD j 0) from ⟨(by first | assumption | omega | rfl | (intro _ hjj; omega) | (simp; done) | (simp; omega)),(by exact upto_zero)⟩)
  ·exact Sub.of [] (@cast (((Sd (.ints a)) ∧ (Sd (.ints b)) ∧ ((.int .i64 (0 : Int) : Value) = .int .i64 ((0 : Nat) : Int)) ∧ True) ∧ True ∧ (true = true) ∧ (true = true)) _ (by kernel_rfl) ⟨⟨rfl,rfl,(congrArg (Value.int .i64) (by first | rfl | omega | assumption | simp | simp_all)),tt⟩,tt,rfl,rfl⟩)
  ·rintro i hC0
   have hC : (i ≤ a.length) ∧ (∀ j,j < i → a.getD j 0 = b.getD j 0) := hC0
   clear hC0
   obtain ⟨hi,hA⟩ := hC
   refine W.to (⟨[(0,.sl (.ints a)),(1,.sl (.ints b)),(5,.i ((i : Nat) : Int))],[],[999]⟩) rfl ?_
   refine W.seq ?_
   refine Kk cok tab31 hnt [] [0,1,5,14] (⟨[(0,.sl (.ints a)),(1,.sl (.ints b)),(5,.i ((i : Nat) : Int)),(14,.b (decide (((i : Nat) : Int) < (a.length : Int))))],[],[999]⟩)
    (True ∧ True ∧ True ∧ (True ∧ True ∧ True) ∧ True)
    ⟨tt,tt,tt,⟨tt,tt,tt⟩,tt⟩ ?_
   refine W.ifP (((i : Nat) : Int) < (a.length : Int)) (.b (decide (((i : Nat) : Int) < (a.length : Int)))) (by kernel_rfl) rfl trivial ?_ ?_
   ·intro h14
    refine W.skip (thenQ_normal ?_)
    refine W.seq ?_
    refine W.block ?_
    refine W.KA cok tab31 hnt [] [0,1,5,25] (⟨[(0,.sl (.ints a)),(1,.sl (.ints b)),(5,.i ((i : Nat) : Int)),(25,.b (decide ((a.getD i 0) ≠ (b.getD i 0))))],[],[999]⟩)
     (True ∧ True ∧ (True ∧ True ∧ (0 ≤ ((i : Nat) : Int)) ∧ (((i : Nat) : Int) < (a.length : Int))) ∧ True ∧ True ∧ True ∧ (True ∧ True ∧ (0 ≤ ((i : Nat) : Int)) ∧ (((i : Nat) : Int) < (b.length : Int))) ∧ True ∧ (True ∧ True ∧ True) ∧ True) (by kernel_rfl) (by kernel_rfl)
     ⟨tt,tt,⟨tt,tt,(by omega),(by omega)⟩,tt,tt,tt,⟨tt,tt,(by omega),(by omega)⟩,tt,⟨tt,tt,tt⟩,tt⟩ ?_
    refine W.ifP ((a.getD i 0) ≠ (b.getD i 0)) (.b (decide ((a.getD i 0) ≠ (b.getD i 0)))) (by kernel_rfl) rfl trivial ?_ ?_
    ·intro h25
     refine Kk cok tab31 hnt [] [4] (⟨[(4,.b false)],[],[999]⟩)
      (True ∧ True)
      ⟨tt,tt⟩ ?_
     refine W.ret (blockQ_ret (thenQ_ret (thenQ_ret (blockQ_ret (thenQ_ret ?_)))))
     exact endQ_ret (.b false) (by kernel_rfl) (@cast ((.bool false : Value) = .bool (decide (a = b))) _ (by kernel_rfl) (congrArg Value.bool (by symm; exact decide_eq_false (fun e => h25 (by rw [e])))))
    ·intro n25
     refine W.skip (blockQ_normal (thenQ_normal ?_))
     refine Lk cok tab31 hnt [] (⟨[(0,.sl (.ints a)),(1,.sl (.ints b)),(5,.i (((i + 1) : Nat) : Int)),(15,.i ((i : Nat) : Int)),(16,.i (((i + 1) : Nat) : Int)),(25,.b (decide ((a.getD i 0) ≠ (b.getD i 0))))],[],[999]⟩)
      (True ∧ (True ∧ True ∧ (Fits .i64 (((i + 1) : Nat) : Int))) ∧ True ∧ True)
      ⟨tt,⟨tt,tt,(by exact fits_i64 (by omega) (by omega))⟩,tt,tt⟩ ?_
     refine thenQ_normal ?_
     refine ⟨((i + 1)),(show ((i + 1) ≤ a.length) ∧ (∀ j,j < (i + 1) → a.getD j 0 = b.getD j 0) from ⟨(by first | assumption | omega | rfl | (intro _ hjj; omega) | (simp; done) | (simp; omega)),(by exact upto_succ hA (Decidable.not_not.1 n25))⟩),(show a.length - (i + 1) < a.length - i from (by first | omega | (simp_all; omega))),?_⟩
     exact Sub.of [] (@cast (((Sd (.ints a)) ∧ (Sd (.ints b)) ∧ (Si (((i + 1) : Nat) : Int)) ∧ True) ∧ True ∧ (true = true) ∧ (true = true)) _ (by kernel_rfl) ⟨⟨rfl,rfl,rfl,tt⟩,tt,rfl,rfl⟩)
   ·intro n14
    refine W.exit (thenQ_exit (thenQ_exit (blockQ_hit ?_)))
    refine thenQ_normal ?_
    refine Kk cok tab31 hnt [] [4] (⟨[(4,.b true)],[],[999]⟩)
     (True ∧ True)
     ⟨tt,tt⟩ ?_
    refine W.ret ?_
    exact endQ_ret (.b true) (by kernel_rfl) (@cast ((.bool true : Value) = .bool (decide (a = b))) _ (by kernel_rfl) (congrArg Value.bool (by symm; exact decide_eq_true (ints_ext (by omega) (fun j hj => hA j (by omega))))))
theorem ent31 : Entr prog 31 := ⟨_,func31,rfl,by decide⟩
end Go.Proofs.Try

set_option linter.unusedSimpArgs false
set_option linter.unusedVariables false
namespace Go.Proofs.Try
open Go.Ab Go.RowKit
def fs21 : FnS := fnS [.a [some .ints,some .ints,none,none,none,some .marks],.a [some .ints,some .ints,none,none,none,some .marks]] [.copy,.copy] (fun _ (a,b,_) => (.b (sameC a b),[],True))
abbrev T21 : Tab := lk [(31,fs31)]
theorem tab21 : TabOK prog T21 := (TabOK.cons ok31 ent31 TabOK.nil)
set_option maxRecDepth 100000 in
set_option maxHeartbeats 1000000 in
theorem ok21 : FnOK prog 21 fs21 := by
 refine FnOK.mk cok func21 rfl rfl rfl ?_
 rintro fl ⟨(a : CopyD),(b : CopyD),_⟩ hpre F hnt0 _
 have hnt : F.nt = 64 := hnt0.trans ntmps21
 clear hpre
 refine W.to (⟨[(0,.agg (cC a)),(1,.agg (cC b))],[],[999]⟩) rfl ?_
 refine W.lenA 0 0 (cC a) (.ints a.up) (by kernel_rfl) (by kernel_rfl) ?_
 intro hl_a_up; replace hl_a_up : List.length a.up ≤ 9223372036854775807 := hl_a_up
 refine W.lenA 0 1 (cC a) (.ints a.down) (by kernel_rfl) (by kernel_rfl) ?_
 intro hl_a_down; replace hl_a_down : List.length a.down ≤ 9223372036854775807 := hl_a_down
 refine W.lenA 0 5 (cC a) (.marks a.marks) (by kernel_rfl) (by kernel_rfl) ?_
 intro hl_a_marks; replace hl_a_marks : List.length a.marks ≤ 9223372036854775807 := hl_a_marks
 refine W.lenA 1 0 (cC b) (.ints b.up) (by kernel_rfl) (by kernel_rfl) ?_
 intro hl_b_up; replace hl_b_up : List.length b.up ≤ 9223372036854775807 := hl_b_up
 refine W.lenA 1 1 (cC b) (.ints b.down) (by kernel_rfl) (by kernel_rfl) ?_
 intro hl_b_down; replace hl_b_down : List.length b.down ≤ 9223372036854775807 := hl_b_down
 refine W.lenA 1 5 (cC b) (.marks b.marks) (by kernel_rfl) (by kernel_rfl) ?_
 intro hl_b_marks; replace hl_b_marks : List.length b.marks ≤ 9223372036854775807 := hl_b_marks
 refine Kk cok tab21 hnt [] [2,3] (⟨[(2,.ptr 2 0),(3,.ptr 3 0)],[(2,⟨26,.fix (cC a)⟩),(3,⟨26,.fix (cC b)⟩)],[3,2,999]⟩)
  (True ∧ True ∧ True ∧ True)
  ⟨tt,tt,tt,tt⟩ ?_
 refine W.seq ?_
 refine Kk cok tab21 hnt [] [2,3,12] (⟨[(2,.ptr 2 0),(3,.ptr 3 0),(12,.b (decide ((((List.length a.marks) : Nat) : Int) ≠ (((List.length b.marks) : Nat) : Int))))],[(2,⟨26,.fix (cC a)⟩),(3,⟨26,.fix (cC b)⟩)],[3,2,999]⟩)
  (True ∧ True ∧ True ∧ True ∧ True ∧ True ∧ (True ∧ True ∧ True) ∧ True)
  ⟨tt,tt,tt,tt,tt,tt,⟨tt,tt,tt⟩,tt⟩ ?_
 refine W.ifP ((((List.length a.marks) : Nat) : Int) ≠ (((List.length b.marks) : Nat) : Int)) (.b (decide ((((List.length a.marks) : Nat) : Int) ≠ (((List.length b.marks) : Nat) : Int)))) (by kernel_rfl) rfl trivial ?_ ?_
 ·intro h12
  refine Kk cok tab21 hnt [] [4] (⟨[(4,.b false)],[(2,⟨26,.fix (cC a)⟩),(3,⟨26,.fix (cC b)⟩)],[3,2,999]⟩)
   (True ∧ True)
   ⟨tt,tt⟩ ?_
  refine W.ret (thenQ_ret ?_)
  exact endQ_ret (.b false) (by kernel_rfl) (@cast ((.bool false : Value) = .bool (sameC a b)) _ (by kernel_rfl) (congrArg Value.bool (by symm; exact same_no (fun e => h12 (by rw [e])))))
 ·intro n12
  refine W.skip (thenQ_normal ?_)
  refine W.seq ?_
  refine Kk cok tab21 hnt [] [2,3,5] (⟨[(2,.ptr 2 0),(3,.ptr 3 0),(5,.i (0 : Int))],[(2,⟨26,.fix (cC a)⟩),(3,⟨26,.fix (cC b)⟩)],[3,2,999]⟩)
   (True ∧ True)
   ⟨tt,tt⟩ ?_
  refine W.block ?_
  refine W.loop (ι := Nat) (fun (i : Nat) => (⟨[(2,.ptr 2 0),(3,.ptr 3 0),(5,.i ((i : Nat) : Int))],[(2,⟨26,.fix (cC a)⟩),(3,⟨26,.fix (cC b)⟩)],[2,3,999]⟩ : St))
   (fun (i : Nat) => (i ≤ a.marks.length) ∧ (∀ j,j < i → a.marks.getD j default = b.marks.getD j default))
   (fun (i : Nat) => (a.marks.length - i : Nat)) (0) ?_ ?_ ?_
  ·exact (show (0 ≤ a.marks.length) ∧ (∀ j,j < 0 → a.marks.getD j default = b.marks.getD j default) from ⟨(by first | assumption | omega | rfl | (intro _ hjj; omega) | (simp; done) | (simp; omega)),(by exact upto_zero)⟩)
  ·exact Sub.of [] (@cast (((((2 : Nat) = 2) ∧ ((0 : Nat) = 0) ∧ ((2 : Nat) ∈ ([2,3,999] : List Nat))) ∧ (((3 : Nat) = 3) ∧ ((0 : Nat) = 0) ∧ ((3 : Nat) ∈ ([2,3,999] : List Nat))) ∧ ((.int .i64 (0 : Int) : Value) = .int .i64 ((0 : Nat) : Int)) ∧ True) ∧ ((((26 : Nat) = 26) ∧ (Sc a) ∧ ((2 : Nat) ∈ ([2,3,999] : List Nat))) ∧ (((26 : Nat) = 26) ∧ (Sc b) ∧ ((3 : Nat) ∈ ([2,3,999] : List Nat))) ∧ True) ∧ (true = true) ∧ (true = true)) _ (by kernel_rfl) ⟨⟨⟨rfl,rfl,(by decide)⟩,⟨rfl,rfl,(by decide)⟩,(congrArg (Value.int .i64) (by first | rfl | omega | assumption | simp | simp_all)),tt⟩,⟨⟨rfl,⟨rfl,rfl,rfl,rfl,rfl,rfl,tt⟩,(by decide)⟩,⟨rfl,⟨rfl,rfl,rfl,rfl,rfl,rfl,tt⟩,(by decide)⟩,tt⟩,rfl,rfl⟩)
  ·rintro i hC0
   have hC : (i ≤ a.marks.length) ∧ (∀ j,j < i → a.marks.getD j default = b.marks.getD j default) := hC0
   clear hC0
   obtain ⟨hi,hA⟩ := hC
   refine W.to (⟨[(2,.ptr 2 0),(3,.ptr 3 0),(5,.i ((i : Nat) : Int))],[(2,⟨26,.fix (cC a)⟩),(3,⟨26,.fix (cC b)⟩)],[2,3,999]⟩) rfl ?_
   refine W.seq ?_
   refine Kk cok tab21 hnt [] [2,3,5,17] (⟨[(2,.ptr 2 0),(3,.ptr 3 0),(5,.i ((i : Nat) : Int)),(17,.b (decide (((i : Nat) : Int) < (((List.length a.marks) : Nat) : Int))))],[(2,⟨26,.fix (cC a)⟩),(3,⟨26,.fix (cC b)⟩)],[2,3,999]⟩)
    (True ∧ True ∧ True ∧ True ∧ (True ∧ True ∧ True) ∧ True)
    ⟨tt,tt,tt,tt,⟨tt,tt,tt⟩,tt⟩ ?_
   refine W.ifP (((i : Nat) : Int) < (((List.length a.marks) : Nat) : Int)) (.b (decide (((i : Nat) : Int) < (((List.length a.marks) : Nat) : Int)))) (by kernel_rfl) rfl trivial ?_ ?_
   ·intro h17
    refine W.skip (thenQ_normal ?_)
    refine W.seq ?_
    refine W.block ?_
    refine W.KA cok tab21 hnt [] [2,3,5,30] (⟨[(2,.ptr 2 0),(3,.ptr 3 0),(5,.i ((i : Nat) : Int)),(30,.b (!((decide (((List.getD a.marks i default).value) = ((List.getD b.marks i default).value))) && ((decide (((List.getD a.marks i default).proc) = ((List.getD b.marks i default).proc))) && ((decide (((List.getD a.marks i default).number) = ((List.getD b.marks i default).number))) && ((((List.getD a.marks i default).gone) == ((List.getD b.marks i default).gone)) && true))))))],[(2,⟨26,.fix (cC a)⟩),(3,⟨26,.fix (cC b)⟩)],[2,3,999]⟩)
     (True ∧ True ∧ True ∧ (True ∧ True ∧ (0 ≤ ((i : Nat) : Int)) ∧ (((i : Nat) : Int) < (((List.length a.marks) : Nat) : Int))) ∧ True ∧ True ∧ True ∧ True ∧ (True ∧ True ∧ (0 ≤ ((i : Nat) : Int)) ∧ (((i : Nat) : Int) < (((List.length b.marks) : Nat) : Int))) ∧ True ∧ (True ∧ True) ∧ True) (by kernel_rfl) (by kernel_rfl)
     ⟨tt,tt,tt,⟨tt,tt,(by omega),(by omega)⟩,tt,tt,tt,tt,⟨tt,tt,(by omega),(by omega)⟩,tt,⟨tt,tt⟩,tt⟩ ?_
    refine W.if' (!((decide (((List.getD a.marks i default).value) = ((List.getD b.marks i default).value))) && ((decide (((List.getD a.marks i default).proc) = ((List.getD b.marks i default).proc))) && ((decide (((List.getD a.marks i default).number) = ((List.getD b.marks i default).number))) && ((((List.getD a.marks i default).gone) == ((List.getD b.marks i default).gone)) && true))))) (.b (!((decide (((List.getD a.marks i default).value) = ((List.getD b.marks i default).value))) && ((decide (((List.getD a.marks i default).proc) = ((List.getD b.marks i default).proc))) && ((decide (((List.getD a.marks i default).number) = ((List.getD b.marks i default).number))) && ((((List.getD a.marks i default).gone) == ((List.getD b.marks i default).gone)) && true)))))) (by kernel_rfl) rfl trivial ?_ ?_
    ·intro h30
     refine Kk cok tab21 hnt [] [4] (⟨[(4,.b false)],[(2,⟨26,.fix (cC a)⟩),(3,⟨26,.fix (cC b)⟩)],[2,3,999]⟩)
      (True ∧ True)
      ⟨tt,tt⟩ ?_
     refine W.ret (blockQ_ret (thenQ_ret (thenQ_ret (blockQ_ret (thenQ_ret ?_)))))
     exact endQ_ret (.b false) (by kernel_rfl) (@cast ((.bool false : Value) = .bool (sameC a b)) _ (by kernel_rfl) (congrArg Value.bool (by symm; exact same_no (fun e => by rw [e] at h30; exact mark_self h30))))
    ·intro n30
     have n30_0 : ((List.getD a.marks i default).value) = ((List.getD b.marks i default).value) := of_decide_eq_true (and_l (not_g n30))
     have n30_1 : ((List.getD a.marks i default).proc) = ((List.getD b.marks i default).proc) := of_decide_eq_true (and_l (and_r (not_g n30)))
     have n30_2 : ((List.getD a.marks i default).number) = ((List.getD b.marks i default).number) := of_decide_eq_true (and_l (and_r (and_r (not_g n30))))
     refine W.skip (blockQ_normal (thenQ_normal ?_))
     refine Lk cok tab21 hnt [] (⟨[(2,.ptr 2 0),(3,.ptr 3 0),(5,.i (((i + 1) : Nat) : Int)),(18,.i ((i : Nat) : Int)),(19,.i (((i + 1) : Nat) : Int)),(30,.b (!((decide (((List.getD a.marks i default).value) = ((List.getD b.marks i default).value))) && ((decide (((List.getD a.marks i default).proc) = ((List.getD b.marks i default).proc))) && ((decide (((List.getD a.marks i default).number) = ((List.getD b.marks i default).number))) && ((((List.getD a.marks i default).gone) == ((List.getD b.marks i default).gone)) && true))))))],[(2,⟨26,.fix (cC a)⟩),(3,⟨26,.fix (cC b)⟩)],[2,3,999]⟩)
      (True ∧ (True ∧ True ∧ (Fits .i64 (((i + 1) : Nat) : Int))) ∧ True ∧ True)
      ⟨tt,⟨tt,tt,(by exact fits_i64 (by omega) (by omega))⟩,tt,tt⟩ ?_
     refine thenQ_normal ?_
     refine ⟨((i + 1)),(show ((i + 1) ≤ a.marks.length) ∧ (∀ j,j < (i + 1) → a.marks.getD j default = b.marks.getD j default) from ⟨(by first | assumption | omega | rfl | (intro _ hjj; omega) | (simp; done) | (simp; omega)),(by exact upto_succ hA (mark_same n30))⟩),(show a.marks.length - (i + 1) < a.marks.length - i from (by first | omega | (simp_all; omega))),?_⟩
     exact Sub.of [] (@cast (((((2 : Nat) = 2) ∧ ((0 : Nat) = 0) ∧ ((2 : Nat) ∈ ([2,3,999] : List Nat))) ∧ (((3 : Nat) = 3) ∧ ((0 : Nat) = 0) ∧ ((3 : Nat) ∈ ([2,3,999] : List Nat))) ∧ (Si (((i + 1) : Nat) : Int)) ∧ True) ∧ ((((26 : Nat) = 26) ∧ (Sc a) ∧ ((2 : Nat) ∈ ([2,3,999] : List Nat))) ∧ (((26 : Nat) = 26) ∧ (Sc b) ∧ ((3 : Nat) ∈ ([2,3,999] : List Nat))) ∧ True) ∧ (true = true) ∧ (true = true)) _ (by kernel_rfl) ⟨⟨⟨rfl,rfl,(by decide)⟩,⟨rfl,rfl,(by decide)⟩,rfl,tt⟩,⟨⟨rfl,⟨rfl,rfl,rfl,rfl,rfl,rfl,tt⟩,(by decide)⟩,⟨rfl,⟨rfl,rfl,rfl,rfl,rfl,rfl,tt⟩,(by decide)⟩,tt⟩,rfl,rfl⟩)
   ·intro n17
    refine W.exit (thenQ_exit (thenQ_exit (blockQ_hit ?_)))
    refine thenQ_normal ?_
    refine Kk cok tab21 hnt [] [4] (⟨[(4,.b (((((decide (a.up = b.up)) && (decide (a.down = b.down))) && (decide (a.value = b.value))) && (decide (a.time = b.time))) && (decide (a.proc = b.proc))))],[(2,⟨26,.fix (cC a)⟩),(3,⟨26,.fix (cC b)⟩)],[2,3,999]⟩)
     ((fun (Z1:Bool)=>((fun (Z2:Bool)=>((fun (Z3:Bool)=>((fun (Z4:Bool)=>(True ∧ (True ∧ (True ∧ (True ∧ ((True ∧ ((True ∧ (True ∧ True)) ∧ True)) ∧ (True ∧ ((Z1 = true → True) ∧ ((Z1 = true → ((Z1 = true) ∧ True)) ∧ ((Z1 = true → True) ∧ ((Z1 = true → ((Z1 = true) ∧ True)) ∧ ((Z1 = true → (True ∧ ((((Z1 = true) ∧ True) ∧ (((Z1 = true) ∧ True) ∧ True)) ∧ True))) ∧ ((True ∧ ((Z1 = true → (Z1 = true) ∧ True) ∧ (Z1 = false → True))) ∧ (True ∧ ((Z2 = true → True) ∧ ((Z2 = true → ((Z2 = true) ∧ True)) ∧ ((Z2 = true → True) ∧ ((Z2 = true → ((Z2 = true) ∧ True)) ∧ ((Z2 = true → (((Z2 = true) ∧ True) ∧ (((Z2 = true) ∧ True) ∧ True))) ∧ ((True ∧ ((Z2 = true → (Z2 = true) ∧ True) ∧ (Z2 = false → True))) ∧ (True ∧ ((Z3 = true → True) ∧ ((Z3 = true → ((Z3 = true) ∧ True)) ∧ ((Z3 = true → True) ∧ ((Z3 = true → ((Z3 = true) ∧ True)) ∧ ((Z3 = true → (((Z3 = true) ∧ True) ∧ (((Z3 = true) ∧ True) ∧ True))) ∧ ((True ∧ ((Z3 = true → (Z3 = true) ∧ True) ∧ (Z3 = false → True))) ∧ (True ∧ ((Z4 = true → True) ∧ ((Z4 = true → ((Z4 = true) ∧ True)) ∧ ((Z4 = true → True) ∧ ((Z4 = true → ((Z4 = true) ∧ True)) ∧ ((Z4 = true → (((Z4 = true) ∧ True) ∧ (((Z4 = true) ∧ True) ∧ True))) ∧ ((True ∧ ((Z4 = true → (Z4 = true) ∧ True) ∧ (Z4 = false → True))) ∧ (True ∧ True))))))))))))))))))))))))))))))))))) (Z3 && (decide (a.time = b.time))))) (Z2 && (decide (a.value = b.value))))) (Z1 && (decide (a.down = b.down))))) (decide (a.up = b.up)))
     ⟨tt,tt,tt,tt,⟨tt,⟨tt,tt,tt⟩,tt⟩,tt,(fun _ => trivial),(fun hG => ⟨hG,tt⟩),(fun _ => trivial),(fun hG => ⟨hG,tt⟩),(fun hG => ⟨tt,⟨⟨hG,tt⟩,⟨hG,tt⟩,tt⟩,tt⟩),⟨tt,(fun hp => ⟨hp,tt⟩),(fun _ => trivial)⟩,tt,(fun _ => trivial),(fun hG => ⟨hG,tt⟩),(fun _ => trivial),(fun hG => ⟨hG,tt⟩),(fun hG => ⟨⟨hG,tt⟩,⟨hG,tt⟩,tt⟩),⟨tt,(fun hp => ⟨hp,tt⟩),(fun _ => trivial)⟩,tt,(fun _ => trivial),(fun hG => ⟨hG,tt⟩),(fun _ => trivial),(fun hG => ⟨hG,tt⟩),(fun hG => ⟨⟨hG,tt⟩,⟨hG,tt⟩,tt⟩),⟨tt,(fun hp => ⟨hp,tt⟩),(fun _ => trivial)⟩,tt,(fun _ => trivial),(fun hG => ⟨hG,tt⟩),(fun _ => trivial),(fun hG => ⟨hG,tt⟩),(fun hG => ⟨⟨hG,tt⟩,⟨hG,tt⟩,tt⟩),⟨tt,(fun hp => ⟨hp,tt⟩),(fun _ => trivial)⟩,tt,tt⟩ ?_
    refine W.ret ?_
    exact endQ_ret (.b (((((decide (a.up = b.up)) && (decide (a.down = b.down))) && (decide (a.value = b.value))) && (decide (a.time = b.time))) && (decide (a.proc = b.proc)))) (by kernel_rfl) (@cast ((.bool (((((decide (a.up = b.up)) && (decide (a.down = b.down))) && (decide (a.value = b.value))) && (decide (a.time = b.time))) && (decide (a.proc = b.proc))) : Value) = .bool (sameC a b)) _ (by kernel_rfl) (congrArg Value.bool (by exact same_yes (marks_ext (by omega) (fun j hj => hA j (by omega))))))
theorem ent21 : Entr prog 21 := ⟨_,func21,rfl,by decide⟩
end Go.Proofs.Try

set_option linter.unusedSimpArgs false
set_option linter.unusedVariables false
namespace Go.Proofs.Try
open Go.Ab Go.RowKit
def fs10 : FnS := fnS [.a [some .ints,some .ints,none,none,none,some .marks]] [.copy] (fun _ (c,_) => (.i (totalOf c),[],True))
abbrev T10 : Tab := lk [(12,fs12)]
theorem tab10 : TabOK prog T10 := (TabOK.cons ok12 ent12 TabOK.nil)
set_option maxRecDepth 100000 in
set_option maxHeartbeats 1000000 in
theorem ok10 : FnOK prog 10 fs10 := by
 refine FnOK.mk cok func10 rfl rfl rfl ?_
 rintro fl ⟨(c : CopyD),_⟩ hpre F hnt0 _
 have hnt : F.nt = 27 := hnt0.trans ntmps10
 clear hpre
 refine W.to (⟨[(0,.agg (cC c))],[],[999]⟩) rfl ?_
 refine W.lenA 0 0 (cC c) (.ints c.up) (by kernel_rfl) (by kernel_rfl) ?_
 intro hl_c_up; replace hl_c_up : List.length c.up ≤ 9223372036854775807 := hl_c_up
 refine W.lenA 0 1 (cC c) (.ints c.down) (by kernel_rfl) (by kernel_rfl) ?_
 intro hl_c_down; replace hl_c_down : List.length c.down ≤ 9223372036854775807 := hl_c_down
 refine W.lenA 0 5 (cC c) (.marks c.marks) (by kernel_rfl) (by kernel_rfl) ?_
 intro hl_c_marks; replace hl_c_marks : List.length c.marks ≤ 9223372036854775807 := hl_c_marks
 refine Kk cok tab10 hnt [] [1] (⟨[(1,.ptr 1 0)],[(1,⟨26,.fix (cC c)⟩)],[1,999]⟩)
  (True ∧ True ∧ True)
  ⟨tt,tt,tt⟩ ?_
 refine Kk cok tab10 hnt [] [1,3] (⟨[(1,.ptr 1 0),(3,.i (0 : Int))],[(1,⟨26,.fix (cC c)⟩)],[1,999]⟩)
  (True ∧ True)
  ⟨tt,tt⟩ ?_
 refine W.seq ?_
 refine Kk cok tab10 hnt [] [1,3,7] (⟨[(1,.ptr 1 0),(3,.i (0 : Int)),(7,.b (!(validCopy c)))],[(1,⟨26,.fix (cC c)⟩)],[1,999]⟩)
  (True ∧ (True ∧ ((True ∧ True ∧ True ∧ True ∧ True ∧ True ∧ True ∧ True) ∧ True) ∧ True) ∧ True ∧ True)
  ⟨tt,⟨tt,⟨⟨tt,tt,tt,tt,tt,tt,tt,tt⟩,tt⟩,tt⟩,tt,tt⟩ ?_
 refine W.if' (!(validCopy c)) (.b (!(validCopy c))) (by kernel_rfl) rfl trivial ?_ ?_
 ·intro h7
  refine Kk cok tab10 hnt [] [2] (⟨[(2,.i (0 : Int))],[(1,⟨26,.fix (cC c)⟩)],[1,999]⟩)
   (True ∧ True ∧ True)
   ⟨tt,tt,tt⟩ ?_
  refine W.ret (thenQ_ret ?_)
  exact endQ_ret (.i (0 : Int)) (by kernel_rfl) (@cast ((.int .i64 (0 : Int) : Value) = .int .i64 (totalOf c)) _ (by kernel_rfl) (congrArg (Value.int .i64) (by unfold totalOf; rw [not_f h7]; try rfl)))
 ·intro n7
  refine W.skip (thenQ_normal ?_)
  refine W.seq ?_
  refine Kk cok tab10 hnt [] [1,3,9] (⟨[(1,.ptr 1 0),(3,.i (0 : Int)),(9,.i (0 : Int))],[(1,⟨26,.fix (cC c)⟩)],[1,999]⟩)
   (True ∧ True)
   ⟨tt,tt⟩ ?_
  refine W.block ?_
  refine W.loop (ι := Int × Nat) (fun (x : Int × Nat) => match x with | (x,k) => (⟨[(1,.ptr 1 0),(3,.i x),(9,.i ((k : Nat) : Int))],[(1,⟨26,.fix (cC c)⟩)],[1,999]⟩ : St))
   (fun (x : Int × Nat) => match x with | (x,k) => (k ≤ 3) ∧ (x = sumN k (fun jj => c.up.getD jj 0 - c.down.getD jj 0)))
   (fun (x : Int × Nat) => match x with | (x,k) => (3 - k : Nat)) ((0 : Int),0) ?_ ?_ ?_
  ·exact (show (0 ≤ 3) ∧ ((0 : Int) = sumN 0 (fun jj => c.up.getD jj 0 - c.down.getD jj 0)) from ⟨(by first | assumption | omega | rfl | (intro _ hjj; omega) | (simp; done) | (simp; omega)),(by rfl)⟩)
  ·exact Sub.of [] (@cast (((((1 : Nat) = 1) ∧ ((0 : Nat) = 0) ∧ ((1 : Nat) ∈ ([1,999] : List Nat))) ∧ (Si (0 : Int)) ∧ ((.int .i64 (0 : Int) : Value) = .int .i64 ((0 : Nat) : Int)) ∧ True) ∧ ((((26 : Nat) = 26) ∧ (Sc c) ∧ ((1 : Nat) ∈ ([1,999] : List Nat))) ∧ True) ∧ (true = true) ∧ (true = true)) _ (by kernel_rfl) ⟨⟨⟨rfl,rfl,(by decide)⟩,rfl,(congrArg (Value.int .i64) (by first | rfl | omega | assumption | simp | simp_all)),tt⟩,⟨⟨rfl,⟨rfl,rfl,rfl,rfl,rfl,rfl,tt⟩,(by decide)⟩,tt⟩,rfl,rfl⟩)
  ·rintro ⟨x,k⟩ hC0
   have hC : (k ≤ 3) ∧ (x = sumN k (fun jj => c.up.getD jj 0 - c.down.getD jj 0)) := hC0
   clear hC0
   obtain ⟨hk,hx⟩ := hC
   refine W.to (⟨[(1,.ptr 1 0),(3,.i x),(9,.i ((k : Nat) : Int))],[(1,⟨26,.fix (cC c)⟩)],[1,999]⟩) rfl ?_
   have hl := up_len (not_g n7)
   have hb := sum3_bnd (not_g n7) hk
   have hu1 := hl.2.2.1 k
   have hd1 := hl.2.2.2.1 k
   refine Kk cok tab10 hnt [] [1,3,9,10] (⟨[(1,.ptr 1 0),(3,.i x),(9,.i ((k : Nat) : Int)),(10,.b (decide (((k : Nat) : Int) < (3 : Int))))],[(1,⟨26,.fix (cC c)⟩)],[1,999]⟩)
    ((True ∧ True ∧ True) ∧ True)
    ⟨⟨tt,tt,tt⟩,tt⟩ ?_
   refine W.seq ?_
   refine W.ifP (((k : Nat) : Int) < (3 : Int)) (.b (decide (((k : Nat) : Int) < (3 : Int)))) (by kernel_rfl) rfl trivial ?_ ?_
   ·intro h10
    refine W.skip (thenQ_normal ?_)
    refine W.seq ?_
    refine W.block ?_
    refine Kk cok tab10 hnt [] [1,3,4,9] (⟨[(1,.ptr 1 0),(3,.i x),(4,.i ((k : Nat) : Int)),(9,.i ((k : Nat) : Int))],[(1,⟨26,.fix (cC c)⟩)],[1,999]⟩)
     (True ∧ True ∧ True)
     ⟨tt,tt,tt⟩ ?_
    refine W.LA cok tab10 hnt [] (⟨[(1,.ptr 1 0),(3,.i (x + ((List.getD c.up k 0) - (List.getD c.down k 0)))),(4,.i ((k : Nat) : Int)),(9,.i ((k : Nat) : Int)),(12,.i x),(13,.ptr 1 0),(14,.sl (.ints c.up)),(15,.i ((k : Nat) : Int)),(16,.ep [.i (List.getD c.up k 0)]),(17,.i (List.getD c.up k 0)),(18,.ptr 1 1),(19,.sl (.ints c.down)),(20,.i ((k : Nat) : Int)),(21,.ep [.i (List.getD c.down k 0)]),(22,.i (List.getD c.down k 0)),(23,.i ((List.getD c.up k 0) - (List.getD c.down k 0))),(24,.i (x + ((List.getD c.up k 0) - (List.getD c.down k 0))))],[(1,⟨26,.fix (cC c)⟩)],[1,999]⟩)
     (True ∧ True ∧ True ∧ True ∧ (True ∧ True ∧ (0 ≤ ((k : Nat) : Int)) ∧ (((k : Nat) : Int) < (((List.length c.up) : Nat) : Int))) ∧ True ∧ True ∧ True ∧ True ∧ (True ∧ True ∧ (0 ≤ ((k : Nat) : Int)) ∧ (((k : Nat) : Int) < (((List.length c.down) : Nat) : Int))) ∧ True ∧ (True ∧ True ∧ (Fits .i64 ((List.getD c.up k 0) - (List.getD c.down k 0)))) ∧ (True ∧ True ∧ (Fits .i64 (x + ((List.getD c.up k 0) - (List.getD c.down k 0))))) ∧ True ∧ True) (by kernel_rfl) (by kernel_rfl)
     ⟨tt,tt,tt,tt,⟨tt,tt,(by omega),(by omega)⟩,tt,tt,tt,tt,⟨tt,tt,(by omega),(by omega)⟩,tt,⟨tt,tt,(by exact fits_i64 (by (first | omega | (simp only [List.length_set]; done) | (simp only [List.length_append,List.length_cons,List.length_nil,List.length_take,List.length_drop,List.length_set,List.length_replicate,List.length_map] at *; omega) | assumption)) (by (first | omega | (simp only [List.length_set]; done) | (simp only [List.length_append,List.length_cons,List.length_nil,List.length_take,List.length_drop,List.length_set,List.length_replicate,List.length_map] at *; omega) | assumption)))⟩,⟨tt,tt,(by exact fits_i64 (by (first | omega | (simp only [List.length_set]; done) | (simp only [List.length_append,List.length_cons,List.length_nil,List.length_take,List.length_drop,List.length_set,List.length_replicate,List.length_map] at *; omega) | assumption)) (by (first | omega | (simp only [List.length_set]; done) | (simp only [List.length_append,List.length_cons,List.length_nil,List.length_take,List.length_drop,List.length_set,List.length_replicate,List.length_map] at *; omega) | assumption)))⟩,tt,tt⟩ ?_
    refine blockQ_normal (thenQ_normal ?_)
    refine Lk cok tab10 hnt [] (⟨[(1,.ptr 1 0),(3,.i (x + ((List.getD c.up k 0) - (List.getD c.down k 0)))),(4,.i ((k : Nat) : Int)),(9,.i (((k + 1) : Nat) : Int)),(12,.i x),(13,.ptr 1 0),(14,.sl (.ints c.up)),(15,.i ((k : Nat) : Int)),(16,.ep [.i (List.getD c.up k 0)]),(17,.i (List.getD c.up k 0)),(18,.ptr 1 1),(19,.sl (.ints c.down)),(20,.i ((k : Nat) : Int)),(21,.ep [.i (List.getD c.down k 0)]),(22,.i (List.getD c.down k 0)),(23,.i ((List.getD c.up k 0) - (List.getD c.down k 0))),(24,.i (x + ((List.getD c.up k 0) - (List.getD c.down k 0)))),(25,.i (((k + 1) : Nat) : Int))],[(1,⟨26,.fix (cC c)⟩)],[1,999]⟩)
     ((True ∧ True ∧ (Fits .i64 (((k + 1) : Nat) : Int))) ∧ True ∧ True)
     ⟨⟨tt,tt,(by exact fits_i64 (by omega) (by omega))⟩,tt,tt⟩ ?_
    refine thenQ_normal ?_
    refine ⟨((x + ((List.getD c.up k 0) - (List.getD c.down k 0))),(k + 1)),(show ((k + 1) ≤ 3) ∧ ((x + ((List.getD c.up k 0) - (List.getD c.down k 0))) = sumN (k + 1) (fun jj => c.up.getD jj 0 - c.down.getD jj 0)) from ⟨(by first | assumption | omega | rfl | (intro _ hjj; omega) | (simp; done) | (simp; omega)),(by rw [hx]; simp only [sumN]; try omega)⟩),(show 3 - (k + 1) < 3 - k from (by first | omega | (simp_all; omega))),?_⟩
    exact Sub.of [] (@cast (((((1 : Nat) = 1) ∧ ((0 : Nat) = 0) ∧ ((1 : Nat) ∈ ([1,999] : List Nat))) ∧ (Si (x + ((List.getD c.up k 0) - (List.getD c.down k 0)))) ∧ (Si (((k + 1) : Nat) : Int)) ∧ True) ∧ ((((26 : Nat) = 26) ∧ (Sc c) ∧ ((1 : Nat) ∈ ([1,999] : List Nat))) ∧ True) ∧ (true = true) ∧ (true = true)) _ (by kernel_rfl) ⟨⟨⟨rfl,rfl,(by decide)⟩,rfl,rfl,tt⟩,⟨⟨rfl,⟨rfl,rfl,rfl,rfl,rfl,rfl,tt⟩,(by decide)⟩,tt⟩,rfl,rfl⟩)
   ·intro n10
    refine W.exit (thenQ_exit (thenQ_exit (blockQ_hit ?_)))
    refine thenQ_normal ?_
    refine Kk cok tab10 hnt [] [2] (⟨[(2,.i x)],[(1,⟨26,.fix (cC c)⟩)],[1,999]⟩)
     (True ∧ True ∧ True)
     ⟨tt,tt,tt⟩ ?_
    refine W.ret ?_
    exact endQ_ret (.i x) (by kernel_rfl) (@cast ((.int .i64 x : Value) = .int .i64 (totalOf c)) _ (by kernel_rfl) (congrArg (Value.int .i64) (by unfold totalOf; rw [not_g n7,hx,show k = 3 by omega]; try rfl)))
theorem ent10 : Entr prog 10 := ⟨_,func10,rfl,by decide⟩
end Go.Proofs.Try

set_option linter.unusedSimpArgs false
set_option linter.unusedVariables false
namespace Go.Proofs.Try
open Go.Ab Go.RowKit
def fs56 : FnS := fnS [.s .marks,.o,.o] [.marks,.mark,(.fn0 38)] (fun _ (l,mm,(),_) => (.tup [.i ((bsPos l mm : Nat) : Int),.b (bsFound l mm)],[],(sortedM l) ∧ (l.length ≤ 1000)))
abbrev T56 : Tab := lk [(38,fs38)]
theorem tab56 : TabOK prog T56 := (TabOK.cons ok38 ent38 TabOK.nil)
set_option maxRecDepth 100000 in
set_option maxHeartbeats 1000000 in
theorem ok56 : FnOK prog 56 fs56 := by
 refine FnOK.mk cok func56 rfl rfl rfl ?_
 rintro fl ⟨(l : List MarkD),(mm : MarkD),⟨⟩,_⟩ hpre F hnt0 _
 have hnt : F.nt = 49 := hnt0.trans ntmps56
 replace hpre : (sortedM l) ∧ (l.length ≤ 1000) := hpre
 obtain ⟨hs,hl⟩ := hpre
 refine W.to (⟨[(0,.sl (.marks l)),(1,.agg [.i mm.value,.i mm.proc,.i mm.number,.b mm.gone]),(2,.fn 38 [])],[],[999]⟩) rfl ?_
 refine W.lenOf 0 (.marks l) (by kernel_rfl) ?_
 intro hl_l; replace hl_l : List.length l ≤ 9223372036854775807 := hl_l
 refine Kk cok tab56 hnt [] [0,2,4] (⟨[(0,.sl (.marks l)),(2,.fn 38 []),(4,.ptr 4 0)],[(4,⟨52,.fix [.i mm.value,.i mm.proc,.i mm.number,.b mm.gone]⟩)],[4,999]⟩)
  (True ∧ True ∧ True ∧ True)
  ⟨tt,tt,tt,tt⟩ ?_
 refine Kk cok tab56 hnt [] [0,2,4,8] (⟨[(0,.sl (.marks l)),(2,.fn 38 []),(4,.ptr 4 0),(8,.i (l.length : Int))],[(4,⟨52,.fix [.i mm.value,.i mm.proc,.i mm.number,.b mm.gone]⟩)],[4,999]⟩)
  (True ∧ True ∧ True ∧ True)
  ⟨tt,tt,tt,tt⟩ ?_
 refine Kk cok tab56 hnt [] [0,2,4,8,9,10] (⟨[(0,.sl (.marks l)),(2,.fn 38 []),(4,.ptr 4 0),(8,.i (l.length : Int)),(9,.i (0 : Int)),(10,.i (l.length : Int))],[(4,⟨52,.fix [.i mm.value,.i mm.proc,.i mm.number,.b mm.gone]⟩)],[4,999]⟩)
  (True ∧ True ∧ True ∧ True)
  ⟨tt,tt,tt,tt⟩ ?_
 refine W.seq ?_
 refine W.block ?_
 refine W.loop (ι := Int × Int) (fun (x : Int × Int) => match x with | (i,j) => (⟨[(0,.sl (.marks l)),(2,.fn 38 []),(4,.ptr 4 0),(8,.i (l.length : Int)),(9,.i i),(10,.i j)],[(4,⟨52,.fix [.i mm.value,.i mm.proc,.i mm.number,.b mm.gone]⟩)],[4,999]⟩ : St))
  (fun (x : Int × Int) => match x with | (i,j) => (0 ≤ i ∧ i ≤ j ∧ j ≤ (l.length : Int)) ∧ (∀ q : Nat,((q : Nat) : Int) < i → lessM (l.getD q default) mm = true) ∧ (∀ q : Nat,j ≤ ((q : Nat) : Int) → q < l.length → lessM (l.getD q default) mm = false))
  (fun (x : Int × Int) => match x with | (i,j) => ((j - i).toNat : Nat)) ((0 : Int),(l.length : Int)) ?_ ?_ ?_
 ·exact (show (0 ≤ (0 : Int) ∧ (0 : Int) ≤ (l.length : Int) ∧ (l.length : Int) ≤ (l.length : Int)) ∧ (∀ q : Nat,((q : Nat) : Int) < (0 : Int) → lessM (l.getD q default) mm = true) ∧ (∀ q : Nat,(l.length : Int) ≤ ((q : Nat) : Int) → q < l.length → lessM (l.getD q default) mm = false) from ⟨(by first | assumption | omega | rfl | (intro _ hjj; omega) | (simp; done) | (simp; omega)),(by intro q hq; omega),(by intro q hq hl; omega)⟩)
 ·exact Sub.of [] (@cast (((Sd (.marks l)) ∧ (((38 : Nat) = 38) ∧ True) ∧ (((4 : Nat) = 4) ∧ ((0 : Nat) = 0) ∧ ((4 : Nat) ∈ ([4,999] : List Nat))) ∧ (Si (l.length : Int)) ∧ (Si (0 : Int)) ∧ (Si (l.length : Int)) ∧ True) ∧ ((((52 : Nat) = 52) ∧ ((Si mm.value) ∧ (Si mm.proc) ∧ (Si mm.number) ∧ (Sv (.bool mm.gone)) ∧ True) ∧ ((4 : Nat) ∈ ([4,999] : List Nat))) ∧ True) ∧ (true = true) ∧ (true = true)) _ (by kernel_rfl) ⟨⟨rfl,⟨rfl,tt⟩,⟨rfl,rfl,(by decide)⟩,rfl,rfl,rfl,tt⟩,⟨⟨rfl,⟨rfl,rfl,rfl,rfl,tt⟩,(by decide)⟩,tt⟩,rfl,rfl⟩)
 ·rintro ⟨i,j⟩ hC0
  have hC : (0 ≤ i ∧ i ≤ j ∧ j ≤ (l.length : Int)) ∧ (∀ q : Nat,((q : Nat) : Int) < i → lessM (l.getD q default) mm = true) ∧ (∀ q : Nat,j ≤ ((q : Nat) : Int) → q < l.length → lessM (l.getD q default) mm = false) := hC0
  clear hC0
  obtain ⟨hij,hA,hB⟩ := hC
  refine W.to (⟨[(0,.sl (.marks l)),(2,.fn 38 []),(4,.ptr 4 0),(8,.i (l.length : Int)),(9,.i i),(10,.i j)],[(4,⟨52,.fix [.i mm.value,.i mm.proc,.i mm.number,.b mm.gone]⟩)],[4,999]⟩) rfl ?_
  have hmid := shr_half (x := i + j) (by omega) (by omega)
  refine W.seq ?_
  refine Kk cok tab56 hnt [] [0,2,4,8,9,10,17] (⟨[(0,.sl (.marks l)),(2,.fn 38 []),(4,.ptr 4 0),(8,.i (l.length : Int)),(9,.i i),(10,.i j),(17,.b (decide (i < j)))],[(4,⟨52,.fix [.i mm.value,.i mm.proc,.i mm.number,.b mm.gone]⟩)],[4,999]⟩)
   (True ∧ True ∧ (True ∧ True ∧ True) ∧ True)
   ⟨tt,tt,⟨tt,tt,tt⟩,tt⟩ ?_
  refine W.ifP (i < j) (.b (decide (i < j))) (by kernel_rfl) rfl trivial ?_ ?_
  ·intro h17
   refine W.skip (thenQ_normal ?_)
   refine W.block ?_
   refine Kk cok tab56 hnt [] [0,2,4,8,9,10,11] (⟨[(0,.sl (.marks l)),(2,.fn 38 []),(4,.ptr 4 0),(8,.i (l.length : Int)),(9,.i i),(10,.i j),(11,.i (shrI .u64 (i + j) (1 : Int)))],[(4,⟨52,.fix [.i mm.value,.i mm.proc,.i mm.number,.b mm.gone]⟩)],[4,999]⟩)
    (True ∧ True ∧ (True ∧ True ∧ (Fits .i64 (i + j))) ∧ (True ∧ (Fits .u64 (i + j))) ∧ (True ∧ True ∧ (0 ≤ (1 : Int))) ∧ (True ∧ (Fits .i64 (shrI .u64 (i + j) (1 : Int)))) ∧ True ∧ True)
    ⟨tt,tt,⟨tt,tt,(by exact fits_i64 (by omega) (by omega))⟩,⟨tt,(by exact fits_u64 (by omega) (by omega))⟩,⟨tt,tt,(by omega)⟩,⟨tt,(by exact fits_i64 (by omega) (by omega))⟩,tt,tt⟩ ?_
   refine W.KA cok tab56 hnt [] [0,2,4,8,9,10,11,31] (⟨[(0,.sl (.marks l)),(2,.fn 38 []),(4,.ptr 4 0),(8,.i (l.length : Int)),(9,.i i),(10,.i j),(11,.i (shrI .u64 (i + j) (1 : Int))),(31,.b (decide ((cmpM (l.getD (Int.toNat (shrI .u64 (i + j) (1 : Int))) default) mm) < (0 : Int))))],[(4,⟨52,.fix [.i mm.value,.i mm.proc,.i mm.number,.b mm.gone]⟩)],[4,999]⟩)
    (True ∧ True ∧ True ∧ (True ∧ True ∧ (0 ≤ (shrI .u64 (i + j) (1 : Int))) ∧ ((shrI .u64 (i + j) (1 : Int)) < (l.length : Int))) ∧ True ∧ True ∧ (True ∧ (True ∧ True ∧ True) ∧ True) ∧ (True ∧ True ∧ True) ∧ True) (by kernel_rfl) (by kernel_rfl)
    ⟨tt,tt,tt,⟨tt,tt,(by omega),(by omega)⟩,tt,tt,⟨tt,⟨tt,tt,tt⟩,tt⟩,⟨tt,tt,tt⟩,tt⟩ ?_
   refine W.ifP ((cmpM (l.getD (Int.toNat (shrI .u64 (i + j) (1 : Int))) default) mm) < (0 : Int)) (.b (decide ((cmpM (l.getD (Int.toNat (shrI .u64 (i + j) (1 : Int))) default) mm) < (0 : Int)))) (by kernel_rfl) rfl trivial ?_ ?_
   ·intro h31
    refine Lk cok tab56 hnt [] (⟨[(0,.sl (.marks l)),(2,.fn 38 []),(4,.ptr 4 0),(8,.i (l.length : Int)),(9,.i ((shrI .u64 (i + j) (1 : Int)) + (1 : Int))),(10,.i j),(11,.i (shrI .u64 (i + j) (1 : Int))),(31,.b (decide ((cmpM (l.getD (Int.toNat (shrI .u64 (i + j) (1 : Int))) default) mm) < (0 : Int)))),(32,.i (shrI .u64 (i + j) (1 : Int))),(33,.i ((shrI .u64 (i + j) (1 : Int)) + (1 : Int)))],[(4,⟨52,.fix [.i mm.value,.i mm.proc,.i mm.number,.b mm.gone]⟩)],[4,999]⟩)
     (True ∧ (True ∧ True ∧ (Fits .i64 ((shrI .u64 (i + j) (1 : Int)) + (1 : Int)))) ∧ True ∧ True)
     ⟨tt,⟨tt,tt,(by exact fits_i64 (by omega) (by omega))⟩,tt,tt⟩ ?_
    refine blockQ_normal (thenQ_normal ?_)
    refine ⟨(((shrI .u64 (i + j) (1 : Int)) + (1 : Int)),j),(show (0 ≤ ((shrI .u64 (i + j) (1 : Int)) + (1 : Int)) ∧ ((shrI .u64 (i + j) (1 : Int)) + (1 : Int)) ≤ j ∧ j ≤ (l.length : Int)) ∧ (∀ q : Nat,((q : Nat) : Int) < ((shrI .u64 (i + j) (1 : Int)) + (1 : Int)) → lessM (l.getD q default) mm = true) ∧ (∀ q : Nat,j ≤ ((q : Nat) : Int) → q < l.length → lessM (l.getD q default) mm = false) from ⟨(by first | assumption | omega | rfl | (intro _ hjj; omega) | (simp; done) | (simp; omega)),(by first | assumption | exact bs_stepA hs (by omega) (by omega) h31),(by first | assumption | exact bs_stepB hs (by omega) n31)⟩),(show (j - ((shrI .u64 (i + j) (1 : Int)) + (1 : Int))).toNat < (j - i).toNat from (by omega)),?_⟩
    exact Sub.of [] (@cast (((Sd (.marks l)) ∧ (((38 : Nat) = 38) ∧ True) ∧ (((4 : Nat) = 4) ∧ ((0 : Nat) = 0) ∧ ((4 : Nat) ∈ ([4,999] : List Nat))) ∧ (Si (l.length : Int)) ∧ (Si ((shrI .u64 (i + j) (1 : Int)) + (1 : Int))) ∧ (Si j) ∧ True) ∧ ((((52 : Nat) = 52) ∧ ((Si mm.value) ∧ (Si mm.proc) ∧ (Si mm.number) ∧ (Sv (.bool mm.gone)) ∧ True) ∧ ((4 : Nat) ∈ ([4,999] : List Nat))) ∧ True) ∧ (true = true) ∧ (true = true)) _ (by kernel_rfl) ⟨⟨rfl,⟨rfl,tt⟩,⟨rfl,rfl,(by decide)⟩,rfl,rfl,rfl,tt⟩,⟨⟨rfl,⟨rfl,rfl,rfl,rfl,tt⟩,(by decide)⟩,tt⟩,rfl,rfl⟩)
   ·intro n31
    refine Lk cok tab56 hnt [] (⟨[(0,.sl (.marks l)),(2,.fn 38 []),(4,.ptr 4 0),(8,.i (l.length : Int)),(9,.i i),(10,.i (shrI .u64 (i + j) (1 : Int))),(11,.i (shrI .u64 (i + j) (1 : Int))),(31,.b (decide ((cmpM (l.getD (Int.toNat (shrI .u64 (i + j) (1 : Int))) default) mm) < (0 : Int)))),(34,.i (shrI .u64 (i + j) (1 : Int)))],[(4,⟨52,.fix [.i mm.value,.i mm.proc,.i mm.number,.b mm.gone]⟩)],[4,999]⟩)
     (True ∧ True ∧ True)
     ⟨tt,tt,tt⟩ ?_
    refine blockQ_normal (thenQ_normal ?_)
    refine ⟨(i,(shrI .u64 (i + j) (1 : Int))),(show (0 ≤ i ∧ i ≤ (shrI .u64 (i + j) (1 : Int)) ∧ (shrI .u64 (i + j) (1 : Int)) ≤ (l.length : Int)) ∧ (∀ q : Nat,((q : Nat) : Int) < i → lessM (l.getD q default) mm = true) ∧ (∀ q : Nat,(shrI .u64 (i + j) (1 : Int)) ≤ ((q : Nat) : Int) → q < l.length → lessM (l.getD q default) mm = false) from ⟨(by first | assumption | omega | rfl | (intro _ hjj; omega) | (simp; done) | (simp; omega)),(by first | assumption | exact bs_stepA hs (by omega) (by omega) h31),(by first | assumption | exact bs_stepB hs (by omega) n31)⟩),(show ((shrI .u64 (i + j) (1 : Int)) - i).toNat < (j - i).toNat from (by omega)),?_⟩
    exact Sub.of [] (@cast (((Sd (.marks l)) ∧ (((38 : Nat) = 38) ∧ True) ∧ (((4 : Nat) = 4) ∧ ((0 : Nat) = 0) ∧ ((4 : Nat) ∈ ([4,999] : List Nat))) ∧ (Si (l.length : Int)) ∧ (Si i) ∧ (Si (shrI .u64 (i + j) (1 : Int))) ∧ True) ∧ ((((52 : Nat) = 52) ∧ ((Si mm.value) ∧ (Si mm.proc) ∧ (Si mm.number) ∧ (Sv (.bool mm.gone)) ∧ True) ∧ ((4 : Nat) ∈ ([4,999] : List Nat))) ∧ True) ∧ (true = true) ∧ (true = true)) _ (by kernel_rfl) ⟨⟨rfl,⟨rfl,tt⟩,⟨rfl,rfl,(by decide)⟩,rfl,rfl,rfl,tt⟩,⟨⟨rfl,⟨rfl,rfl,rfl,rfl,tt⟩,(by decide)⟩,tt⟩,rfl,rfl⟩)
  ·intro n17
   refine W.exit (thenQ_exit (thenQ_exit (blockQ_hit ?_)))
   refine thenQ_normal ?_
   refine W.KA cok tab56 hnt [] [6,7] (⟨[(6,.i i),(7,.b ((decide (i < (l.length : Int))) && (decide ((cmpM (l.getD (Int.toNat i) default) mm) = (0 : Int)))))],[(4,⟨52,.fix [.i mm.value,.i mm.proc,.i mm.number,.b mm.gone]⟩)],[4,999]⟩)
    ((fun (Z1:Bool)=>(True ∧ (True ∧ (True ∧ ((True ∧ (True ∧ True)) ∧ (True ∧ ((Z1 = true → True) ∧ ((Z1 = true → True) ∧ ((Z1 = true → True) ∧ ((Z1 = true → (((Z1 = true) ∧ True) ∧ (((Z1 = true) ∧ True) ∧ ((0 ≤ i) ∧ (i < (l.length : Int)))))) ∧ ((Z1 = true → ((Z1 = true) ∧ True)) ∧ ((Z1 = true → True) ∧ ((Z1 = true → (((Z1 = true) ∧ True) ∧ ((((Z1 = true) ∧ True) ∧ (((Z1 = true) ∧ True) ∧ True)) ∧ True))) ∧ ((Z1 = true → (((Z1 = true) ∧ True) ∧ (True ∧ True))) ∧ ((True ∧ ((Z1 = true → (Z1 = true) ∧ True) ∧ (Z1 = false → True))) ∧ (True ∧ (True ∧ True))))))))))))))))) (decide (i < (l.length : Int)))) (by kernel_rfl) (by kernel_rfl)
    ⟨tt,tt,tt,⟨tt,tt,tt⟩,tt,(fun _ => trivial),(fun _ => trivial),(fun _ => trivial),(fun hG => ⟨⟨hG,tt⟩,⟨hG,tt⟩,(by have hg0 : i < (l.length : Int) := of_decide_eq_true hG; omega),(by have hg0 : i < (l.length : Int) := of_decide_eq_true hG; omega)⟩),(fun hG => ⟨hG,tt⟩),(fun _ => trivial),(fun hG => ⟨⟨hG,tt⟩,⟨⟨hG,tt⟩,⟨hG,tt⟩,tt⟩,tt⟩),(fun hG => ⟨⟨hG,tt⟩,tt,tt⟩),⟨tt,(fun hp => ⟨hp,tt⟩),(fun _ => trivial)⟩,tt,tt,tt⟩ ?_
   refine W.ret ?_
   exact endQ_ret (.tup [.i i,.b ((decide (i < (l.length : Int))) && (decide ((cmpM (l.getD (Int.toNat i) default) mm) = (0 : Int))))]) (by kernel_rfl) (@cast (((.int .i64 i : Value) = .int .i64 ((bsPos l mm : Nat) : Int)) ∧ ((.bool ((decide (i < (l.length : Int))) && (decide ((cmpM (l.getD (Int.toNat i) default) mm) = (0 : Int)))) : Value) = .bool (bsFound l mm)) ∧ True) _ (by kernel_rfl) ⟨(congrArg (Value.int .i64) (by first | exact (bs_end hij.1 (by omega) (by omega) hA hB).1 | exact (bs_end hij.1 (by omega) (by omega) hA hB).2)),(congrArg Value.bool (by first | exact (bs_end hij.1 (by omega) (by omega) hA hB).1 | exact (bs_end hij.1 (by omega) (by omega) hA hB).2)),tt⟩)
theorem ent56 : Entr prog 56 := ⟨_,func56,rfl,of_decide_eq_true (by kernel_rfl)⟩
end Go.Proofs.Try

set_option linter.unusedSimpArgs false
set_option linter.unusedVariables false
namespace Go.Proofs.Try
open Go.Ab Go.RowKit
abbrev T44 : Tab := lk [(62,fs62),(63,fs63)]
theorem tab44 : TabOK prog T44 := (TabOK.cons ok62 ent62 (TabOK.cons ok63 ent63 TabOK.nil))
theorem ent44 : Entr prog 44 := ⟨_,func44,rfl,by decide⟩
set_option maxRecDepth 100000 in
set_option maxHeartbeats 1000000 in
theorem hok44 : ∀ (cu : List Int) (cd : List Int) (cv : Int) (ct : Int) (cp : Int) (cm : List MarkD) (value : Int) (time : Int) (pp : Int),(True) → HOK prog 44 [910,911,912,913] [.ptr 910 0,.i value,.i time,.i pp] [(910,⟨26,.fix [.own 911 cu.length,.own 912 cd.length,.i cv,.i ct,.i cp,.own 913 cm.length]⟩),(911,⟨3,.row (.ints cu)⟩),(912,⟨3,.row (.ints cd)⟩),(913,⟨52,.row (.marks cm)⟩)] [910,911,912,913] (fun r s1 u1 => r = (.tup []) ∧ s1 = ([(910,⟨26,.fix [.own 911 cu.length,.own 912 cd.length,.i (bif newerC (⟨cu,cd,value,time,pp,cm⟩ : CopyD) (⟨cu,cd,cv,ct,cp,cm⟩ : CopyD) then value else cv),.i (bif newerC (⟨cu,cd,value,time,pp,cm⟩ : CopyD) (⟨cu,cd,cv,ct,cp,cm⟩ : CopyD) then time else ct),.i (bif newerC (⟨cu,cd,value,time,pp,cm⟩ : CopyD) (⟨cu,cd,cv,ct,cp,cm⟩ : CopyD) then pp else cp),.own 913 cm.length]⟩),(911,⟨3,.row (.ints cu)⟩),(912,⟨3,.row (.ints cd)⟩),(913,⟨52,.row (.marks cm)⟩)]) ∧ u1 = ([910,911,912,913])) := by
 intro cu cd cv ct cp cm value time pp hpre
 refine HOK.of cok func44 rfl rfl rfl ?_
 intro F hnt0
 have hnt : F.nt = 41 := hnt0.trans ntmps44
 refine W.to (⟨[(0,.ptr 910 0),(1,.i value),(2,.i time),(3,.i pp)],[(910,⟨26,.fix [.own 911 cu.length,.own 912 cd.length,.i cv,.i ct,.i cp,.own 913 cm.length]⟩),(911,⟨3,.row (.ints cu)⟩),(912,⟨3,.row (.ints cd)⟩),(913,⟨52,.row (.marks cm)⟩)],[910,911,912,913]⟩) rfl ?_
 refine W.KA cok tab44 hnt [] [0,1,2,3,28] (⟨[(0,.ptr 910 0),(1,.i value),(2,.i time),(3,.i pp),(28,.b (decide ((0 : Int) < (orI ([(cmpI time ct),(cmpI pp cp),(cmpI value cv)])))))],[(910,⟨26,.fix [.own 911 cu.length,.own 912 cd.length,.i cv,.i ct,.i cp,.own 913 cm.length]⟩),(911,⟨3,.row (.ints cu)⟩),(912,⟨3,.row (.ints cd)⟩),(913,⟨52,.row (.marks cm)⟩)],[26,910,911,912,913]⟩)
  (True ∧ True ∧ True ∧ True ∧ True ∧ (True ∧ (True ∧ True ∧ True) ∧ True) ∧ True ∧ True ∧ True ∧ True ∧ True ∧ (True ∧ (True ∧ True ∧ True) ∧ True) ∧ True ∧ True ∧ True ∧ True ∧ True ∧ (True ∧ (True ∧ True ∧ True) ∧ True) ∧ (True ∧ True ∧ True ∧ True) ∧ (True ∧ (True ∧ True) ∧ True) ∧ (True ∧ True ∧ True) ∧ True) (by kernel_rfl) (by kernel_rfl)
  ⟨tt,tt,tt,tt,tt,⟨tt,⟨tt,tt,tt⟩,tt⟩,tt,tt,tt,tt,tt,⟨tt,⟨tt,tt,tt⟩,tt⟩,tt,tt,tt,tt,tt,⟨tt,⟨tt,tt,tt⟩,tt⟩,⟨tt,tt,tt,tt⟩,⟨tt,⟨tt,tt⟩,tt⟩,⟨tt,tt,tt⟩,tt⟩ ?_
 refine W.ifP ((0 : Int) < (orI ([(cmpI time ct),(cmpI pp cp),(cmpI value cv)]))) (.b (decide ((0 : Int) < (orI ([(cmpI time ct),(cmpI pp cp),(cmpI value cv)]))))) (by kernel_rfl) rfl trivial ?_ ?_
 ·intro h28
  refine Lk cok tab44 hnt [] (⟨[(0,.ptr 910 0),(1,.i value),(2,.i time),(3,.i pp),(28,.b (decide ((0 : Int) < (orI ([(cmpI time ct),(cmpI pp cp),(cmpI value cv)]))))),(29,.ptr 910 0),(30,.ptr 910 0),(31,.ptr 910 0),(32,.i value),(33,.i time),(34,.i pp),(35,.ptr 910 0),(36,.ptr 910 2),(37,.ptr 910 0),(38,.ptr 910 3),(39,.ptr 910 0),(40,.ptr 910 4)],[(910,⟨26,.fix [.own 911 cu.length,.own 912 cd.length,.i value,.i time,.i pp,.own 913 cm.length]⟩),(911,⟨3,.row (.ints cu)⟩),(912,⟨3,.row (.ints cd)⟩),(913,⟨52,.row (.marks cm)⟩)],[26,910,911,912,913]⟩)
   (True ∧ True ∧ True ∧ True ∧ True ∧ True ∧ True ∧ True ∧ (True ∧ True) ∧ True ∧ True ∧ (True ∧ True) ∧ True ∧ True ∧ (True ∧ True) ∧ True)
   ⟨tt,tt,tt,tt,tt,tt,tt,tt,⟨tt,tt⟩,tt,tt,⟨tt,tt⟩,tt,tt,⟨tt,tt⟩,tt⟩ ?_
  exact endH_norm (.tup []) [(910,⟨26,.fix [.own 911 cu.length,.own 912 cd.length,.i (bif newerC (⟨cu,cd,value,time,pp,cm⟩ : CopyD) (⟨cu,cd,cv,ct,cp,cm⟩ : CopyD) then value else cv),.i (bif newerC (⟨cu,cd,value,time,pp,cm⟩ : CopyD) (⟨cu,cd,cv,ct,cp,cm⟩ : CopyD) then time else ct),.i (bif newerC (⟨cu,cd,value,time,pp,cm⟩ : CopyD) (⟨cu,cd,cv,ct,cp,cm⟩ : CopyD) then pp else cp),.own 913 cm.length]⟩),(911,⟨3,.row (.ints cu)⟩),(912,⟨3,.row (.ints cd)⟩),(913,⟨52,.row (.marks cm)⟩)] [910,911,912,913] ⟨rfl,rfl,rfl⟩ [(910,910),(911,911),(912,912),(913,913)] (.tup []) (by kernel_rfl) (@cast (True ∧ ((((26 : Nat) = 26) ∧ ((((911 : Nat) = 911) ∧ (cu.length = cu.length) ∧ ((911 : Nat) ∈ ([910,911,912,913] : List Nat))) ∧ (((912 : Nat) = 912) ∧ (cd.length = cd.length) ∧ ((912 : Nat) ∈ ([910,911,912,913] : List Nat))) ∧ ((.int .i64 value : Value) = .int .i64 (bif newerC (⟨cu,cd,value,time,pp,cm⟩ : CopyD) (⟨cu,cd,cv,ct,cp,cm⟩ : CopyD) then value else cv)) ∧ ((.int .i64 time : Value) = .int .i64 (bif newerC (⟨cu,cd,value,time,pp,cm⟩ : CopyD) (⟨cu,cd,cv,ct,cp,cm⟩ : CopyD) then time else ct)) ∧ ((.int .i64 pp : Value) = .int .i64 (bif newerC (⟨cu,cd,value,time,pp,cm⟩ : CopyD) (⟨cu,cd,cv,ct,cp,cm⟩ : CopyD) then pp else cp)) ∧ (((913 : Nat) = 913) ∧ (cm.length = cm.length) ∧ ((913 : Nat) ∈ ([910,911,912,913] : List Nat))) ∧ True) ∧ ((910 : Nat) ∈ ([910,911,912,913] : List Nat))) ∧ (((3 : Nat) = 3) ∧ (Sd (.ints cu)) ∧ ((911 : Nat) ∈ ([910,911,912,913] : List Nat))) ∧ (((3 : Nat) = 3) ∧ (Sd (.ints cd)) ∧ ((912 : Nat) ∈ ([910,911,912,913] : List Nat))) ∧ (((52 : Nat) = 52) ∧ (Sd (.marks cm)) ∧ ((913 : Nat) ∈ ([910,911,912,913] : List Nat))) ∧ True) ∧ (true = true) ∧ (true = true)) _ (by kernel_rfl) ⟨tt,⟨⟨rfl,⟨⟨rfl,rfl,(by decide)⟩,⟨rfl,rfl,(by decide)⟩,(congrArg (Value.int .i64) (by first | rfl | omega | assumption | (first | rfl | (have h9 := nw_yes (u := cu) (d := cd) (m := cm) h28; simp only [h9,cond_true]); done) | simp | simp_all)),(congrArg (Value.int .i64) (by first | rfl | omega | assumption | (first | rfl | (have h9 := nw_yes (u := cu) (d := cd) (m := cm) h28; simp only [h9,cond_true]); done) | simp | simp_all)),(congrArg (Value.int .i64) (by first | rfl | omega | assumption | (first | rfl | (have h9 := nw_yes (u := cu) (d := cd) (m := cm) h28; simp only [h9,cond_true]); done) | simp | simp_all)),⟨rfl,rfl,(by decide)⟩,tt⟩,(by decide)⟩,⟨rfl,rfl,(by decide)⟩,⟨rfl,rfl,(by decide)⟩,⟨rfl,rfl,(by decide)⟩,tt⟩,rfl,rfl⟩)
 ·intro n28
  refine W.skip ?_
  exact endH_norm (.tup []) [(910,⟨26,.fix [.own 911 cu.length,.own 912 cd.length,.i (bif newerC (⟨cu,cd,value,time,pp,cm⟩ : CopyD) (⟨cu,cd,cv,ct,cp,cm⟩ : CopyD) then value else cv),.i (bif newerC (⟨cu,cd,value,time,pp,cm⟩ : CopyD) (⟨cu,cd,cv,ct,cp,cm⟩ : CopyD) then time else ct),.i (bif newerC (⟨cu,cd,value,time,pp,cm⟩ : CopyD) (⟨cu,cd,cv,ct,cp,cm⟩ : CopyD) then pp else cp),.own 913 cm.length]⟩),(911,⟨3,.row (.ints cu)⟩),(912,⟨3,.row (.ints cd)⟩),(913,⟨52,.row (.marks cm)⟩)] [910,911,912,913] ⟨rfl,rfl,rfl⟩ [(910,910),(911,911),(912,912),(913,913)] (.tup []) (by kernel_rfl) (@cast (True ∧ ((((26 : Nat) = 26) ∧ ((((911 : Nat) = 911) ∧ (cu.length = cu.length) ∧ ((911 : Nat) ∈ ([910,911,912,913] : List Nat))) ∧ (((912 : Nat) = 912) ∧ (cd.length = cd.length) ∧ ((912 : Nat) ∈ ([910,911,912,913] : List Nat))) ∧ ((.int .i64 cv : Value) = .int .i64 (bif newerC (⟨cu,cd,value,time,pp,cm⟩ : CopyD) (⟨cu,cd,cv,ct,cp,cm⟩ : CopyD) then value else cv)) ∧ ((.int .i64 ct : Value) = .int .i64 (bif newerC (⟨cu,cd,value,time,pp,cm⟩ : CopyD) (⟨cu,cd,cv,ct,cp,cm⟩ : CopyD) then time else ct)) ∧ ((.int .i64 cp : Value) = .int .i64 (bif newerC (⟨cu,cd,value,time,pp,cm⟩ : CopyD) (⟨cu,cd,cv,ct,cp,cm⟩ : CopyD) then pp else cp)) ∧ (((913 : Nat) = 913) ∧ (cm.length = cm.length) ∧ ((913 : Nat) ∈ ([910,911,912,913] : List Nat))) ∧ True) ∧ ((910 : Nat) ∈ ([910,911,912,913] : List Nat))) ∧ (((3 : Nat) = 3) ∧ (Sd (.ints cu)) ∧ ((911 : Nat) ∈ ([910,911,912,913] : List Nat))) ∧ (((3 : Nat) = 3) ∧ (Sd (.ints cd)) ∧ ((912 : Nat) ∈ ([910,911,912,913] : List Nat))) ∧ (((52 : Nat) = 52) ∧ (Sd (.marks cm)) ∧ ((913 : Nat) ∈ ([910,911,912,913] : List Nat))) ∧ True) ∧ (true = true) ∧ (true = true)) _ (by kernel_rfl) ⟨tt,⟨⟨rfl,⟨⟨rfl,rfl,(by decide)⟩,⟨rfl,rfl,(by decide)⟩,(congrArg (Value.int .i64) (by first | rfl | omega | assumption | (first | rfl | (have h9 := nw_no (u := cu) (d := cd) (m := cm) n28; simp only [h9,cond_false]); done) | simp | simp_all)),(congrArg (Value.int .i64) (by first | rfl | omega | assumption | (first | rfl | (have h9 := nw_no (u := cu) (d := cd) (m := cm) n28; simp only [h9,cond_false]); done) | simp | simp_all)),(congrArg (Value.int .i64) (by first | rfl | omega | assumption | (first | rfl | (have h9 := nw_no (u := cu) (d := cd) (m := cm) n28; simp only [h9,cond_false]); done) | simp | simp_all)),⟨rfl,rfl,(by decide)⟩,tt⟩,(by decide)⟩,⟨rfl,rfl,(by decide)⟩,⟨rfl,rfl,(by decide)⟩,⟨rfl,rfl,(by decide)⟩,tt⟩,rfl,rfl⟩)
end Go.Proofs.Try
