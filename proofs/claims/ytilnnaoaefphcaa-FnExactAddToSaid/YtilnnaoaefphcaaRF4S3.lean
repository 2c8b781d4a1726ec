import Derived.Test.YtilnnaoaefphcaaRF4S0
import Derived.Test.YtilnnaoaefphcaaRF4S2
import Derived.Test.YtilnnaoaefphcaaRF4S1
set_option linter.unusedSimpArgs false
set_option linter.unusedVariables false
namespace Go.Proofs.Try
open Go.Ab Go.RowKit
def fs18 : FnS := fnS [.a [some .ints,some .ints,none,none,none,some .marks],.o,.o] [.copy,.int,.int] (fun _ (c,p,n,_) => (.tup [.agg [.own 0 (List.length ((addTo c p n).1.up)),.own 1 (List.length ((addTo c p n).1.down)),.i ((addTo c p n).1.value),.i ((addTo c p n).1.time),.i ((addTo c p n).1.proc),.own 2 (List.length ((addTo c p n).1.marks))],.b ((addTo c p n).2)],[(3,.ints ((addTo c p n).1.up)),(3,.ints ((addTo c p n).1.down)),(50,.marks ((addTo c p n).1.marks))],True))
abbrev T18 : Tab := lk [(38,fs38),(39,fs39),(44,fs44)]
theorem tab18 : TabOK prog T18 := (TabOK.cons ok38 ent38 (TabOK.cons ok39 ent39 (TabOK.cons ok44 ent44 TabOK.nil)))
set_option maxRecDepth 100000 in
set_option maxHeartbeats 1000000 in
theorem ok18 : FnOK prog 18 fs18 := by
 refine FnOK.mk cok func18 rfl rfl rfl ?_
 rintro fl ⟨(c : CopyD),(p : Int),(n : Int),_⟩ hpre F hnt0 _
 have hnt : F.nt = 47 := hnt0.trans ntmps18
 clear hpre
 refine W.to (⟨[(0,.agg (cC c)),(1,.i p),(2,.i n)],[],[999]⟩) rfl ?_
 refine W.lenA 0 0 (cC c) (.ints c.up) (by kernel_rfl) (by kernel_rfl) ?_
 intro hl_c_up; replace hl_c_up : List.length c.up ≤ 9223372036854775807 := hl_c_up
 refine W.lenA 0 1 (cC c) (.ints c.down) (by kernel_rfl) (by kernel_rfl) ?_
 intro hl_c_down; replace hl_c_down : List.length c.down ≤ 9223372036854775807 := hl_c_down
 refine W.lenA 0 5 (cC c) (.marks c.marks) (by kernel_rfl) (by kernel_rfl) ?_
 intro hl_c_marks; replace hl_c_marks : List.length c.marks ≤ 9223372036854775807 := hl_c_marks
 refine Kk cok tab18 hnt [] [1,2,3,6] (⟨[(1,.i p),(2,.i n),(3,.ptr 3 0),(6,.ptr 6 0)],[(3,⟨29,.fix (cC c)⟩),(6,⟨29,.fix [.v (.slice none 0 0),.v (.slice none 0 0),.i (0 : Int),.i (0 : Int),.i (0 : Int),.v (.slice none 0 0)]⟩)],[6,3,999]⟩)
  (True ∧ True ∧ True ∧ True)
  ⟨tt,tt,tt,tt⟩ ?_
 refine W.seq ?_
 refine Kk cok tab18 hnt [] [1,2,3,6,21] (⟨[(1,.i p),(2,.i n),(3,.ptr 3 0),(6,.ptr 6 0),(21,.b (((!(validCopy c)) || (!(within p (0 : Int) (2 : Int)))) || (!(within n (-20 : Int) (20 : Int)))))],[(3,⟨29,.fix (cC c)⟩),(6,⟨29,.fix [.v (.slice none 0 0),.v (.slice none 0 0),.i (0 : Int),.i (0 : Int),.i (0 : Int),.v (.slice none 0 0)]⟩)],[6,3,999]⟩)
  ((fun (Z1:Bool)=>((fun (Z2:Bool)=>(True ∧ ((True ∧ (((True ∧ (True ∧ (True ∧ (True ∧ (True ∧ (True ∧ (True ∧ True))))))) ∧ True) ∧ True)) ∧ (True ∧ (True ∧ (((!Z1) = true → True) ∧ (((!Z1) = true → (True ∧ (((((!Z1) = true) ∧ True) ∧ (True ∧ (True ∧ True))) ∧ True))) ∧ (((!Z1) = true → (((!Z1) = true) ∧ True)) ∧ ((True ∧ ((Z1 = true → True) ∧ (Z1 = false → ((!Z1) = true) ∧ True))) ∧ (True ∧ (((!Z2) = true → True) ∧ (((!Z2) = true → (True ∧ (((((!Z2) = true) ∧ True) ∧ (True ∧ (True ∧ True))) ∧ True))) ∧ (((!Z2) = true → (((!Z2) = true) ∧ True)) ∧ ((True ∧ ((Z2 = true → True) ∧ (Z2 = false → ((!Z2) = true) ∧ True))) ∧ True)))))))))))))) (Z1 || (!(within p (0 : Int) (2 : Int)))))) (!(validCopy c)))
  ⟨tt,⟨tt,⟨⟨tt,tt,tt,tt,tt,tt,tt,tt⟩,tt⟩,tt⟩,tt,tt,(fun _ => trivial),(fun hG => ⟨tt,⟨⟨hG,tt⟩,tt,tt,tt⟩,tt⟩),(fun hG => ⟨hG,tt⟩),⟨tt,(fun _ => trivial),(fun hp => ⟨(not_t hp),tt⟩)⟩,tt,(fun _ => trivial),(fun hG => ⟨tt,⟨⟨hG,tt⟩,tt,tt,tt⟩,tt⟩),(fun hG => ⟨hG,tt⟩),⟨tt,(fun _ => trivial),(fun hp => ⟨(not_t hp),tt⟩)⟩,tt⟩ ?_
 refine W.if' (((!(validCopy c)) || (!(within p (0 : Int) (2 : Int)))) || (!(within n (-20 : Int) (20 : Int)))) (.b (((!(validCopy c)) || (!(within p (0 : Int) (2 : Int)))) || (!(within n (-20 : Int) (20 : Int))))) (by kernel_rfl) rfl trivial ?_ ?_
 ·intro h21
  refine Kk cok tab18 hnt [] [6,7] (⟨[(6,.ptr 6 0),(7,.b false)],[(3,⟨29,.fix (cC c)⟩),(6,⟨29,.fix [.v (.slice none 0 0),.v (.slice none 0 0),.i (0 : Int),.i (0 : Int),.i (0 : Int),.v (.slice none 0 0)]⟩)],[6,3,999]⟩)
   (True ∧ (True ∧ True) ∧ True ∧ True)
   ⟨tt,⟨tt,tt⟩,tt,tt⟩ ?_
  refine W.nilCell 6 821 0 29 3 (.ints ([] : List Int)) [.v (.slice none 0 0),.v (.slice none 0 0),.i (0 : Int),.i (0 : Int),.i (0 : Int),.v (.slice none 0 0)] (⟨[(6,.ptr 6 0),(7,.b false)],[(3,⟨29,.fix (cC c)⟩),(6,⟨29,.fix [.own 821 0,.v (.slice none 0 0),.i (0 : Int),.i (0 : Int),.i (0 : Int),.v (.slice none 0 0)]⟩),(821,⟨3,.row (.ints ([] : List Int))⟩)],[821,6,3,999]⟩) (by kernel_rfl) rfl rfl (by kernel_rfl) (by kernel_rfl) ?_
  refine W.nilCell 6 822 1 29 3 (.ints ([] : List Int)) [.own 821 0,.v (.slice none 0 0),.i (0 : Int),.i (0 : Int),.i (0 : Int),.v (.slice none 0 0)] (⟨[(6,.ptr 6 0),(7,.b false)],[(3,⟨29,.fix (cC c)⟩),(6,⟨29,.fix [.own 821 0,.own 822 0,.i (0 : Int),.i (0 : Int),.i (0 : Int),.v (.slice none 0 0)]⟩),(821,⟨3,.row (.ints ([] : List Int))⟩),(822,⟨3,.row (.ints ([] : List Int))⟩)],[822,821,6,3,999]⟩) (by kernel_rfl) rfl rfl (by kernel_rfl) (by kernel_rfl) ?_
  refine W.nilCell 6 826 5 29 50 (.marks ([] : List MarkD)) [.own 821 0,.own 822 0,.i (0 : Int),.i (0 : Int),.i (0 : Int),.v (.slice none 0 0)] (⟨[(6,.ptr 6 0),(7,.b false)],[(3,⟨29,.fix (cC c)⟩),(6,⟨29,.fix [.own 821 0,.own 822 0,.i (0 : Int),.i (0 : Int),.i (0 : Int),.own 826 0]⟩),(821,⟨3,.row (.ints ([] : List Int))⟩),(822,⟨3,.row (.ints ([] : List Int))⟩),(826,⟨50,.row (.marks ([] : List MarkD))⟩)],[826,822,821,6,3,999]⟩) (by kernel_rfl) rfl rfl (by kernel_rfl) (by kernel_rfl) ?_
  refine W.ret (thenQ_ret ?_)
  exact endQ_rows [(0,821),(1,822),(2,826)] (.tup [.agg [.own 821 0,.own 822 0,.i (0 : Int),.i (0 : Int),.i (0 : Int),.own 826 0],.b false]) (by kernel_rfl) (@cast (((((821 : Nat) = 821) ∧ (0 = (List.length ((addTo c p n).1.up))) ∧ ((0 : Nat) ∈ ([0,1,2] : List Nat))) ∧ (((822 : Nat) = 822) ∧ (0 = (List.length ((addTo c p n).1.down))) ∧ ((1 : Nat) ∈ ([0,1,2] : List Nat))) ∧ ((.int .i64 (0 : Int) : Value) = .int .i64 ((addTo c p n).1.value)) ∧ ((.int .i64 (0 : Int) : Value) = .int .i64 ((addTo c p n).1.time)) ∧ ((.int .i64 (0 : Int) : Value) = .int .i64 ((addTo c p n).1.proc)) ∧ (((826 : Nat) = 826) ∧ (0 = (List.length ((addTo c p n).1.marks))) ∧ ((2 : Nat) ∈ ([0,1,2] : List Nat))) ∧ True) ∧ ((.bool false : Value) = .bool ((addTo c p n).2)) ∧ True) _ (by kernel_rfl) ⟨⟨⟨rfl,(by first | rfl | omega | assumption | (symm; assumption) | (exact congrArg List.length (by rw [addTo_no (gen_bad2 h21)] <;> rfl)) | (rw [addTo_no (gen_bad2 h21)] <;> rfl; done) | simp | simp_all),(by decide)⟩,⟨rfl,(by first | rfl | omega | assumption | (symm; assumption) | (exact congrArg List.length (by rw [addTo_no (gen_bad2 h21)] <;> rfl)) | (rw [addTo_no (gen_bad2 h21)] <;> rfl; done) | simp | simp_all),(by decide)⟩,(congrArg (Value.int .i64) (by first | rfl | omega | assumption | (rw [addTo_no (gen_bad2 h21)] <;> rfl; done) | simp | simp_all)),(congrArg (Value.int .i64) (by first | rfl | omega | assumption | (rw [addTo_no (gen_bad2 h21)] <;> rfl; done) | simp | simp_all)),(congrArg (Value.int .i64) (by first | rfl | omega | assumption | (rw [addTo_no (gen_bad2 h21)] <;> rfl; done) | simp | simp_all)),⟨rfl,(by first | rfl | omega | assumption | (symm; assumption) | (exact congrArg List.length (by rw [addTo_no (gen_bad2 h21)] <;> rfl)) | (rw [addTo_no (gen_bad2 h21)] <;> rfl; done) | simp | simp_all),(by decide)⟩,tt⟩,(congrArg Value.bool (by first | rfl | omega | assumption | (rw [addTo_no (gen_bad2 h21)] <;> rfl; done) | simp | simp_all)),tt⟩) (@cast ((((3 : Nat) = 3) ∧ ((.ints ([] : List Int) : Dat) = .ints ((addTo c p n).1.up)) ∧ ((0 : Nat) ∈ ([0,1,2] : List Nat))) ∧ (((3 : Nat) = 3) ∧ ((.ints ([] : List Int) : Dat) = .ints ((addTo c p n).1.down)) ∧ ((1 : Nat) ∈ ([0,1,2] : List Nat))) ∧ (((50 : Nat) = 50) ∧ ((.marks ([] : List MarkD) : Dat) = .marks ((addTo c p n).1.marks)) ∧ ((2 : Nat) ∈ ([0,1,2] : List Nat))) ∧ True) _ (by kernel_rfl) ⟨⟨rfl,(congrArg Dat.ints (by rw [addTo_no (gen_bad2 h21)] <;> rfl)),(by decide)⟩,⟨rfl,(congrArg Dat.ints (by rw [addTo_no (gen_bad2 h21)] <;> rfl)),(by decide)⟩,⟨rfl,(congrArg Dat.marks (by rw [addTo_no (gen_bad2 h21)] <;> rfl)),(by decide)⟩,tt⟩) (by kernel_rfl)
 ·intro n21
  have hg : addGood c p n = true := gen_ok2 n21
  have hf := add_facts hg
  refine W.skip (thenQ_normal ?_)
  refine Kk cok tab18 hnt [] [1,2,6,8] (⟨[(1,.i p),(2,.i n),(6,.ptr 6 0),(8,.ptr 8 0)],[(3,⟨29,.fix (cC c)⟩),(6,⟨29,.fix [.v (.slice none 0 0),.v (.slice none 0 0),.i (0 : Int),.i (0 : Int),.i (0 : Int),.v (.slice none 0 0)]⟩),(8,⟨29,.fix [.own 24 (List.length c.up),.own 1024 (List.length c.down),.i c.value,.i c.time,.i c.proc,.own 2024 (List.length c.marks)]⟩),(24,⟨3,.row (.ints c.up)⟩),(1024,⟨3,.row (.ints c.down)⟩),(2024,⟨50,.row (.marks c.marks)⟩)],[8,2024,1024,24,6,3,999]⟩)
   (True ∧ (True ∧ ((True ∧ True ∧ True ∧ True ∧ True ∧ True ∧ True ∧ True) ∧ True) ∧ c.up.length ≤ 1000 ∧ c.down.length ≤ 1000 ∧ c.marks.length ≤ 1000) ∧ True ∧ (True ∧ True) ∧ True)
   ⟨tt,⟨tt,⟨⟨tt,tt,tt,tt,tt,tt,tt,tt⟩,tt⟩,(by omega)⟩,tt,⟨tt,tt⟩,tt⟩ ?_
  refine W.seq ?_
  refine Kk cok tab18 hnt [] [1,2,6,8,26] (⟨[(1,.i p),(2,.i n),(6,.ptr 6 0),(8,.ptr 8 0),(26,.b (decide (n < (0 : Int))))],[(3,⟨29,.fix (cC c)⟩),(6,⟨29,.fix [.v (.slice none 0 0),.v (.slice none 0 0),.i (0 : Int),.i (0 : Int),.i (0 : Int),.v (.slice none 0 0)]⟩),(8,⟨29,.fix [.own 24 (List.length c.up),.own 1024 (List.length c.down),.i c.value,.i c.time,.i c.proc,.own 2024 (List.length c.marks)]⟩),(24,⟨3,.row (.ints c.up)⟩),(1024,⟨3,.row (.ints c.down)⟩),(2024,⟨50,.row (.marks c.marks)⟩)],[8,2024,1024,24,6,3,999]⟩)
   (True ∧ (True ∧ True ∧ True) ∧ True)
   ⟨tt,⟨tt,tt,tt⟩,tt⟩ ?_
  refine W.ifP (n < (0 : Int)) (.b (decide (n < (0 : Int)))) (by kernel_rfl) rfl trivial ?_ ?_
  ·intro h26
   have hea := added_neg hg h26
   refine Lk cok tab18 hnt [] (⟨[(1,.i p),(2,.i n),(6,.ptr 6 0),(8,.ptr 8 0),(26,.b (decide (n < (0 : Int)))),(27,.ptr 8 1),(28,.own 1024 (List.length c.down)),(29,.i p),(30,.pel 1024 1 (Int.toNat p) 0),(31,.i (List.getD c.down (Int.toNat p) 0)),(32,.i n),(33,.i ((List.getD c.down (Int.toNat p) 0) - n)),(34,.pel 1024 1 (Int.toNat p) 0)],[(3,⟨29,.fix (cC c)⟩),(6,⟨29,.fix [.v (.slice none 0 0),.v (.slice none 0 0),.i (0 : Int),.i (0 : Int),.i (0 : Int),.v (.slice none 0 0)]⟩),(8,⟨29,.fix [.own 24 (List.length c.up),.own 1024 (List.length c.down),.i c.value,.i c.time,.i c.proc,.own 2024 (List.length c.marks)]⟩),(24,⟨3,.row (.ints c.up)⟩),(1024,⟨3,.row (.ints (List.set c.down (Int.toNat p) ((List.getD c.down (Int.toNat p) 0) - n)))⟩),(2024,⟨50,.row (.marks c.marks)⟩)],[8,2024,1024,24,6,3,999]⟩)
    (True ∧ True ∧ True ∧ (True ∧ True ∧ (0 ≤ p) ∧ (p < (((List.length c.down) : Nat) : Int))) ∧ (True ∧ ((Int.toNat p) < (List.length c.down))) ∧ True ∧ (True ∧ True ∧ (Fits .i64 ((List.getD c.down (Int.toNat p) 0) - n))) ∧ (True ∧ True ∧ (0 ≤ p) ∧ (p < (((List.length c.down) : Nat) : Int))) ∧ (True ∧ True ∧ ((Int.toNat p) < (List.length c.down))) ∧ True)
    ⟨tt,tt,tt,⟨tt,tt,(by omega),(by omega)⟩,⟨tt,(by omega)⟩,tt,⟨tt,tt,(by exact fits_i64 (by (first | omega | (simp only [List.length_set]; done) | (simp only [List.length_append,List.length_cons,List.length_nil,List.length_take,List.length_drop,List.length_set,List.length_replicate,List.length_map] at *; omega) | assumption)) (by (first | omega | (simp only [List.length_set]; done) | (simp only [List.length_append,List.length_cons,List.length_nil,List.length_take,List.length_drop,List.length_set,List.length_replicate,List.length_map] at *; omega) | assumption)))⟩,⟨tt,tt,(by omega),(by omega)⟩,⟨tt,tt,(by omega)⟩,tt⟩ ?_
   refine thenQ_normal ?_
   refine W.subS [] (⟨[(1,.i p),(2,.i n),(6,.ptr 6 0),(8,.ptr 8 0),(26,.b (decide (n < (0 : Int)))),(27,.ptr 8 1),(29,.i p),(31,.i (List.getD c.down (Int.toNat p) 0)),(32,.i n),(33,.i ((List.getD c.down (Int.toNat p) 0) - n))],[(3,⟨29,.fix (cC c)⟩),(6,⟨29,.fix [.v (.slice none 0 0),.v (.slice none 0 0),.i (0 : Int),.i (0 : Int),.i (0 : Int),.v (.slice none 0 0)]⟩),(8,⟨29,.fix [.own 24 (List.length c.up),.own 1024 (List.length (List.set c.down (Int.toNat p) ((List.getD c.down (Int.toNat p) 0) - n))),.i c.value,.i c.time,.i c.proc,.own 2024 (List.length c.marks)]⟩),(24,⟨3,.row (.ints c.up)⟩),(1024,⟨3,.row (.ints (List.set c.down (Int.toNat p) ((List.getD c.down (Int.toNat p) 0) - n)))⟩),(2024,⟨50,.row (.marks c.marks)⟩)],[3,6,8,24,999,1024,2024]⟩) (@cast (((Si p) ∧ (Si n) ∧ (((6 : Nat) = 6) ∧ ((0 : Nat) = 0) ∧ ((6 : Nat) ∈ ([3,6,8,24,999,1024,2024] : List Nat))) ∧ (((8 : Nat) = 8) ∧ ((0 : Nat) = 0) ∧ ((8 : Nat) ∈ ([3,6,8,24,999,1024,2024] : List Nat))) ∧ (Sv (.bool (decide (n < (0 : Int))))) ∧ (((8 : Nat) = 8) ∧ ((1 : Nat) = 1) ∧ ((8 : Nat) ∈ ([3,6,8,24,999,1024,2024] : List Nat))) ∧ (Si p) ∧ (Si (List.getD c.down (Int.toNat p) 0)) ∧ (Si n) ∧ (Si ((List.getD c.down (Int.toNat p) 0) - n)) ∧ True) ∧ ((((29 : Nat) = 29) ∧ (Sc c) ∧ ((3 : Nat) ∈ ([3,6,8,24,999,1024,2024] : List Nat))) ∧ (((29 : Nat) = 29) ∧ ((((.slice none 0 0) : Value) = (.slice none 0 0)) ∧ (((.slice none 0 0) : Value) = (.slice none 0 0)) ∧ (Si (0 : Int)) ∧ (Si (0 : Int)) ∧ (Si (0 : Int)) ∧ (((.slice none 0 0) : Value) = (.slice none 0 0)) ∧ True) ∧ ((6 : Nat) ∈ ([3,6,8,24,999,1024,2024] : List Nat))) ∧ (((29 : Nat) = 29) ∧ ((((24 : Nat) = 24) ∧ ((List.length c.up) = (List.length c.up)) ∧ ((24 : Nat) ∈ ([3,6,8,24,999,1024,2024] : List Nat))) ∧ (((1024 : Nat) = 1024) ∧ ((List.length c.down) = (List.length (List.set c.down (Int.toNat p) ((List.getD c.down (Int.toNat p) 0) - n)))) ∧ ((1024 : Nat) ∈ ([3,6,8,24,999,1024,2024] : List Nat))) ∧ (Si c.value) ∧ (Si c.time) ∧ (Si c.proc) ∧ (((2024 : Nat) = 2024) ∧ ((List.length c.marks) = (List.length c.marks)) ∧ ((2024 : Nat) ∈ ([3,6,8,24,999,1024,2024] : List Nat))) ∧ True) ∧ ((8 : Nat) ∈ ([3,6,8,24,999,1024,2024] : List Nat))) ∧ (((3 : Nat) = 3) ∧ (Sd (.ints c.up)) ∧ ((24 : Nat) ∈ ([3,6,8,24,999,1024,2024] : List Nat))) ∧ (((3 : Nat) = 3) ∧ (Sd (.ints (List.set c.down (Int.toNat p) ((List.getD c.down (Int.toNat p) 0) - n)))) ∧ ((1024 : Nat) ∈ ([3,6,8,24,999,1024,2024] : List Nat))) ∧ (((50 : Nat) = 50) ∧ (Sd (.marks c.marks)) ∧ ((2024 : Nat) ∈ ([3,6,8,24,999,1024,2024] : List Nat))) ∧ True) ∧ (true = true) ∧ (true = true)) _ (by kernel_rfl) ⟨⟨rfl,rfl,⟨rfl,rfl,(by decide)⟩,⟨rfl,rfl,(by decide)⟩,rfl,⟨rfl,rfl,(by decide)⟩,rfl,rfl,rfl,rfl,tt⟩,⟨⟨rfl,⟨rfl,rfl,rfl,rfl,rfl,rfl,tt⟩,(by decide)⟩,⟨rfl,⟨rfl,rfl,rfl,rfl,rfl,rfl,tt⟩,(by decide)⟩,⟨rfl,⟨⟨rfl,rfl,(by decide)⟩,⟨rfl,(by first | rfl | omega | assumption | (symm; assumption) | simp | simp_all),(by decide)⟩,rfl,rfl,rfl,⟨rfl,rfl,(by decide)⟩,tt⟩,(by decide)⟩,⟨rfl,rfl,(by decide)⟩,⟨rfl,rfl,(by decide)⟩,⟨rfl,rfl,(by decide)⟩,tt⟩,rfl,rfl⟩) ?_
   refine W.seq (W.wi ?_)
   refine WI.runT cok tab18 hnt [] 1 1 (⟨[(1,.i p),(2,.i n),(6,.ptr 6 0),(8,.ptr 8 0),(26,.b (decide (n < (0 : Int)))),(27,.ptr 8 1),(29,.i p),(31,.i (List.getD c.down (Int.toNat p) 0)),(32,.i n),(33,.i ((List.getD c.down (Int.toNat p) 0) - n)),(43,.agg [.own 24 (List.length c.up),.own 1024 (List.length (List.set c.down (Int.toNat p) ((List.getD c.down (Int.toNat p) 0) - n))),.i c.value,.i c.time,.i c.proc,.own 2024 (List.length c.marks)])],[(3,⟨29,.fix (cC c)⟩),(6,⟨29,.fix [.v (.slice none 0 0),.v (.slice none 0 0),.i (0 : Int),.i (0 : Int),.i (0 : Int),.v (.slice none 0 0)]⟩),(8,⟨29,.fix [.own 24 (List.length c.up),.own 1024 (List.length (List.set c.down (Int.toNat p) ((List.getD c.down (Int.toNat p) 0) - n))),.i c.value,.i c.time,.i c.proc,.own 2024 (List.length c.marks)]⟩),(24,⟨3,.row (.ints c.up)⟩),(1024,⟨3,.row (.ints (List.set c.down (Int.toNat p) ((List.getD c.down (Int.toNat p) 0) - n)))⟩),(2024,⟨50,.row (.marks c.marks)⟩)],[3,6,8,24,999,1024,2024]⟩)
    (True ∧ True) (by kernel_rfl) rfl
    ⟨tt,tt⟩ ?_
   rcases Bool.eq_false_or_eq_true (validCopy (⟨c.up,List.set c.down (Int.toNat p) ((List.getD c.down (Int.toNat p) 0) - n),c.value,c.time,c.proc,c.marks⟩ : CopyD)) with hV44 | nV44
   ·skip
    refine WI.callH _ [.agg [.own 24 (List.length c.up),.own 1024 (List.length (List.set c.down (Int.toNat p) ((List.getD c.down (Int.toNat p) 0) - n))),.i c.value,.i c.time,.i c.proc,.own 2024 (List.length c.marks)]] [] (.fn 45 []) _ _ [(911,24),(912,1024),(913,2024)] (hok45y c.up (List.set c.down (Int.toNat p) ((List.getD c.down (Int.toNat p) 0) - n)) c.value c.time c.proc c.marks (by first | exact hV44 | exact nV44)) ent45y hnt rfl rfl (wanted_none rfl) (by kernel_rfl) (by kernel_rfl) trivial (by kernel_rfl) (by kernel_rfl) (by kernel_rfl) (@cast (((some ⟨3,.row (.ints c.up)⟩ : Option LB) = some ⟨3,.row (.ints c.up)⟩) ∧ (true = true) ∧ ((some ⟨3,.row (.ints (List.set c.down (Int.toNat p) ((List.getD c.down (Int.toNat p) 0) - n)))⟩ : Option LB) = some ⟨3,.row (.ints (List.set c.down (Int.toNat p) ((List.getD c.down (Int.toNat p) 0) - n)))⟩) ∧ (true = true) ∧ ((some ⟨50,.row (.marks c.marks)⟩ : Option LB) = some ⟨50,.row (.marks c.marks)⟩) ∧ (true = true) ∧ (True)) _ (by kernel_rfl) ⟨rfl,rfl,rfl,rfl,rfl,rfl,tt⟩) (by kernel_rfl) rfl ?_
    rintro r s1 u1 ⟨rfl,rfl,rfl⟩
    refine ⟨[(911,24),(912,1024),(913,2024)],by kernel_rfl,WI.to (⟨[(1,.i p),(2,.i n),(6,.ptr 6 0),(8,.ptr 8 0),(26,.b (decide (n < (0 : Int)))),(27,.ptr 8 1),(29,.i p),(31,.i (List.getD c.down (Int.toNat p) 0)),(32,.i n),(33,.i ((List.getD c.down (Int.toNat p) 0) - n)),(43,.agg [.own 24 (List.length c.up),.own 1024 (List.length (List.set c.down (Int.toNat p) ((List.getD c.down (Int.toNat p) 0) - n))),.i c.value,.i c.time,.i c.proc,.own 2024 (List.length c.marks)]),(44,.tup [.agg [.own 24 (List.length c.up),.own 1024 (List.length (List.set c.down (Int.toNat p) ((List.getD c.down (Int.toNat p) 0) - n))),.i c.value,.i c.time,.i c.proc,.own 2024 (List.length c.marks)],.b true])],[(3,⟨29,.fix (cC c)⟩),(6,⟨29,.fix [.v (.slice none 0 0),.v (.slice none 0 0),.i (0 : Int),.i (0 : Int),.i (0 : Int),.v (.slice none 0 0)]⟩),(8,⟨29,.fix [.own 24 (List.length c.up),.own 1024 (List.length (List.set c.down (Int.toNat p) ((List.getD c.down (Int.toNat p) 0) - n))),.i c.value,.i c.time,.i c.proc,.own 2024 (List.length c.marks)]⟩),(24,⟨3,.row (.ints c.up)⟩),(1024,⟨3,.row (.ints (List.set c.down (Int.toNat p) ((List.getD c.down (Int.toNat p) 0) - n)))⟩),(2024,⟨50,.row (.marks c.marks)⟩)],[3,6,8,24,999,1024,2024]⟩) 2 (by kernel_rfl) rfl ?_⟩
    refine WI.runT cok tab18 hnt [] 4 6 (⟨[(1,.i p),(2,.i n),(6,.ptr 6 0),(7,.b true),(8,.ptr 8 0),(26,.b (decide (n < (0 : Int)))),(27,.ptr 8 1),(29,.i p),(31,.i (List.getD c.down (Int.toNat p) 0)),(32,.i n),(33,.i ((List.getD c.down (Int.toNat p) 0) - n)),(43,.agg [.own 24 (List.length c.up),.own 1024 (List.length (List.set c.down (Int.toNat p) ((List.getD c.down (Int.toNat p) 0) - n))),.i c.value,.i c.time,.i c.proc,.own 2024 (List.length c.marks)]),(44,.tup [.agg [.own 24 (List.length c.up),.own 1024 (List.length (List.set c.down (Int.toNat p) ((List.getD c.down (Int.toNat p) 0) - n))),.i c.value,.i c.time,.i c.proc,.own 2024 (List.length c.marks)],.b true]),(45,.agg [.own 24 (List.length c.up),.own 1024 (List.length (List.set c.down (Int.toNat p) ((List.getD c.down (Int.toNat p) 0) - n))),.i c.value,.i c.time,.i c.proc,.own 2024 (List.length c.marks)]),(46,.b true)],[(3,⟨29,.fix (cC c)⟩),(6,⟨29,.fix [.own 24 (List.length c.up),.own 1024 (List.length (List.set c.down (Int.toNat p) ((List.getD c.down (Int.toNat p) 0) - n))),.i c.value,.i c.time,.i c.proc,.own 2024 (List.length c.marks)]⟩),(8,⟨29,.fix [.own 24 (List.length c.up),.own 1024 (List.length (List.set c.down (Int.toNat p) ((List.getD c.down (Int.toNat p) 0) - n))),.i c.value,.i c.time,.i c.proc,.own 2024 (List.length c.marks)]⟩),(24,⟨3,.row (.ints c.up)⟩),(1024,⟨3,.row (.ints (List.set c.down (Int.toNat p) ((List.getD c.down (Int.toNat p) 0) - n)))⟩),(2024,⟨50,.row (.marks c.marks)⟩)],[3,6,8,24,999,1024,2024]⟩)
     (True ∧ True ∧ (True ∧ True) ∧ True ∧ True) (by kernel_rfl) rfl
     ⟨tt,tt,⟨tt,tt⟩,tt,tt⟩ ?_
    refine WI.nil rfl (thenQ_normal ?_)
    refine W.keepE [6,7] [(6,.ptr 6 0),(7,.b true)] (by kernel_rfl) ?_
    refine W.to (⟨[(6,.ptr 6 0),(7,.b true)],[(3,⟨29,.fix (cC c)⟩),(6,⟨29,.fix [.own 24 (List.length c.up),.own 1024 (List.length (List.set c.down (Int.toNat p) ((List.getD c.down (Int.toNat p) 0) - n))),.i c.value,.i c.time,.i c.proc,.own 2024 (List.length c.marks)]⟩),(8,⟨29,.fix [.own 24 (List.length c.up),.own 1024 (List.length (List.set c.down (Int.toNat p) ((List.getD c.down (Int.toNat p) 0) - n))),.i c.value,.i c.time,.i c.proc,.own 2024 (List.length c.marks)]⟩),(24,⟨3,.row (.ints c.up)⟩),(1024,⟨3,.row (.ints (List.set c.down (Int.toNat p) ((List.getD c.down (Int.toNat p) 0) - n)))⟩),(2024,⟨50,.row (.marks c.marks)⟩)],[3,6,8,24,999,1024,2024]⟩) rfl ?_
    refine W.ret ?_
    exact endQ_rows [(0,24),(1,1024),(2,2024)] (.tup [.agg [.own 24 (List.length c.up),.own 1024 (List.length (List.set c.down (Int.toNat p) ((List.getD c.down (Int.toNat p) 0) - n))),.i c.value,.i c.time,.i c.proc,.own 2024 (List.length c.marks)],.b true]) (by kernel_rfl) (@cast (((((24 : Nat) = 24) ∧ ((List.length c.up) = (List.length ((addTo c p n).1.up))) ∧ ((0 : Nat) ∈ ([0,1,2] : List Nat))) ∧ (((1024 : Nat) = 1024) ∧ ((List.length (List.set c.down (Int.toNat p) ((List.getD c.down (Int.toNat p) 0) - n))) = (List.length ((addTo c p n).1.down))) ∧ ((1 : Nat) ∈ ([0,1,2] : List Nat))) ∧ ((.int .i64 c.value : Value) = .int .i64 ((addTo c p n).1.value)) ∧ ((.int .i64 c.time : Value) = .int .i64 ((addTo c p n).1.time)) ∧ ((.int .i64 c.proc : Value) = .int .i64 ((addTo c p n).1.proc)) ∧ (((2024 : Nat) = 2024) ∧ ((List.length c.marks) = (List.length ((addTo c p n).1.marks))) ∧ ((2 : Nat) ∈ ([0,1,2] : List Nat))) ∧ True) ∧ ((.bool true : Value) = .bool ((addTo c p n).2)) ∧ True) _ (by kernel_rfl) ⟨⟨⟨rfl,(by first | rfl | omega | assumption | (symm; assumption) | (exact congrArg List.length (by rw [addTo_ok hg (by rw [hea]; exact hV44),hea])) | (rw [addTo_ok hg (by rw [hea]; exact hV44),hea]; done) | simp | simp_all),(by decide)⟩,⟨rfl,(by first | rfl | omega | assumption | (symm; assumption) | (exact congrArg List.length (by rw [addTo_ok hg (by rw [hea]; exact hV44),hea])) | (rw [addTo_ok hg (by rw [hea]; exact hV44),hea]; done) | simp | simp_all),(by decide)⟩,(congrArg (Value.int .i64) (by first | rfl | omega | assumption | (rw [addTo_ok hg (by rw [hea]; exact hV44),hea]; done) | simp | simp_all)),(congrArg (Value.int .i64) (by first | rfl | omega | assumption | (rw [addTo_ok hg (by rw [hea]; exact hV44),hea]; done) | simp | simp_all)),(congrArg (Value.int .i64) (by first | rfl | omega | assumption | (rw [addTo_ok hg (by rw [hea]; exact hV44),hea]; done) | simp | simp_all)),⟨rfl,(by first | rfl | omega | assumption | (symm; assumption) | (exact congrArg List.length (by rw [addTo_ok hg (by rw [hea]; exact hV44),hea])) | (rw [addTo_ok hg (by rw [hea]; exact hV44),hea]; done) | simp | simp_all),(by decide)⟩,tt⟩,(congrArg Value.bool (by first | rfl | omega | assumption | (rw [addTo_ok hg (by rw [hea]; exact hV44),hea]; done) | simp | simp_all)),tt⟩) (@cast ((((3 : Nat) = 3) ∧ ((.ints c.up : Dat) = .ints ((addTo c p n).1.up)) ∧ ((0 : Nat) ∈ ([0,1,2] : List Nat))) ∧ (((3 : Nat) = 3) ∧ ((.ints (List.set c.down (Int.toNat p) ((List.getD c.down (Int.toNat p) 0) - n)) : Dat) = .ints ((addTo c p n).1.down)) ∧ ((1 : Nat) ∈ ([0,1,2] : List Nat))) ∧ (((50 : Nat) = 50) ∧ ((.marks c.marks : Dat) = .marks ((addTo c p n).1.marks)) ∧ ((2 : Nat) ∈ ([0,1,2] : List Nat))) ∧ True) _ (by kernel_rfl) ⟨⟨rfl,(congrArg Dat.ints (by rw [addTo_ok hg (by rw [hea]; exact hV44),hea])),(by decide)⟩,⟨rfl,(congrArg Dat.ints (by rw [addTo_ok hg (by rw [hea]; exact hV44),hea])),(by decide)⟩,⟨rfl,(congrArg Dat.marks (by rw [addTo_ok hg (by rw [hea]; exact hV44),hea])),(by decide)⟩,tt⟩) (by kernel_rfl)
   ·skip
    refine WI.callH _ [.agg [.own 24 (List.length c.up),.own 1024 (List.length (List.set c.down (Int.toNat p) ((List.getD c.down (Int.toNat p) 0) - n))),.i c.value,.i c.time,.i c.proc,.own 2024 (List.length c.marks)]] [] (.fn 45 []) _ _ [(911,24),(912,1024),(913,2024)] (hok45n c.up (List.set c.down (Int.toNat p) ((List.getD c.down (Int.toNat p) 0) - n)) c.value c.time c.proc c.marks (by first | exact hV44 | exact nV44)) ent45n hnt rfl rfl (wanted_none rfl) (by kernel_rfl) (by kernel_rfl) trivial (by kernel_rfl) (by kernel_rfl) (by kernel_rfl) (@cast (((some ⟨3,.row (.ints c.up)⟩ : Option LB) = some ⟨3,.row (.ints c.up)⟩) ∧ (true = true) ∧ ((some ⟨3,.row (.ints (List.set c.down (Int.toNat p) ((List.getD c.down (Int.toNat p) 0) - n)))⟩ : Option LB) = some ⟨3,.row (.ints (List.set c.down (Int.toNat p) ((List.getD c.down (Int.toNat p) 0) - n)))⟩) ∧ (true = true) ∧ ((some ⟨50,.row (.marks c.marks)⟩ : Option LB) = some ⟨50,.row (.marks c.marks)⟩) ∧ (true = true) ∧ (True)) _ (by kernel_rfl) ⟨rfl,rfl,rfl,rfl,rfl,rfl,tt⟩) (by kernel_rfl) rfl ?_
    rintro r s1 u1 ⟨rfl,rfl,rfl⟩
    refine ⟨[(911,24),(912,1024),(913,2024)],by kernel_rfl,WI.to (⟨[(1,.i p),(2,.i n),(6,.ptr 6 0),(8,.ptr 8 0),(26,.b (decide (n < (0 : Int)))),(27,.ptr 8 1),(29,.i p),(31,.i (List.getD c.down (Int.toNat p) 0)),(32,.i n),(33,.i ((List.getD c.down (Int.toNat p) 0) - n)),(43,.agg [.own 24 (List.length c.up),.own 1024 (List.length (List.set c.down (Int.toNat p) ((List.getD c.down (Int.toNat p) 0) - n))),.i c.value,.i c.time,.i c.proc,.own 2024 (List.length c.marks)]),(44,.tup [.agg [.v (.slice none 0 0),.v (.slice none 0 0),.i (0 : Int),.i (0 : Int),.i (0 : Int),.v (.slice none 0 0)],.b false])],[(3,⟨29,.fix (cC c)⟩),(6,⟨29,.fix [.v (.slice none 0 0),.v (.slice none 0 0),.i (0 : Int),.i (0 : Int),.i (0 : Int),.v (.slice none 0 0)]⟩),(8,⟨29,.fix [.own 24 (List.length c.up),.own 1024 (List.length (List.set c.down (Int.toNat p) ((List.getD c.down (Int.toNat p) 0) - n))),.i c.value,.i c.time,.i c.proc,.own 2024 (List.length c.marks)]⟩),(24,⟨3,.row (.ints c.up)⟩),(1024,⟨3,.row (.ints (List.set c.down (Int.toNat p) ((List.getD c.down (Int.toNat p) 0) - n)))⟩),(2024,⟨50,.row (.marks c.marks)⟩)],[3,6,8,24,999,1024,2024]⟩) 2 (by kernel_rfl) rfl ?_⟩
    refine WI.runT cok tab18 hnt [] 4 6 (⟨[(1,.i p),(2,.i n),(6,.ptr 6 0),(7,.b false),(8,.ptr 8 0),(26,.b (decide (n < (0 : Int)))),(27,.ptr 8 1),(29,.i p),(31,.i (List.getD c.down (Int.toNat p) 0)),(32,.i n),(33,.i ((List.getD c.down (Int.toNat p) 0) - n)),(43,.agg [.own 24 (List.length c.up),.own 1024 (List.length (List.set c.down (Int.toNat p) ((List.getD c.down (Int.toNat p) 0) - n))),.i c.value,.i c.time,.i c.proc,.own 2024 (List.length c.marks)]),(44,.tup [.agg [.v (.slice none 0 0),.v (.slice none 0 0),.i (0 : Int),.i (0 : Int),.i (0 : Int),.v (.slice none 0 0)],.b false]),(45,.agg [.v (.slice none 0 0),.v (.slice none 0 0),.i (0 : Int),.i (0 : Int),.i (0 : Int),.v (.slice none 0 0)]),(46,.b false)],[(3,⟨29,.fix (cC c)⟩),(6,⟨29,.fix [.v (.slice none 0 0),.v (.slice none 0 0),.i (0 : Int),.i (0 : Int),.i (0 : Int),.v (.slice none 0 0)]⟩),(8,⟨29,.fix [.own 24 (List.length c.up),.own 1024 (List.length (List.set c.down (Int.toNat p) ((List.getD c.down (Int.toNat p) 0) - n))),.i c.value,.i c.time,.i c.proc,.own 2024 (List.length c.marks)]⟩),(24,⟨3,.row (.ints c.up)⟩),(1024,⟨3,.row (.ints (List.set c.down (Int.toNat p) ((List.getD c.down (Int.toNat p) 0) - n)))⟩),(2024,⟨50,.row (.marks c.marks)⟩)],[3,6,8,24,999,1024,2024]⟩)
     (True ∧ True ∧ (True ∧ True) ∧ True ∧ True) (by kernel_rfl) rfl
     ⟨tt,tt,⟨tt,tt⟩,tt,tt⟩ ?_
    refine WI.nil rfl (thenQ_normal ?_)
    refine W.keepE [6,7] [(6,.ptr 6 0),(7,.b false)] (by kernel_rfl) ?_
    refine W.to (⟨[(6,.ptr 6 0),(7,.b false)],[(3,⟨29,.fix (cC c)⟩),(6,⟨29,.fix [.v (.slice none 0 0),.v (.slice none 0 0),.i (0 : Int),.i (0 : Int),.i (0 : Int),.v (.slice none 0 0)]⟩),(8,⟨29,.fix [.own 24 (List.length c.up),.own 1024 (List.length (List.set c.down (Int.toNat p) ((List.getD c.down (Int.toNat p) 0) - n))),.i c.value,.i c.time,.i c.proc,.own 2024 (List.length c.marks)]⟩),(24,⟨3,.row (.ints c.up)⟩),(1024,⟨3,.row (.ints (List.set c.down (Int.toNat p) ((List.getD c.down (Int.toNat p) 0) - n)))⟩),(2024,⟨50,.row (.marks c.marks)⟩)],[3,6,8,24,999,1024,2024]⟩) rfl ?_
    refine W.nilCell 6 821 0 29 3 (.ints ([] : List Int)) [.v (.slice none 0 0),.v (.slice none 0 0),.i (0 : Int),.i (0 : Int),.i (0 : Int),.v (.slice none 0 0)] (⟨[(6,.ptr 6 0),(7,.b false)],[(3,⟨29,.fix (cC c)⟩),(6,⟨29,.fix [.own 821 0,.v (.slice none 0 0),.i (0 : Int),.i (0 : Int),.i (0 : Int),.v (.slice none 0 0)]⟩),(8,⟨29,.fix [.own 24 (List.length c.up),.own 1024 (List.length (List.set c.down (Int.toNat p) ((List.getD c.down (Int.toNat p) 0) - n))),.i c.value,.i c.time,.i c.proc,.own 2024 (List.length c.marks)]⟩),(24,⟨3,.row (.ints c.up)⟩),(821,⟨3,.row (.ints ([] : List Int))⟩),(1024,⟨3,.row (.ints (List.set c.down (Int.toNat p) ((List.getD c.down (Int.toNat p) 0) - n)))⟩),(2024,⟨50,.row (.marks c.marks)⟩)],[821,3,6,8,24,999,1024,2024]⟩) (by kernel_rfl) rfl rfl (by kernel_rfl) (by kernel_rfl) ?_
    refine W.nilCell 6 822 1 29 3 (.ints ([] : List Int)) [.own 821 0,.v (.slice none 0 0),.i (0 : Int),.i (0 : Int),.i (0 : Int),.v (.slice none 0 0)] (⟨[(6,.ptr 6 0),(7,.b false)],[(3,⟨29,.fix (cC c)⟩),(6,⟨29,.fix [.own 821 0,.own 822 0,.i (0 : Int),.i (0 : Int),.i (0 : Int),.v (.slice none 0 0)]⟩),(8,⟨29,.fix [.own 24 (List.length c.up),.own 1024 (List.length (List.set c.down (Int.toNat p) ((List.getD c.down (Int.toNat p) 0) - n))),.i c.value,.i c.time,.i c.proc,.own 2024 (List.length c.marks)]⟩),(24,⟨3,.row (.ints c.up)⟩),(821,⟨3,.row (.ints ([] : List Int))⟩),(822,⟨3,.row (.ints ([] : List Int))⟩),(1024,⟨3,.row (.ints (List.set c.down (Int.toNat p) ((List.getD c.down (Int.toNat p) 0) - n)))⟩),(2024,⟨50,.row (.marks c.marks)⟩)],[822,821,3,6,8,24,999,1024,2024]⟩) (by kernel_rfl) rfl rfl (by kernel_rfl) (by kernel_rfl) ?_
    refine W.nilCell 6 826 5 29 50 (.marks ([] : List MarkD)) [.own 821 0,.own 822 0,.i (0 : Int),.i (0 : Int),.i (0 : Int),.v (.slice none 0 0)] (⟨[(6,.ptr 6 0),(7,.b false)],[(3,⟨29,.fix (cC c)⟩),(6,⟨29,.fix [.own 821 0,.own 822 0,.i (0 : Int),.i (0 : Int),.i (0 : Int),.own 826 0]⟩),(8,⟨29,.fix [.own 24 (List.length c.up),.own 1024 (List.length (List.set c.down (Int.toNat p) ((List.getD c.down (Int.toNat p) 0) - n))),.i c.value,.i c.time,.i c.proc,.own 2024 (List.length c.marks)]⟩),(24,⟨3,.row (.ints c.up)⟩),(821,⟨3,.row (.ints ([] : List Int))⟩),(822,⟨3,.row (.ints ([] : List Int))⟩),(826,⟨50,.row (.marks ([] : List MarkD))⟩),(1024,⟨3,.row (.ints (List.set c.down (Int.toNat p) ((List.getD c.down (Int.toNat p) 0) - n)))⟩),(2024,⟨50,.row (.marks c.marks)⟩)],[826,822,821,3,6,8,24,999,1024,2024]⟩) (by kernel_rfl) rfl rfl (by kernel_rfl) (by kernel_rfl) ?_
    refine W.ret ?_
    exact endQ_rows [(0,821),(1,822),(2,826)] (.tup [.agg [.own 821 0,.own 822 0,.i (0 : Int),.i (0 : Int),.i (0 : Int),.own 826 0],.b false]) (by kernel_rfl) (@cast (((((821 : Nat) = 821) ∧ (0 = (List.length ((addTo c p n).1.up))) ∧ ((0 : Nat) ∈ ([0,1,2] : List Nat))) ∧ (((822 : Nat) = 822) ∧ (0 = (List.length ((addTo c p n).1.down))) ∧ ((1 : Nat) ∈ ([0,1,2] : List Nat))) ∧ ((.int .i64 (0 : Int) : Value) = .int .i64 ((addTo c p n).1.value)) ∧ ((.int .i64 (0 : Int) : Value) = .int .i64 ((addTo c p n).1.time)) ∧ ((.int .i64 (0 : Int) : Value) = .int .i64 ((addTo c p n).1.proc)) ∧ (((826 : Nat) = 826) ∧ (0 = (List.length ((addTo c p n).1.marks))) ∧ ((2 : Nat) ∈ ([0,1,2] : List Nat))) ∧ True) ∧ ((.bool false : Value) = .bool ((addTo c p n).2)) ∧ True) _ (by kernel_rfl) ⟨⟨⟨rfl,(by first | rfl | omega | assumption | (symm; assumption) | (exact congrArg List.length (by rw [addTo_bad hg (by rw [hea]; exact nV44)] <;> rfl)) | (rw [addTo_bad hg (by rw [hea]; exact nV44)] <;> rfl; done) | simp | simp_all),(by decide)⟩,⟨rfl,(by first | rfl | omega | assumption | (symm; assumption) | (exact congrArg List.length (by rw [addTo_bad hg (by rw [hea]; exact nV44)] <;> rfl)) | (rw [addTo_bad hg (by rw [hea]; exact nV44)] <;> rfl; done) | simp | simp_all),(by decide)⟩,(congrArg (Value.int .i64) (by first | rfl | omega | assumption | (rw [addTo_bad hg (by rw [hea]; exact nV44)] <;> rfl; done) | simp | simp_all)),(congrArg (Value.int .i64) (by first | rfl | omega | assumption | (rw [addTo_bad hg (by rw [hea]; exact nV44)] <;> rfl; done) | simp | simp_all)),(congrArg (Value.int .i64) (by first | rfl | omega | assumption | (rw [addTo_bad hg (by rw [hea]; exact nV44)] <;> rfl; done) | simp | simp_all)),⟨rfl,(by first | rfl | omega | assumption | (symm; assumption) | (exact congrArg List.length (by rw [addTo_bad hg (by rw [hea]; exact nV44)] <;> rfl)) | (rw [addTo_bad hg (by rw [hea]; exact nV44)] <;> rfl; done) | simp | simp_all),(by decide)⟩,tt⟩,(congrArg Value.bool (by first | rfl | omega | assumption | (rw [addTo_bad hg (by rw [hea]; exact nV44)] <;> rfl; done) | simp | simp_all)),tt⟩) (@cast ((((3 : Nat) = 3) ∧ ((.ints ([] : List Int) : Dat) = .ints ((addTo c p n).1.up)) ∧ ((0 : Nat) ∈ ([0,1,2] : List Nat))) ∧ (((3 : Nat) = 3) ∧ ((.ints ([] : List Int) : Dat) = .ints ((addTo c p n).1.down)) ∧ ((1 : Nat) ∈ ([0,1,2] : List Nat))) ∧ (((50 : Nat) = 50) ∧ ((.marks ([] : List MarkD) : Dat) = .marks ((addTo c p n).1.marks)) ∧ ((2 : Nat) ∈ ([0,1,2] : List Nat))) ∧ True) _ (by kernel_rfl) ⟨⟨rfl,(congrArg Dat.ints (by rw [addTo_bad hg (by rw [hea]; exact nV44)] <;> rfl)),(by decide)⟩,⟨rfl,(congrArg Dat.ints (by rw [addTo_bad hg (by rw [hea]; exact nV44)] <;> rfl)),(by decide)⟩,⟨rfl,(congrArg Dat.marks (by rw [addTo_bad hg (by rw [hea]; exact nV44)] <;> rfl)),(by decide)⟩,tt⟩) (by kernel_rfl)
  ·intro n26
   have hea := added_pos hg n26
   refine Lk cok tab18 hnt [] (⟨[(1,.i p),(2,.i n),(6,.ptr 6 0),(8,.ptr 8 0),(26,.b (decide (n < (0 : Int)))),(35,.ptr 8 0),(36,.own 24 (List.length c.up)),(37,.i p),(38,.pel 24 1 (Int.toNat p) 0),(39,.i (List.getD c.up (Int.toNat p) 0)),(40,.i n),(41,.i ((List.getD c.up (Int.toNat p) 0) + n)),(42,.pel 24 1 (Int.toNat p) 0)],[(3,⟨29,.fix (cC c)⟩),(6,⟨29,.fix [.v (.slice none 0 0),.v (.slice none 0 0),.i (0 : Int),.i (0 : Int),.i (0 : Int),.v (.slice none 0 0)]⟩),(8,⟨29,.fix [.own 24 (List.length c.up),.own 1024 (List.length c.down),.i c.value,.i c.time,.i c.proc,.own 2024 (List.length c.marks)]⟩),(24,⟨3,.row (.ints (List.set c.up (Int.toNat p) ((List.getD c.up (Int.toNat p) 0) + n)))⟩),(1024,⟨3,.row (.ints c.down)⟩),(2024,⟨50,.row (.marks c.marks)⟩)],[8,2024,1024,24,6,3,999]⟩)
    (True ∧ True ∧ True ∧ (True ∧ True ∧ (0 ≤ p) ∧ (p < (((List.length c.up) : Nat) : Int))) ∧ (True ∧ ((Int.toNat p) < (List.length c.up))) ∧ True ∧ (True ∧ True ∧ (Fits .i64 ((List.getD c.up (Int.toNat p) 0) + n))) ∧ (True ∧ True ∧ (0 ≤ p) ∧ (p < (((List.length c.up) : Nat) : Int))) ∧ (True ∧ True ∧ ((Int.toNat p) < (List.length c.up))) ∧ True)
    ⟨tt,tt,tt,⟨tt,tt,(by omega),(by omega)⟩,⟨tt,(by omega)⟩,tt,⟨tt,tt,(by exact fits_i64 (by (first | omega | (simp only [List.length_set]; done) | (simp only [List.length_append,List.length_cons,List.length_nil,List.length_take,List.length_drop,List.length_set,List.length_replicate,List.length_map] at *; omega) | assumption)) (by (first | omega | (simp only [List.length_set]; done) | (simp only [List.length_append,List.length_cons,List.length_nil,List.length_take,List.length_drop,List.length_set,List.length_replicate,List.length_map] at *; omega) | assumption)))⟩,⟨tt,tt,(by omega),(by omega)⟩,⟨tt,tt,(by omega)⟩,tt⟩ ?_
   refine thenQ_normal ?_
   refine W.subS [] (⟨[(1,.i p),(2,.i n),(6,.ptr 6 0),(8,.ptr 8 0),(26,.b (decide (n < (0 : Int)))),(35,.ptr 8 0),(37,.i p),(39,.i (List.getD c.up (Int.toNat p) 0)),(40,.i n),(41,.i ((List.getD c.up (Int.toNat p) 0) + n))],[(3,⟨29,.fix (cC c)⟩),(6,⟨29,.fix [.v (.slice none 0 0),.v (.slice none 0 0),.i (0 : Int),.i (0 : Int),.i (0 : Int),.v (.slice none 0 0)]⟩),(8,⟨29,.fix [.own 24 (List.length (List.set c.up (Int.toNat p) ((List.getD c.up (Int.toNat p) 0) + n))),.own 1024 (List.length c.down),.i c.value,.i c.time,.i c.proc,.own 2024 (List.length c.marks)]⟩),(24,⟨3,.row (.ints (List.set c.up (Int.toNat p) ((List.getD c.up (Int.toNat p) 0) + n)))⟩),(1024,⟨3,.row (.ints c.down)⟩),(2024,⟨50,.row (.marks c.marks)⟩)],[3,6,8,24,999,1024,2024]⟩) (@cast (((Si p) ∧ (Si n) ∧ (((6 : Nat) = 6) ∧ ((0 : Nat) = 0) ∧ ((6 : Nat) ∈ ([3,6,8,24,999,1024,2024] : List Nat))) ∧ (((8 : Nat) = 8) ∧ ((0 : Nat) = 0) ∧ ((8 : Nat) ∈ ([3,6,8,24,999,1024,2024] : List Nat))) ∧ (Sv (.bool (decide (n < (0 : Int))))) ∧ (((8 : Nat) = 8) ∧ ((0 : Nat) = 0) ∧ ((8 : Nat) ∈ ([3,6,8,24,999,1024,2024] : List Nat))) ∧ (Si p) ∧ (Si (List.getD c.up (Int.toNat p) 0)) ∧ (Si n) ∧ (Si ((List.getD c.up (Int.toNat p) 0) + n)) ∧ True) ∧ ((((29 : Nat) = 29) ∧ (Sc c) ∧ ((3 : Nat) ∈ ([3,6,8,24,999,1024,2024] : List Nat))) ∧ (((29 : Nat) = 29) ∧ ((((.slice none 0 0) : Value) = (.slice none 0 0)) ∧ (((.slice none 0 0) : Value) = (.slice none 0 0)) ∧ (Si (0 : Int)) ∧ (Si (0 : Int)) ∧ (Si (0 : Int)) ∧ (((.slice none 0 0) : Value) = (.slice none 0 0)) ∧ True) ∧ ((6 : Nat) ∈ ([3,6,8,24,999,1024,2024] : List Nat))) ∧ (((29 : Nat) = 29) ∧ ((((24 : Nat) = 24) ∧ ((List.length c.up) = (List.length (List.set c.up (Int.toNat p) ((List.getD c.up (Int.toNat p) 0) + n)))) ∧ ((24 : Nat) ∈ ([3,6,8,24,999,1024,2024] : List Nat))) ∧ (((1024 : Nat) = 1024) ∧ ((List.length c.down) = (List.length c.down)) ∧ ((1024 : Nat) ∈ ([3,6,8,24,999,1024,2024] : List Nat))) ∧ (Si c.value) ∧ (Si c.time) ∧ (Si c.proc) ∧ (((2024 : Nat) = 2024) ∧ ((List.length c.marks) = (List.length c.marks)) ∧ ((2024 : Nat) ∈ ([3,6,8,24,999,1024,2024] : List Nat))) ∧ True) ∧ ((8 : Nat) ∈ ([3,6,8,24,999,1024,2024] : List Nat))) ∧ (((3 : Nat) = 3) ∧ (Sd (.ints (List.set c.up (Int.toNat p) ((List.getD c.up (Int.toNat p) 0) + n)))) ∧ ((24 : Nat) ∈ ([3,6,8,24,999,1024,2024] : List Nat))) ∧ (((3 : Nat) = 3) ∧ (Sd (.ints c.down)) ∧ ((1024 : Nat) ∈ ([3,6,8,24,999,1024,2024] : List Nat))) ∧ (((50 : Nat) = 50) ∧ (Sd (.marks c.marks)) ∧ ((2024 : Nat) ∈ ([3,6,8,24,999,1024,2024] : List Nat))) ∧ True) ∧ (true = true) ∧ (true = true)) _ (by kernel_rfl) ⟨⟨rfl,rfl,⟨rfl,rfl,(by decide)⟩,⟨rfl,rfl,(by decide)⟩,rfl,⟨rfl,rfl,(by decide)⟩,rfl,rfl,rfl,rfl,tt⟩,⟨⟨rfl,⟨rfl,rfl,rfl,rfl,rfl,rfl,tt⟩,(by decide)⟩,⟨rfl,⟨rfl,rfl,rfl,rfl,rfl,rfl,tt⟩,(by decide)⟩,⟨rfl,⟨⟨rfl,(by first | rfl | omega | assumption | (symm; assumption) | simp | simp_all),(by decide)⟩,⟨rfl,rfl,(by decide)⟩,rfl,rfl,rfl,⟨rfl,rfl,(by decide)⟩,tt⟩,(by decide)⟩,⟨rfl,rfl,(by decide)⟩,⟨rfl,rfl,(by decide)⟩,⟨rfl,rfl,(by decide)⟩,tt⟩,rfl,rfl⟩) ?_
   refine W.seq (W.wi ?_)
   refine WI.runT cok tab18 hnt [] 1 1 (⟨[(1,.i p),(2,.i n),(6,.ptr 6 0),(8,.ptr 8 0),(26,.b (decide (n < (0 : Int)))),(35,.ptr 8 0),(37,.i p),(39,.i (List.getD c.up (Int.toNat p) 0)),(40,.i n),(41,.i ((List.getD c.up (Int.toNat p) 0) + n)),(43,.agg [.own 24 (List.length (List.set c.up (Int.toNat p) ((List.getD c.up (Int.toNat p) 0) + n))),.own 1024 (List.length c.down),.i c.value,.i c.time,.i c.proc,.own 2024 (List.length c.marks)])],[(3,⟨29,.fix (cC c)⟩),(6,⟨29,.fix [.v (.slice none 0 0),.v (.slice none 0 0),.i (0 : Int),.i (0 : Int),.i (0 : Int),.v (.slice none 0 0)]⟩),(8,⟨29,.fix [.own 24 (List.length (List.set c.up (Int.toNat p) ((List.getD c.up (Int.toNat p) 0) + n))),.own 1024 (List.length c.down),.i c.value,.i c.time,.i c.proc,.own 2024 (List.length c.marks)]⟩),(24,⟨3,.row (.ints (List.set c.up (Int.toNat p) ((List.getD c.up (Int.toNat p) 0) + n)))⟩),(1024,⟨3,.row (.ints c.down)⟩),(2024,⟨50,.row (.marks c.marks)⟩)],[3,6,8,24,999,1024,2024]⟩)
    (True ∧ True) (by kernel_rfl) rfl
    ⟨tt,tt⟩ ?_
   rcases Bool.eq_false_or_eq_true (validCopy (⟨List.set c.up (Int.toNat p) ((List.getD c.up (Int.toNat p) 0) + n),c.down,c.value,c.time,c.proc,c.marks⟩ : CopyD)) with hV44 | nV44
   ·skip
    refine WI.callH _ [.agg [.own 24 (List.length (List.set c.up (Int.toNat p) ((List.getD c.up (Int.toNat p) 0) + n))),.own 1024 (List.length c.down),.i c.value,.i c.time,.i c.proc,.own 2024 (List.length c.marks)]] [] (.fn 45 []) _ _ [(911,24),(912,1024),(913,2024)] (hok45y (List.set c.up (Int.toNat p) ((List.getD c.up (Int.toNat p) 0) + n)) c.down c.value c.time c.proc c.marks (by first | exact hV44 | exact nV44)) ent45y hnt rfl rfl (wanted_none rfl) (by kernel_rfl) (by kernel_rfl) trivial (by kernel_rfl) (by kernel_rfl) (by kernel_rfl) (@cast (((some ⟨3,.row (.ints (List.set c.up (Int.toNat p) ((List.getD c.up (Int.toNat p) 0) + n)))⟩ : Option LB) = some ⟨3,.row (.ints (List.set c.up (Int.toNat p) ((List.getD c.up (Int.toNat p) 0) + n)))⟩) ∧ (true = true) ∧ ((some ⟨3,.row (.ints c.down)⟩ : Option LB) = some ⟨3,.row (.ints c.down)⟩) ∧ (true = true) ∧ ((some ⟨50,.row (.marks c.marks)⟩ : Option LB) = some ⟨50,.row (.marks c.marks)⟩) ∧ (true = true) ∧ (True)) _ (by kernel_rfl) ⟨rfl,rfl,rfl,rfl,rfl,rfl,tt⟩) (by kernel_rfl) rfl ?_
    rintro r s1 u1 ⟨rfl,rfl,rfl⟩
    refine ⟨[(911,24),(912,1024),(913,2024)],by kernel_rfl,WI.to (⟨[(1,.i p),(2,.i n),(6,.ptr 6 0),(8,.ptr 8 0),(26,.b (decide (n < (0 : Int)))),(35,.ptr 8 0),(37,.i p),(39,.i (List.getD c.up (Int.toNat p) 0)),(40,.i n),(41,.i ((List.getD c.up (Int.toNat p) 0) + n)),(43,.agg [.own 24 (List.length (List.set c.up (Int.toNat p) ((List.getD c.up (Int.toNat p) 0) + n))),.own 1024 (List.length c.down),.i c.value,.i c.time,.i c.proc,.own 2024 (List.length c.marks)]),(44,.tup [.agg [.own 24 (List.length (List.set c.up (Int.toNat p) ((List.getD c.up (Int.toNat p) 0) + n))),.own 1024 (List.length c.down),.i c.value,.i c.time,.i c.proc,.own 2024 (List.length c.marks)],.b true])],[(3,⟨29,.fix (cC c)⟩),(6,⟨29,.fix [.v (.slice none 0 0),.v (.slice none 0 0),.i (0 : Int),.i (0 : Int),.i (0 : Int),.v (.slice none 0 0)]⟩),(8,⟨29,.fix [.own 24 (List.length (List.set c.up (Int.toNat p) ((List.getD c.up (Int.toNat p) 0) + n))),.own 1024 (List.length c.down),.i c.value,.i c.time,.i c.proc,.own 2024 (List.length c.marks)]⟩),(24,⟨3,.row (.ints (List.set c.up (Int.toNat p) ((List.getD c.up (Int.toNat p) 0) + n)))⟩),(1024,⟨3,.row (.ints c.down)⟩),(2024,⟨50,.row (.marks c.marks)⟩)],[3,6,8,24,999,1024,2024]⟩) 2 (by kernel_rfl) rfl ?_⟩
    refine WI.runT cok tab18 hnt [] 4 6 (⟨[(1,.i p),(2,.i n),(6,.ptr 6 0),(7,.b true),(8,.ptr 8 0),(26,.b (decide (n < (0 : Int)))),(35,.ptr 8 0),(37,.i p),(39,.i (List.getD c.up (Int.toNat p) 0)),(40,.i n),(41,.i ((List.getD c.up (Int.toNat p) 0) + n)),(43,.agg [.own 24 (List.length (List.set c.up (Int.toNat p) ((List.getD c.up (Int.toNat p) 0) + n))),.own 1024 (List.length c.down),.i c.value,.i c.time,.i c.proc,.own 2024 (List.length c.marks)]),(44,.tup [.agg [.own 24 (List.length (List.set c.up (Int.toNat p) ((List.getD c.up (Int.toNat p) 0) + n))),.own 1024 (List.length c.down),.i c.value,.i c.time,.i c.proc,.own 2024 (List.length c.marks)],.b true]),(45,.agg [.own 24 (List.length (List.set c.up (Int.toNat p) ((List.getD c.up (Int.toNat p) 0) + n))),.own 1024 (List.length c.down),.i c.value,.i c.time,.i c.proc,.own 2024 (List.length c.marks)]),(46,.b true)],[(3,⟨29,.fix (cC c)⟩),(6,⟨29,.fix [.own 24 (List.length (List.set c.up (Int.toNat p) ((List.getD c.up (Int.toNat p) 0) + n))),.own 1024 (List.length c.down),.i c.value,.i c.time,.i c.proc,.own 2024 (List.length c.marks)]⟩),(8,⟨29,.fix [.own 24 (List.length (List.set c.up (Int.toNat p) ((List.getD c.up (Int.toNat p) 0) + n))),.own 1024 (List.length c.down),.i c.value,.i c.time,.i c.proc,.own 2024 (List.length c.marks)]⟩),(24,⟨3,.row (.ints (List.set c.up (Int.toNat p) ((List.getD c.up (Int.toNat p) 0) + n)))⟩),(1024,⟨3,.row (.ints c.down)⟩),(2024,⟨50,.row (.marks c.marks)⟩)],[3,6,8,24,999,1024,2024]⟩)
     (True ∧ True ∧ (True ∧ True) ∧ True ∧ True) (by kernel_rfl) rfl
     ⟨tt,tt,⟨tt,tt⟩,tt,tt⟩ ?_
    refine WI.nil rfl (thenQ_normal ?_)
    refine W.keepE [6,7] [(6,.ptr 6 0),(7,.b true)] (by kernel_rfl) ?_
    refine W.to (⟨[(6,.ptr 6 0),(7,.b true)],[(3,⟨29,.fix (cC c)⟩),(6,⟨29,.fix [.own 24 (List.length (List.set c.up (Int.toNat p) ((List.getD c.up (Int.toNat p) 0) + n))),.own 1024 (List.length c.down),.i c.value,.i c.time,.i c.proc,.own 2024 (List.length c.marks)]⟩),(8,⟨29,.fix [.own 24 (List.length (List.set c.up (Int.toNat p) ((List.getD c.up (Int.toNat p) 0) + n))),.own 1024 (List.length c.down),.i c.value,.i c.time,.i c.proc,.own 2024 (List.length c.marks)]⟩),(24,⟨3,.row (.ints (List.set c.up (Int.toNat p) ((List.getD c.up (Int.toNat p) 0) + n)))⟩),(1024,⟨3,.row (.ints c.down)⟩),(2024,⟨50,.row (.marks c.marks)⟩)],[3,6,8,24,999,1024,2024]⟩) rfl ?_
    refine W.ret ?_
    exact endQ_rows [(0,24),(1,1024),(2,2024)] (.tup [.agg [.own 24 (List.length (List.set c.up (Int.toNat p) ((List.getD c.up (Int.toNat p) 0) + n))),.own 1024 (List.length c.down),.i c.value,.i c.time,.i c.proc,.own 2024 (List.length c.marks)],.b true]) (by kernel_rfl) (@cast (((((24 : Nat) = 24) ∧ ((List.length (List.set c.up (Int.toNat p) ((List.getD c.up (Int.toNat p) 0) + n))) = (List.length ((addTo c p n).1.up))) ∧ ((0 : Nat) ∈ ([0,1,2] : List Nat))) ∧ (((1024 : Nat) = 1024) ∧ ((List.length c.down) = (List.length ((addTo c p n).1.down))) ∧ ((1 : Nat) ∈ ([0,1,2] : List Nat))) ∧ ((.int .i64 c.value : Value) = .int .i64 ((addTo c p n).1.value)) ∧ ((.int .i64 c.time : Value) = .int .i64 ((addTo c p n).1.time)) ∧ ((.int .i64 c.proc : Value) = .int .i64 ((addTo c p n).1.proc)) ∧ (((2024 : Nat) = 2024) ∧ ((List.length c.marks) = (List.length ((addTo c p n).1.marks))) ∧ ((2 : Nat) ∈ ([0,1,2] : List Nat))) ∧ True) ∧ ((.bool true : Value) = .bool ((addTo c p n).2)) ∧ True) _ (by kernel_rfl) ⟨⟨⟨rfl,(by first | rfl | omega | assumption | (symm; assumption) | (exact congrArg List.length (by rw [addTo_ok hg (by rw [hea]; exact hV44),hea])) | (rw [addTo_ok hg (by rw [hea]; exact hV44),hea]; done) | simp | simp_all),(by decide)⟩,⟨rfl,(by first | rfl | omega | assumption | (symm; assumption) | (exact congrArg List.length (by rw [addTo_ok hg (by rw [hea]; exact hV44),hea])) | (rw [addTo_ok hg (by rw [hea]; exact hV44),hea]; done) | simp | simp_all),(by decide)⟩,(congrArg (Value.int .i64) (by first | rfl | omega | assumption | (rw [addTo_ok hg (by rw [hea]; exact hV44),hea]; done) | simp | simp_all)),(congrArg (Value.int .i64) (by first | rfl | omega | assumption | (rw [addTo_ok hg (by rw [hea]; exact hV44),hea]; done) | simp | simp_all)),(congrArg (Value.int .i64) (by first | rfl | omega | assumption | (rw [addTo_ok hg (by rw [hea]; exact hV44),hea]; done) | simp | simp_all)),⟨rfl,(by first | rfl | omega | assumption | (symm; assumption) | (exact congrArg List.length (by rw [addTo_ok hg (by rw [hea]; exact hV44),hea])) | (rw [addTo_ok hg (by rw [hea]; exact hV44),hea]; done) | simp | simp_all),(by decide)⟩,tt⟩,(congrArg Value.bool (by first | rfl | omega | assumption | (rw [addTo_ok hg (by rw [hea]; exact hV44),hea]; done) | simp | simp_all)),tt⟩) (@cast ((((3 : Nat) = 3) ∧ ((.ints (List.set c.up (Int.toNat p) ((List.getD c.up (Int.toNat p) 0) + n)) : Dat) = .ints ((addTo c p n).1.up)) ∧ ((0 : Nat) ∈ ([0,1,2] : List Nat))) ∧ (((3 : Nat) = 3) ∧ ((.ints c.down : Dat) = .ints ((addTo c p n).1.down)) ∧ ((1 : Nat) ∈ ([0,1,2] : List Nat))) ∧ (((50 : Nat) = 50) ∧ ((.marks c.marks : Dat) = .marks ((addTo c p n).1.marks)) ∧ ((2 : Nat) ∈ ([0,1,2] : List Nat))) ∧ True) _ (by kernel_rfl) ⟨⟨rfl,(congrArg Dat.ints (by rw [addTo_ok hg (by rw [hea]; exact hV44),hea])),(by decide)⟩,⟨rfl,(congrArg Dat.ints (by rw [addTo_ok hg (by rw [hea]; exact hV44),hea])),(by decide)⟩,⟨rfl,(congrArg Dat.marks (by rw [addTo_ok hg (by rw [hea]; exact hV44),hea])),(by decide)⟩,tt⟩) (by kernel_rfl)
   ·skip
    refine WI.callH _ [.agg [.own 24 (List.length (List.set c.up (Int.toNat p) ((List.getD c.up (Int.toNat p) 0) + n))),.own 1024 (List.length c.down),.i c.value,.i c.time,.i c.proc,.own 2024 (List.length c.marks)]] [] (.fn 45 []) _ _ [(911,24),(912,1024),(913,2024)] (hok45n (List.set c.up (Int.toNat p) ((List.getD c.up (Int.toNat p) 0) + n)) c.down c.value c.time c.proc c.marks (by first | exact hV44 | exact nV44)) ent45n hnt rfl rfl (wanted_none rfl) (by kernel_rfl) (by kernel_rfl) trivial (by kernel_rfl) (by kernel_rfl) (by kernel_rfl) (@cast (((some ⟨3,.row (.ints (List.set c.up (Int.toNat p) ((List.getD c.up (Int.toNat p) 0) + n)))⟩ : Option LB) = some ⟨3,.row (.ints (List.set c.up (Int.toNat p) ((List.getD c.up (Int.toNat p) 0) + n)))⟩) ∧ (true = true) ∧ ((some ⟨3,.row (.ints c.down)⟩ : Option LB) = some ⟨3,.row (.ints c.down)⟩) ∧ (true = true) ∧ ((some ⟨50,.row (.marks c.marks)⟩ : Option LB) = some ⟨50,.row (.marks c.marks)⟩) ∧ (true = true) ∧ (True)) _ (by kernel_rfl) ⟨rfl,rfl,rfl,rfl,rfl,rfl,tt⟩) (by kernel_rfl) rfl ?_
    rintro r s1 u1 ⟨rfl,rfl,rfl⟩
    refine ⟨[(911,24),(912,1024),(913,2024)],by kernel_rfl,WI.to (⟨[(1,.i p),(2,.i n),(6,.ptr 6 0),(8,.ptr 8 0),(26,.b (decide (n < (0 : Int)))),(35,.ptr 8 0),(37,.i p),(39,.i (List.getD c.up (Int.toNat p) 0)),(40,.i n),(41,.i ((List.getD c.up (Int.toNat p) 0) + n)),(43,.agg [.own 24 (List.length (List.set c.up (Int.toNat p) ((List.getD c.up (Int.toNat p) 0) + n))),.own 1024 (List.length c.down),.i c.value,.i c.time,.i c.proc,.own 2024 (List.length c.marks)]),(44,.tup [.agg [.v (.slice none 0 0),.v (.slice none 0 0),.i (0 : Int),.i (0 : Int),.i (0 : Int),.v (.slice none 0 0)],.b false])],[(3,⟨29,.fix (cC c)⟩),(6,⟨29,.fix [.v (.slice none 0 0),.v (.slice none 0 0),.i (0 : Int),.i (0 : Int),.i (0 : Int),.v (.slice none 0 0)]⟩),(8,⟨29,.fix [.own 24 (List.length (List.set c.up (Int.toNat p) ((List.getD c.up (Int.toNat p) 0) + n))),.own 1024 (List.length c.down),.i c.value,.i c.time,.i c.proc,.own 2024 (List.length c.marks)]⟩),(24,⟨3,.row (.ints (List.set c.up (Int.toNat p) ((List.getD c.up (Int.toNat p) 0) + n)))⟩),(1024,⟨3,.row (.ints c.down)⟩),(2024,⟨50,.row (.marks c.marks)⟩)],[3,6,8,24,999,1024,2024]⟩) 2 (by kernel_rfl) rfl ?_⟩
    refine WI.runT cok tab18 hnt [] 4 6 (⟨[(1,.i p),(2,.i n),(6,.ptr 6 0),(7,.b false),(8,.ptr 8 0),(26,.b (decide (n < (0 : Int)))),(35,.ptr 8 0),(37,.i p),(39,.i (List.getD c.up (Int.toNat p) 0)),(40,.i n),(41,.i ((List.getD c.up (Int.toNat p) 0) + n)),(43,.agg [.own 24 (List.length (List.set c.up (Int.toNat p) ((List.getD c.up (Int.toNat p) 0) + n))),.own 1024 (List.length c.down),.i c.value,.i c.time,.i c.proc,.own 2024 (List.length c.marks)]),(44,.tup [.agg [.v (.slice none 0 0),.v (.slice none 0 0),.i (0 : Int),.i (0 : Int),.i (0 : Int),.v (.slice none 0 0)],.b false]),(45,.agg [.v (.slice none 0 0),.v (.slice none 0 0),.i (0 : Int),.i (0 : Int),.i (0 : Int),.v (.slice none 0 0)]),(46,.b false)],[(3,⟨29,.fix (cC c)⟩),(6,⟨29,.fix [.v (.slice none 0 0),.v (.slice none 0 0),.i (0 : Int),.i (0 : Int),.i (0 : Int),.v (.slice none 0 0)]⟩),(8,⟨29,.fix [.own 24 (List.length (List.set c.up (Int.toNat p) ((List.getD c.up (Int.toNat p) 0) + n))),.own 1024 (List.length c.down),.i c.value,.i c.time,.i c.proc,.own 2024 (List.length c.marks)]⟩),(24,⟨3,.row (.ints (List.set c.up (Int.toNat p) ((List.getD c.up (Int.toNat p) 0) + n)))⟩),(1024,⟨3,.row (.ints c.down)⟩),(2024,⟨50,.row (.marks c.marks)⟩)],[3,6,8,24,999,1024,2024]⟩)
     (True ∧ True ∧ (True ∧ True) ∧ True ∧ True) (by kernel_rfl) rfl
     ⟨tt,tt,⟨tt,tt⟩,tt,tt⟩ ?_
    refine WI.nil rfl (thenQ_normal ?_)
    refine W.keepE [6,7] [(6,.ptr 6 0),(7,.b false)] (by kernel_rfl) ?_
    refine W.to (⟨[(6,.ptr 6 0),(7,.b false)],[(3,⟨29,.fix (cC c)⟩),(6,⟨29,.fix [.v (.slice none 0 0),.v (.slice none 0 0),.i (0 : Int),.i (0 : Int),.i (0 : Int),.v (.slice none 0 0)]⟩),(8,⟨29,.fix [.own 24 (List.length (List.set c.up (Int.toNat p) ((List.getD c.up (Int.toNat p) 0) + n))),.own 1024 (List.length c.down),.i c.value,.i c.time,.i c.proc,.own 2024 (List.length c.marks)]⟩),(24,⟨3,.row (.ints (List.set c.up (Int.toNat p) ((List.getD c.up (Int.toNat p) 0) + n)))⟩),(1024,⟨3,.row (.ints c.down)⟩),(2024,⟨50,.row (.marks c.marks)⟩)],[3,6,8,24,999,1024,2024]⟩) rfl ?_
    refine W.nilCell 6 821 0 29 3 (.ints ([] : List Int)) [.v (.slice none 0 0),.v (.slice none 0 0),.i (0 : Int),.i (0 : Int),.i (0 : Int),.v (.slice none 0 0)] (⟨[(6,.ptr 6 0),(7,.b false)],[(3,⟨29,.fix (cC c)⟩),(6,⟨29,.fix [.own 821 0,.v (.slice none 0 0),.i (0 : Int),.i (0 : Int),.i (0 : Int),.v (.slice none 0 0)]⟩),(8,⟨29,.fix [.own 24 (List.length (List.set c.up (Int.toNat p) ((List.getD c.up (Int.toNat p) 0) + n))),.own 1024 (List.length c.down),.i c.value,.i c.time,.i c.proc,.own 2024 (List.length c.marks)]⟩),(24,⟨3,.row (.ints (List.set c.up (Int.toNat p) ((List.getD c.up (Int.toNat p) 0) + n)))⟩),(821,⟨3,.row (.ints ([] : List Int))⟩),(1024,⟨3,.row (.ints c.down)⟩),(2024,⟨50,.row (.marks c.marks)⟩)],[821,3,6,8,24,999,1024,2024]⟩) (by kernel_rfl) rfl rfl (by kernel_rfl) (by kernel_rfl) ?_
    refine W.nilCell 6 822 1 29 3 (.ints ([] : List Int)) [.own 821 0,.v (.slice none 0 0),.i (0 : Int),.i (0 : Int),.i (0 : Int),.v (.slice none 0 0)] (⟨[(6,.ptr 6 0),(7,.b false)],[(3,⟨29,.fix (cC c)⟩),(6,⟨29,.fix [.own 821 0,.own 822 0,.i (0 : Int),.i (0 : Int),.i (0 : Int),.v (.slice none 0 0)]⟩),(8,⟨29,.fix [.own 24 (List.length (List.set c.up (Int.toNat p) ((List.getD c.up (Int.toNat p) 0) + n))),.own 1024 (List.length c.down),.i c.value,.i c.time,.i c.proc,.own 2024 (List.length c.marks)]⟩),(24,⟨3,.row (.ints (List.set c.up (Int.toNat p) ((List.getD c.up (Int.toNat p) 0) + n)))⟩),(821,⟨3,.row (.ints ([] : List Int))⟩),(822,⟨3,.row (.ints ([] : List Int))⟩),(1024,⟨3,.row (.ints c.down)⟩),(2024,⟨50,.row (.marks c.marks)⟩)],[822,821,3,6,8,24,999,1024,2024]⟩) (by kernel_rfl) rfl rfl (by kernel_rfl) (by kernel_rfl) ?_
    refine W.nilCell 6 826 5 29 50 (.marks ([] : List MarkD)) [.own 821 0,.own 822 0,.i (0 : Int),.i (0 : Int),.i (0 : Int),.v (.slice none 0 0)] (⟨[(6,.ptr 6 0),(7,.b false)],[(3,⟨29,.fix (cC c)⟩),(6,⟨29,.fix [.own 821 0,.own 822 0,.i (0 : Int),.i (0 : Int),.i (0 : Int),.own 826 0]⟩),(8,⟨29,.fix [.own 24 (List.length (List.set c.up (Int.toNat p) ((List.getD c.up (Int.toNat p) 0) + n))),.own 1024 (List.length c.down),.i c.value,.i c.time,.i c.proc,.own 2024 (List.length c.marks)]⟩),(24,⟨3,.row (.ints (List.set c.up (Int.toNat p) ((List.getD c.up (Int.toNat p) 0) + n)))⟩),(821,⟨3,.row (.ints ([] : List Int))⟩),(822,⟨3,.row (.ints ([] : List Int))⟩),(826,⟨50,.row (.marks ([] : List MarkD))⟩),(1024,⟨3,.row (.ints c.down)⟩),(2024,⟨50,.row (.marks c.marks)⟩)],[826,822,821,3,6,8,24,999,1024,2024]⟩) (by kernel_rfl) rfl rfl (by kernel_rfl) (by kernel_rfl) ?_
    refine W.ret ?_
    exact endQ_rows [(0,821),(1,822),(2,826)] (.tup [.agg [.own 821 0,.own 822 0,.i (0 : Int),.i (0 : Int),.i (0 : Int),.own 826 0],.b false]) (by kernel_rfl) (@cast (((((821 : Nat) = 821) ∧ (0 = (List.length ((addTo c p n).1.up))) ∧ ((0 : Nat) ∈ ([0,1,2] : List Nat))) ∧ (((822 : Nat) = 822) ∧ (0 = (List.length ((addTo c p n).1.down))) ∧ ((1 : Nat) ∈ ([0,1,2] : List Nat))) ∧ ((.int .i64 (0 : Int) : Value) = .int .i64 ((addTo c p n).1.value)) ∧ ((.int .i64 (0 : Int) : Value) = .int .i64 ((addTo c p n).1.time)) ∧ ((.int .i64 (0 : Int) : Value) = .int .i64 ((addTo c p n).1.proc)) ∧ (((826 : Nat) = 826) ∧ (0 = (List.length ((addTo c p n).1.marks))) ∧ ((2 : Nat) ∈ ([0,1,2] : List Nat))) ∧ True) ∧ ((.bool false : Value) = .bool ((addTo c p n).2)) ∧ True) _ (by kernel_rfl) ⟨⟨⟨rfl,(by first | rfl | omega | assumption | (symm; assumption) | (exact congrArg List.length (by rw [addTo_bad hg (by rw [hea]; exact nV44)] <;> rfl)) | (rw [addTo_bad hg (by rw [hea]; exact nV44)] <;> rfl; done) | simp | simp_all),(by decide)⟩,⟨rfl,(by first | rfl | omega | assumption | (symm; assumption) | (exact congrArg List.length (by rw [addTo_bad hg (by rw [hea]; exact nV44)] <;> rfl)) | (rw [addTo_bad hg (by rw [hea]; exact nV44)] <;> rfl; done) | simp | simp_all),(by decide)⟩,(congrArg (Value.int .i64) (by first | rfl | omega | assumption | (rw [addTo_bad hg (by rw [hea]; exact nV44)] <;> rfl; done) | simp | simp_all)),(congrArg (Value.int .i64) (by first | rfl | omega | assumption | (rw [addTo_bad hg (by rw [hea]; exact nV44)] <;> rfl; done) | simp | simp_all)),(congrArg (Value.int .i64) (by first | rfl | omega | assumption | (rw [addTo_bad hg (by rw [hea]; exact nV44)] <;> rfl; done) | simp | simp_all)),⟨rfl,(by first | rfl | omega | assumption | (symm; assumption) | (exact congrArg List.length (by rw [addTo_bad hg (by rw [hea]; exact nV44)] <;> rfl)) | (rw [addTo_bad hg (by rw [hea]; exact nV44)] <;> rfl; done) | simp | simp_all),(by decide)⟩,tt⟩,(congrArg Value.bool (by first | rfl | omega | assumption | (rw [addTo_bad hg (by rw [hea]; exact nV44)] <;> rfl; done) | simp | simp_all)),tt⟩) (@cast ((((3 : Nat) = 3) ∧ ((.ints ([] : List Int) : Dat) = .ints ((addTo c p n).1.up)) ∧ ((0 : Nat) ∈ ([0,1,2] : List Nat))) ∧ (((3 : Nat) = 3) ∧ ((.ints ([] : List Int) : Dat) = .ints ((addTo c p n).1.down)) ∧ ((1 : Nat) ∈ ([0,1,2] : List Nat))) ∧ (((50 : Nat) = 50) ∧ ((.marks ([] : List MarkD) : Dat) = .marks ((addTo c p n).1.marks)) ∧ ((2 : Nat) ∈ ([0,1,2] : List Nat))) ∧ True) _ (by kernel_rfl) ⟨⟨rfl,(congrArg Dat.ints (by rw [addTo_bad hg (by rw [hea]; exact nV44)] <;> rfl)),(by decide)⟩,⟨rfl,(congrArg Dat.ints (by rw [addTo_bad hg (by rw [hea]; exact nV44)] <;> rfl)),(by decide)⟩,⟨rfl,(congrArg Dat.marks (by rw [addTo_bad hg (by rw [hea]; exact nV44)] <;> rfl)),(by decide)⟩,tt⟩) (by kernel_rfl)
theorem ent18 : Entr prog 18 := ⟨_,func18,rfl,by decide⟩
end Go.Proofs.Try

set_option linter.unusedSimpArgs false
set_option linter.unusedVariables false
namespace Go.Proofs.Try
open Go.Ab Go.RowKit
def fs29 : FnS := fnS [.s .ints,.s .ints] [.ints,.ints] (fun _ (a,b,_) => (.b (decide (a = b)),[],True))
abbrev T29 : Tab := lk []
theorem tab29 : TabOK prog T29 := TabOK.nil
set_option maxRecDepth 100000 in
set_option maxHeartbeats 1000000 in
theorem ok29 : FnOK prog 29 fs29 := by
 refine FnOK.mk cok func29 rfl rfl rfl ?_
 rintro fl ⟨(a : List Int),(b : List Int),_⟩ hpre F hnt0 _
 have hnt : F.nt = 26 := hnt0.trans ntmps29
 clear hpre
 refine W.to (⟨[(0,.sl (.ints a)),(1,.sl (.ints b))],[],[999]⟩) rfl ?_
 refine W.lenOf 0 (.ints a) (by kernel_rfl) ?_
 intro hl_a; replace hl_a : List.length a ≤ 9223372036854775807 := hl_a
 refine W.lenOf 1 (.ints b) (by kernel_rfl) ?_
 intro hl_b; replace hl_b : List.length b ≤ 9223372036854775807 := hl_b
 refine Kk cok tab29 hnt [] [0,1] (⟨[(0,.sl (.ints a)),(1,.sl (.ints b))],[],[999]⟩)
  (True ∧ True)
  ⟨tt,tt⟩ ?_
 refine W.seq ?_
 refine Kk cok tab29 hnt [] [0,1,10] (⟨[(0,.sl (.ints a)),(1,.sl (.ints b)),(10,.b (decide ((a.length : Int) ≠ (b.length : Int))))],[],[999]⟩)
  (True ∧ True ∧ True ∧ True ∧ (True ∧ True ∧ True) ∧ True)
  ⟨tt,tt,tt,tt,⟨tt,tt,tt⟩,tt⟩ ?_
 refine W.ifP ((a.length : Int) ≠ (b.length : Int)) (.b (decide ((a.length : Int) ≠ (b.length : Int)))) (by kernel_rfl) rfl trivial ?_ ?_
 ·intro h10
  refine Kk cok tab29 hnt [] [4] (⟨[(4,.b false)],[],[999]⟩)
   (True ∧ True)
   ⟨tt,tt⟩ ?_
  refine W.ret (thenQ_ret ?_)
  exact endQ_ret (.b false) (by kernel_rfl) (@cast ((.bool false : Value) = .bool (decide (a = b))) _ (by kernel_rfl) (congrArg Value.bool (by symm; exact decide_eq_false (fun e => h10 (by rw [e])))))
 ·intro n10
  refine W.skip (thenQ_normal ?_)
  refine W.seq ?_
  refine Kk cok tab29 hnt [] [0,1,5] (⟨[(0,.sl (.ints a)),(1,.sl (.ints b)),(5,.i (0 : Int))],[],[999]⟩)
   (True ∧ True)
   ⟨tt,tt⟩ ?_
  refine W.block ?_
  refine W.loop (ι := Nat) (fun (i : Nat) => (⟨[(0,.sl (.ints a)),(1,.sl (.ints b)),(5,.i ((i : Nat) : Int))],[],[999]⟩ : St))
   (fun (i : Nat) => (i ≤ a.length) ∧ (∀ j,j < i → a.getD j 0 = b.getD j 0))
   (fun (i : Nat) => (a.length - i : Nat)) (0) ?_ ?_ ?_
  ·exact (show (0 ≤ a.length) ∧ (∀ j,j < 0 → a.getD j 0 = b.getD j 0) from ⟨(by first | assumption | omega | rfl | (intro _ hjj; omega) | (simp; done) | (simp; omega)),(by exact upto_zero)⟩)
  ·exact Sub.of [] (@cast (((Sd (.ints a)) ∧ (Sd (.ints b)) ∧ ((.int .i64 (0 : Int) : Value) = .int .i64 ((0 : Nat) : Int)) ∧ True) ∧ True ∧ (true = true) ∧ (true = true)) _ (by kernel_rfl) ⟨⟨rfl,rfl,(congrArg (Value.int .i64) (by first | rfl | omega | assumption | simp | simp_all)),tt⟩,tt,rfl,rfl⟩)
  ·rintro i hC0
   have hC : (i ≤ a.length) ∧ (∀ j,j < i → a.getD j 0 = b.getD j 0) := hC0
   clear hC0
   obtain ⟨hi,hA⟩ := hC
   refine W.to (⟨[(0,.sl (.ints a)),(1,.sl (.ints b)),(5,.i ((i : Nat) : Int))],[],[999]⟩) rfl ?_
   refine W.seq ?_
   refine Kk cok tab29 hnt [] [0,1,5,14] (⟨[(0,.sl (.ints a)),(1,.sl (.ints b)),(5,.i ((i : Nat) : Int)),(14,.b (decide (((i : Nat) : Int) < (a.length : Int))))],[],[999]⟩)
    (True ∧ True ∧ True ∧ (True ∧ True ∧ True) ∧ True)
    ⟨tt,tt,tt,⟨tt,tt,tt⟩,tt⟩ ?_
   refine W.ifP (((i : Nat) : Int) < (a.length : Int)) (.b (decide (((i : Nat) : Int) < (a.length : Int)))) (by kernel_rfl) rfl trivial ?_ ?_
   ·intro h14
    refine W.skip (thenQ_normal ?_)
    refine W.seq ?_
    refine W.block ?_
    refine W.KA cok tab29 hnt [] [0,1,5,25] (⟨[(0,.sl (.ints a)),(1,.sl (.ints b)),(5,.i ((i : Nat) : Int)),(25,.b (decide ((a.getD i 0) ≠ (b.getD i 0))))],[],[999]⟩)
     (True ∧ True ∧ (True ∧ True ∧ (0 ≤ ((i : Nat) : Int)) ∧ (((i : Nat) : Int) < (a.length : Int))) ∧ True ∧ True ∧ True ∧ (True ∧ True ∧ (0 ≤ ((i : Nat) : Int)) ∧ (((i : Nat) : Int) < (b.length : Int))) ∧ True ∧ (True ∧ True ∧ True) ∧ True) (by kernel_rfl) (by kernel_rfl)
     ⟨tt,tt,⟨tt,tt,(by omega),(by omega)⟩,tt,tt,tt,⟨tt,tt,(by omega),(by omega)⟩,tt,⟨tt,tt,tt⟩,tt⟩ ?_
    refine W.ifP ((a.getD i 0) ≠ (b.getD i 0)) (.b (decide ((a.getD i 0) ≠ (b.getD i 0)))) (by kernel_rfl) rfl trivial ?_ ?_
    ·intro h25
     refine Kk cok tab29 hnt [] [4] (⟨[(4,.b false)],[],[999]⟩)
      (True ∧ True)
      ⟨tt,tt⟩ ?_
     refine W.ret (blockQ_ret (thenQ_ret (thenQ_ret (blockQ_ret (thenQ_ret ?_)))))
     exact endQ_ret (.b false) (by kernel_rfl) (@cast ((.bool false : Value) = .bool (decide (a = b))) _ (by kernel_rfl) (congrArg Value.bool (by symm; exact decide_eq_false (fun e => h25 (by rw [e])))))
    ·intro n25
     refine W.skip (blockQ_normal (thenQ_normal ?_))
     refine Lk cok tab29 hnt [] (⟨[(0,.sl (.ints a)),(1,.sl (.ints b)),(5,.i (((i + 1) : Nat) : Int)),(15,.i ((i : Nat) : Int)),(16,.i (((i + 1) : Nat) : Int)),(25,.b (decide ((a.getD i 0) ≠ (b.getD i 0))))],[],[999]⟩)
      (True ∧ (True ∧ True ∧ (Fits .i64 (((i + 1) : Nat) : Int))) ∧ True ∧ True)
      ⟨tt,⟨tt,tt,(by exact fits_i64 (by omega) (by omega))⟩,tt,tt⟩ ?_
     refine thenQ_normal ?_
     refine ⟨((i + 1)),(show ((i + 1) ≤ a.length) ∧ (∀ j,j < (i + 1) → a.getD j 0 = b.getD j 0) from ⟨(by first | assumption | omega | rfl | (intro _ hjj; omega) | (simp; done) | (simp; omega)),(by exact upto_succ hA (Decidable.not_not.1 n25))⟩),(show a.length - (i + 1) < a.length - i from (by first | omega | (simp_all; omega))),?_⟩
     exact Sub.of [] (@cast (((Sd (.ints a)) ∧ (Sd (.ints b)) ∧ (Si (((i + 1) : Nat) : Int)) ∧ True) ∧ True ∧ (true = true) ∧ (true = true)) _ (by kernel_rfl) ⟨⟨rfl,rfl,rfl,tt⟩,tt,rfl,rfl⟩)
   ·intro n14
    refine W.exit (thenQ_exit (thenQ_exit (blockQ_hit ?_)))
    refine thenQ_normal ?_
    refine Kk cok tab29 hnt [] [4] (⟨[(4,.b true)],[],[999]⟩)
     (True ∧ True)
     ⟨tt,tt⟩ ?_
    refine W.ret ?_
    exact endQ_ret (.b true) (by kernel_rfl) (@cast ((.bool true : Value) = .bool (decide (a = b))) _ (by kernel_rfl) (congrArg Value.bool (by symm; exact decide_eq_true (ints_ext (by omega) (fun j hj => hA j (by omega))))))
theorem ent29 : Entr prog 29 := ⟨_,func29,rfl,by decide⟩
end Go.Proofs.Try

set_option linter.unusedSimpArgs false
set_option linter.unusedVariables false
namespace Go.Proofs.Try
open Go.Ab Go.RowKit
def fs65 : FnS := fnS [.o,.o] [.mark,.mark] (fun _ (a,b,_) => (.b (decide (a = b)),[],True))
abbrev T65 : Tab := lk []
theorem tab65 : TabOK prog T65 := TabOK.nil
set_option maxRecDepth 100000 in
set_option maxHeartbeats 1000000 in
theorem ok65 : FnOK prog 65 fs65 := by
 refine FnOK.mk cok func65 rfl rfl rfl ?_
 rintro fl ⟨(a : MarkD),(b : MarkD),_⟩ hpre F hnt0 _
 have hnt : F.nt = 25 := hnt0.trans ntmps65
 clear hpre
 refine W.to (⟨[(0,.agg [.i a.value,.i a.proc,.i a.number,.b a.gone]),(1,.agg [.i b.value,.i b.proc,.i b.number,.b b.gone])],[],[999]⟩) rfl ?_
 refine Kk cok tab65 hnt [] [2,3] (⟨[(2,.ptr 2 0),(3,.ptr 3 0)],[(2,⟨50,.fix [.i a.value,.i a.proc,.i a.number,.b a.gone]⟩),(3,⟨50,.fix [.i b.value,.i b.proc,.i b.number,.b b.gone]⟩)],[3,2,999]⟩)
  (True ∧ True ∧ True ∧ True)
  ⟨tt,tt,tt,tt⟩ ?_
 refine W.seq ?_
 refine Kk cok tab65 hnt [] [2,3,9] (⟨[(2,.ptr 2 0),(3,.ptr 3 0),(9,.b (decide (a.value ≠ b.value)))],[(2,⟨50,.fix [.i a.value,.i a.proc,.i a.number,.b a.gone]⟩),(3,⟨50,.fix [.i b.value,.i b.proc,.i b.number,.b b.gone]⟩)],[3,2,999]⟩)
  (True ∧ True ∧ True ∧ True ∧ (True ∧ True ∧ True) ∧ True)
  ⟨tt,tt,tt,tt,⟨tt,tt,tt⟩,tt⟩ ?_
 refine W.ifP (a.value ≠ b.value) (.b (decide (a.value ≠ b.value))) (by kernel_rfl) rfl trivial ?_ ?_
 ·intro h9
  refine Kk cok tab65 hnt [] [4] (⟨[(4,.b false)],[(2,⟨50,.fix [.i a.value,.i a.proc,.i a.number,.b a.gone]⟩),(3,⟨50,.fix [.i b.value,.i b.proc,.i b.number,.b b.gone]⟩)],[3,2,999]⟩)
   (True ∧ True)
   ⟨tt,tt⟩ ?_
  refine W.ret (thenQ_ret ?_)
  exact endQ_ret (.b false) (by kernel_rfl) (@cast ((.bool false : Value) = .bool (decide (a = b))) _ (by kernel_rfl) (congrArg Value.bool (by first | (symm; exact decide_eq_true (mark_ext (by omega) (by omega) (by omega) (by simp_all))) | (symm; exact decide_eq_false (fun e => by subst e; simp_all)))))
 ·intro n9
  refine W.skip (thenQ_normal ?_)
  refine W.seq ?_
  refine Kk cok tab65 hnt [] [2,3,14] (⟨[(2,.ptr 2 0),(3,.ptr 3 0),(14,.b (decide (a.proc ≠ b.proc)))],[(2,⟨50,.fix [.i a.value,.i a.proc,.i a.number,.b a.gone]⟩),(3,⟨50,.fix [.i b.value,.i b.proc,.i b.number,.b b.gone]⟩)],[3,2,999]⟩)
   (True ∧ True ∧ True ∧ True ∧ (True ∧ True ∧ True) ∧ True)
   ⟨tt,tt,tt,tt,⟨tt,tt,tt⟩,tt⟩ ?_
  refine W.ifP (a.proc ≠ b.proc) (.b (decide (a.proc ≠ b.proc))) (by kernel_rfl) rfl trivial ?_ ?_
  ·intro h14
   refine Kk cok tab65 hnt [] [4] (⟨[(4,.b false)],[(2,⟨50,.fix [.i a.value,.i a.proc,.i a.number,.b a.gone]⟩),(3,⟨50,.fix [.i b.value,.i b.proc,.i b.number,.b b.gone]⟩)],[3,2,999]⟩)
    (True ∧ True)
    ⟨tt,tt⟩ ?_
   refine W.ret (thenQ_ret ?_)
   exact endQ_ret (.b false) (by kernel_rfl) (@cast ((.bool false : Value) = .bool (decide (a = b))) _ (by kernel_rfl) (congrArg Value.bool (by first | (symm; exact decide_eq_true (mark_ext (by omega) (by omega) (by omega) (by simp_all))) | (symm; exact decide_eq_false (fun e => by subst e; simp_all)))))
  ·intro n14
   refine W.skip (thenQ_normal ?_)
   refine W.seq ?_
   refine Kk cok tab65 hnt [] [2,3,19] (⟨[(2,.ptr 2 0),(3,.ptr 3 0),(19,.b (decide (a.number ≠ b.number)))],[(2,⟨50,.fix [.i a.value,.i a.proc,.i a.number,.b a.gone]⟩),(3,⟨50,.fix [.i b.value,.i b.proc,.i b.number,.b b.gone]⟩)],[3,2,999]⟩)
    (True ∧ True ∧ True ∧ True ∧ (True ∧ True ∧ True) ∧ True)
    ⟨tt,tt,tt,tt,⟨tt,tt,tt⟩,tt⟩ ?_
   refine W.ifP (a.number ≠ b.number) (.b (decide (a.number ≠ b.number))) (by kernel_rfl) rfl trivial ?_ ?_
   ·intro h19
    refine Kk cok tab65 hnt [] [4] (⟨[(4,.b false)],[(2,⟨50,.fix [.i a.value,.i a.proc,.i a.number,.b a.gone]⟩),(3,⟨50,.fix [.i b.value,.i b.proc,.i b.number,.b b.gone]⟩)],[3,2,999]⟩)
     (True ∧ True)
     ⟨tt,tt⟩ ?_
    refine W.ret (thenQ_ret ?_)
    exact endQ_ret (.b false) (by kernel_rfl) (@cast ((.bool false : Value) = .bool (decide (a = b))) _ (by kernel_rfl) (congrArg Value.bool (by first | (symm; exact decide_eq_true (mark_ext (by omega) (by omega) (by omega) (by simp_all))) | (symm; exact decide_eq_false (fun e => by subst e; simp_all)))))
   ·intro n19
    refine W.skip (thenQ_normal ?_)
    refine W.seq ?_
    refine Kk cok tab65 hnt [] [24] (⟨[(24,.b (a.gone != b.gone))],[(2,⟨50,.fix [.i a.value,.i a.proc,.i a.number,.b a.gone]⟩),(3,⟨50,.fix [.i b.value,.i b.proc,.i b.number,.b b.gone]⟩)],[3,2,999]⟩)
     (True ∧ True ∧ True ∧ True ∧ (True ∧ True) ∧ True)
     ⟨tt,tt,tt,tt,⟨tt,tt⟩,tt⟩ ?_
    refine W.if' (a.gone != b.gone) (.b (a.gone != b.gone)) (by kernel_rfl) rfl trivial ?_ ?_
    ·intro h24
     refine Kk cok tab65 hnt [] [4] (⟨[(4,.b false)],[(2,⟨50,.fix [.i a.value,.i a.proc,.i a.number,.b a.gone]⟩),(3,⟨50,.fix [.i b.value,.i b.proc,.i b.number,.b b.gone]⟩)],[3,2,999]⟩)
      (True ∧ True)
      ⟨tt,tt⟩ ?_
     refine W.ret (thenQ_ret ?_)
     exact endQ_ret (.b false) (by kernel_rfl) (@cast ((.bool false : Value) = .bool (decide (a = b))) _ (by kernel_rfl) (congrArg Value.bool (by first | (symm; exact decide_eq_true (mark_ext (by omega) (by omega) (by omega) (by simp_all))) | (symm; exact decide_eq_false (fun e => by subst e; simp_all)))))
    ·intro n24
     refine W.skip (thenQ_normal ?_)
     refine Kk cok tab65 hnt [] [4] (⟨[(4,.b true)],[(2,⟨50,.fix [.i a.value,.i a.proc,.i a.number,.b a.gone]⟩),(3,⟨50,.fix [.i b.value,.i b.proc,.i b.number,.b b.gone]⟩)],[3,2,999]⟩)
      (True ∧ True)
      ⟨tt,tt⟩ ?_
     refine W.ret ?_
     exact endQ_ret (.b true) (by kernel_rfl) (@cast ((.bool true : Value) = .bool (decide (a = b))) _ (by kernel_rfl) (congrArg Value.bool (by first | (symm; exact decide_eq_true (mark_ext (by omega) (by omega) (by omega) (by simp_all))) | (symm; exact decide_eq_false (fun e => by subst e; simp_all)))))
theorem ent65 : Entr prog 65 := ⟨_,func65,rfl,by decide⟩
end Go.Proofs.Try

set_option linter.unusedSimpArgs false
set_option linter.unusedVariables false
namespace Go.Proofs.Try
open Go.Ab Go.RowKit
def fs40 : FnS := fnS [.s .marks,.s .marks] [.marks,.marks] (fun _ (a,b,_) => (.b (decide (a = b)),[],True))
abbrev T40 : Tab := lk [(65,fs65)]
theorem tab40 : TabOK prog T40 := (TabOK.cons ok65 ent65 TabOK.nil)
set_option maxRecDepth 100000 in
set_option maxHeartbeats 1000000 in
theorem ok40 : FnOK prog 40 fs40 := by
 refine FnOK.mk cok func40 rfl rfl rfl ?_
 rintro fl ⟨(a : List MarkD),(b : List MarkD),_⟩ hpre F hnt0 _
 have hnt : F.nt = 27 := hnt0.trans ntmps40
 clear hpre
 refine W.to (⟨[(0,.sl (.marks a)),(1,.sl (.marks b))],[],[999]⟩) rfl ?_
 refine W.lenOf 0 (.marks a) (by kernel_rfl) ?_
 intro hl_a; replace hl_a : List.length a ≤ 9223372036854775807 := hl_a
 refine W.lenOf 1 (.marks b) (by kernel_rfl) ?_
 intro hl_b; replace hl_b : List.length b ≤ 9223372036854775807 := hl_b
 refine Kk cok tab40 hnt [] [0,1] (⟨[(0,.sl (.marks a)),(1,.sl (.marks b))],[],[999]⟩)
  (True ∧ True)
  ⟨tt,tt⟩ ?_
 refine W.seq ?_
 refine Kk cok tab40 hnt [] [0,1,10] (⟨[(0,.sl (.marks a)),(1,.sl (.marks b)),(10,.b (decide ((a.length : Int) ≠ (b.length : Int))))],[],[999]⟩)
  (True ∧ True ∧ True ∧ True ∧ (True ∧ True ∧ True) ∧ True)
  ⟨tt,tt,tt,tt,⟨tt,tt,tt⟩,tt⟩ ?_
 refine W.ifP ((a.length : Int) ≠ (b.length : Int)) (.b (decide ((a.length : Int) ≠ (b.length : Int)))) (by kernel_rfl) rfl trivial ?_ ?_
 ·intro h10
  refine Kk cok tab40 hnt [] [4] (⟨[(4,.b false)],[],[999]⟩)
   (True ∧ True)
   ⟨tt,tt⟩ ?_
  refine W.ret (thenQ_ret ?_)
  exact endQ_ret (.b false) (by kernel_rfl) (@cast ((.bool false : Value) = .bool (decide (a = b))) _ (by kernel_rfl) (congrArg Value.bool (by symm; exact decide_eq_false (fun e => h10 (by rw [e])))))
 ·intro n10
  refine W.skip (thenQ_normal ?_)
  refine W.seq ?_
  refine Kk cok tab40 hnt [] [0,1,5] (⟨[(0,.sl (.marks a)),(1,.sl (.marks b)),(5,.i (0 : Int))],[],[999]⟩)
   (True ∧ True)
   ⟨tt,tt⟩ ?_
  refine W.block ?_
  refine W.loop (ι := Nat) (fun (i : Nat) => (⟨[(0,.sl (.marks a)),(1,.sl (.marks b)),(5,.i ((i : Nat) : Int))],[],[999]⟩ : St))
   (fun (i : Nat) => (i ≤ a.length) ∧ (∀ j,j < i → a.getD j default = b.getD j default))
   (fun (i : Nat) => (a.length - i : Nat)) (0) ?_ ?_ ?_
  ·exact (show (0 ≤ a.length) ∧ (∀ j,j < 0 → a.getD j default = b.getD j default) from ⟨(by first | assumption | omega | rfl | (intro _ hjj; omega) | (simp; done) | (simp; omega)),(by exact upto_zero)⟩)
  ·exact Sub.of [] (@cast (((Sd (.marks a)) ∧ (Sd (.marks b)) ∧ ((.int .i64 (0 : Int) : Value) = .int .i64 ((0 : Nat) : Int)) ∧ True) ∧ True ∧ (true = true) ∧ (true = true)) _ (by kernel_rfl) ⟨⟨rfl,rfl,(congrArg (Value.int .i64) (by first | rfl | omega | assumption | simp | simp_all)),tt⟩,tt,rfl,rfl⟩)
  ·rintro i hC0
   have hC : (i ≤ a.length) ∧ (∀ j,j < i → a.getD j default = b.getD j default) := hC0
   clear hC0
   obtain ⟨hi,hA⟩ := hC
   refine W.to (⟨[(0,.sl (.marks a)),(1,.sl (.marks b)),(5,.i ((i : Nat) : Int))],[],[999]⟩) rfl ?_
   refine W.seq ?_
   refine Kk cok tab40 hnt [] [0,1,5,14] (⟨[(0,.sl (.marks a)),(1,.sl (.marks b)),(5,.i ((i : Nat) : Int)),(14,.b (decide (((i : Nat) : Int) < (a.length : Int))))],[],[999]⟩)
    (True ∧ True ∧ True ∧ (True ∧ True ∧ True) ∧ True)
    ⟨tt,tt,tt,⟨tt,tt,tt⟩,tt⟩ ?_
   refine W.ifP (((i : Nat) : Int) < (a.length : Int)) (.b (decide (((i : Nat) : Int) < (a.length : Int)))) (by kernel_rfl) rfl trivial ?_ ?_
   ·intro h14
    refine W.skip (thenQ_normal ?_)
    refine W.seq ?_
    refine W.block ?_
    refine W.KA cok tab40 hnt [] [0,1,5,26] (⟨[(0,.sl (.marks a)),(1,.sl (.marks b)),(5,.i ((i : Nat) : Int)),(26,.b (!(decide ((a.getD i default) = (b.getD i default)))))],[],[999]⟩)
     (True ∧ True ∧ (True ∧ True ∧ (0 ≤ ((i : Nat) : Int)) ∧ (((i : Nat) : Int) < (a.length : Int))) ∧ True ∧ True ∧ True ∧ (True ∧ True ∧ (0 ≤ ((i : Nat) : Int)) ∧ (((i : Nat) : Int) < (b.length : Int))) ∧ True ∧ (True ∧ (True ∧ True ∧ True) ∧ True) ∧ True ∧ True) (by kernel_rfl) (by kernel_rfl)
     ⟨tt,tt,⟨tt,tt,(by omega),(by omega)⟩,tt,tt,tt,⟨tt,tt,(by omega),(by omega)⟩,tt,⟨tt,⟨tt,tt,tt⟩,tt⟩,tt,tt⟩ ?_
    refine W.if' (!(decide ((a.getD i default) = (b.getD i default)))) (.b (!(decide ((a.getD i default) = (b.getD i default))))) (by kernel_rfl) rfl trivial ?_ ?_
    ·intro h26
     refine Kk cok tab40 hnt [] [4] (⟨[(4,.b false)],[],[999]⟩)
      (True ∧ True)
      ⟨tt,tt⟩ ?_
     refine W.ret (blockQ_ret (thenQ_ret (thenQ_ret (blockQ_ret (thenQ_ret ?_)))))
     exact endQ_ret (.b false) (by kernel_rfl) (@cast ((.bool false : Value) = .bool (decide (a = b))) _ (by kernel_rfl) (congrArg Value.bool (by symm; exact decide_eq_false (fun e => by rw [e] at h26; simp at h26))))
    ·intro n26
     refine W.skip (blockQ_normal (thenQ_normal ?_))
     refine Lk cok tab40 hnt [] (⟨[(0,.sl (.marks a)),(1,.sl (.marks b)),(5,.i (((i + 1) : Nat) : Int)),(15,.i ((i : Nat) : Int)),(16,.i (((i + 1) : Nat) : Int)),(26,.b (!(decide ((a.getD i default) = (b.getD i default)))))],[],[999]⟩)
      (True ∧ (True ∧ True ∧ (Fits .i64 (((i + 1) : Nat) : Int))) ∧ True ∧ True)
      ⟨tt,⟨tt,tt,(by exact fits_i64 (by omega) (by omega))⟩,tt,tt⟩ ?_
     refine thenQ_normal ?_
     refine ⟨((i + 1)),(show ((i + 1) ≤ a.length) ∧ (∀ j,j < (i + 1) → a.getD j default = b.getD j default) from ⟨(by first | assumption | omega | rfl | (intro _ hjj; omega) | (simp; done) | (simp; omega)),(by exact upto_succ hA (by simpa using n26))⟩),(show a.length - (i + 1) < a.length - i from (by first | omega | (simp_all; omega))),?_⟩
     exact Sub.of [] (@cast (((Sd (.marks a)) ∧ (Sd (.marks b)) ∧ (Si (((i + 1) : Nat) : Int)) ∧ True) ∧ True ∧ (true = true) ∧ (true = true)) _ (by kernel_rfl) ⟨⟨rfl,rfl,rfl,tt⟩,tt,rfl,rfl⟩)
   ·intro n14
    refine W.exit (thenQ_exit (thenQ_exit (blockQ_hit ?_)))
    refine thenQ_normal ?_
    refine Kk cok tab40 hnt [] [4] (⟨[(4,.b true)],[],[999]⟩)
     (True ∧ True)
     ⟨tt,tt⟩ ?_
    refine W.ret ?_
    exact endQ_ret (.b true) (by kernel_rfl) (@cast ((.bool true : Value) = .bool (decide (a = b))) _ (by kernel_rfl) (congrArg Value.bool (by symm; exact decide_eq_true (marks_ext (by omega) (fun j hj => hA j (by omega))))))
theorem ent40 : Entr prog 40 := ⟨_,func40,rfl,by decide⟩
end Go.Proofs.Try

set_option linter.unusedSimpArgs false
set_option linter.unusedVariables false
namespace Go.Proofs.Try
open Go.Ab Go.RowKit
def fs14 : FnS := fnS [.a [some .ints,some .ints,none,none,none,some .marks],.a [some .ints,some .ints,none,none,none,some .marks]] [.copy,.copy] (fun _ (a,b,_) => (.b (sameC a b),[],True))
abbrev T14 : Tab := lk [(29,fs29),(40,fs40)]
theorem tab14 : TabOK prog T14 := (TabOK.cons ok29 ent29 (TabOK.cons ok40 ent40 TabOK.nil))
set_option maxRecDepth 100000 in
set_option maxHeartbeats 1000000 in
theorem ok14 : FnOK prog 14 fs14 := by
 refine FnOK.mk cok func14 rfl rfl rfl ?_
 rintro fl ⟨(a : CopyD),(b : CopyD),_⟩ hpre F hnt0 _
 have hnt : F.nt = 38 := hnt0.trans ntmps14
 clear hpre
 refine W.to (⟨[(0,.agg (cC a)),(1,.agg (cC b))],[],[999]⟩) rfl ?_
 refine W.lenA 0 0 (cC a) (.ints a.up) (by kernel_rfl) (by kernel_rfl) ?_
 intro hl_a_up; replace hl_a_up : List.length a.up ≤ 9223372036854775807 := hl_a_up
 refine W.lenA 0 1 (cC a) (.ints a.down) (by kernel_rfl) (by kernel_rfl) ?_
 intro hl_a_down; replace hl_a_down : List.length a.down ≤ 9223372036854775807 := hl_a_down
 refine W.lenA 0 5 (cC a) (.marks a.marks) (by kernel_rfl) (by kernel_rfl) ?_
 intro hl_a_marks; replace hl_a_marks : List.length a.marks ≤ 9223372036854775807 := hl_a_marks
 refine W.lenA 1 0 (cC b) (.ints b.up) (by kernel_rfl) (by kernel_rfl) ?_
 intro hl_b_up; replace hl_b_up : List.length b.up ≤ 9223372036854775807 := hl_b_up
 refine W.lenA 1 1 (cC b) (.ints b.down) (by kernel_rfl) (by kernel_rfl) ?_
 intro hl_b_down; replace hl_b_down : List.length b.down ≤ 9223372036854775807 := hl_b_down
 refine W.lenA 1 5 (cC b) (.marks b.marks) (by kernel_rfl) (by kernel_rfl) ?_
 intro hl_b_marks; replace hl_b_marks : List.length b.marks ≤ 9223372036854775807 := hl_b_marks
 refine Kk cok tab14 hnt [] [2,3] (⟨[(2,.ptr 2 0),(3,.ptr 3 0)],[(2,⟨29,.fix (cC a)⟩),(3,⟨29,.fix (cC b)⟩)],[3,2,999]⟩)
  (True ∧ True ∧ True ∧ True)
  ⟨tt,tt,tt,tt⟩ ?_
 refine W.seq ?_
 refine Kk cok tab14 hnt [] [2,3,10] (⟨[(2,.ptr 2 0),(3,.ptr 3 0),(10,.b (!(decide (a.up = b.up))))],[(2,⟨29,.fix (cC a)⟩),(3,⟨29,.fix (cC b)⟩)],[3,2,999]⟩)
  (True ∧ True ∧ True ∧ True ∧ (True ∧ (True ∧ True ∧ True) ∧ True) ∧ True ∧ True)
  ⟨tt,tt,tt,tt,⟨tt,⟨tt,tt,tt⟩,tt⟩,tt,tt⟩ ?_
 refine W.if' (!(decide (a.up = b.up))) (.b (!(decide (a.up = b.up)))) (by kernel_rfl) rfl trivial ?_ ?_
 ·intro h10
  refine Kk cok tab14 hnt [] [4] (⟨[(4,.b false)],[(2,⟨29,.fix (cC a)⟩),(3,⟨29,.fix (cC b)⟩)],[3,2,999]⟩)
   (True ∧ True)
   ⟨tt,tt⟩ ?_
  refine W.ret (thenQ_ret ?_)
  exact endQ_ret (.b false) (by kernel_rfl) (@cast ((.bool false : Value) = .bool (sameC a b)) _ (by kernel_rfl) (congrArg Value.bool (by first | (symm; exact same_iff.2 (copy_ext (by simpa using n10) (by simpa using n16) (by omega) (by omega) (by omega) (by simpa using n37))) | exact same_false (fun e => by subst e; simp_all))))
 ·intro n10
  refine W.skip (thenQ_normal ?_)
  refine W.seq ?_
  refine Kk cok tab14 hnt [] [2,3,16] (⟨[(2,.ptr 2 0),(3,.ptr 3 0),(16,.b (!(decide (a.down = b.down))))],[(2,⟨29,.fix (cC a)⟩),(3,⟨29,.fix (cC b)⟩)],[3,2,999]⟩)
   (True ∧ True ∧ True ∧ True ∧ (True ∧ (True ∧ True ∧ True) ∧ True) ∧ True ∧ True)
   ⟨tt,tt,tt,tt,⟨tt,⟨tt,tt,tt⟩,tt⟩,tt,tt⟩ ?_
  refine W.if' (!(decide (a.down = b.down))) (.b (!(decide (a.down = b.down)))) (by kernel_rfl) rfl trivial ?_ ?_
  ·intro h16
   refine Kk cok tab14 hnt [] [4] (⟨[(4,.b false)],[(2,⟨29,.fix (cC a)⟩),(3,⟨29,.fix (cC b)⟩)],[3,2,999]⟩)
    (True ∧ True)
    ⟨tt,tt⟩ ?_
   refine W.ret (thenQ_ret ?_)
   exact endQ_ret (.b false) (by kernel_rfl) (@cast ((.bool false : Value) = .bool (sameC a b)) _ (by kernel_rfl) (congrArg Value.bool (by first | (symm; exact same_iff.2 (copy_ext (by simpa using n10) (by simpa using n16) (by omega) (by omega) (by omega) (by simpa using n37))) | exact same_false (fun e => by subst e; simp_all))))
  ·intro n16
   refine W.skip (thenQ_normal ?_)
   refine W.seq ?_
   refine Kk cok tab14 hnt [] [2,3,21] (⟨[(2,.ptr 2 0),(3,.ptr 3 0),(21,.b (decide (a.value ≠ b.value)))],[(2,⟨29,.fix (cC a)⟩),(3,⟨29,.fix (cC b)⟩)],[3,2,999]⟩)
    (True ∧ True ∧ True ∧ True ∧ (True ∧ True ∧ True) ∧ True)
    ⟨tt,tt,tt,tt,⟨tt,tt,tt⟩,tt⟩ ?_
   refine W.ifP (a.value ≠ b.value) (.b (decide (a.value ≠ b.value))) (by kernel_rfl) rfl trivial ?_ ?_
   ·intro h21
    refine Kk cok tab14 hnt [] [4] (⟨[(4,.b false)],[(2,⟨29,.fix (cC a)⟩),(3,⟨29,.fix (cC b)⟩)],[3,2,999]⟩)
     (True ∧ True)
     ⟨tt,tt⟩ ?_
    refine W.ret (thenQ_ret ?_)
    exact endQ_ret (.b false) (by kernel_rfl) (@cast ((.bool false : Value) = .bool (sameC a b)) _ (by kernel_rfl) (congrArg Value.bool (by first | (symm; exact same_iff.2 (copy_ext (by simpa using n10) (by simpa using n16) (by omega) (by omega) (by omega) (by simpa using n37))) | exact same_false (fun e => by subst e; simp_all))))
   ·intro n21
    refine W.skip (thenQ_normal ?_)
    refine W.seq ?_
    refine Kk cok tab14 hnt [] [2,3,26] (⟨[(2,.ptr 2 0),(3,.ptr 3 0),(26,.b (decide (a.time ≠ b.time)))],[(2,⟨29,.fix (cC a)⟩),(3,⟨29,.fix (cC b)⟩)],[3,2,999]⟩)
     (True ∧ True ∧ True ∧ True ∧ (True ∧ True ∧ True) ∧ True)
     ⟨tt,tt,tt,tt,⟨tt,tt,tt⟩,tt⟩ ?_
    refine W.ifP (a.time ≠ b.time) (.b (decide (a.time ≠ b.time))) (by kernel_rfl) rfl trivial ?_ ?_
    ·intro h26
     refine Kk cok tab14 hnt [] [4] (⟨[(4,.b false)],[(2,⟨29,.fix (cC a)⟩),(3,⟨29,.fix (cC b)⟩)],[3,2,999]⟩)
      (True ∧ True)
      ⟨tt,tt⟩ ?_
     refine W.ret (thenQ_ret ?_)
     exact endQ_ret (.b false) (by kernel_rfl) (@cast ((.bool false : Value) = .bool (sameC a b)) _ (by kernel_rfl) (congrArg Value.bool (by first | (symm; exact same_iff.2 (copy_ext (by simpa using n10) (by simpa using n16) (by omega) (by omega) (by omega) (by simpa using n37))) | exact same_false (fun e => by subst e; simp_all))))
    ·intro n26
     refine W.skip (thenQ_normal ?_)
     refine W.seq ?_
     refine Kk cok tab14 hnt [] [2,3,31] (⟨[(2,.ptr 2 0),(3,.ptr 3 0),(31,.b (decide (a.proc ≠ b.proc)))],[(2,⟨29,.fix (cC a)⟩),(3,⟨29,.fix (cC b)⟩)],[3,2,999]⟩)
      (True ∧ True ∧ True ∧ True ∧ (True ∧ True ∧ True) ∧ True)
      ⟨tt,tt,tt,tt,⟨tt,tt,tt⟩,tt⟩ ?_
     refine W.ifP (a.proc ≠ b.proc) (.b (decide (a.proc ≠ b.proc))) (by kernel_rfl) rfl trivial ?_ ?_
     ·intro h31
      refine Kk cok tab14 hnt [] [4] (⟨[(4,.b false)],[(2,⟨29,.fix (cC a)⟩),(3,⟨29,.fix (cC b)⟩)],[3,2,999]⟩)
       (True ∧ True)
       ⟨tt,tt⟩ ?_
      refine W.ret (thenQ_ret ?_)
      exact endQ_ret (.b false) (by kernel_rfl) (@cast ((.bool false : Value) = .bool (sameC a b)) _ (by kernel_rfl) (congrArg Value.bool (by first | (symm; exact same_iff.2 (copy_ext (by simpa using n10) (by simpa using n16) (by omega) (by omega) (by omega) (by simpa using n37))) | exact same_false (fun e => by subst e; simp_all))))
     ·intro n31
      refine W.skip (thenQ_normal ?_)
      refine W.seq ?_
      refine Kk cok tab14 hnt [] [37] (⟨[(37,.b (!(decide (a.marks = b.marks))))],[(2,⟨29,.fix (cC a)⟩),(3,⟨29,.fix (cC b)⟩)],[3,2,999]⟩)
       (True ∧ True ∧ True ∧ True ∧ (True ∧ (True ∧ True ∧ True) ∧ True) ∧ True ∧ True)
       ⟨tt,tt,tt,tt,⟨tt,⟨tt,tt,tt⟩,tt⟩,tt,tt⟩ ?_
      refine W.if' (!(decide (a.marks = b.marks))) (.b (!(decide (a.marks = b.marks)))) (by kernel_rfl) rfl trivial ?_ ?_
      ·intro h37
       refine Kk cok tab14 hnt [] [4] (⟨[(4,.b false)],[(2,⟨29,.fix (cC a)⟩),(3,⟨29,.fix (cC b)⟩)],[3,2,999]⟩)
        (True ∧ True)
        ⟨tt,tt⟩ ?_
       refine W.ret (thenQ_ret ?_)
       exact endQ_ret (.b false) (by kernel_rfl) (@cast ((.bool false : Value) = .bool (sameC a b)) _ (by kernel_rfl) (congrArg Value.bool (by first | (symm; exact same_iff.2 (copy_ext (by simpa using n10) (by simpa using n16) (by omega) (by omega) (by omega) (by simpa using n37))) | exact same_false (fun e => by subst e; simp_all))))
      ·intro n37
       refine W.skip (thenQ_normal ?_)
       refine Kk cok tab14 hnt [] [4] (⟨[(4,.b true)],[(2,⟨29,.fix (cC a)⟩),(3,⟨29,.fix (cC b)⟩)],[3,2,999]⟩)
        (True ∧ True)
        ⟨tt,tt⟩ ?_
       refine W.ret ?_
       exact endQ_ret (.b true) (by kernel_rfl) (@cast ((.bool true : Value) = .bool (sameC a b)) _ (by kernel_rfl) (congrArg Value.bool (by first | (symm; exact same_iff.2 (copy_ext (by simpa using n10) (by simpa using n16) (by omega) (by omega) (by omega) (by simpa using n37))) | exact same_false (fun e => by subst e; simp_all))))
theorem ent14 : Entr prog 14 := ⟨_,func14,rfl,by decide⟩
end Go.Proofs.Try
