import Derived.Test.YtfoifegcfbglpaaQF4S0
import Derived.Test.YtfoifegcfbglpaaQF4S1
import Derived.Test.YtfoifegcfbglpaaQF4S2
import Derived.Test.YtfoifegcfbglpaaFrameB
set_option linter.unusedSimpArgs false
set_option linter.unusedVariables false
namespace Go.Proofs.Try
open Go.Ab Go.RowKit
def fs9 : FnS := fnS [.a [some .ints,some .ints,none,none,none,some .marks],.a [some .ints,some .ints,none,none,none,some .marks]] [.copy,.copy] (fun _ (a,b,_) => (.b (sameC a b),[],True))
abbrev T9 : Tab := lk [(17,fs17)]
theorem tab9 : TabOK prog T9 := (TabOK.cons ok17 ent17 TabOK.nil)
set_option maxRecDepth 100000 in
set_option maxHeartbeats 1000000 in
theorem ok9 : FnOK prog 9 fs9 := by
 refine FnOK.mk cok func9 rfl rfl rfl ?_
 rintro fl ⟨(a : CopyD),(b : CopyD),_⟩ hpre F hnt0 _
 have hnt : F.nt = 64 := hnt0.trans ntmps9
 clear hpre
 refine W.to (⟨[(0,.agg (cC a)),(1,.agg (cC b))],[],[999]⟩) rfl ?_
 refine W.lenA 0 0 (cC a) (.ints a.up) (by kernel_rfl) (by kernel_rfl) ?_
 intro hl_a_up; replace hl_a_up : List.length a.up ≤ 9223372036854775807 := hl_a_up
 refine W.lenA 0 1 (cC a) (.ints a.down) (by kernel_rfl) (by kernel_rfl) ?_
 intro hl_a_down; replace hl_a_down : List.length a.down ≤ 9223372036854775807 := hl_a_down
 refine W.lenA 0 5 (cC a) (.marks a.marks) (by kernel_rfl) (by kernel_rfl) ?_
 intro hl_a_marks; replace hl_a_marks : List.length a.marks ≤ 9223372036854775807 := hl_a_marks
 refine W.lenA 1 0 (cC b) (.ints b.up) (by kernel_rfl) (by kernel_rfl) ?_
 intro hl_b_up; replace hl_b_up : List.length b.up ≤ 9223372036854775807 := hl_b_up
 refine W.lenA 1 1 (cC b) (.ints b.down) (by kernel_rfl) (by kernel_rfl) ?_
 intro hl_b_down; replace hl_b_down : List.length b.down ≤ 9223372036854775807 := hl_b_down
 refine W.lenA 1 5 (cC b) (.marks b.marks) (by kernel_rfl) (by kernel_rfl) ?_
 intro hl_b_marks; replace hl_b_marks : List.length b.marks ≤ 9223372036854775807 := hl_b_marks
 refine Kk cok tab9 hnt [] [2,3] (⟨[(2,.ptr 2 0),(3,.ptr 3 0)],[(2,⟨26,.fix (cC a)⟩),(3,⟨26,.fix (cC b)⟩)],[3,2,999]⟩)
  (True ∧ True ∧ True ∧ True)
  ⟨tt,tt,tt,tt⟩ ?_
 refine W.seq ?_
 refine Kk cok tab9 hnt [] [2,3,12] (⟨[(2,.ptr 2 0),(3,.ptr 3 0),(12,.b (decide ((((List.length a.marks) : Nat) : Int) ≠ (((List.length b.marks) : Nat) : Int))))],[(2,⟨26,.fix (cC a)⟩),(3,⟨26,.fix (cC b)⟩)],[3,2,999]⟩)
  (True ∧ True ∧ True ∧ True ∧ True ∧ True ∧ (True ∧ True ∧ True) ∧ True)
  ⟨tt,tt,tt,tt,tt,tt,⟨tt,tt,tt⟩,tt⟩ ?_
 refine W.ifP ((((List.length a.marks) : Nat) : Int) ≠ (((List.length b.marks) : Nat) : Int)) (.b (decide ((((List.length a.marks) : Nat) : Int) ≠ (((List.length b.marks) : Nat) : Int)))) (by kernel_rfl) rfl trivial ?_ ?_
 ·intro h12
  refine Kk cok tab9 hnt [] [4] (⟨[(4,.b false)],[(2,⟨26,.fix (cC a)⟩),(3,⟨26,.fix (cC b)⟩)],[3,2,999]⟩)
   (True ∧ True)
   ⟨tt,tt⟩ ?_
  refine W.ret (thenQ_ret ?_)
  exact endQ_ret (.b false) (by kernel_rfl) (@cast ((.bool false : Value) = .bool (sameC a b)) _ (by kernel_rfl) (congrArg Value.bool (by symm; exact same_no (fun e => h12 (by rw [e])))))
 ·intro n12
  refine W.skip (thenQ_normal ?_)
  refine W.seq ?_
  refine Kk cok tab9 hnt [] [2,3,5] (⟨[(2,.ptr 2 0),(3,.ptr 3 0),(5,.i (0 : Int))],[(2,⟨26,.fix (cC a)⟩),(3,⟨26,.fix (cC b)⟩)],[3,2,999]⟩)
   (True ∧ True)
   ⟨tt,tt⟩ ?_
  refine W.block ?_
  refine W.loop (ι := Nat) (fun (i : Nat) => (⟨[(2,.ptr 2 0),(3,.ptr 3 0),(5,.i ((i : Nat) : Int))],[(2,⟨26,.fix (cC a)⟩),(3,⟨26,.fix (cC b)⟩)],[2,3,999]⟩ : St))
   (fun (i : Nat) => (i ≤ a.marks.length) ∧ (∀ j,j < i → a.marks.getD j default = b.marks.getD j default))
   (fun (i : Nat) => (a.marks.length - i : Nat)) (0) ?_ ?_ ?_
  ·exact (show (0 ≤ a.marks.length) ∧ (∀ j,j < 0 → a.marks.getD j default = b.marks.getD j default) from ⟨(by first | assumption | omega | rfl | (intro _ hjj; omega) | (simp; done) | (simp; omega)),(by exact upto_zero)⟩)
  ·exact Sub.of [] (@cast (((((2 : Nat) = 2) ∧ ((0 : Nat) = 0) ∧ ((2 : Nat) ∈ ([2,3,999] : List Nat))) ∧ (((3 : Nat) = 3) ∧ ((0 : Nat) = 0) ∧ ((3 : Nat) ∈ ([2,3,999] : List Nat))) ∧ ((.int .i64 (0 : Int) : Value) = .int .i64 ((0 : Nat) : Int)) ∧ True) ∧ ((((26 : Nat) = 26) ∧ (Sc a) ∧ ((2 : Nat) ∈ ([2,3,999] : List Nat))) ∧ (((26 : Nat) = 26) ∧ (Sc b) ∧ ((3 : Nat) ∈ ([2,3,999] : List Nat))) ∧ True) ∧ (true = true) ∧ (true = true)) _ (by kernel_rfl) ⟨⟨⟨rfl,rfl,(by decide)⟩,⟨rfl,rfl,(by decide)⟩,(congrArg (Value.int .i64) (by first | rfl | omega | assumption | simp | simp_all)),tt⟩,⟨⟨rfl,⟨rfl,rfl,rfl,rfl,rfl,rfl,tt⟩,(by decide)⟩,⟨rfl,⟨rfl,rfl,rfl,rfl,rfl,rfl,tt⟩,(by decide)⟩,tt⟩,rfl,rfl⟩)
  ·rintro i hC0
   have hC : (i ≤ a.marks.length) ∧ (∀ j,j < i → a.marks.getD j default = b.marks.getD j default) := hC0
   clear hC0
   obtain ⟨hi,hA⟩ := hC
   refine W.to (⟨[(2,.ptr 2 0),(3,.ptr 3 0),(5,.i ((i : Nat) : Int))],[(2,⟨26,.fix (cC a)⟩),(3,⟨26,.fix (cC b)⟩)],[2,3,999]⟩) rfl ?_
   refine W.seq ?_
   refine Kk cok tab9 hnt [] [2,3,5,17] (⟨[(2,.ptr 2 0),(3,.ptr 3 0),(5,.i ((i : Nat) : Int)),(17,.b (decide (((i : Nat) : Int) < (((List.length a.marks) : Nat) : Int))))],[(2,⟨26,.fix (cC a)⟩),(3,⟨26,.fix (cC b)⟩)],[2,3,999]⟩)
    (True ∧ True ∧ True ∧ True ∧ (True ∧ True ∧ True) ∧ True)
    ⟨tt,tt,tt,tt,⟨tt,tt,tt⟩,tt⟩ ?_
   refine W.ifP (((i : Nat) : Int) < (((List.length a.marks) : Nat) : Int)) (.b (decide (((i : Nat) : Int) < (((List.length a.marks) : Nat) : Int)))) (by kernel_rfl) rfl trivial ?_ ?_
   ·intro h17
    refine W.skip (thenQ_normal ?_)
    refine W.seq ?_
    refine W.block ?_
    refine W.KA cok tab9 hnt [] [2,3,5,30] (⟨[(2,.ptr 2 0),(3,.ptr 3 0),(5,.i ((i : Nat) : Int)),(30,.b (!((decide (((List.getD a.marks i default).value) = ((List.getD b.marks i default).value))) && ((decide (((List.getD a.marks i default).proc) = ((List.getD b.marks i default).proc))) && ((decide (((List.getD a.marks i default).number) = ((List.getD b.marks i default).number))) && ((((List.getD a.marks i default).gone) == ((List.getD b.marks i default).gone)) && true))))))],[(2,⟨26,.fix (cC a)⟩),(3,⟨26,.fix (cC b)⟩)],[2,3,999]⟩)
     (True ∧ True ∧ True ∧ (True ∧ True ∧ (0 ≤ ((i : Nat) : Int)) ∧ (((i : Nat) : Int) < (((List.length a.marks) : Nat) : Int))) ∧ True ∧ True ∧ True ∧ True ∧ (True ∧ True ∧ (0 ≤ ((i : Nat) : Int)) ∧ (((i : Nat) : Int) < (((List.length b.marks) : Nat) : Int))) ∧ True ∧ (True ∧ True) ∧ True) (by kernel_rfl) (by kernel_rfl)
     ⟨tt,tt,tt,⟨tt,tt,(by omega),(by omega)⟩,tt,tt,tt,tt,⟨tt,tt,(by omega),(by omega)⟩,tt,⟨tt,tt⟩,tt⟩ ?_
    refine W.if' (!((decide (((List.getD a.marks i default).value) = ((List.getD b.marks i default).value))) && ((decide (((List.getD a.marks i default).proc) = ((List.getD b.marks i default).proc))) && ((decide (((List.getD a.marks i default).number) = ((List.getD b.marks i default).number))) && ((((List.getD a.marks i default).gone) == ((List.getD b.marks i default).gone)) && true))))) (.b (!((decide (((List.getD a.marks i default).value) = ((List.getD b.marks i default).value))) && ((decide (((List.getD a.marks i default).proc) = ((List.getD b.marks i default).proc))) && ((decide (((List.getD a.marks i default).number) = ((List.getD b.marks i default).number))) && ((((List.getD a.marks i default).gone) == ((List.getD b.marks i default).gone)) && true)))))) (by kernel_rfl) rfl trivial ?_ ?_
    ·intro h30
     refine Kk cok tab9 hnt [] [4] (⟨[(4,.b false)],[(2,⟨26,.fix (cC a)⟩),(3,⟨26,.fix (cC b)⟩)],[2,3,999]⟩)
      (True ∧ True)
      ⟨tt,tt⟩ ?_
     refine W.ret (blockQ_ret (thenQ_ret (thenQ_ret (blockQ_ret (thenQ_ret ?_)))))
     exact endQ_ret (.b false) (by kernel_rfl) (@cast ((.bool false : Value) = .bool (sameC a b)) _ (by kernel_rfl) (congrArg Value.bool (by symm; exact same_no (fun e => by rw [e] at h30; exact mark_self h30))))
    ·intro n30
     have n30_0 : ((List.getD a.marks i default).value) = ((List.getD b.marks i default).value) := of_decide_eq_true (and_l (not_g n30))
     have n30_1 : ((List.getD a.marks i default).proc) = ((List.getD b.marks i default).proc) := of_decide_eq_true (and_l (and_r (not_g n30)))
     have n30_2 : ((List.getD a.marks i default).number) = ((List.getD b.marks i default).number) := of_decide_eq_true (and_l (and_r (and_r (not_g n30))))
     refine W.skip (blockQ_normal (thenQ_normal ?_))
     refine Lk cok tab9 hnt [] (⟨[(2,.ptr 2 0),(3,.ptr 3 0),(5,.i (((i + 1) : Nat) : Int)),(18,.i ((i : Nat) : Int)),(19,.i (((i + 1) : Nat) : Int)),(30,.b (!((decide (((List.getD a.marks i default).value) = ((List.getD b.marks i default).value))) && ((decide (((List.getD a.marks i default).proc) = ((List.getD b.marks i default).proc))) && ((decide (((List.getD a.marks i default).number) = ((List.getD b.marks i default).number))) && ((((List.getD a.marks i default).gone) == ((List.getD b.marks i default).gone)) && true))))))],[(2,⟨26,.fix (cC a)⟩),(3,⟨26,.fix (cC b)⟩)],[2,3,999]⟩)
      (True ∧ (True ∧ True ∧ (Fits .i64 (((i + 1) : Nat) : Int))) ∧ True ∧ True)
      ⟨tt,⟨tt,tt,(by exact fits_i64 (by omega) (by omega))⟩,tt,tt⟩ ?_
     refine thenQ_normal ?_
     refine ⟨((i + 1)),(show ((i + 1) ≤ a.marks.length) ∧ (∀ j,j < (i + 1) → a.marks.getD j default = b.marks.getD j default) from ⟨(by first | assumption | omega | rfl | (intro _ hjj; omega) | (simp; done) | (simp; omega)),(by exact upto_succ hA (mark_same n30))⟩),(show a.marks.length - (i + 1) < a.marks.length - i from (by first | omega | (simp_all; omega))),?_⟩
     exact Sub.of [] (@cast (((((2 : Nat) = 2) ∧ ((0 : Nat) = 0) ∧ ((2 : Nat) ∈ ([2,3,999] : List Nat))) ∧ (((3 : Nat) = 3) ∧ ((0 : Nat) = 0) ∧ ((3 : Nat) ∈ ([2,3,999] : List Nat))) ∧ (Si (((i + 1) : Nat) : Int)) ∧ True) ∧ ((((26 : Nat) = 26) ∧ (Sc a) ∧ ((2 : Nat) ∈ ([2,3,999] : List Nat))) ∧ (((26 : Nat) = 26) ∧ (Sc b) ∧ ((3 : Nat) ∈ ([2,3,999] : List Nat))) ∧ True) ∧ (true = true) ∧ (true = true)) _ (by kernel_rfl) ⟨⟨⟨rfl,rfl,(by decide)⟩,⟨rfl,rfl,(by decide)⟩,rfl,tt⟩,⟨⟨rfl,⟨rfl,rfl,rfl,rfl,rfl,rfl,tt⟩,(by decide)⟩,⟨rfl,⟨rfl,rfl,rfl,rfl,rfl,rfl,tt⟩,(by decide)⟩,tt⟩,rfl,rfl⟩)
   ·intro n17
    refine W.exit (thenQ_exit (thenQ_exit (blockQ_hit ?_)))
    refine thenQ_normal ?_
    refine Kk cok tab9 hnt [] [4] (⟨[(4,.b (((((decide (a.up = b.up)) && (decide (a.down = b.down))) && (decide (a.value = b.value))) && (decide (a.time = b.time))) && (decide (a.proc = b.proc))))],[(2,⟨26,.fix (cC a)⟩),(3,⟨26,.fix (cC b)⟩)],[2,3,999]⟩)
     ((fun (Z1:Bool)=>((fun (Z2:Bool)=>((fun (Z3:Bool)=>((fun (Z4:Bool)=>(True ∧ (True ∧ (True ∧ (True ∧ ((True ∧ ((True ∧ (True ∧ True)) ∧ True)) ∧ (True ∧ ((Z1 = true → True) ∧ ((Z1 = true → ((Z1 = true) ∧ True)) ∧ ((Z1 = true → True) ∧ ((Z1 = true → ((Z1 = true) ∧ True)) ∧ ((Z1 = true → (True ∧ ((((Z1 = true) ∧ True) ∧ (((Z1 = true) ∧ True) ∧ True)) ∧ True))) ∧ ((True ∧ ((Z1 = true → (Z1 = true) ∧ True) ∧ (Z1 = false → True))) ∧ (True ∧ ((Z2 = true → True) ∧ ((Z2 = true → ((Z2 = true) ∧ True)) ∧ ((Z2 = true → True) ∧ ((Z2 = true → ((Z2 = true) ∧ True)) ∧ ((Z2 = true → (((Z2 = true) ∧ True) ∧ (((Z2 = true) ∧ True) ∧ True))) ∧ ((True ∧ ((Z2 = true → (Z2 = true) ∧ True) ∧ (Z2 = false → True))) ∧ (True ∧ ((Z3 = true → True) ∧ ((Z3 = true → ((Z3 = true) ∧ True)) ∧ ((Z3 = true → True) ∧ ((Z3 = true → ((Z3 = true) ∧ True)) ∧ ((Z3 = true → (((Z3 = true) ∧ True) ∧ (((Z3 = true) ∧ True) ∧ True))) ∧ ((True ∧ ((Z3 = true → (Z3 = true) ∧ True) ∧ (Z3 = false → True))) ∧ (True ∧ ((Z4 = true → True) ∧ ((Z4 = true → ((Z4 = true) ∧ True)) ∧ ((Z4 = true → True) ∧ ((Z4 = true → ((Z4 = true) ∧ True)) ∧ ((Z4 = true → (((Z4 = true) ∧ True) ∧ (((Z4 = true) ∧ True) ∧ True))) ∧ ((True ∧ ((Z4 = true → (Z4 = true) ∧ True) ∧ (Z4 = false → True))) ∧ (True ∧ True))))))))))))))))))))))))))))))))))) (Z3 && (decide (a.time = b.time))))) (Z2 && (decide (a.value = b.value))))) (Z1 && (decide (a.down = b.down))))) (decide (a.up = b.up)))
     ⟨tt,tt,tt,tt,⟨tt,⟨tt,tt,tt⟩,tt⟩,tt,(fun _ => trivial),(fun hG => ⟨hG,tt⟩),(fun _ => trivial),(fun hG => ⟨hG,tt⟩),(fun hG => ⟨tt,⟨⟨hG,tt⟩,⟨hG,tt⟩,tt⟩,tt⟩),⟨tt,(fun hp => ⟨hp,tt⟩),(fun _ => trivial)⟩,tt,(fun _ => trivial),(fun hG => ⟨hG,tt⟩),(fun _ => trivial),(fun hG => ⟨hG,tt⟩),(fun hG => ⟨⟨hG,tt⟩,⟨hG,tt⟩,tt⟩),⟨tt,(fun hp => ⟨hp,tt⟩),(fun _ => trivial)⟩,tt,(fun _ => trivial),(fun hG => ⟨hG,tt⟩),(fun _ => trivial),(fun hG => ⟨hG,tt⟩),(fun hG => ⟨⟨hG,tt⟩,⟨hG,tt⟩,tt⟩),⟨tt,(fun hp => ⟨hp,tt⟩),(fun _ => trivial)⟩,tt,(fun _ => trivial),(fun hG => ⟨hG,tt⟩),(fun _ => trivial),(fun hG => ⟨hG,tt⟩),(fun hG => ⟨⟨hG,tt⟩,⟨hG,tt⟩,tt⟩),⟨tt,(fun hp => ⟨hp,tt⟩),(fun _ => trivial)⟩,tt,tt⟩ ?_
    refine W.ret ?_
    exact endQ_ret (.b (((((decide (a.up = b.up)) && (decide (a.down = b.down))) && (decide (a.value = b.value))) && (decide (a.time = b.time))) && (decide (a.proc = b.proc)))) (by kernel_rfl) (@cast ((.bool (((((decide (a.up = b.up)) && (decide (a.down = b.down))) && (decide (a.value = b.value))) && (decide (a.time = b.time))) && (decide (a.proc = b.proc))) : Value) = .bool (sameC a b)) _ (by kernel_rfl) (congrArg Value.bool (by exact same_yes (marks_ext (by omega) (fun j hj => hA j (by omega))))))
theorem ent9 : Entr prog 9 := ⟨_,func9,rfl,by decide⟩
end Go.Proofs.Try

set_option linter.unusedSimpArgs false
set_option linter.unusedVariables false
namespace Go.Proofs.Try
open Go.Ab Go.RowKit Go.Shelf Go.Proofs
def fs37 : FnS := fnS [.c .ints 3] [.ints] (fun _ (l,_) => (.own 0 (List.length (Lib.compact l)),[(3,.ints (Lib.compact l))],(l.length ≤ 1000)))
def renC : Go.Shelf.Ren := ⟨fun _ => 37,fun k => bif Nat.beq k 0 then 0 else bif Nat.beq k 3 then 3 else bif Nat.beq k 4 then 4 else bif Nat.beq k 22 then 23 else k,fun k => k⟩
set_option maxRecDepth 100000 in
theorem laysC : Go.Proofs.Lays2.n20 prog renC where
 mixed := by kernel_rfl
 f20 := by kernel_rfl
 t0 := underlying0
 a0 := isAgg0
 z0 := sizeOf0
 v0 := zeroValue0
 t3 := underlying3
 a3 := isAgg3
 z3 := sizeOf3
 v3 := zeroValue3
 t4 := underlying4
 a4 := isAgg4
 z4 := sizeOf4
 v4 := zeroValue4
 t22 := underlying23
 a22 := isAgg23
 z22 := sizeOf23
 v22 := zeroValue23
 i3 := by kernel_rfl
theorem ok37 : FnOK prog 37 fs37 := compact_ok laysC
theorem ent37 : Entr prog 37 := ⟨_,func37,rfl,by decide⟩
end Go.Proofs.Try

set_option linter.unusedSimpArgs false
set_option linter.unusedVariables false
namespace Go.Proofs.Try
open Go.Ab Go.RowKit Go.Shelf Go.Proofs Go.Lib
def renS : Go.Shelf.Ren := ⟨fun k => bif Nat.beq k 125 then 55 else bif Nat.beq k 128 then 73 else bif Nat.beq k 129 then 74 else bif Nat.beq k 189 then 36 else bif Nat.beq k 215 then 62 else bif Nat.beq k 216 then 70 else bif Nat.beq k 257 then 54 else bif Nat.beq k 294 then 64 else bif Nat.beq k 295 then 65 else bif Nat.beq k 296 then 66 else bif Nat.beq k 297 then 67 else bif Nat.beq k 298 then 68 else bif Nat.beq k 299 then 69 else bif Nat.beq k 300 then 71 else bif Nat.beq k 301 then 72 else bif Nat.beq k 328 then 77 else bif Nat.beq k 329 then 78 else bif Nat.beq k 330 then 79 else bif Nat.beq k 331 then 80 else bif Nat.beq k 332 then 81 else bif Nat.beq k 343 then 82 else k,fun k => bif Nat.beq k 0 then 0 else bif Nat.beq k 3 then 3 else bif Nat.beq k 4 then 4 else bif Nat.beq k 5 then 5 else bif Nat.beq k 9 then 9 else bif Nat.beq k 28 then 23 else bif Nat.beq k 46 then 76 else bif Nat.beq k 51 then 93 else bif Nat.beq k 53 then 95 else bif Nat.beq k 131 then 53 else bif Nat.beq k 182 then 85 else bif Nat.beq k 183 then 86 else bif Nat.beq k 218 then 98 else bif Nat.beq k 222 then 102 else bif Nat.beq k 228 then 104 else bif Nat.beq k 229 then 105 else k,fun k => k⟩
set_option maxRecDepth 100000 in
theorem laysS : Go.Proofs.Lays.n189 prog renS where
 mixed := by kernel_rfl
 f125 := by kernel_rfl
 f128 := by kernel_rfl
 f129 := by kernel_rfl
 f189 := by kernel_rfl
 f215 := by kernel_rfl
 f216 := by kernel_rfl
 f257 := by kernel_rfl
 f294 := by kernel_rfl
 f295 := by kernel_rfl
 f296 := by kernel_rfl
 f297 := by kernel_rfl
 f298 := by kernel_rfl
 f299 := by kernel_rfl
 f300 := by kernel_rfl
 f301 := by kernel_rfl
 f328 := by kernel_rfl
 f329 := by kernel_rfl
 f330 := by kernel_rfl
 f331 := by kernel_rfl
 f332 := by kernel_rfl
 f343 := by kernel_rfl
 t0 := underlying0
 a0 := isAgg0
 z0 := sizeOf0
 v0 := zeroValue0
 t3 := underlying3
 a3 := isAgg3
 z3 := sizeOf3
 v3 := zeroValue3
 t4 := underlying4
 a4 := isAgg4
 z4 := sizeOf4
 v4 := zeroValue4
 t5 := underlying5
 a5 := isAgg5
 z5 := sizeOf5
 v5 := zeroValue5
 t9 := underlying9
 a9 := isAgg9
 z9 := sizeOf9
 v9 := zeroValue9
 t28 := underlying23
 a28 := isAgg23
 z28 := sizeOf23
 v28 := zeroValue23
 t46 := underlying76
 a46 := isAgg76
 z46 := sizeOf76
 v46 := zeroValue76
 t51 := underlying93
 a51 := isAgg93
 z51 := sizeOf93
 v51 := zeroValue93
 t53 := underlying95
 a53 := isAgg95
 z53 := sizeOf95
 v53 := zeroValue95
 t131 := underlying53
 a131 := isAgg53
 z131 := sizeOf53
 v131 := zeroValue53
 t182 := underlying85
 a182 := isAgg85
 z182 := sizeOf85
 v182 := zeroValue85
 t183 := underlying86
 a183 := isAgg86
 z183 := sizeOf86
 v183 := zeroValue86
 t218 := underlying98
 a218 := isAgg98
 z218 := sizeOf98
 v218 := zeroValue98
 t222 := underlying102
 a222 := isAgg102
 z222 := sizeOf102
 v222 := zeroValue102
 t228 := underlying104
 a228 := isAgg104
 z228 := sizeOf104
 v228 := zeroValue104
 t229 := underlying105
 a229 := isAgg105
 z229 := sizeOf105
 v229 := zeroValue105
theorem hok36 : ∀ (l : List Int),(List.length l ≤ 1000) → HOK prog 36 [911] [.own 911 l.length] [(911,⟨3,.row (.ints l)⟩)] [911] (fun r s1 u1 => r = (.tup []) ∧ s1 = [(911,⟨3,.row (.ints (sortI l))⟩)] ∧ u1 = [911]) := fun l hl => sort_hok laysS l (by omega)
theorem ent36 : Entr prog 36 := ⟨_,func36,rfl,by decide⟩
end Go.Proofs.Try

set_option linter.unusedSimpArgs false
set_option linter.unusedVariables false
namespace Go.Proofs.Try
open Go.Ab Go.RowKit
def fs11 : FnS := fnS [.a [some .ints,some .ints,none,none,none,some .marks]] [.copy] (fun _ (c,_) => (.own 0 (List.length (valuesC c)),[(3,.ints (valuesC c))],True))
abbrev T11 : Tab := lk [(13,fs13),(37,fs37)]
theorem tab11 : TabOK prog T11 := (TabOK.cons ok13 ent13 (TabOK.cons ok37 ent37 TabOK.nil))
set_option maxRecDepth 100000 in
set_option maxHeartbeats 1000000 in
theorem ok11 : FnOK prog 11 fs11 := by
 refine FnOK.mk cok func11 rfl rfl rfl ?_
 rintro fl ⟨(c : CopyD),_⟩ hpre F hnt0 _
 have hnt : F.nt = 31 := hnt0.trans ntmps11
 clear hpre
 refine W.to (⟨[(0,.agg (cC c))],[],[999]⟩) rfl ?_
 refine W.lenA 0 0 (cC c) (.ints c.up) (by kernel_rfl) (by kernel_rfl) ?_
 intro hl_c_up; replace hl_c_up : List.length c.up ≤ 9223372036854775807 := hl_c_up
 refine W.lenA 0 1 (cC c) (.ints c.down) (by kernel_rfl) (by kernel_rfl) ?_
 intro hl_c_down; replace hl_c_down : List.length c.down ≤ 9223372036854775807 := hl_c_down
 refine W.lenA 0 5 (cC c) (.marks c.marks) (by kernel_rfl) (by kernel_rfl) ?_
 intro hl_c_marks; replace hl_c_marks : List.length c.marks ≤ 9223372036854775807 := hl_c_marks
 refine Kk cok tab11 hnt [] [1] (⟨[(1,.ptr 1 0)],[(1,⟨26,.fix (cC c)⟩)],[1,999]⟩)
  (True ∧ True ∧ True)
  ⟨tt,tt,tt⟩ ?_
 refine Kk cok tab11 hnt [6] [1,3] (⟨[(1,.ptr 1 0),(3,.own 6 (List.length ([] : List Int)))],[(1,⟨26,.fix (cC c)⟩),(6,⟨3,.row (.ints ([] : List Int))⟩)],[6,1,999]⟩)
  (True ∧ True ∧ True)
  ⟨tt,tt,tt⟩ ?_
 refine W.seq ?_
 refine Kk cok tab11 hnt [] [1,3,9] (⟨[(1,.ptr 1 0),(3,.own 6 (List.length ([] : List Int))),(9,.b (!(validCopy c)))],[(1,⟨26,.fix (cC c)⟩),(6,⟨3,.row (.ints ([] : List Int))⟩)],[6,1,999]⟩)
  (True ∧ (True ∧ ((True ∧ True ∧ True ∧ True ∧ True ∧ True ∧ True ∧ True) ∧ True) ∧ True) ∧ True ∧ True)
  ⟨tt,⟨tt,⟨⟨tt,tt,tt,tt,tt,tt,tt,tt⟩,tt⟩,tt⟩,tt,tt⟩ ?_
 refine W.if' (!(validCopy c)) (.b (!(validCopy c))) (by kernel_rfl) rfl trivial ?_ ?_
 ·intro h9
  refine Kk cok tab11 hnt [] [2] (⟨[(2,.own 6 (List.length ([] : List Int)))],[(1,⟨26,.fix (cC c)⟩),(6,⟨3,.row (.ints ([] : List Int))⟩)],[6,1,999]⟩)
   (True ∧ True ∧ True)
   ⟨tt,tt,tt⟩ ?_
  refine W.ret (thenQ_ret ?_)
  exact endQ_rows [(0,6)] (.own 6 (List.length ([] : List Int))) (by kernel_rfl) (@cast (((6 : Nat) = 6) ∧ ((List.length ([] : List Int)) = (List.length (valuesC c))) ∧ ((0 : Nat) ∈ ([0] : List Nat))) _ (by kernel_rfl) ⟨rfl,(by first | rfl | omega | assumption | (symm; assumption) | (exact congrArg List.length (by first | exact values_bad (not_f h9) | (rw [← values_bad (not_f h9)]; rfl))) | (first | exact values_bad (not_f h9) | (rw [← values_bad (not_f h9)]; rfl); done) | simp | simp_all),(by decide)⟩) (@cast ((((3 : Nat) = 3) ∧ ((.ints ([] : List Int) : Dat) = .ints (valuesC c)) ∧ ((0 : Nat) ∈ ([0] : List Nat))) ∧ True) _ (by kernel_rfl) ⟨⟨rfl,(congrArg Dat.ints (by first | exact values_bad (not_f h9) | (rw [← values_bad (not_f h9)]; rfl))),(by decide)⟩,tt⟩) (by kernel_rfl)
 ·intro n9
  have hf := up_len (not_g n9)
  refine W.skip (thenQ_normal ?_)
  refine W.seq ?_
  refine Kk cok tab11 hnt [] [3,12,13,14] (⟨[(3,.own 6 (List.length ([] : List Int))),(12,.sl (.marks c.marks)),(13,.i (((List.length c.marks) : Nat) : Int)),(14,.i (0 : Int))],[(1,⟨26,.fix (cC c)⟩),(6,⟨3,.row (.ints ([] : List Int))⟩)],[6,1,999]⟩)
   (True ∧ True ∧ True ∧ True ∧ True)
   ⟨tt,tt,tt,tt,tt⟩ ?_
  refine W.block ?_
  refine W.loop (ι := Nat × (List Int)) (fun (x : Nat × (List Int)) => match x with | (i,lo) => (⟨[(3,.own 6 lo.length),(12,.sl (.marks c.marks)),(13,.i (((List.length c.marks) : Nat) : Int)),(14,.i ((i : Nat) : Int))],[(6,⟨3,.row (.ints lo)⟩)],[6,999]⟩ : St))
   (fun (x : Nat × (List Int)) => match x with | (i,lo) => (i ≤ c.marks.length) ∧ (lo = listUp c.marks i))
   (fun (x : Nat × (List Int)) => match x with | (i,lo) => (c.marks.length - i : Nat)) (0,([] : List Int)) ?_ ?_ ?_
  ·exact (show (0 ≤ c.marks.length) ∧ (([] : List Int) = listUp c.marks 0) from ⟨(by first | assumption | omega | rfl | (intro _ hjj; omega) | (simp; done) | (simp; omega)),(by rfl)⟩)
  ·exact Sub.of [] (@cast (((((6 : Nat) = 6) ∧ ((List.length ([] : List Int)) = (List.length ([] : List Int))) ∧ ((6 : Nat) ∈ ([6,999] : List Nat))) ∧ (Sd (.marks c.marks)) ∧ (Si (((List.length c.marks) : Nat) : Int)) ∧ ((.int .i64 (0 : Int) : Value) = .int .i64 ((0 : Nat) : Int)) ∧ True) ∧ ((((3 : Nat) = 3) ∧ (Sd (.ints ([] : List Int))) ∧ ((6 : Nat) ∈ ([6,999] : List Nat))) ∧ True) ∧ (true = true) ∧ (true = true)) _ (by kernel_rfl) ⟨⟨⟨rfl,rfl,(by decide)⟩,rfl,rfl,(congrArg (Value.int .i64) (by first | rfl | omega | assumption | simp | simp_all)),tt⟩,⟨⟨rfl,rfl,(by decide)⟩,tt⟩,rfl,rfl⟩)
  ·rintro ⟨i,lo⟩ hC0
   have hC : (i ≤ c.marks.length) ∧ (lo = listUp c.marks i) := hC0
   clear hC0
   obtain ⟨hi,hl⟩ := hC
   refine W.to (⟨[(3,.own 6 lo.length),(12,.sl (.marks c.marks)),(13,.i (((List.length c.marks) : Nat) : Int)),(14,.i ((i : Nat) : Int))],[(6,⟨3,.row (.ints lo)⟩)],[6,999]⟩) rfl ?_
   have hll : lo.length ≤ i := by rw [hl]; exact listUp_len _ _
   refine Kk cok tab11 hnt [] [3,12,13,14,15] (⟨[(3,.own 6 lo.length),(12,.sl (.marks c.marks)),(13,.i (((List.length c.marks) : Nat) : Int)),(14,.i ((i : Nat) : Int)),(15,.b (decide (((i : Nat) : Int) < (((List.length c.marks) : Nat) : Int))))],[(6,⟨3,.row (.ints lo)⟩)],[6,999]⟩)
    ((True ∧ True ∧ True) ∧ True)
    ⟨⟨tt,tt,tt⟩,tt⟩ ?_
   refine W.seq ?_
   refine W.ifP (((i : Nat) : Int) < (((List.length c.marks) : Nat) : Int)) (.b (decide (((i : Nat) : Int) < (((List.length c.marks) : Nat) : Int)))) (by kernel_rfl) rfl trivial ?_ ?_
   ·intro h15
    refine W.skip (thenQ_normal ?_)
    refine W.seq ?_
    refine W.block ?_
    refine Kk cok tab11 hnt [] [3,5,12,13,14] (⟨[(3,.own 6 lo.length),(5,.ptr 5 0),(12,.sl (.marks c.marks)),(13,.i (((List.length c.marks) : Nat) : Int)),(14,.i ((i : Nat) : Int))],[(5,⟨33,.fix [.i ((List.getD c.marks i default).value),.i ((List.getD c.marks i default).proc),.i ((List.getD c.marks i default).number),.b ((List.getD c.marks i default).gone)]⟩),(6,⟨3,.row (.ints lo)⟩)],[5,6,999]⟩)
     ((True ∧ True ∧ (0 ≤ ((i : Nat) : Int)) ∧ (((i : Nat) : Int) < (((List.length c.marks) : Nat) : Int))) ∧ True ∧ True ∧ (True ∧ True) ∧ True)
     ⟨⟨tt,tt,(by omega),(by omega)⟩,tt,tt,⟨tt,tt⟩,tt⟩ ?_
    refine Kk cok tab11 hnt [] [3,5,12,13,14,20] ((fun (Z1:Bool)=>(⟨[(3,.own 6 lo.length),(5,.ptr 5 0),(12,.sl (.marks c.marks)),(13,.i (((List.length c.marks) : Nat) : Int)),(14,.i ((i : Nat) : Int)),(20,.b (!Z1))],[(5,⟨33,.fix [.i ((List.getD c.marks i default).value),.i ((List.getD c.marks i default).proc),.i ((List.getD c.marks i default).number),.b Z1]⟩),(6,⟨3,.row (.ints lo)⟩)],[5,6,999]⟩:St)) ((List.getD c.marks i default).gone))
     (True ∧ True ∧ True ∧ True)
     ⟨tt,tt,tt,tt⟩ ?_
    refine W.if' (!((List.getD c.marks i default).gone)) (.b (!((List.getD c.marks i default).gone))) (by kernel_rfl) rfl trivial ?_ ?_
    ·intro h20
     refine Lk cok tab11 hnt [25] ((fun (Z1:Bool)=>(⟨[(3,.own 25 (List.length (lo ++ ([((List.getD c.marks i default).value)])))),(5,.ptr 5 0),(12,.sl (.marks c.marks)),(13,.i (((List.length c.marks) : Nat) : Int)),(14,.i ((i : Nat) : Int)),(20,.b (!Z1)),(21,.own 6 lo.length),(22,.ptr 5 0),(23,.i ((List.getD c.marks i default).value)),(24,.sl (.ints ([((List.getD c.marks i default).value)]))),(25,.own 25 (List.length (lo ++ ([((List.getD c.marks i default).value)]))))],[(5,⟨33,.fix [.i ((List.getD c.marks i default).value),.i ((List.getD c.marks i default).proc),.i ((List.getD c.marks i default).number),.b Z1]⟩),(25,⟨3,.row (.ints (lo ++ ([((List.getD c.marks i default).value)])))⟩)],[25,24,5,6,999]⟩:St)) ((List.getD c.marks i default).gone))
      (True ∧ True ∧ True ∧ (True ∧ True) ∧ ((True ∧ (lo.length = lo.length)) ∧ True ∧ ((lo.length + (List.length ([((List.getD c.marks i default).value)]))) * 8 ≤ 140737488355328)) ∧ True ∧ True)
      ⟨tt,tt,tt,⟨tt,tt⟩,⟨⟨tt,rfl⟩,tt,(by (try simp only [List.length_append,List.length_cons,List.length_nil,List.length_set]); omega)⟩,tt,tt⟩ ?_
     refine blockQ_normal (thenQ_normal ?_)
     refine Lk cok tab11 hnt [] ((fun (Z1:Bool)=>(⟨[(3,.own 25 (List.length (lo ++ ([((List.getD c.marks i default).value)])))),(5,.ptr 5 0),(12,.sl (.marks c.marks)),(13,.i (((List.length c.marks) : Nat) : Int)),(14,.i (((i + 1) : Nat) : Int)),(20,.b (!Z1)),(21,.own 6 lo.length),(22,.ptr 5 0),(23,.i ((List.getD c.marks i default).value)),(24,.sl (.ints ([((List.getD c.marks i default).value)]))),(25,.own 25 (List.length (lo ++ ([((List.getD c.marks i default).value)])))),(26,.i (((i + 1) : Nat) : Int))],[(5,⟨33,.fix [.i ((List.getD c.marks i default).value),.i ((List.getD c.marks i default).proc),.i ((List.getD c.marks i default).number),.b Z1]⟩),(25,⟨3,.row (.ints (lo ++ ([((List.getD c.marks i default).value)])))⟩)],[25,24,5,6,999]⟩:St)) ((List.getD c.marks i default).gone))
      ((True ∧ True ∧ (Fits .i64 (((i + 1) : Nat) : Int))) ∧ True ∧ True)
      ⟨⟨tt,tt,(by exact fits_i64 (by omega) (by omega))⟩,tt,tt⟩ ?_
     refine thenQ_normal ?_
     refine ⟨((i + 1),(lo ++ ([((List.getD c.marks i default).value)]))),(show ((i + 1) ≤ c.marks.length) ∧ ((lo ++ ([((List.getD c.marks i default).value)])) = listUp c.marks (i + 1)) from ⟨(by first | assumption | omega | rfl | (intro _ hjj; omega) | (simp; done) | (simp; omega)),(by first | exact list_yes hl (not_f h20) | exact list_no hl (not_g n20))⟩),(show c.marks.length - (i + 1) < c.marks.length - i from (by first | omega | (simp_all; omega))),?_⟩
     exact Sub.of [(6,25)] (@cast (((((25 : Nat) = 25) ∧ ((List.length (lo ++ ([((List.getD c.marks i default).value)]))) = (List.length (lo ++ ([((List.getD c.marks i default).value)])))) ∧ ((6 : Nat) ∈ ([6,999] : List Nat))) ∧ (Sd (.marks c.marks)) ∧ (Si (((List.length c.marks) : Nat) : Int)) ∧ (Si (((i + 1) : Nat) : Int)) ∧ True) ∧ ((((3 : Nat) = 3) ∧ (Sd (.ints (lo ++ ([((List.getD c.marks i default).value)])))) ∧ ((6 : Nat) ∈ ([6,999] : List Nat))) ∧ True) ∧ (true = true) ∧ (true = true)) _ (by kernel_rfl) ⟨⟨⟨rfl,rfl,(by decide)⟩,rfl,rfl,rfl,tt⟩,⟨⟨rfl,rfl,(by decide)⟩,tt⟩,rfl,rfl⟩)
    ·intro n20
     refine W.skip (blockQ_normal (thenQ_normal ?_))
     refine Lk cok tab11 hnt [] ((fun (Z1:Bool)=>(⟨[(3,.own 6 lo.length),(5,.ptr 5 0),(12,.sl (.marks c.marks)),(13,.i (((List.length c.marks) : Nat) : Int)),(14,.i (((i + 1) : Nat) : Int)),(20,.b (!Z1)),(26,.i (((i + 1) : Nat) : Int))],[(5,⟨33,.fix [.i ((List.getD c.marks i default).value),.i ((List.getD c.marks i default).proc),.i ((List.getD c.marks i default).number),.b Z1]⟩),(6,⟨3,.row (.ints lo)⟩)],[5,6,999]⟩:St)) ((List.getD c.marks i default).gone))
      ((True ∧ True ∧ (Fits .i64 (((i + 1) : Nat) : Int))) ∧ True ∧ True)
      ⟨⟨tt,tt,(by exact fits_i64 (by omega) (by omega))⟩,tt,tt⟩ ?_
     refine thenQ_normal ?_
     refine ⟨((i + 1),lo),(show ((i + 1) ≤ c.marks.length) ∧ (lo = listUp c.marks (i + 1)) from ⟨(by first | assumption | omega | rfl | (intro _ hjj; omega) | (simp; done) | (simp; omega)),(by first | exact list_yes hl (not_f h20) | exact list_no hl (not_g n20))⟩),(show c.marks.length - (i + 1) < c.marks.length - i from (by first | omega | (simp_all; omega))),?_⟩
     exact Sub.of [] (@cast (((((6 : Nat) = 6) ∧ (lo.length = lo.length) ∧ ((6 : Nat) ∈ ([6,999] : List Nat))) ∧ (Sd (.marks c.marks)) ∧ (Si (((List.length c.marks) : Nat) : Int)) ∧ (Si (((i + 1) : Nat) : Int)) ∧ True) ∧ ((((3 : Nat) = 3) ∧ (Sd (.ints lo)) ∧ ((6 : Nat) ∈ ([6,999] : List Nat))) ∧ True) ∧ (true = true) ∧ (true = true)) _ (by kernel_rfl) ⟨⟨⟨rfl,rfl,(by decide)⟩,rfl,rfl,rfl,tt⟩,⟨⟨rfl,rfl,(by decide)⟩,tt⟩,rfl,rfl⟩)
   ·intro n15
    refine W.exit (thenQ_exit (thenQ_exit (blockQ_hit ?_)))
    refine thenQ_normal ?_
    refine W.seq (W.wi ?_)
    refine WI.runT cok tab11 hnt [] 1 1 (⟨[(3,.own 6 lo.length),(12,.sl (.marks c.marks)),(13,.i (((List.length c.marks) : Nat) : Int)),(14,.i ((i : Nat) : Int)),(15,.b (decide (((i : Nat) : Int) < (((List.length c.marks) : Nat) : Int)))),(27,.own 6 lo.length)],[(6,⟨3,.row (.ints lo)⟩)],[6,999]⟩)
     (True ∧ True) (by kernel_rfl) rfl
     ⟨tt,tt⟩ ?_
    refine WI.callH _ [.own 6 lo.length] [] (.fn 36 []) _ _ [(911,6)] (hok36 lo (by omega)) ent36 hnt rfl rfl (wanted_none rfl) (by kernel_rfl) (by kernel_rfl) trivial (by kernel_rfl) (by kernel_rfl) (by kernel_rfl) (@cast (((some ⟨3,.row (.ints lo)⟩ : Option LB) = some ⟨3,.row (.ints lo)⟩) ∧ (true = true) ∧ (True)) _ (by kernel_rfl) ⟨rfl,rfl,tt⟩) (by kernel_rfl) rfl ?_
    rintro r s1 u1 ⟨rfl,rfl,rfl⟩
    refine ⟨[(911,6)],by kernel_rfl,WI.to (⟨[(3,.own 6 lo.length),(12,.sl (.marks c.marks)),(13,.i (((List.length c.marks) : Nat) : Int)),(14,.i ((i : Nat) : Int)),(15,.b (decide (((i : Nat) : Int) < (((List.length c.marks) : Nat) : Int)))),(27,.own 6 lo.length),(28,.tup [])],[(6,⟨3,.row (.ints (sortI lo))⟩)],[6,999]⟩) 2 (by kernel_rfl) rfl ?_⟩
    refine WI.nil rfl (thenQ_normal ?_)
    refine W.keepE [3] [(3,.own 6 lo.length)] (by kernel_rfl) ?_
    refine W.to (⟨[(3,.own 6 lo.length)],[(6,⟨3,.row (.ints (sortI lo))⟩)],[6,999]⟩) rfl ?_
    refine Kk cok tab11 hnt [30] [2] (⟨[(2,.own 30 (List.length (Lib.compact (sortI lo))))],[(30,⟨3,.row (.ints (Lib.compact (sortI lo)))⟩)],[30,6,999]⟩)
     (True ∧ (True ∧ ((True ∧ (lo.length = (List.length (sortI lo)))) ∧ True) ∧ ((sortI lo).length ≤ 1000)) ∧ True ∧ True)
     ⟨tt,⟨tt,⟨⟨tt,(by have h8 : List.length (sortI lo) = lo.length := List.length_mergeSort _; omega)⟩,tt⟩,(by have h8 : List.length (sortI lo) = lo.length := List.length_mergeSort _; omega)⟩,tt,tt⟩ ?_
    refine W.ret ?_
    exact endQ_rows [(0,30)] (.own 30 (List.length (Lib.compact (sortI lo)))) (by kernel_rfl) (@cast (((30 : Nat) = 30) ∧ ((List.length (Lib.compact (sortI lo))) = (List.length (valuesC c))) ∧ ((0 : Nat) ∈ ([0] : List Nat))) _ (by kernel_rfl) ⟨rfl,(by first | rfl | omega | assumption | (symm; assumption) | (exact congrArg List.length (by exact values_ok (not_g n9) hl (by omega))) | (exact values_ok (not_g n9) hl (by omega); done) | simp | simp_all),(by decide)⟩) (@cast ((((3 : Nat) = 3) ∧ ((.ints (Lib.compact (sortI lo)) : Dat) = .ints (valuesC c)) ∧ ((0 : Nat) ∈ ([0] : List Nat))) ∧ True) _ (by kernel_rfl) ⟨⟨rfl,(congrArg Dat.ints (by exact values_ok (not_g n9) hl (by omega))),(by decide)⟩,tt⟩) (by kernel_rfl)
theorem ent11 : Entr prog 11 := ⟨_,func11,rfl,by decide⟩
end Go.Proofs.Try

set_option linter.unusedSimpArgs false
set_option linter.unusedVariables false
namespace Go.Proofs.Try
open Go.Ab Go.RowKit
def fs28 : FnS := fnS [.s .marks,.o,.o] [.marks,.mark,(.fn0 29)] (fun _ (l,mm,(),_) => (.tup [.i ((bsPos l mm : Nat) : Int),.b (bsFound l mm)],[],(sortedM l) ∧ (l.length ≤ 1000)))
abbrev T28 : Tab := lk [(29,fs29)]
theorem tab28 : TabOK prog T28 := (TabOK.cons ok29 ent29 TabOK.nil)
set_option maxRecDepth 100000 in
set_option maxHeartbeats 1000000 in
theorem ok28 : FnOK prog 28 fs28 := by
 refine FnOK.mk cok func28 rfl rfl rfl ?_
 rintro fl ⟨(l : List MarkD),(mm : MarkD),⟨⟩,_⟩ hpre F hnt0 _
 have hnt : F.nt = 49 := hnt0.trans ntmps28
 replace hpre : (sortedM l) ∧ (l.length ≤ 1000) := hpre
 obtain ⟨hs,hl⟩ := hpre
 refine W.to (⟨[(0,.sl (.marks l)),(1,.agg [.i mm.value,.i mm.proc,.i mm.number,.b mm.gone]),(2,.fn 29 [])],[],[999]⟩) rfl ?_
 refine W.lenOf 0 (.marks l) (by kernel_rfl) ?_
 intro hl_l; replace hl_l : List.length l ≤ 9223372036854775807 := hl_l
 refine Kk cok tab28 hnt [] [0,2,4] (⟨[(0,.sl (.marks l)),(2,.fn 29 []),(4,.ptr 4 0)],[(4,⟨33,.fix [.i mm.value,.i mm.proc,.i mm.number,.b mm.gone]⟩)],[4,999]⟩)
  (True ∧ True ∧ True ∧ True)
  ⟨tt,tt,tt,tt⟩ ?_
 refine Kk cok tab28 hnt [] [0,2,4,8] (⟨[(0,.sl (.marks l)),(2,.fn 29 []),(4,.ptr 4 0),(8,.i (l.length : Int))],[(4,⟨33,.fix [.i mm.value,.i mm.proc,.i mm.number,.b mm.gone]⟩)],[4,999]⟩)
  (True ∧ True ∧ True ∧ True)
  ⟨tt,tt,tt,tt⟩ ?_
 refine Kk cok tab28 hnt [] [0,2,4,8,9,10] (⟨[(0,.sl (.marks l)),(2,.fn 29 []),(4,.ptr 4 0),(8,.i (l.length : Int)),(9,.i (0 : Int)),(10,.i (l.length : Int))],[(4,⟨33,.fix [.i mm.value,.i mm.proc,.i mm.number,.b mm.gone]⟩)],[4,999]⟩)
  (True ∧ True ∧ True ∧ True)
  ⟨tt,tt,tt,tt⟩ ?_
 refine W.seq ?_
 refine W.block ?_
 refine W.loop (ι := Int × Int) (fun (x : Int × Int) => match x with | (i,j) => (⟨[(0,.sl (.marks l)),(2,.fn 29 []),(4,.ptr 4 0),(8,.i (l.length : Int)),(9,.i i),(10,.i j)],[(4,⟨33,.fix [.i mm.value,.i mm.proc,.i mm.number,.b mm.gone]⟩)],[4,999]⟩ : St))
  (fun (x : Int × Int) => match x with | (i,j) => (0 ≤ i ∧ i ≤ j ∧ j ≤ (l.length : Int)) ∧ (∀ q : Nat,((q : Nat) : Int) < i → lessM (l.getD q default) mm = true) ∧ (∀ q : Nat,j ≤ ((q : Nat) : Int) → q < l.length → lessM (l.getD q default) mm = false))
  (fun (x : Int × Int) => match x with | (i,j) => ((j - i).toNat : Nat)) ((0 : Int),(l.length : Int)) ?_ ?_ ?_
 ·exact (show (0 ≤ (0 : Int) ∧ (0 : Int) ≤ (l.length : Int) ∧ (l.length : Int) ≤ (l.length : Int)) ∧ (∀ q : Nat,((q : Nat) : Int) < (0 : Int) → lessM (l.getD q default) mm = true) ∧ (∀ q : Nat,(l.length : Int) ≤ ((q : Nat) : Int) → q < l.length → lessM (l.getD q default) mm = false) from ⟨(by first | assumption | omega | rfl | (intro _ hjj; omega) | (simp; done) | (simp; omega)),(by intro q hq; omega),(by intro q hq hl; omega)⟩)
 ·exact Sub.of [] (@cast (((Sd (.marks l)) ∧ (((29 : Nat) = 29) ∧ True) ∧ (((4 : Nat) = 4) ∧ ((0 : Nat) = 0) ∧ ((4 : Nat) ∈ ([4,999] : List Nat))) ∧ (Si (l.length : Int)) ∧ (Si (0 : Int)) ∧ (Si (l.length : Int)) ∧ True) ∧ ((((33 : Nat) = 33) ∧ ((Si mm.value) ∧ (Si mm.proc) ∧ (Si mm.number) ∧ (Sv (.bool mm.gone)) ∧ True) ∧ ((4 : Nat) ∈ ([4,999] : List Nat))) ∧ True) ∧ (true = true) ∧ (true = true)) _ (by kernel_rfl) ⟨⟨rfl,⟨rfl,tt⟩,⟨rfl,rfl,(by decide)⟩,rfl,rfl,rfl,tt⟩,⟨⟨rfl,⟨rfl,rfl,rfl,rfl,tt⟩,(by decide)⟩,tt⟩,rfl,rfl⟩)
 ·rintro ⟨i,j⟩ hC0
  have hC : (0 ≤ i ∧ i ≤ j ∧ j ≤ (l.length : Int)) ∧ (∀ q : Nat,((q : Nat) : Int) < i → lessM (l.getD q default) mm = true) ∧ (∀ q : Nat,j ≤ ((q : Nat) : Int) → q < l.length → lessM (l.getD q default) mm = false) := hC0
  clear hC0
  obtain ⟨hij,hA,hB⟩ := hC
  refine W.to (⟨[(0,.sl (.marks l)),(2,.fn 29 []),(4,.ptr 4 0),(8,.i (l.length : Int)),(9,.i i),(10,.i j)],[(4,⟨33,.fix [.i mm.value,.i mm.proc,.i mm.number,.b mm.gone]⟩)],[4,999]⟩) rfl ?_
  have hmid := shr_half (x := i + j) (by omega) (by omega)
  refine W.seq ?_
  refine Kk cok tab28 hnt [] [0,2,4,8,9,10,17] (⟨[(0,.sl (.marks l)),(2,.fn 29 []),(4,.ptr 4 0),(8,.i (l.length : Int)),(9,.i i),(10,.i j),(17,.b (decide (i < j)))],[(4,⟨33,.fix [.i mm.value,.i mm.proc,.i mm.number,.b mm.gone]⟩)],[4,999]⟩)
   (True ∧ True ∧ (True ∧ True ∧ True) ∧ True)
   ⟨tt,tt,⟨tt,tt,tt⟩,tt⟩ ?_
  refine W.ifP (i < j) (.b (decide (i < j))) (by kernel_rfl) rfl trivial ?_ ?_
  ·intro h17
   refine W.skip (thenQ_normal ?_)
   refine W.block ?_
   refine Kk cok tab28 hnt [] [0,2,4,8,9,10,11] (⟨[(0,.sl (.marks l)),(2,.fn 29 []),(4,.ptr 4 0),(8,.i (l.length : Int)),(9,.i i),(10,.i j),(11,.i (shrI .u64 (i + j) (1 : Int)))],[(4,⟨33,.fix [.i mm.value,.i mm.proc,.i mm.number,.b mm.gone]⟩)],[4,999]⟩)
    (True ∧ True ∧ (True ∧ True ∧ (Fits .i64 (i + j))) ∧ (True ∧ (Fits .u64 (i + j))) ∧ (True ∧ True ∧ (0 ≤ (1 : Int))) ∧ (True ∧ (Fits .i64 (shrI .u64 (i + j) (1 : Int)))) ∧ True ∧ True)
    ⟨tt,tt,⟨tt,tt,(by exact fits_i64 (by omega) (by omega))⟩,⟨tt,(by exact fits_u64 (by omega) (by omega))⟩,⟨tt,tt,(by omega)⟩,⟨tt,(by exact fits_i64 (by omega) (by omega))⟩,tt,tt⟩ ?_
   refine W.KA cok tab28 hnt [] [0,2,4,8,9,10,11,31] (⟨[(0,.sl (.marks l)),(2,.fn 29 []),(4,.ptr 4 0),(8,.i (l.length : Int)),(9,.i i),(10,.i j),(11,.i (shrI .u64 (i + j) (1 : Int))),(31,.b (decide ((cmpM (l.getD (Int.toNat (shrI .u64 (i + j) (1 : Int))) default) mm) < (0 : Int))))],[(4,⟨33,.fix [.i mm.value,.i mm.proc,.i mm.number,.b mm.gone]⟩)],[4,999]⟩)
    (True ∧ True ∧ True ∧ (True ∧ True ∧ (0 ≤ (shrI .u64 (i + j) (1 : Int))) ∧ ((shrI .u64 (i + j) (1 : Int)) < (l.length : Int))) ∧ True ∧ True ∧ (True ∧ (True ∧ True ∧ True) ∧ True) ∧ (True ∧ True ∧ True) ∧ True) (by kernel_rfl) (by kernel_rfl)
    ⟨tt,tt,tt,⟨tt,tt,(by omega),(by omega)⟩,tt,tt,⟨tt,⟨tt,tt,tt⟩,tt⟩,⟨tt,tt,tt⟩,tt⟩ ?_
   refine W.ifP ((cmpM (l.getD (Int.toNat (shrI .u64 (i + j) (1 : Int))) default) mm) < (0 : Int)) (.b (decide ((cmpM (l.getD (Int.toNat (shrI .u64 (i + j) (1 : Int))) default) mm) < (0 : Int)))) (by kernel_rfl) rfl trivial ?_ ?_
   ·intro h31
    refine Lk cok tab28 hnt [] (⟨[(0,.sl (.marks l)),(2,.fn 29 []),(4,.ptr 4 0),(8,.i (l.length : Int)),(9,.i ((shrI .u64 (i + j) (1 : Int)) + (1 : Int))),(10,.i j),(11,.i (shrI .u64 (i + j) (1 : Int))),(31,.b (decide ((cmpM (l.getD (Int.toNat (shrI .u64 (i + j) (1 : Int))) default) mm) < (0 : Int)))),(32,.i (shrI .u64 (i + j) (1 : Int))),(33,.i ((shrI .u64 (i + j) (1 : Int)) + (1 : Int)))],[(4,⟨33,.fix [.i mm.value,.i mm.proc,.i mm.number,.b mm.gone]⟩)],[4,999]⟩)
     (True ∧ (True ∧ True ∧ (Fits .i64 ((shrI .u64 (i + j) (1 : Int)) + (1 : Int)))) ∧ True ∧ True)
     ⟨tt,⟨tt,tt,(by exact fits_i64 (by omega) (by omega))⟩,tt,tt⟩ ?_
    refine blockQ_normal (thenQ_normal ?_)
    refine ⟨(((shrI .u64 (i + j) (1 : Int)) + (1 : Int)),j),(show (0 ≤ ((shrI .u64 (i + j) (1 : Int)) + (1 : Int)) ∧ ((shrI .u64 (i + j) (1 : Int)) + (1 : Int)) ≤ j ∧ j ≤ (l.length : Int)) ∧ (∀ q : Nat,((q : Nat) : Int) < ((shrI .u64 (i + j) (1 : Int)) + (1 : Int)) → lessM (l.getD q default) mm = true) ∧ (∀ q : Nat,j ≤ ((q : Nat) : Int) → q < l.length → lessM (l.getD q default) mm = false) from ⟨(by first | assumption | omega | rfl | (intro _ hjj; omega) | (simp; done) | (simp; omega)),(by first | assumption | exact bs_stepA hs (by omega) (by omega) h31),(by first | assumption | exact bs_stepB hs (by omega) n31)⟩),(show (j - ((shrI .u64 (i + j) (1 : Int)) + (1 : Int))).toNat < (j - i).toNat from (by omega)),?_⟩
    exact Sub.of [] (@cast (((Sd (.marks l)) ∧ (((29 : Nat) = 29) ∧ True) ∧ (((4 : Nat) = 4) ∧ ((0 : Nat) = 0) ∧ ((4 : Nat) ∈ ([4,999] : List Nat))) ∧ (Si (l.length : Int)) ∧ (Si ((shrI .u64 (i + j) (1 : Int)) + (1 : Int))) ∧ (Si j) ∧ True) ∧ ((((33 : Nat) = 33) ∧ ((Si mm.value) ∧ (Si mm.proc) ∧ (Si mm.number) ∧ (Sv (.bool mm.gone)) ∧ True) ∧ ((4 : Nat) ∈ ([4,999] : List Nat))) ∧ True) ∧ (true = true) ∧ (true = true)) _ (by kernel_rfl) ⟨⟨rfl,⟨rfl,tt⟩,⟨rfl,rfl,(by decide)⟩,rfl,rfl,rfl,tt⟩,⟨⟨rfl,⟨rfl,rfl,rfl,rfl,tt⟩,(by decide)⟩,tt⟩,rfl,rfl⟩)
   ·intro n31
    refine Lk cok tab28 hnt [] (⟨[(0,.sl (.marks l)),(2,.fn 29 []),(4,.ptr 4 0),(8,.i (l.length : Int)),(9,.i i),(10,.i (shrI .u64 (i + j) (1 : Int))),(11,.i (shrI .u64 (i + j) (1 : Int))),(31,.b (decide ((cmpM (l.getD (Int.toNat (shrI .u64 (i + j) (1 : Int))) default) mm) < (0 : Int)))),(34,.i (shrI .u64 (i + j) (1 : Int)))],[(4,⟨33,.fix [.i mm.value,.i mm.proc,.i mm.number,.b mm.gone]⟩)],[4,999]⟩)
     (True ∧ True ∧ True)
     ⟨tt,tt,tt⟩ ?_
    refine blockQ_normal (thenQ_normal ?_)
    refine ⟨(i,(shrI .u64 (i + j) (1 : Int))),(show (0 ≤ i ∧ i ≤ (shrI .u64 (i + j) (1 : Int)) ∧ (shrI .u64 (i + j) (1 : Int)) ≤ (l.length : Int)) ∧ (∀ q : Nat,((q : Nat) : Int) < i → lessM (l.getD q default) mm = true) ∧ (∀ q : Nat,(shrI .u64 (i + j) (1 : Int)) ≤ ((q : Nat) : Int) → q < l.length → lessM (l.getD q default) mm = false) from ⟨(by first | assumption | omega | rfl | (intro _ hjj; omega) | (simp; done) | (simp; omega)),(by first | assumption | exact bs_stepA hs (by omega) (by omega) h31),(by first | assumption | exact bs_stepB hs (by omega) n31)⟩),(show ((shrI .u64 (i + j) (1 : Int)) - i).toNat < (j - i).toNat from (by omega)),?_⟩
    exact Sub.of [] (@cast (((Sd (.marks l)) ∧ (((29 : Nat) = 29) ∧ True) ∧ (((4 : Nat) = 4) ∧ ((0 : Nat) = 0) ∧ ((4 : Nat) ∈ ([4,999] : List Nat))) ∧ (Si (l.length : Int)) ∧ (Si i) ∧ (Si (shrI .u64 (i + j) (1 : Int))) ∧ True) ∧ ((((33 : Nat) = 33) ∧ ((Si mm.value) ∧ (Si mm.proc) ∧ (Si mm.number) ∧ (Sv (.bool mm.gone)) ∧ True) ∧ ((4 : Nat) ∈ ([4,999] : List Nat))) ∧ True) ∧ (true = true) ∧ (true = true)) _ (by kernel_rfl) ⟨⟨rfl,⟨rfl,tt⟩,⟨rfl,rfl,(by decide)⟩,rfl,rfl,rfl,tt⟩,⟨⟨rfl,⟨rfl,rfl,rfl,rfl,tt⟩,(by decide)⟩,tt⟩,rfl,rfl⟩)
  ·intro n17
   refine W.exit (thenQ_exit (thenQ_exit (blockQ_hit ?_)))
   refine thenQ_normal ?_
   refine W.KA cok tab28 hnt [] [6,7] (⟨[(6,.i i),(7,.b ((decide (i < (l.length : Int))) && (decide ((cmpM (l.getD (Int.toNat i) default) mm) = (0 : Int)))))],[(4,⟨33,.fix [.i mm.value,.i mm.proc,.i mm.number,.b mm.gone]⟩)],[4,999]⟩)
    ((fun (Z1:Bool)=>(True ∧ (True ∧ (True ∧ ((True ∧ (True ∧ True)) ∧ (True ∧ ((Z1 = true → True) ∧ ((Z1 = true → True) ∧ ((Z1 = true → True) ∧ ((Z1 = true → (((Z1 = true) ∧ True) ∧ (((Z1 = true) ∧ True) ∧ ((0 ≤ i) ∧ (i < (l.length : Int)))))) ∧ ((Z1 = true → ((Z1 = true) ∧ True)) ∧ ((Z1 = true → True) ∧ ((Z1 = true → (((Z1 = true) ∧ True) ∧ ((((Z1 = true) ∧ True) ∧ (((Z1 = true) ∧ True) ∧ True)) ∧ True))) ∧ ((Z1 = true → (((Z1 = true) ∧ True) ∧ (True ∧ True))) ∧ ((True ∧ ((Z1 = true → (Z1 = true) ∧ True) ∧ (Z1 = false → True))) ∧ (True ∧ (True ∧ True))))))))))))))))) (decide (i < (l.length : Int)))) (by kernel_rfl) (by kernel_rfl)
    ⟨tt,tt,tt,⟨tt,tt,tt⟩,tt,(fun _ => trivial),(fun _ => trivial),(fun _ => trivial),(fun hG => ⟨⟨hG,tt⟩,⟨hG,tt⟩,(by have hg0 : i < (l.length : Int) := of_decide_eq_true hG; omega),(by have hg0 : i < (l.length : Int) := of_decide_eq_true hG; omega)⟩),(fun hG => ⟨hG,tt⟩),(fun _ => trivial),(fun hG => ⟨⟨hG,tt⟩,⟨⟨hG,tt⟩,⟨hG,tt⟩,tt⟩,tt⟩),(fun hG => ⟨⟨hG,tt⟩,tt,tt⟩),⟨tt,(fun hp => ⟨hp,tt⟩),(fun _ => trivial)⟩,tt,tt,tt⟩ ?_
   refine W.ret ?_
   exact endQ_ret (.tup [.i i,.b ((decide (i < (l.length : Int))) && (decide ((cmpM (l.getD (Int.toNat i) default) mm) = (0 : Int))))]) (by kernel_rfl) (@cast (((.int .i64 i : Value) = .int .i64 ((bsPos l mm : Nat) : Int)) ∧ ((.bool ((decide (i < (l.length : Int))) && (decide ((cmpM (l.getD (Int.toNat i) default) mm) = (0 : Int)))) : Value) = .bool (bsFound l mm)) ∧ True) _ (by kernel_rfl) ⟨(congrArg (Value.int .i64) (by first | exact (bs_end hij.1 (by omega) (by omega) hA hB).1 | exact (bs_end hij.1 (by omega) (by omega) hA hB).2)),(congrArg Value.bool (by first | exact (bs_end hij.1 (by omega) (by omega) hA hB).1 | exact (bs_end hij.1 (by omega) (by omega) hA hB).2)),tt⟩)
theorem ent28 : Entr prog 28 := ⟨_,func28,rfl,of_decide_eq_true (by kernel_rfl)⟩
end Go.Proofs.Try

set_option linter.unusedSimpArgs false
set_option linter.unusedVariables false
namespace Go.Proofs.Try
open Go.Ab Go.RowKit
abbrev T27 : Tab := lk [(50,fs50),(51,fs51)]
theorem tab27 : TabOK prog T27 := (TabOK.cons ok50 ent50 (TabOK.cons ok51 ent51 TabOK.nil))
theorem ent27 : Entr prog 27 := ⟨_,func27,rfl,by decide⟩
set_option maxRecDepth 100000 in
set_option maxHeartbeats 1000000 in
theorem hok27 : ∀ (cu : List Int) (cd : List Int) (cv : Int) (ct : Int) (cp : Int) (cm : List MarkD) (value : Int) (time : Int) (pp : Int),(True) → HOK prog 27 [910,911,912,913] [.ptr 910 0,.i value,.i time,.i pp] [(910,⟨26,.fix [.own 911 cu.length,.own 912 cd.length,.i cv,.i ct,.i cp,.own 913 cm.length]⟩),(911,⟨3,.row (.ints cu)⟩),(912,⟨3,.row (.ints cd)⟩),(913,⟨33,.row (.marks cm)⟩)] [910,911,912,913] (fun r s1 u1 => r = (.tup []) ∧ s1 = ([(910,⟨26,.fix [.own 911 cu.length,.own 912 cd.length,.i (bif newerC (⟨cu,cd,value,time,pp,cm⟩ : CopyD) (⟨cu,cd,cv,ct,cp,cm⟩ : CopyD) then value else cv),.i (bif newerC (⟨cu,cd,value,time,pp,cm⟩ : CopyD) (⟨cu,cd,cv,ct,cp,cm⟩ : CopyD) then time else ct),.i (bif newerC (⟨cu,cd,value,time,pp,cm⟩ : CopyD) (⟨cu,cd,cv,ct,cp,cm⟩ : CopyD) then pp else cp),.own 913 cm.length]⟩),(911,⟨3,.row (.ints cu)⟩),(912,⟨3,.row (.ints cd)⟩),(913,⟨33,.row (.marks cm)⟩)]) ∧ u1 = ([910,911,912,913])) := by
 intro cu cd cv ct cp cm value time pp hpre
 refine HOK.of cok func27 rfl rfl rfl ?_
 intro F hnt0
 have hnt : F.nt = 41 := hnt0.trans ntmps27
 refine W.to (⟨[(0,.ptr 910 0),(1,.i value),(2,.i time),(3,.i pp)],[(910,⟨26,.fix [.own 911 cu.length,.own 912 cd.length,.i cv,.i ct,.i cp,.own 913 cm.length]⟩),(911,⟨3,.row (.ints cu)⟩),(912,⟨3,.row (.ints cd)⟩),(913,⟨33,.row (.marks cm)⟩)],[910,911,912,913]⟩) rfl ?_
 refine W.KA cok tab27 hnt [] [0,1,2,3,28] (⟨[(0,.ptr 910 0),(1,.i value),(2,.i time),(3,.i pp),(28,.b (decide ((0 : Int) < (orI ([(cmpI time ct),(cmpI pp cp),(cmpI value cv)])))))],[(910,⟨26,.fix [.own 911 cu.length,.own 912 cd.length,.i cv,.i ct,.i cp,.own 913 cm.length]⟩),(911,⟨3,.row (.ints cu)⟩),(912,⟨3,.row (.ints cd)⟩),(913,⟨33,.row (.marks cm)⟩)],[26,910,911,912,913]⟩)
  (True ∧ True ∧ True ∧ True ∧ True ∧ (True ∧ (True ∧ True ∧ True) ∧ True) ∧ True ∧ True ∧ True ∧ True ∧ True ∧ (True ∧ (True ∧ True ∧ True) ∧ True) ∧ True ∧ True ∧ True ∧ True ∧ True ∧ (True ∧ (True ∧ True ∧ True) ∧ True) ∧ (True ∧ True ∧ True ∧ True) ∧ (True ∧ (True ∧ True) ∧ True) ∧ (True ∧ True ∧ True) ∧ True) (by kernel_rfl) (by kernel_rfl)
  ⟨tt,tt,tt,tt,tt,⟨tt,⟨tt,tt,tt⟩,tt⟩,tt,tt,tt,tt,tt,⟨tt,⟨tt,tt,tt⟩,tt⟩,tt,tt,tt,tt,tt,⟨tt,⟨tt,tt,tt⟩,tt⟩,⟨tt,tt,tt,tt⟩,⟨tt,⟨tt,tt⟩,tt⟩,⟨tt,tt,tt⟩,tt⟩ ?_
 refine W.ifP ((0 : Int) < (orI ([(cmpI time ct),(cmpI pp cp),(cmpI value cv)]))) (.b (decide ((0 : Int) < (orI ([(cmpI time ct),(cmpI pp cp),(cmpI value cv)]))))) (by kernel_rfl) rfl trivial ?_ ?_
 ·intro h28
  refine Lk cok tab27 hnt [] (⟨[(0,.ptr 910 0),(1,.i value),(2,.i time),(3,.i pp),(28,.b (decide ((0 : Int) < (orI ([(cmpI time ct),(cmpI pp cp),(cmpI value cv)]))))),(29,.ptr 910 0),(30,.ptr 910 0),(31,.ptr 910 0),(32,.i value),(33,.i time),(34,.i pp),(35,.ptr 910 0),(36,.ptr 910 2),(37,.ptr 910 0),(38,.ptr 910 3),(39,.ptr 910 0),(40,.ptr 910 4)],[(910,⟨26,.fix [.own 911 cu.length,.own 912 cd.length,.i value,.i time,.i pp,.own 913 cm.length]⟩),(911,⟨3,.row (.ints cu)⟩),(912,⟨3,.row (.ints cd)⟩),(913,⟨33,.row (.marks cm)⟩)],[26,910,911,912,913]⟩)
   (True ∧ True ∧ True ∧ True ∧ True ∧ True ∧ True ∧ True ∧ (True ∧ True) ∧ True ∧ True ∧ (True ∧ True) ∧ True ∧ True ∧ (True ∧ True) ∧ True)
   ⟨tt,tt,tt,tt,tt,tt,tt,tt,⟨tt,tt⟩,tt,tt,⟨tt,tt⟩,tt,tt,⟨tt,tt⟩,tt⟩ ?_
  exact endH_norm (.tup []) [(910,⟨26,.fix [.own 911 cu.length,.own 912 cd.length,.i (bif newerC (⟨cu,cd,value,time,pp,cm⟩ : CopyD) (⟨cu,cd,cv,ct,cp,cm⟩ : CopyD) then value else cv),.i (bif newerC (⟨cu,cd,value,time,pp,cm⟩ : CopyD) (⟨cu,cd,cv,ct,cp,cm⟩ : CopyD) then time else ct),.i (bif newerC (⟨cu,cd,value,time,pp,cm⟩ : CopyD) (⟨cu,cd,cv,ct,cp,cm⟩ : CopyD) then pp else cp),.own 913 cm.length]⟩),(911,⟨3,.row (.ints cu)⟩),(912,⟨3,.row (.ints cd)⟩),(913,⟨33,.row (.marks cm)⟩)] [910,911,912,913] ⟨rfl,rfl,rfl⟩ [(910,910),(911,911),(912,912),(913,913)] (.tup []) (by kernel_rfl) (@cast (True ∧ ((((26 : Nat) = 26) ∧ ((((911 : Nat) = 911) ∧ (cu.length = cu.length) ∧ ((911 : Nat) ∈ ([910,911,912,913] : List Nat))) ∧ (((912 : Nat) = 912) ∧ (cd.length = cd.length) ∧ ((912 : Nat) ∈ ([910,911,912,913] : List Nat))) ∧ ((.int .i64 value : Value) = .int .i64 (bif newerC (⟨cu,cd,value,time,pp,cm⟩ : CopyD) (⟨cu,cd,cv,ct,cp,cm⟩ : CopyD) then value else cv)) ∧ ((.int .i64 time : Value) = .int .i64 (bif newerC (⟨cu,cd,value,time,pp,cm⟩ : CopyD) (⟨cu,cd,cv,ct,cp,cm⟩ : CopyD) then time else ct)) ∧ ((.int .i64 pp : Value) = .int .i64 (bif newerC (⟨cu,cd,value,time,pp,cm⟩ : CopyD) (⟨cu,cd,cv,ct,cp,cm⟩ : CopyD) then pp else cp)) ∧ (((913 : Nat) = 913) ∧ (cm.length = cm.length) ∧ ((913 : Nat) ∈ ([910,911,912,913] : List Nat))) ∧ True) ∧ ((910 : Nat) ∈ ([910,911,912,913] : List Nat))) ∧ (((3 : Nat) = 3) ∧ (Sd (.ints cu)) ∧ ((911 : Nat) ∈ ([910,911,912,913] : List Nat))) ∧ (((3 : Nat) = 3) ∧ (Sd (.ints cd)) ∧ ((912 : Nat) ∈ ([910,911,912,913] : List Nat))) ∧ (((33 : Nat) = 33) ∧ (Sd (.marks cm)) ∧ ((913 : Nat) ∈ ([910,911,912,913] : List Nat))) ∧ True) ∧ (true = true) ∧ (true = true)) _ (by kernel_rfl) ⟨tt,⟨⟨rfl,⟨⟨rfl,rfl,(by decide)⟩,⟨rfl,rfl,(by decide)⟩,(congrArg (Value.int .i64) (by first | rfl | omega | assumption | (first | rfl | (have h9 := nw_yes (u := cu) (d := cd) (m := cm) h28; simp only [h9,cond_true]); done) | simp | simp_all)),(congrArg (Value.int .i64) (by first | rfl | omega | assumption | (first | rfl | (have h9 := nw_yes (u := cu) (d := cd) (m := cm) h28; simp only [h9,cond_true]); done) | simp | simp_all)),(congrArg (Value.int .i64) (by first | rfl | omega | assumption | (first | rfl | (have h9 := nw_yes (u := cu) (d := cd) (m := cm) h28; simp only [h9,cond_true]); done) | simp | simp_all)),⟨rfl,rfl,(by decide)⟩,tt⟩,(by decide)⟩,⟨rfl,rfl,(by decide)⟩,⟨rfl,rfl,(by decide)⟩,⟨rfl,rfl,(by decide)⟩,tt⟩,rfl,rfl⟩)
 ·intro n28
  refine W.skip ?_
  exact endH_norm (.tup []) [(910,⟨26,.fix [.own 911 cu.length,.own 912 cd.length,.i (bif newerC (⟨cu,cd,value,time,pp,cm⟩ : CopyD) (⟨cu,cd,cv,ct,cp,cm⟩ : CopyD) then value else cv),.i (bif newerC (⟨cu,cd,value,time,pp,cm⟩ : CopyD) (⟨cu,cd,cv,ct,cp,cm⟩ : CopyD) then time else ct),.i (bif newerC (⟨cu,cd,value,time,pp,cm⟩ : CopyD) (⟨cu,cd,cv,ct,cp,cm⟩ : CopyD) then pp else cp),.own 913 cm.length]⟩),(911,⟨3,.row (.ints cu)⟩),(912,⟨3,.row (.ints cd)⟩),(913,⟨33,.row (.marks cm)⟩)] [910,911,912,913] ⟨rfl,rfl,rfl⟩ [(910,910),(911,911),(912,912),(913,913)] (.tup []) (by kernel_rfl) (@cast (True ∧ ((((26 : Nat) = 26) ∧ ((((911 : Nat) = 911) ∧ (cu.length = cu.length) ∧ ((911 : Nat) ∈ ([910,911,912,913] : List Nat))) ∧ (((912 : Nat) = 912) ∧ (cd.length = cd.length) ∧ ((912 : Nat) ∈ ([910,911,912,913] : List Nat))) ∧ ((.int .i64 cv : Value) = .int .i64 (bif newerC (⟨cu,cd,value,time,pp,cm⟩ : CopyD) (⟨cu,cd,cv,ct,cp,cm⟩ : CopyD) then value else cv)) ∧ ((.int .i64 ct : Value) = .int .i64 (bif newerC (⟨cu,cd,value,time,pp,cm⟩ : CopyD) (⟨cu,cd,cv,ct,cp,cm⟩ : CopyD) then time else ct)) ∧ ((.int .i64 cp : Value) = .int .i64 (bif newerC (⟨cu,cd,value,time,pp,cm⟩ : CopyD) (⟨cu,cd,cv,ct,cp,cm⟩ : CopyD) then pp else cp)) ∧ (((913 : Nat) = 913) ∧ (cm.length = cm.length) ∧ ((913 : Nat) ∈ ([910,911,912,913] : List Nat))) ∧ True) ∧ ((910 : Nat) ∈ ([910,911,912,913] : List Nat))) ∧ (((3 : Nat) = 3) ∧ (Sd (.ints cu)) ∧ ((911 : Nat) ∈ ([910,911,912,913] : List Nat))) ∧ (((3 : Nat) = 3) ∧ (Sd (.ints cd)) ∧ ((912 : Nat) ∈ ([910,911,912,913] : List Nat))) ∧ (((33 : Nat) = 33) ∧ (Sd (.marks cm)) ∧ ((913 : Nat) ∈ ([910,911,912,913] : List Nat))) ∧ True) ∧ (true = true) ∧ (true = true)) _ (by kernel_rfl) ⟨tt,⟨⟨rfl,⟨⟨rfl,rfl,(by decide)⟩,⟨rfl,rfl,(by decide)⟩,(congrArg (Value.int .i64) (by first | rfl | omega | assumption | (first | rfl | (have h9 := nw_no (u := cu) (d := cd) (m := cm) n28; simp only [h9,cond_false]); done) | simp | simp_all)),(congrArg (Value.int .i64) (by first | rfl | omega | assumption | (first | rfl | (have h9 := nw_no (u := cu) (d := cd) (m := cm) n28; simp only [h9,cond_false]); done) | simp | simp_all)),(congrArg (Value.int .i64) (by first | rfl | omega | assumption | (first | rfl | (have h9 := nw_no (u := cu) (d := cd) (m := cm) n28; simp only [h9,cond_false]); done) | simp | simp_all)),⟨rfl,rfl,(by decide)⟩,tt⟩,(by decide)⟩,⟨rfl,rfl,(by decide)⟩,⟨rfl,rfl,(by decide)⟩,⟨rfl,rfl,(by decide)⟩,tt⟩,rfl,rfl⟩)
end Go.Proofs.Try

set_option linter.unusedSimpArgs false
set_option linter.unusedVariables false
namespace Go.Proofs.Try
open Go.Ab Go.RowKit Go.Shelf Go.Proofs Go.Lib
set_option maxHeartbeats 4000000 in
set_option maxRecDepth 100000 in
theorem ins_room (g gv i n : Nat) (l : List MarkD) (m : MarkD) (w : World) (c cv : Nat) (cur curv : Array Value) (R Rv : List Value) (hn : l.length = n) (hi : i < n) (hroom : n + 1 ≤ c) (hc63 : c ≤ maxLen) (hl : n ≤ 1000) (hvb : gv ≠ g)
  (hg : w.heap[g]? = some (.cells cur 33 (0,0))) (hsz : cur.size = c * 4) (hR : cur.toList = flatV l ++ R) (hgv : w.heap[gv]? = some (.cells curv 33 (0,0))) (hRv : curv.toList = flatV [m] ++ Rv) :
  Calls prog 30 #[.slice (some ⟨g,0,none⟩) n c,.int .i64 i,.slice (some ⟨gv,0,none⟩) 1 cv] w (InsR w 33 (some g) (flatV (insM l i m)) n) := by
 have hm63 : maxLen = 9223372036854775807 := by decide
 have hc64 : c ≤ 9223372036854775807 := by omega
 have hz1 : ¬ ((1 : Int) = 0) := by omega
 have hz2 : ¬ ((i : Int) = (n : Int)) := by omega
 have hin : i ≤ n := by omega
 have hw1 : IntKind.i64.wrap ((i : Int) + (1 : Int)) = (i : Int) + (1 : Int) := by rw [IntKind.wrap_i64]; omega
 have hov : ∀ lb cb,(callFunc 52 #[.slice (some ⟨gv,0,none⟩) 1 cv,.slice (some ⟨g,(i + 1) * 4,none⟩) lb cb]).run prog w = .ok (.value (.bool false)) w := fun lb cb => by
  rw [run_callFunc_extern func52 (by kernel_rfl) (by kernel_rfl) (by kernel_rfl) (e := Extern.SlicesOverlaps.overlaps #[24,24] #[4]) (by kernel_rfl),
   Lib.run_overlaps_apart w 24 4 33 underlying24 4 sizeOf33 ⟨gv,0,none⟩ ⟨g,(i + 1) * 4,none⟩ 1 cv lb cb hvb 33 33 curv.size cur.size (by unfold World.shape?; simp [hgv]) (by unfold World.shape?; simp [hg]) (by rw [hsz]; omega) (by unfold World.frozen?; simp [hgv]) (by unfold World.frozen?; simp [hgv])]
  rfl
 have hRl : 4 ≤ R.length := by
  have := congrArg List.length hR
  rw [List.length_append,flatV_len,Array.length_toList,hsz] at this
  omega
 have hX1 : (flatV (l.take i)).length = i * 4 := by rw [flatV_len,List.length_take]; congr 1; omega
 have hX2 : (flatV (l.drop i)).length = (n - i) * 4 := by rw [flatV_len,List.length_drop,hn]
 have hcur : cur.toList = (flatV (l.take i) ++ flatV (l.drop i)) ++ R := by rw [hR,← flat_split]
 obtain ⟨Y,R',hc1,hY,hR'⟩ := ins_cells1 hX1 hX2 hi hRl hcur
 obtain ⟨cur1,hcur1⟩ : ∃ cur1 : Array Value,cur1 = (cur.toList.take ((i + 1) * 4) ++ flatV (l.drop i) ++ cur.toList.drop ((i + 1) * 4 + (flatV (l.drop i)).length)).toArray := ⟨_,rfl⟩
 have hcur1' : cur1.toList = flatV (l.take i) ++ Y ++ (flatV (l.drop i) ++ R') := by rw [hcur1,← hc1]
 obtain ⟨W1,hW1⟩ : ∃ W1,W1 = w.drew.setRow g cur1 := ⟨_,rfl⟩
 have hcell : ∀ (j : Nat) (v : Value),(flatV (l.drop i))[j]? = some v → w.drew.cell? ((⟨g,i * 4,none⟩ : Addr).add j) = some v := fun j v hj => by
  rw [Addr.add_lit]
  unfold World.cell?
  simp only [World.drew,hg]
  rw [if_neg (by simp),← Array.getElem?_toList,hcur,List.append_assoc,List.getElem?_append_right (by omega),hX1,show i * 4 + j - i * 4 = j by omega,List.getElem?_append_left (List.getElem?_eq_some_iff.1 hj).1]
  exact hj
 have hcp1 : ∀ ty dc sc dl sl,Nat.min sl dl = n - i → (Builtin.copy_ #[24,24] ty #[.slice (some ⟨g,(i + 1) * 4,none⟩) dl dc,.slice (some ⟨g,i * 4,none⟩) sl sc]).run prog w.drew = .ok (goInt (Nat.min sl dl)) W1 := fun ty dc sc dl sl hmin => by
  rw [hW1,hcur1]
  exact run_copy_at w.drew 24 24 ty 33 _ g ((i + 1) * 4) dl dc ⟨g,i * 4,none⟩ sl sc cur 33 (flatV (l.drop i)) underlying24 rfl hg (by rw [hmin,hX2]; rfl) hcell (by have := congrArg List.length hcur; simp only [List.length_append,Array.length_toList] at this; omega) flatV_one
 have h1g : W1.heap[g]? = some (.cells cur1 33 (0,0)) := by rw [hW1]; exact row_g (w := w.drew) hg
 have h1v : W1.heap[gv]? = some (.cells curv 33 (0,0)) := by rw [hW1,row_b hvb]; exact hgv
 have hV4 : (flatV [m]).length = 4 := by rw [flatV_len]; rfl
 have hcellv : ∀ (j : Nat) (v : Value),(flatV [m])[j]? = some v → W1.cell? ((⟨gv,0,none⟩ : Addr).add j) = some v := fun j v hj => by
  rw [Addr.add_lit]
  unfold World.cell?
  simp only [h1v]
  rw [if_neg (by simp),← Array.getElem?_toList,hRv,Nat.zero_add,List.getElem?_append_left (List.getElem?_eq_some_iff.1 hj).1]
  exact hj
 obtain ⟨cur2,hcur2⟩ : ∃ cur2 : Array Value,cur2 = (cur1.toList.take (i * 4) ++ flatV [m] ++ cur1.toList.drop (i * 4 + (flatV [m]).length)).toArray := ⟨_,rfl⟩
 have hcur2' : cur2.toList = flatV (insM l i m) ++ R' := by
  rw [hcur2,ins_cells2 hX1 hY hV4 hcur1']
  show flatV (l.take i) ++ flatV [m] ++ (flatV (l.drop i) ++ R') = _
  rw [← List.append_assoc,flat_ins]; rfl
 have hs1 : cur1.size = c * 4 := by
  have := congrArg List.length hcur1'
  simp only [List.length_append,Array.length_toList] at this
  rw [this,← hsz]
  have h9 := hR'
  simp only [Array.length_toList] at h9
  omega
 have hs2 : cur2.size = c * 4 := by
  have := congrArg List.length hcur2'
  rw [Array.length_toList,List.length_append,flatV_len,insM_len (by omega)] at this
  have h9 := hR'
  simp only [Array.length_toList] at h9
  omega
 have hcp2 : ∀ ty dc dl,Nat.min 1 dl = 1 → (Builtin.copy_ #[24,24] ty #[.slice (some ⟨g,i * 4,none⟩) dl dc,.slice (some ⟨gv,0,none⟩) 1 cv]).run prog W1 = .ok (goInt (Nat.min 1 dl)) (W1.setRow g cur2) := fun ty dc dl hmin => by
  rw [hcur2]
  exact run_copy_at W1 24 24 ty 33 _ g (i * 4) dl dc ⟨gv,0,none⟩ 1 cv cur1 33 (flatV [m]) underlying24 rfl h1g (by rw [hmin,hV4]; rfl) hcellv (by rw [hV4,hs1]; omega) flatV_one
 have hfin : InsR w 33 (some g) (flatV (insM l i m)) n (.returned (.slice (some ⟨g,0,none⟩) (n + 1) c)) (W1.setRow g cur2) := by
  refine ⟨g,c,cur2,rfl,row_g h1g,⟨R',hcur2'⟩,hroom,hc63,hs2,by rw [hW1]; rfl,by rw [hW1]; rfl,by rw [hW1]; rfl,by rw [row_size,hW1,row_size]; exact Nat.le_refl _,fun b hb hne => ?_,.inl rfl⟩
  have hbg : b ≠ g := fun e => hne (by rw [e])
  rw [row_b hbg,hW1,row_b hbg]; rfl
 have hm1 : Nat.min (n + 1 - i) (n - i) = n - i := by simp only [Nat.min_def]; split <;> omega
 have hm2 : Nat.min 1 (n + 1 - i) = 1 := by simp only [Nat.min_def]; split <;> omega
 have hb1 : (0 : Int) ≤ (i : Int) + (1 : Int) := by omega
 have htn : ((i : Int) + (1 : Int)).toNat = i + 1 := by omega
 have hb2 : ¬ (c = i + 1) := by omega
 have hb3 : (i : Int) ≤ (n : Int) + (1 : Int) := by omega
 have hb4 : ¬ (c = i) := by omega
 clear hcur1 hcur2 hW1 hcellv hcell hc1 hR'
 go_enter func30,ntmps30
 go_wp2_with (simp only [hov])
 go_region_law (refine step_copy_runI rfl _ _ 24 24 rfl _ _ (by simp [Act.eval,Act.put]) (by simp [Act.eval,Act.put]) (hcp1 _ _ _ _ _ hm1) ?_)
 go_wp2_with (at_builtin; refine wpList_copy_runI _ rfl _ _ 24 24 rfl _ _ rfl rfl (hcp2 _ _ _ hm2) ?_)
 go_ret
 exact hfin
set_option maxHeartbeats 4000000 in
set_option maxRecDepth 100000 in
theorem ins_end (g gv n : Nat) (l : List MarkD) (m : MarkD) (w : World) (c cv : Nat) (cur curv : Array Value) (R Rv : List Value) (hn : l.length = n) (hroom : n + 1 ≤ c) (hc63 : c ≤ maxLen) (hl : n ≤ 1000) (hvb : gv ≠ g)
  (hg : w.heap[g]? = some (.cells cur 33 (0,0))) (hsz : cur.size = c * 4) (hR : cur.toList = flatV l ++ R) (hgv : w.heap[gv]? = some (.cells curv 33 (0,0))) (hRv : curv.toList = flatV [m] ++ Rv) :
  Calls prog 30 #[.slice (some ⟨g,0,none⟩) n c,.int .i64 n,.slice (some ⟨gv,0,none⟩) 1 cv] w (InsR w 33 (some g) (flatV (insM l n m)) n) := by
 have hm63 : maxLen = 9223372036854775807 := by decide
 have hc64 : c ≤ 9223372036854775807 := by omega
 have hz1 : ¬ ((1 : Int) = 0) := by omega
 have hX : (flatV l).length = n * 4 := by rw [flatV_len,hn]
 have hV4 : (flatV [m]).length = 4 := by rw [flatV_len]; rfl
 have hRl : 4 ≤ R.length := by
  have := congrArg List.length hR
  rw [List.length_append,hX,Array.length_toList,hsz] at this
  omega
 have hcellv : ∀ (j : Nat) (v : Value),(flatV [m])[j]? = some v → w.cell? ((⟨gv,0,none⟩ : Addr).add j) = some v := fun j v hj => by
  rw [Addr.add_lit]
  unfold World.cell?
  simp only [hgv]
  rw [if_neg (by simp),← Array.getElem?_toList,hRv,Nat.zero_add,List.getElem?_append_left (List.getElem?_eq_some_iff.1 hj).1]
  exact hj
 have hsrc : Src prog 4 24 (.slice (some ⟨gv,0,none⟩) 1 cv) 1 (flatV [m]) w := Src.ofSlice w underlying24 ⟨gv,0,none⟩ 1 cv (flatV [m]) hV4 hcellv flatV_one
 obtain ⟨cur2,hcur2⟩ : ∃ cur2 : Array Value,cur2 = (cur.toList.take (n * 4) ++ flatV [m] ++ cur.toList.drop (n * 4 + (flatV [m]).length)).toArray := ⟨_,rfl⟩
 have hcur2' : cur2.toList = flatV (insM l n m) ++ R.drop 4 := by
  rw [hcur2]
  show cur.toList.take (n * 4) ++ flatV [m] ++ cur.toList.drop (n * 4 + (flatV [m]).length) = _
  have e1 : cur.toList.take (n * 4) = flatV l := by rw [hR,← hX]; simp
  have e2 : cur.toList.drop (n * 4 + (flatV [m]).length) = R.drop 4 := by rw [hR,hV4,← hX,List.drop_length_add_append]
  rw [e1,e2]
  unfold insM
  rw [show l.take n = l from List.take_of_length_le (by omega),show l.drop n = [] from List.drop_eq_nil_of_le (by omega),flatV_app]
 have hs2 : cur2.size = c * 4 := by
  have h1 := congrArg List.length hcur2'
  have h2 := congrArg List.length hR
  rw [Array.length_toList,List.length_append,flatV_len,insM_len (by omega),List.length_drop] at h1
  rw [Array.length_toList,List.length_append,hX] at h2
  omega
 have hrun : ∀ ty,(Builtin.append_ #[24,24] ty #[.slice (some ⟨g,0,none⟩) n c,.slice (some ⟨gv,0,none⟩) 1 cv]).run prog w = .ok (.slice (some ⟨g,0,none⟩) (n + 1) c) (w.setRow g cur2) := fun ty => by
  rw [hcur2]
  exact run_append_row w 24 24 ty 33 _ underlying24 rfl g n c _ 1 (flatV [m]) hsrc hroom cur 33 hg (by rw [hV4,hsz]; show n * 4 + 4 ≤ c * 4; omega)
 have hfin : InsR w 33 (some g) (flatV (insM l n m)) n (.returned (.slice (some ⟨g,0,none⟩) (n + 1) c)) (w.setRow g cur2) := by
  refine ⟨g,c,cur2,rfl,row_g hg,⟨_,hcur2'⟩,hroom,hc63,hs2,rfl,rfl,rfl,by rw [row_size]; exact Nat.le_refl _,fun b hb hne => row_b (fun e => hne (by rw [e])),.inl rfl⟩
 clear hcur2 hsrc hcellv
 go_enter func30,ntmps30
 go_wp2_with (at_builtin; refine Lib.wpList_append_run _ rfl _ _ _ _ rfl _ _ rfl rfl _ _ (hrun _) ?_)
 go_ret
 exact hfin
set_option maxHeartbeats 4000000 in
set_option maxRecDepth 100000 in
theorem ins_end_grow (base : Option Addr) (go : Option Nat) (gv n : Nat) (l : List MarkD) (m : MarkD) (w : World) (c cv : Nat) (curv : Array Value) (Rv : List Value) (hn : l.length = n) (hnc : n ≤ c) (hroom : c < n + 1) (hl : n ≤ 1000) (hnil : base = none → n = 0 ∧ c = 0) (hsp : ∀ a,base = some a → a.off = 0 ∧ a.spot = none)
  (hold : (Builtin.firstCells 4 n (.slice base n c)).run prog w.drew = .ok (flatV l).toArray w.drew) (hgv : w.heap[gv]? = some (.cells curv 33 (0,0))) (hRv : curv.toList = flatV [m] ++ Rv) :
  Calls prog 30 #[.slice base n c,.int .i64 n,.slice (some ⟨gv,0,none⟩) 1 cv] w (InsR w 33 go (flatV (insM l n m)) n) := by
 have hm63 : maxLen = 9223372036854775807 := by decide
 have hz1 : ¬ ((1 : Int) = 0) := by omega
 have hX : (flatV l).length = n * 4 := by rw [flatV_len,hn]
 have hV4 : (flatV [m]).length = 4 := by rw [flatV_len]; rfl
 have hcellv : ∀ (j : Nat) (v : Value),(flatV [m])[j]? = some v → w.cell? ((⟨gv,0,none⟩ : Addr).add j) = some v := fun j v hj => by
  rw [Addr.add_lit]
  unfold World.cell?
  simp only [hgv]
  rw [if_neg (by simp),← Array.getElem?_toList,hRv,Nat.zero_add,List.getElem?_append_left (List.getElem?_eq_some_iff.1 hj).1]
  exact hj
 have hsrc : Src prog 4 24 (.slice (some ⟨gv,0,none⟩) 1 cv) 1 (flatV [m]) w := Src.ofSlice w underlying24 ⟨gv,0,none⟩ 1 cv (flatV [m]) hV4 hcellv flatV_one
 obtain ⟨G,hG⟩ : ∃ G,G = grownCap w (n + 1) c 33 := ⟨_,rfl⟩
 have hG1 : n + 1 ≤ G := by rw [hG]; exact grownCap_ge w _ _ _
 have hG2 : G ≤ maxLen := by rw [hG]; exact grownCap_le_maxLen w _ _ _ (by omega)
 obtain ⟨cur2,hcur2⟩ : ∃ cur2 : Array Value,cur2 = ((flatV l ++ flatV [m]).toArray ++ Builtin.zeroCells (Value.agg #[.int .i64 0,.int .i64 0,.int .i64 0,.bool false]).cells (G - (n + 1))) := ⟨_,rfl⟩
 have hcur2' : ∃ R,cur2.toList = flatV (insM l n m) ++ R := ⟨(Builtin.zeroCells (Value.agg #[.int .i64 0,.int .i64 0,.int .i64 0,.bool false]).cells (G - (n + 1))).toList,by
  rw [hcur2,Array.toList_append]
  show (flatV l ++ flatV [m]) ++ _ = _
  unfold insM
  rw [show l.take n = l from List.take_of_length_le (by omega),show l.drop n = [] from List.drop_eq_nil_of_le (by omega),flatV_app]⟩
 have hs2 : cur2.size = G * 4 := by
  rw [hcur2,Array.size_append,size_zeroCells]
  show (flatV l ++ flatV [m]).length + (G - (n + 1)) * 4 = G * 4
  rw [List.length_append,hX,hV4]; omega
 have hrun : ∀ ty,(Builtin.append_ #[24,24] ty #[.slice base n c,.slice (some ⟨gv,0,none⟩) 1 cv]).run prog w = .ok (.slice (some ⟨w.heap.size,0,none⟩) (n + 1) G) (w.drew.alloc (.cells cur2 33)) := fun ty => by
  rw [hcur2,hG]
  exact run_append_grow_src w 24 24 ty 33 _ _ underlying24 rfl rfl base n c (flatV l) hold _ 1 (flatV [m]) hsrc hroom (by omega) (growslice_fits hroom (by show (n + 1) * 32 ≤ _; omega))
 have hfin : InsR w 33 go (flatV (insM l n m)) n (.returned (.slice (some ⟨w.heap.size,0,none⟩) (n + 1) G)) (w.drew.alloc (.cells cur2 33)) := by
  refine ⟨w.heap.size,G,cur2,rfl,alloc_new,hcur2',hG1,hG2,hs2,rfl,rfl,rfl,by rw [alloc_size]; omega,fun b hb _ => alloc_old hb,.inr (Nat.le_refl _)⟩
 have hcn : c = n := by omega
 clear hcur2 hsrc hcellv hold hG
 subst hcn
 cases base with
 | none =>
  have h0 := (hnil rfl).1
  subst h0
  go_enter func30,ntmps30
  go_wp2_with (at_builtin; refine Lib.wpList_append_run _ rfl _ _ _ _ rfl _ _ rfl rfl _ _ (hrun _) ?_)
  go_ret
  exact hfin
 | some a =>
  obtain ⟨ab,ao,asp⟩ := a
  obtain ⟨rfl,rfl⟩ := hsp _ rfl
  go_enter func30,ntmps30
  go_wp2_with (at_builtin; refine Lib.wpList_append_run _ rfl _ _ _ _ rfl _ _ rfl rfl _ _ (hrun _) ?_)
  all_goals (go_ret; exact hfin)
set_option maxHeartbeats 4000000 in
set_option maxRecDepth 100000 in
theorem ins_grow (g gv i n : Nat) (l : List MarkD) (m : MarkD) (w : World) (c cv : Nat) (cur curv : Array Value) (R Rv : List Value) (hn : l.length = n) (hi : i < n) (hnc : n ≤ c) (hroom : c < n + 1) (hl : n ≤ 1000) (hvb : gv ≠ g)
  (hg : w.heap[g]? = some (.cells cur 33 (0,0))) (hR : cur.toList = flatV l ++ R) (hgv : w.heap[gv]? = some (.cells curv 33 (0,0))) (hRv : curv.toList = flatV [m] ++ Rv) :
  Calls prog 30 #[.slice (some ⟨g,0,none⟩) n c,.int .i64 i,.slice (some ⟨gv,0,none⟩) 1 cv] w (InsR w 33 (some g) (flatV (insM l i m)) n) := by
 have hm63 : maxLen = 9223372036854775807 := by decide
 have hz1 : ¬ ((1 : Int) = 0) := by omega
 have hz2 : ¬ ((i : Int) = (n : Int)) := by omega
 have hz3 : (c : Int) < (n : Int) + (1 : Int) := by omega
 have hin : i ≤ n := by omega
 have hgw := heap_lt hg
 have hvw := heap_lt hgv
 have hkk : (n : Int) + (1 : Int) - (i : Int) = ((n + 1 - i : Nat) : Int) := by omega
 have hik : i + (n + 1 - i) = n + 1 := by omega
 have hX1 : (flatV (l.take i)).length = i * 4 := by rw [flatV_len,List.length_take]; congr 1; omega
 have hX2 : (flatV (l.drop i)).length = (n - i) * 4 := by rw [flatV_len,List.length_drop,hn]
 have hV4 : (flatV [m]).length = 4 := by rw [flatV_len]; rfl
 have hcur : cur.toList = flatV (l.take i) ++ (flatV (l.drop i) ++ R) := by rw [hR,flat_split l i,List.append_assoc]
 have hold : (Builtin.firstCells 4 i (.slice (some ⟨g,0,none⟩) i c)).run prog w.drew = .ok (flatV (l.take i)).toArray w.drew :=
  run_firstCells_some w.drew 4 i ⟨g,0,none⟩ i c (flatV (l.take i)) hX1 (fun j v hj => by
   rw [Addr.add_lit]
   unfold World.cell?
   simp only [World.drew,hg]
   rw [if_neg (by simp),← Array.getElem?_toList,hcur,Nat.zero_add,List.getElem?_append_left (List.getElem?_eq_some_iff.1 hj).1]
   exact hj)
 obtain ⟨G,hG⟩ : ∃ G,G = grownCap w (n + 1) c 33 := ⟨_,rfl⟩
 have hG1 : n + 1 ≤ G := by rw [hG]; exact grownCap_ge w _ _ _
 have hG2 : G ≤ maxLen := by rw [hG]; exact grownCap_le_maxLen w _ _ _ (by omega)
 obtain ⟨ROW,hROW⟩ : ∃ ROW : Array Value,ROW = (flatV (l.take i)).toArray ++ Builtin.zeroCells (Value.agg #[.int .i64 0,.int .i64 0,.int .i64 0,.bool false]).cells (n + 1 - i) ++ Builtin.zeroCells (Value.agg #[.int .i64 0,.int .i64 0,.int .i64 0,.bool false]).cells (G - (n + 1)) := ⟨_,rfl⟩
 have hrz : ∀ ty,(Builtin.append_ #[24,3] ty #[.slice (some ⟨g,0,none⟩) i c,.int .i64 ((n : Int) + (1 : Int) - (i : Int))]).run prog w = .ok (.slice (some ⟨w.heap.size,0,none⟩) (n + 1) G) (w.drew.alloc (.cells ROW 33)) := fun ty => by
  have h := Lib.run_append_grow_zeros w 24 3 ty 33 _ _ .i64 .i64 underlying24 underlying3 rfl rfl (some ⟨g,0,none⟩) i c (flatV (l.take i)) hold (n + 1 - i) (by omega) (by decide) (by omega) (by omega) (by show (n + 1 - i) * 32 ≤ _; omega) (by rw [hik]; exact growslice_fits hroom (by show (n + 1) * 32 ≤ _; omega))
  rw [hik] at h
  rw [hkk,hROW,hG]
  exact h
 have hRs : ROW.size = G * 4 := by
  rw [hROW,Array.size_append,Array.size_append,size_zeroCells,size_zeroCells]
  show (flatV (l.take i)).length + (n + 1 - i) * 4 + (G - (n + 1)) * 4 = G * 4
  rw [hX1]; omega
 have hRl : ∃ Z,ROW.toList = flatV (l.take i) ++ Z ∧ Z.length + i * 4 = G * 4 := by
  refine ⟨(Builtin.zeroCells (Value.agg #[.int .i64 0,.int .i64 0,.int .i64 0,.bool false]).cells (n + 1 - i) ++ Builtin.zeroCells (Value.agg #[.int .i64 0,.int .i64 0,.int .i64 0,.bool false]).cells (G - (n + 1))).toList,by rw [hROW]; simp [Array.toList_append],?_⟩
  rw [Array.length_toList,Array.size_append,size_zeroCells,size_zeroCells]
  show (n + 1 - i) * 4 + (G - (n + 1)) * 4 + i * 4 = G * 4
  omega
 obtain ⟨Z,hZ,hZl⟩ := hRl
 obtain ⟨W1,hW1⟩ : ∃ W1,W1 = w.drew.alloc (.cells ROW 33) := ⟨_,rfl⟩
 rw [← hW1] at hrz
 have h1n : W1.heap[w.heap.size]? = some (.cells ROW 33 (0,0)) := by rw [hW1]; exact alloc_new
 have h1g : W1.heap[g]? = some (.cells cur 33 (0,0)) := by rw [hW1,alloc_old hgw]; exact hg
 have h1v : W1.heap[gv]? = some (.cells curv 33 (0,0)) := by rw [hW1,alloc_old hvw]; exact hgv
 -- the first copy
 obtain ⟨cur1,hcur1⟩ : ∃ cur1 : Array Value,cur1 = (ROW.toList.take (i * 4) ++ flatV [m] ++ ROW.toList.drop (i * 4 + (flatV [m]).length)).toArray := ⟨_,rfl⟩
 have hcur1' : cur1.toList = (flatV (l.take i) ++ flatV [m]) ++ Z.drop 4 := by
  rw [hcur1]
  show ROW.toList.take (i * 4) ++ flatV [m] ++ ROW.toList.drop (i * 4 + (flatV [m]).length) = _
  have e1 : ROW.toList.take (i * 4) = flatV (l.take i) := by rw [hZ,← hX1]; simp
  have e2 : ROW.toList.drop (i * 4 + (flatV [m]).length) = Z.drop 4 := by rw [hZ,hV4,← hX1,List.drop_length_add_append]
  rw [e1,e2]
 have hcpA : ∀ (W : World),W.heap = W1.heap → ∀ ty dc dl,Nat.min 1 dl = 1 → (Builtin.copy_ #[24,24] ty #[.slice (some ⟨w.heap.size,i * 4,none⟩) dl dc,.slice (some ⟨gv,0,none⟩) 1 cv]).run prog W = .ok (goInt (Nat.min 1 dl)) (W.setRow w.heap.size cur1) := fun W hW ty dc dl hmin => by
  rw [hcur1]
  exact run_copy_at W 24 24 ty 33 _ w.heap.size (i * 4) dl dc ⟨gv,0,none⟩ 1 cv ROW 33 (flatV [m]) underlying24 rfl (by rw [hW]; exact h1n) (by rw [hmin,hV4]; rfl) (fun j v hj => by
   rw [Addr.add_lit]
   unfold World.cell?
   simp only [hW,h1v]
   rw [if_neg (by simp),← Array.getElem?_toList,hRv,Nat.zero_add,List.getElem?_append_left (List.getElem?_eq_some_iff.1 hj).1]
   exact hj) (by rw [hV4,hRs]; omega) flatV_one
 obtain ⟨H2,hH2⟩ : ∃ H2,H2 = (W1.setRow w.heap.size cur1).heap := ⟨_,rfl⟩
 have hset : ∀ W : World,W.heap = W1.heap → (W.setRow w.heap.size cur1).heap = H2 := fun W hW => by rw [hH2]; unfold World.setRow; rw [hW]
 have h2n : H2[w.heap.size]? = some (.cells cur1 33 (0,0)) := by rw [hH2]; exact row_g h1n
 have h2g : H2[g]? = some (.cells cur 33 (0,0)) := by rw [hH2,row_b (by omega)]; exact h1g
 have h2b : ∀ b,b < w.heap.size → H2[b]? = w.heap[b]? := fun b hb => by rw [hH2,row_b (by omega),hW1,alloc_old hb]
 have h2s : H2.size = w.heap.size + 1 := by rw [hH2,row_size,hW1,alloc_size]
 obtain ⟨cur2,hcur2⟩ : ∃ cur2 : Array Value,cur2 = (cur1.toList.take ((i + 1) * 4) ++ flatV (l.drop i) ++ cur1.toList.drop ((i + 1) * 4 + (flatV (l.drop i)).length)).toArray := ⟨_,rfl⟩
 have hX1V : (flatV (l.take i) ++ flatV [m]).length = (i + 1) * 4 := by rw [List.length_append,hX1,hV4]; omega
 have hs1 : cur1.size = G * 4 := by
  have := congrArg List.length hcur1'
  rw [Array.length_toList,List.length_append,hX1V,List.length_drop] at this
  omega
 have hcur2' : ∃ R,cur2.toList = flatV (insM l i m) ++ R := by
  refine ⟨cur1.toList.drop ((i + 1) * 4 + (flatV (l.drop i)).length),?_⟩
  rw [hcur2]
  show cur1.toList.take ((i + 1) * 4) ++ flatV (l.drop i) ++ _ = _
  have e1 : cur1.toList.take ((i + 1) * 4) = flatV (l.take i) ++ flatV [m] := by rw [hcur1',← hX1V,List.take_append,List.take_of_length_le (Nat.le_refl _),Nat.sub_self,List.take_zero,List.append_nil]
  rw [e1,flat_ins]; rfl
 have hs2 : cur2.size = G * 4 := by
  rw [hcur2]
  show (cur1.toList.take ((i + 1) * 4) ++ flatV (l.drop i) ++ cur1.toList.drop ((i + 1) * 4 + (flatV (l.drop i)).length)).length = _
  simp only [List.length_append,List.length_take,List.length_drop,Array.length_toList,hs1,hX2]
  omega
 have hcpB : ∀ (W : World),W.heap = H2 → ∀ ty dc sc dl sl,Nat.min sl dl = n - i → (Builtin.copy_ #[24,24] ty #[.slice (some ⟨w.heap.size,(i + 1) * 4,none⟩) dl dc,.slice (some ⟨g,i * 4,none⟩) sl sc]).run prog W = .ok (goInt (Nat.min sl dl)) (W.setRow w.heap.size cur2) := fun W hW ty dc sc dl sl hmin => by
  rw [hcur2]
  exact run_copy_at W 24 24 ty 33 _ w.heap.size ((i + 1) * 4) dl dc ⟨g,i * 4,none⟩ sl sc cur1 33 (flatV (l.drop i)) underlying24 rfl (by rw [hW]; exact h2n) (by rw [hmin,hX2]; rfl) (fun j v hj => by
   rw [Addr.add_lit]
   unfold World.cell?
   simp only [hW,h2g]
   rw [if_neg (by simp),← Array.getElem?_toList,hcur,List.getElem?_append_right (by omega),hX1,show i * 4 + j - i * 4 = j by omega,List.getElem?_append_left (List.getElem?_eq_some_iff.1 hj).1]
   exact hj) (by rw [hX2,hs1]; omega) flatV_one
 have hfin : ∀ W : World,W.heap = H2 → W.os = w.os → W.tape = w.tape → W.output = w.output → InsR w 33 (some g) (flatV (insM l i m)) n (.returned (.slice (some ⟨w.heap.size,0,none⟩) (n + 1) G)) (W.setRow w.heap.size cur2) := fun W hW e1 e2 e3 => by
  refine ⟨w.heap.size,G,cur2,rfl,row_g (by rw [hW]; exact h2n),hcur2',hG1,hG2,hs2,e1,e2,e3,by rw [row_size,hW,h2s]; omega,fun b hb hne => by rw [row_b (by omega),hW]; exact h2b b hb,.inr (Nat.le_refl _)⟩
 have hm1 : Nat.min 1 (n + 1 - i) = 1 := by simp only [Nat.min_def]; split <;> omega
 have hm2 : Nat.min (n - i) (n - i) = n - i := by simp only [Nat.min_def]; split <;> omega
 have hw1 : IntKind.i64.wrap ((i : Int) + (1 : Int)) = (i : Int) + (1 : Int) := by rw [IntKind.wrap_i64]; omega
 have hb1 : (0 : Int) ≤ (i : Int) + (1 : Int) := by omega
 have htn : ((i : Int) + (1 : Int)).toNat = i + 1 := by omega
 have hb3 : (i : Int) ≤ (n : Int) := by omega
 have hGi : ¬ (G = i) := by omega
 have hGim : ¬ (G = i + 1) := by omega
 have hci : ¬ (c = i) := by omega
 clear hkk hik hold hROW hG hRs hcur1 hcur2 hZ hZl hcur1' hs1
 go_enter func30,ntmps30
 go_wp2_with (first
  | (at_builtin; refine Lib.wpList_append_run _ rfl _ _ _ _ rfl _ _ rfl rfl _ _ (hrz _) ?_)
  | (at_builtin; refine wpList_copy_runI _ rfl _ _ 24 24 rfl _ _ rfl rfl (hcpA _ rfl _ _ _ hm1) ?_))
 have g0 : ((w.alloc (.cells ROW 33)).drew.setRow w.heap.size cur1).heap = H2 := hset _ (by rw [hW1]; rfl)
 have g1 : ((w.alloc (.cells ROW 33)).drew.setRow w.heap.size cur1).os = w.os := rfl
 have g2 : ((w.alloc (.cells ROW 33)).drew.setRow w.heap.size cur1).tape = w.tape := rfl
 have g3 : ((w.alloc (.cells ROW 33)).drew.setRow w.heap.size cur1).output = w.output := rfl
 clear hcpA hset h1n h1g h1v hW1 hrz hH2
 generalize (w.alloc (.cells ROW 33)).drew.setRow w.heap.size cur1 = W2 at g0 g1 g2 g3 ⊢
 have hcpB2 := hcpB W2.drew g0
 have hfin2 := hfin W2.drew g0 g1 g2 g3
 clear hcpB hfin g0 g1 g2 g3 h2n h2g h2b h2s
 go_region_law (refine step_copy_runI rfl _ _ 24 24 rfl _ _ (by simp [Act.eval,Act.put]) (by simp [Act.eval,Act.put]) (hcpB2 _ _ _ _ _ hm2) ?_)
 go_wp2
 go_ret
 exact hfin2
theorem hok30 : ∀ (l : List MarkD) (i : Int) (m : MarkD),((0 ≤ i ∧ i ≤ ((List.length l : Nat) : Int)) ∧ (List.length l ≤ 1000)) →
  HOK prog 30 [] [.own 911 l.length,.i i,.own 912 1] [(911,⟨33,.row (.marks l)⟩),(912,⟨33,.row (.marks [m])⟩)] [911,912] (fun r s1 u1 => r = (.own 914 (List.length (insM l (Int.toNat i) m))) ∧ s1 = [(914,⟨33,.row (.marks (insM l (Int.toNat i) m))⟩)] ∧ u1 = [914]) := by
 rintro l i m ⟨⟨hi0,hi1⟩,hl⟩ w T β vals hT hdom hloc hinj hargs
 obtain ⟨k,rfl⟩ : ∃ k : Nat,i = ((k : Nat) : Int) := ⟨i.toNat,by omega⟩
 have hk : k ≤ l.length := by omega
 have l1 := hloc 911 _ rfl
 have l2 := hloc 912 _ rfl
 simp only [LocOK,CellsOK] at l1 l2
 match vals,hargs with
 | [y0,y1,y2],h =>
  simp only [RepL,Rep,OwnRep] at h
  obtain ⟨h0,rfl,h2,_⟩ := h
  rcases l2 with ⟨_,hz⟩ | ⟨gv,cv,curv,bv,hcv,hlv,hcapv,hszv,hrv⟩
  ·simp [Dat.len] at hz
  rcases h2 with ⟨e1,_⟩ | ⟨gv',cv',e1,_,rfl⟩
  ·rw [bv] at e1; cases e1
  rw [bv] at e1
  simp only [Option.some.injEq,Bl.blk.injEq] at e1
  obtain ⟨rfl,rfl⟩ := e1
  obtain ⟨Rv,hRv⟩ := row_flat hrv (by have h9 : curv.size = cv * 4 := hszv; have h8 : 1 ≤ cv := hlv; simp only [List.length_cons,List.length_nil]; omega)
  rcases l1 with ⟨b1,hz⟩ | ⟨g,c,cur,b1,hc,hlen,hcap,hsz,hr⟩
  ·have hl0 : l.length = 0 := hz
   rcases h0 with ⟨_,e2,rfl⟩ | ⟨g',c',e1,_⟩
   ·have hk0 : k = 0 := by omega
    subst hk0
    have hnil : l = [] := List.length_eq_zero_iff.1 hl0
    subst hnil
    exact (ins_end_grow none none gv 0 [] m w 0 cv curv Rv rfl (Nat.le_refl _) (by omega) (by omega) (fun _ => ⟨rfl,rfl⟩) (fun a h => by cases h) (run_firstCells_none w.drew 4 0 0 0) hcv hRv).mono fun e w' h => ins_post h rfl (fun b h => by cases h)
   ·rw [b1] at e1; cases e1
  ·rcases h0 with ⟨e1,_⟩ | ⟨g',c',e1,_,rfl⟩
   ·rw [b1] at e1; cases e1
   rw [b1] at e1
   simp only [Option.some.injEq,Bl.blk.injEq] at e1
   obtain ⟨rfl,rfl⟩ := e1
   have hlen' : l.length ≤ c := hlen
   have hsz' : cur.size = c * 4 := hsz
   obtain ⟨R,hR⟩ := row_flat hr (by omega)
   have hne : gv ≠ g := fun e => by
    subst e
    have := hinj 911 912 _ _ gv c cv rfl rfl b1 bv
    omega
   have hlive : ∀ b,some g = some b → Live β (lk [(911,(⟨33,.row (.marks l)⟩ : LB)),(912,⟨33,.row (.marks [m])⟩)]) b := fun b hb => by
    cases hb
    exact ⟨911,_,c,rfl,b1⟩
   have hcl : (insM l k m).length = l.length + 1 := insM_len hk
   by_cases hkl : k < l.length
   ·by_cases hroom : l.length + 1 ≤ c
    ·exact (ins_room g gv k l.length l m w c cv cur curv R Rv rfl hkl hroom hcap hl hne hc hsz' hR hcv hRv).mono fun e w' h => ins_post h hcl hlive
    ·exact (ins_grow g gv k l.length l m w c cv cur curv R Rv rfl hkl hlen' (by omega) hl hne hc hR hcv hRv).mono fun e w' h => ins_post h hcl hlive
   ·have hke : k = l.length := by omega
    subst hke
    by_cases hroom : l.length + 1 ≤ c
    ·exact (ins_end g gv l.length l m w c cv cur curv R Rv rfl hroom hcap hl hne hc hsz' hR hcv hRv).mono fun e w' h => ins_post h hcl hlive
    ·refine (ins_end_grow (some ⟨g,0,none⟩) (some g) gv l.length l m w c cv curv Rv rfl hlen' (by omega) hl (fun h => by cases h) (fun a h => by cases h; exact ⟨rfl,rfl⟩) ?_ hcv hRv).mono fun e w' h => ins_post h hcl hlive
     exact run_firstCells_some w.drew 4 l.length ⟨g,0,none⟩ l.length c (flatV l) (flatV_len l) (fun j v hj => by
      rw [Addr.add_lit]
      unfold World.cell?
      simp only [World.drew,hc]
      rw [if_neg (by simp),← Array.getElem?_toList,hR,Nat.zero_add,List.getElem?_append_left (List.getElem?_eq_some_iff.1 hj).1]
      exact hj)
theorem ent30 : Entr prog 30 := ⟨_,func30,rfl,by decide⟩
end Go.Proofs.Try

set_option linter.unusedSimpArgs false
set_option linter.unusedVariables false
namespace Go.Proofs.Try
open Go.Ab Go.RowKit
abbrev T31y : Tab := lk [(13,fs13)]
theorem tab31y : TabOK prog T31y := (TabOK.cons ok13 ent13 TabOK.nil)
theorem ent31y : Entr prog 31 := ⟨_,func31,rfl,by decide⟩
set_option maxRecDepth 100000 in
set_option maxHeartbeats 1000000 in
theorem hok31y : ∀ (cu : List Int) (cd : List Int) (cv : Int) (ct : Int) (cp : Int) (cm : List MarkD),((validCopy (⟨cu,cd,cv,ct,cp,cm⟩ : CopyD) = true)) → HOK prog 31 [911,912,913] [.agg [.own 911 cu.length,.own 912 cd.length,.i cv,.i ct,.i cp,.own 913 cm.length]] [(911,⟨3,.row (.ints cu)⟩),(912,⟨3,.row (.ints cd)⟩),(913,⟨33,.row (.marks cm)⟩)] [911,912,913] (fun r s1 u1 => r = (.tup [.agg [.own 911 cu.length,.own 912 cd.length,.i cv,.i ct,.i cp,.own 913 cm.length],.b true]) ∧ s1 = ([(911,⟨3,.row (.ints cu)⟩),(912,⟨3,.row (.ints cd)⟩),(913,⟨33,.row (.marks cm)⟩)]) ∧ u1 = ([911,912,913])) := by
 intro cu cd cv ct cp cm hpre
 have hV := hpre
 refine HOK.of cok func31 rfl rfl rfl ?_
 intro F hnt0
 have hnt : F.nt = 9 := hnt0.trans ntmps31
 refine W.to (⟨[(0,.agg [.own 911 cu.length,.own 912 cd.length,.i cv,.i ct,.i cp,.own 913 cm.length])],[(911,⟨3,.row (.ints cu)⟩),(912,⟨3,.row (.ints cd)⟩),(913,⟨33,.row (.marks cm)⟩)],[911,912,913]⟩) rfl ?_
 refine Kk cok tab31y hnt [] [1,2] (⟨[(1,.ptr 1 0),(2,.ptr 2 0)],[(1,⟨26,.fix [.own 911 cu.length,.own 912 cd.length,.i cv,.i ct,.i cp,.own 913 cm.length]⟩),(2,⟨26,.fix [.v (.slice none 0 0),.v (.slice none 0 0),.i (0 : Int),.i (0 : Int),.i (0 : Int),.v (.slice none 0 0)]⟩),(911,⟨3,.row (.ints cu)⟩),(912,⟨3,.row (.ints cd)⟩),(913,⟨33,.row (.marks cm)⟩)],[2,1,911,912,913]⟩)
  (True ∧ True ∧ True ∧ True)
  ⟨tt,tt,tt,tt⟩ ?_
 refine W.seq ?_
 refine Kk cok tab31y hnt [] [1,2,6] (⟨[(1,.ptr 1 0),(2,.ptr 2 0),(6,.b (!(validCopy ⟨cu,cd,cv,ct,cp,cm⟩)))],[(1,⟨26,.fix [.own 911 cu.length,.own 912 cd.length,.i cv,.i ct,.i cp,.own 913 cm.length]⟩),(2,⟨26,.fix [.v (.slice none 0 0),.v (.slice none 0 0),.i (0 : Int),.i (0 : Int),.i (0 : Int),.v (.slice none 0 0)]⟩),(911,⟨3,.row (.ints cu)⟩),(912,⟨3,.row (.ints cd)⟩),(913,⟨33,.row (.marks cm)⟩)],[2,1,911,912,913]⟩)
  (True ∧ (True ∧ ((True ∧ (True ∧ (cu.length = cu.length)) ∧ (True ∧ (cd.length = cd.length)) ∧ True ∧ True ∧ True ∧ (True ∧ (cm.length = cm.length)) ∧ True) ∧ True) ∧ True) ∧ True ∧ True)
  ⟨tt,⟨tt,⟨⟨tt,⟨tt,rfl⟩,⟨tt,rfl⟩,tt,tt,tt,⟨tt,rfl⟩,tt⟩,tt⟩,tt⟩,tt,tt⟩ ?_
 refine W.if' (!(validCopy ⟨cu,cd,cv,ct,cp,cm⟩)) (.b (!(validCopy ⟨cu,cd,cv,ct,cp,cm⟩))) (by kernel_rfl) rfl trivial ?_ ?_
 ·intro h6
  exact (show False from (by rw [hV] at h6; cases h6)).elim
 ·intro n6
  refine W.skip (thenQ_normal ?_)
  refine Kk cok tab31y hnt [] [2,3] (⟨[(2,.ptr 2 0),(3,.b true)],[(1,⟨26,.fix [.own 911 cu.length,.own 912 cd.length,.i cv,.i ct,.i cp,.own 913 cm.length]⟩),(2,⟨26,.fix [.own 911 cu.length,.own 912 cd.length,.i cv,.i ct,.i cp,.own 913 cm.length]⟩),(911,⟨3,.row (.ints cu)⟩),(912,⟨3,.row (.ints cd)⟩),(913,⟨33,.row (.marks cm)⟩)],[2,1,911,912,913]⟩)
   (True ∧ (True ∧ True) ∧ True ∧ True)
   ⟨tt,⟨tt,tt⟩,tt,tt⟩ ?_
  refine W.ret ?_
  exact endH_ret (.tup [.agg [.own 911 cu.length,.own 912 cd.length,.i cv,.i ct,.i cp,.own 913 cm.length],.b true]) [(911,⟨3,.row (.ints cu)⟩),(912,⟨3,.row (.ints cd)⟩),(913,⟨33,.row (.marks cm)⟩)] [911,912,913] ⟨rfl,rfl,rfl⟩ [(911,911),(912,912),(913,913)] (.tup [.agg [.own 911 cu.length,.own 912 cd.length,.i cv,.i ct,.i cp,.own 913 cm.length],.b true]) (by kernel_rfl) (@cast ((((((911 : Nat) = 911) ∧ (cu.length = cu.length) ∧ ((911 : Nat) ∈ ([911,912,913] : List Nat))) ∧ (((912 : Nat) = 912) ∧ (cd.length = cd.length) ∧ ((912 : Nat) ∈ ([911,912,913] : List Nat))) ∧ (Si cv) ∧ (Si ct) ∧ (Si cp) ∧ (((913 : Nat) = 913) ∧ (cm.length = cm.length) ∧ ((913 : Nat) ∈ ([911,912,913] : List Nat))) ∧ True) ∧ (Sv (.bool true)) ∧ True) ∧ ((((3 : Nat) = 3) ∧ (Sd (.ints cu)) ∧ ((911 : Nat) ∈ ([911,912,913] : List Nat))) ∧ (((3 : Nat) = 3) ∧ (Sd (.ints cd)) ∧ ((912 : Nat) ∈ ([911,912,913] : List Nat))) ∧ (((33 : Nat) = 33) ∧ (Sd (.marks cm)) ∧ ((913 : Nat) ∈ ([911,912,913] : List Nat))) ∧ True) ∧ (true = true) ∧ (true = true)) _ (by kernel_rfl) ⟨⟨⟨⟨rfl,rfl,(by decide)⟩,⟨rfl,rfl,(by decide)⟩,rfl,rfl,rfl,⟨rfl,rfl,(by decide)⟩,tt⟩,rfl,tt⟩,⟨⟨rfl,rfl,(by decide)⟩,⟨rfl,rfl,(by decide)⟩,⟨rfl,rfl,(by decide)⟩,tt⟩,rfl,rfl⟩)
end Go.Proofs.Try
