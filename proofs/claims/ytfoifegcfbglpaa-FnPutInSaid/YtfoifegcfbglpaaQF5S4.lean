import Derived.Test.YtfoifegcfbglpaaQF5S0
import Derived.Test.YtfoifegcfbglpaaQF5S3
set_option linter.unusedSimpArgs false
set_option linter.unusedVariables false
namespace Go.Proofs.Try
open Go.Ab Go.RowKit
def fs32 : FnS := fnS [.a [some .ints,some .ints,none,none,none,some .marks]] [.copy] (fun _ (c,_) => (.b (validCopy c),[],True))
abbrev T32 : Tab := lk [(43,fs43),(45,fs45)]
theorem tab32 : TabOK prog T32 := (TabOK.cons ok43 ent43 (TabOK.cons ok45 ent45 TabOK.nil))
set_option maxRecDepth 100000 in
set_option maxHeartbeats 1000000 in
theorem ok32 : FnOK prog 32 fs32 := by
 refine FnOK.mk cok func32 rfl rfl rfl ?_
 rintro fl ⟨(c : CopyD),_⟩ hpre F hnt0 _
 have hnt : F.nt = 116 := hnt0.trans ntmps32
 clear hpre
 refine W.to (⟨[(0,.agg (cC c))],[],[999]⟩) rfl ?_
 refine W.lenA 0 0 (cC c) (.ints c.up) (by kernel_rfl) (by kernel_rfl) ?_
 intro hl_c_up; replace hl_c_up : List.length c.up ≤ 9223372036854775807 := hl_c_up
 refine W.lenA 0 1 (cC c) (.ints c.down) (by kernel_rfl) (by kernel_rfl) ?_
 intro hl_c_down; replace hl_c_down : List.length c.down ≤ 9223372036854775807 := hl_c_down
 refine W.lenA 0 5 (cC c) (.marks c.marks) (by kernel_rfl) (by kernel_rfl) ?_
 intro hl_c_marks; replace hl_c_marks : List.length c.marks ≤ 9223372036854775807 := hl_c_marks
 refine Kk cok tab32 hnt [] [1] (⟨[(1,.ptr 1 0)],[(1,⟨26,.fix (cC c)⟩)],[1,999]⟩)
  (True ∧ True ∧ True)
  ⟨tt,tt,tt⟩ ?_
 refine W.seq ?_
 refine Kk cok tab32 hnt [] [1,48] (⟨[(1,.ptr 1 0),(48,.b ((((((decide ((((List.length c.up) : Nat) : Int) ≠ (3 : Int))) || (decide ((((List.length c.down) : Nat) : Int) ≠ (3 : Int)))) || (!(within c.value (0 : Int) (3 : Int)))) || (!(within c.time (0 : Int) (30 : Int)))) || (!(within c.proc (0 : Int) (2 : Int)))) || ((decide (c.time = (0 : Int))) && ((decide (c.value ≠ (0 : Int))) || (decide (c.proc ≠ (0 : Int)))))))],[(1,⟨26,.fix (cC c)⟩)],[1,999]⟩)
  ((fun (Z1:Bool)=>((fun (Z2:Bool)=>((fun (Z3:Bool)=>((fun (Z4:Bool)=>((fun (Z5:Bool)=>((fun (Z6:Bool)=>((fun (Z7:Bool)=>((fun (Z8:Bool)=>((fun (Z9:Bool)=>((fun (Z10:Bool)=>(True ∧ (True ∧ (True ∧ ((True ∧ (True ∧ True)) ∧ (True ∧ (((!Z3) = true → True) ∧ (((!Z3) = true → (((!Z3) = true) ∧ True)) ∧ (((!Z3) = true → (((!Z3) = true) ∧ True)) ∧ (((!Z3) = true → ((((!Z3) = true) ∧ True) ∧ (True ∧ True))) ∧ ((True ∧ ((Z3 = true → True) ∧ (Z3 = false → ((!Z3) = true) ∧ True))) ∧ (True ∧ (((!Z4) = true → True) ∧ (((!Z4) = true → (((!Z4) = true) ∧ True)) ∧ (((!Z4) = true → (True ∧ (((((!Z4) = true) ∧ True) ∧ (True ∧ (True ∧ True))) ∧ True))) ∧ (((!Z4) = true → (((!Z4) = true) ∧ True)) ∧ ((True ∧ ((Z4 = true → True) ∧ (Z4 = false → ((!Z4) = true) ∧ True))) ∧ (True ∧ (((!Z5) = true → True) ∧ (((!Z5) = true → (((!Z5) = true) ∧ True)) ∧ (((!Z5) = true → (True ∧ (((((!Z5) = true) ∧ True) ∧ (True ∧ (True ∧ True))) ∧ True))) ∧ (((!Z5) = true → (((!Z5) = true) ∧ True)) ∧ ((True ∧ ((Z5 = true → True) ∧ (Z5 = false → ((!Z5) = true) ∧ True))) ∧ (True ∧ (((!Z6) = true → True) ∧ (((!Z6) = true → (((!Z6) = true) ∧ True)) ∧ (((!Z6) = true → (True ∧ (((((!Z6) = true) ∧ True) ∧ (True ∧ (True ∧ True))) ∧ True))) ∧ (((!Z6) = true → (((!Z6) = true) ∧ True)) ∧ ((True ∧ ((Z6 = true → True) ∧ (Z6 = false → ((!Z6) = true) ∧ True))) ∧ (True ∧ ((Z8 = true → True) ∧ ((Z8 = true → ((Z8 = true) ∧ True)) ∧ ((Z8 = true → (((Z8 = true) ∧ True) ∧ (True ∧ True))) ∧ ((Z8 = true → True) ∧ ((Z9 = true → True) ∧ ((Z9 = true → ((Z9 = true) ∧ True)) ∧ ((Z9 = true → (((Z9 = true) ∧ True) ∧ (True ∧ True))) ∧ ((Z9 = true → True) ∧ ((Z10 = true → True) ∧ ((Z10 = true → ((Z10 = true) ∧ True)) ∧ ((Z10 = true → (((Z10 = true) ∧ True) ∧ (True ∧ True))) ∧ ((Z9 = true → (((Z9 = true) ∧ ((Z9 = true) ∧ True)) ∧ ((Z2 = true → True) ∧ (Z2 = false → (Z10 = true) ∧ True)))) ∧ ((Z8 = true → (((Z8 = true) ∧ ((Z8 = true) ∧ True)) ∧ ((Z1 = true → (Z9 = true) ∧ True) ∧ (Z1 = false → True)))) ∧ ((True ∧ ((Z7 = true → True) ∧ (Z7 = false → (Z8 = true) ∧ True))) ∧ True)))))))))))))))))))))))))))))))))))))))))))) (Z9 && (Z9 && (!Z2))))) (Z8 && (Z8 && Z1)))) (!Z7))) (Z6 || (!(within c.proc (0 : Int) (2 : Int)))))) (Z5 || (!(within c.time (0 : Int) (30 : Int)))))) (Z4 || (!(within c.value (0 : Int) (3 : Int)))))) (Z3 || (decide ((((List.length c.down) : Nat) : Int) ≠ (3 : Int)))))) (decide ((((List.length c.up) : Nat) : Int) ≠ (3 : Int))))) (decide (c.value ≠ (0 : Int))))) (decide (c.time = (0 : Int))))
  ⟨tt,tt,tt,⟨tt,tt,tt⟩,tt,(fun _ => trivial),(fun hG => ⟨hG,tt⟩),(fun hG => ⟨hG,tt⟩),(fun hG => ⟨⟨hG,tt⟩,tt,tt⟩),⟨tt,(fun _ => trivial),(fun hp => ⟨(not_t hp),tt⟩)⟩,tt,(fun _ => trivial),(fun hG => ⟨hG,tt⟩),(fun hG => ⟨tt,⟨⟨hG,tt⟩,tt,tt,tt⟩,tt⟩),(fun hG => ⟨hG,tt⟩),⟨tt,(fun _ => trivial),(fun hp => ⟨(not_t hp),tt⟩)⟩,tt,(fun _ => trivial),(fun hG => ⟨hG,tt⟩),(fun hG => ⟨tt,⟨⟨hG,tt⟩,tt,tt,tt⟩,tt⟩),(fun hG => ⟨hG,tt⟩),⟨tt,(fun _ => trivial),(fun hp => ⟨(not_t hp),tt⟩)⟩,tt,(fun _ => trivial),(fun hG => ⟨hG,tt⟩),(fun hG => ⟨tt,⟨⟨hG,tt⟩,tt,tt,tt⟩,tt⟩),(fun hG => ⟨hG,tt⟩),⟨tt,(fun _ => trivial),(fun hp => ⟨(not_t hp),tt⟩)⟩,tt,(fun _ => trivial),(fun hG => ⟨hG,tt⟩),(fun hG => ⟨⟨hG,tt⟩,tt,tt⟩),(fun _ => trivial),(fun _ => trivial),(fun hG => ⟨hG,tt⟩),(fun hG => ⟨⟨hG,tt⟩,tt,tt⟩),(fun _ => trivial),(fun _ => trivial),(fun hG => ⟨hG,tt⟩),(fun hG => ⟨⟨hG,tt⟩,tt,tt⟩),(fun hG => ⟨⟨hG,hG,tt⟩,(fun _ => trivial),(fun hp => ⟨(and_t hG (and_t hG (not_t hp))),tt⟩)⟩),(fun hG => ⟨⟨hG,hG,tt⟩,(fun hp => ⟨(and_t hG (and_t hG hp)),tt⟩),(fun _ => trivial)⟩),⟨tt,(fun _ => trivial),(fun hp => ⟨(not_t hp),tt⟩)⟩,tt⟩ ?_
 refine W.if' ((((((decide ((((List.length c.up) : Nat) : Int) ≠ (3 : Int))) || (decide ((((List.length c.down) : Nat) : Int) ≠ (3 : Int)))) || (!(within c.value (0 : Int) (3 : Int)))) || (!(within c.time (0 : Int) (30 : Int)))) || (!(within c.proc (0 : Int) (2 : Int)))) || ((decide (c.time = (0 : Int))) && ((decide (c.value ≠ (0 : Int))) || (decide (c.proc ≠ (0 : Int)))))) (.b ((((((decide ((((List.length c.up) : Nat) : Int) ≠ (3 : Int))) || (decide ((((List.length c.down) : Nat) : Int) ≠ (3 : Int)))) || (!(within c.value (0 : Int) (3 : Int)))) || (!(within c.time (0 : Int) (30 : Int)))) || (!(within c.proc (0 : Int) (2 : Int)))) || ((decide (c.time = (0 : Int))) && ((decide (c.value ≠ (0 : Int))) || (decide (c.proc ≠ (0 : Int))))))) (by kernel_rfl) rfl trivial ?_ ?_
 ·intro h48
  refine Kk cok tab32 hnt [] [2] (⟨[(2,.b false)],[(1,⟨26,.fix (cC c)⟩)],[1,999]⟩)
   (True ∧ True)
   ⟨tt,tt⟩ ?_
  refine W.ret (thenQ_ret ?_)
  exact endQ_ret (.b false) (by kernel_rfl) (@cast ((.bool false : Value) = .bool (validCopy c)) _ (by kernel_rfl) (congrArg Value.bool (by exact (valid_spec1 h48).symm)))
 ·intro n48
  have n48_0 : ¬ ((((List.length c.up) : Nat) : Int) ≠ (3 : Int)) := of_decide_eq_false (or_l (or_l (or_l (or_l (or_l n48)))))
  have n48_1 : ¬ ((((List.length c.down) : Nat) : Int) ≠ (3 : Int)) := of_decide_eq_false (or_r (or_l (or_l (or_l (or_l n48)))))
  refine W.skip (thenQ_normal ?_)
  refine W.seq ?_
  refine Kk cok tab32 hnt [] [1,3] (⟨[(1,.ptr 1 0),(3,.i (0 : Int))],[(1,⟨26,.fix (cC c)⟩)],[1,999]⟩)
   (True ∧ True)
   ⟨tt,tt⟩ ?_
  refine W.block ?_
  refine W.loop (ι := Nat) (fun (k : Nat) => (⟨[(1,.ptr 1 0),(3,.i ((k : Nat) : Int))],[(1,⟨26,.fix (cC c)⟩)],[1,999]⟩ : St))
   (fun (k : Nat) => (k ≤ 3) ∧ (∀ j,j < k → within (c.up.getD j 0) 0 20 = true) ∧ (∀ j,j < k → within (c.down.getD j 0) 0 20 = true))
   (fun (k : Nat) => (3 - k : Nat)) (0) ?_ ?_ ?_
  ·exact (show (0 ≤ 3) ∧ (∀ j,j < 0 → within (c.up.getD j 0) 0 20 = true) ∧ (∀ j,j < 0 → within (c.down.getD j 0) 0 20 = true) from ⟨(by first | assumption | omega | rfl | (intro _ hjj; omega) | (simp; done) | (simp; omega)),(by exact upto_zero),(by exact upto_zero)⟩)
  ·exact Sub.of [] (@cast (((((1 : Nat) = 1) ∧ ((0 : Nat) = 0) ∧ ((1 : Nat) ∈ ([1,999] : List Nat))) ∧ ((.int .i64 (0 : Int) : Value) = .int .i64 ((0 : Nat) : Int)) ∧ True) ∧ ((((26 : Nat) = 26) ∧ (Sc c) ∧ ((1 : Nat) ∈ ([1,999] : List Nat))) ∧ True) ∧ (true = true) ∧ (true = true)) _ (by kernel_rfl) ⟨⟨⟨rfl,rfl,(by decide)⟩,(congrArg (Value.int .i64) (by first | rfl | omega | assumption | simp | simp_all)),tt⟩,⟨⟨rfl,⟨rfl,rfl,rfl,rfl,rfl,rfl,tt⟩,(by decide)⟩,tt⟩,rfl,rfl⟩)
  ·rintro k hC0
   have hC : (k ≤ 3) ∧ (∀ j,j < k → within (c.up.getD j 0) 0 20 = true) ∧ (∀ j,j < k → within (c.down.getD j 0) 0 20 = true) := hC0
   clear hC0
   obtain ⟨hk,hU,hD⟩ := hC
   refine W.to (⟨[(1,.ptr 1 0),(3,.i ((k : Nat) : Int))],[(1,⟨26,.fix (cC c)⟩)],[1,999]⟩) rfl ?_
   have hs := valid_spec2 n48
   refine W.seq ?_
   refine Kk cok tab32 hnt [] [1,3,50] (⟨[(1,.ptr 1 0),(3,.i ((k : Nat) : Int)),(50,.b (decide (((k : Nat) : Int) < (3 : Int))))],[(1,⟨26,.fix (cC c)⟩)],[1,999]⟩)
    (True ∧ (True ∧ True ∧ True) ∧ True)
    ⟨tt,⟨tt,tt,tt⟩,tt⟩ ?_
   refine W.ifP (((k : Nat) : Int) < (3 : Int)) (.b (decide (((k : Nat) : Int) < (3 : Int)))) (by kernel_rfl) rfl trivial ?_ ?_
   ·intro h50
    refine W.skip (thenQ_normal ?_)
    refine W.seq ?_
    refine W.block ?_
    refine Kk cok tab32 hnt [] [1,3,68] (⟨[(1,.ptr 1 0),(3,.i ((k : Nat) : Int)),(68,.b ((!(within (List.getD c.up k 0) (0 : Int) (20 : Int))) || (!(within (List.getD c.down k 0) (0 : Int) (20 : Int)))))],[(1,⟨26,.fix (cC c)⟩)],[1,999]⟩)
     ((fun (Z1:Bool)=>(True ∧ (True ∧ (True ∧ ((True ∧ (True ∧ ((0 ≤ ((k : Nat) : Int)) ∧ (((k : Nat) : Int) < (((List.length c.up) : Nat) : Int))))) ∧ (True ∧ ((True ∧ ((True ∧ (True ∧ (True ∧ True))) ∧ True)) ∧ (True ∧ (True ∧ (((!Z1) = true → True) ∧ (((!Z1) = true → (((!Z1) = true) ∧ True)) ∧ (((!Z1) = true → True) ∧ (((!Z1) = true → ((((!Z1) = true) ∧ True) ∧ ((((!Z1) = true) ∧ True) ∧ ((0 ≤ ((k : Nat) : Int)) ∧ (((k : Nat) : Int) < (((List.length c.down) : Nat) : Int)))))) ∧ (((!Z1) = true → (((!Z1) = true) ∧ True)) ∧ (((!Z1) = true → (True ∧ (((((!Z1) = true) ∧ True) ∧ (True ∧ (True ∧ True))) ∧ True))) ∧ (((!Z1) = true → (((!Z1) = true) ∧ True)) ∧ ((True ∧ ((Z1 = true → True) ∧ (Z1 = false → ((!Z1) = true) ∧ True))) ∧ True))))))))))))))))) (!(within (List.getD c.up k 0) (0 : Int) (20 : Int))))
     ⟨tt,tt,tt,⟨tt,tt,(by omega),(by omega)⟩,tt,⟨tt,⟨tt,tt,tt,tt⟩,tt⟩,tt,tt,(fun _ => trivial),(fun hG => ⟨hG,tt⟩),(fun _ => trivial),(fun hG => ⟨⟨hG,tt⟩,⟨hG,tt⟩,(by omega),(by omega)⟩),(fun hG => ⟨hG,tt⟩),(fun hG => ⟨tt,⟨⟨hG,tt⟩,tt,tt,tt⟩,tt⟩),(fun hG => ⟨hG,tt⟩),⟨tt,(fun _ => trivial),(fun hp => ⟨(not_t hp),tt⟩)⟩,tt⟩ ?_
    refine W.if' ((!(within (List.getD c.up k 0) (0 : Int) (20 : Int))) || (!(within (List.getD c.down k 0) (0 : Int) (20 : Int)))) (.b ((!(within (List.getD c.up k 0) (0 : Int) (20 : Int))) || (!(within (List.getD c.down k 0) (0 : Int) (20 : Int))))) (by kernel_rfl) rfl trivial ?_ ?_
    ·intro h68
     refine Kk cok tab32 hnt [] [2] (⟨[(2,.b false)],[(1,⟨26,.fix (cC c)⟩)],[1,999]⟩)
      (True ∧ True)
      ⟨tt,tt⟩ ?_
     refine W.ret (blockQ_ret (thenQ_ret (thenQ_ret (blockQ_ret (thenQ_ret ?_)))))
     exact endQ_ret (.b false) (by kernel_rfl) (@cast ((.bool false : Value) = .bool (validCopy c)) _ (by kernel_rfl) (congrArg Value.bool (by exact (counts_bad hs.1 hs.2.1 (by omega) h68).symm)))
    ·intro n68
     refine W.skip (blockQ_normal (thenQ_normal ?_))
     refine Lk cok tab32 hnt [] (⟨[(1,.ptr 1 0),(3,.i (((k + 1) : Nat) : Int)),(51,.i ((k : Nat) : Int)),(52,.i (((k + 1) : Nat) : Int)),(68,.b ((!(within (List.getD c.up k 0) (0 : Int) (20 : Int))) || (!(within (List.getD c.down k 0) (0 : Int) (20 : Int)))))],[(1,⟨26,.fix (cC c)⟩)],[1,999]⟩)
      (True ∧ (True ∧ True ∧ (Fits .i64 (((k + 1) : Nat) : Int))) ∧ True ∧ True)
      ⟨tt,⟨tt,tt,(by exact fits_i64 (by omega) (by omega))⟩,tt,tt⟩ ?_
     refine thenQ_normal ?_
     refine ⟨((k + 1)),(show ((k + 1) ≤ 3) ∧ (∀ j,j < (k + 1) → within (c.up.getD j 0) 0 20 = true) ∧ (∀ j,j < (k + 1) → within (c.down.getD j 0) 0 20 = true) from ⟨(by first | assumption | omega | rfl | (intro _ hjj; omega) | (simp; done) | (simp; omega)),(by exact upto_succ hU (within_bad n68).1),(by exact upto_succ hD (within_bad n68).2)⟩),(show 3 - (k + 1) < 3 - k from (by first | omega | (simp_all; omega))),?_⟩
     exact Sub.of [] (@cast (((((1 : Nat) = 1) ∧ ((0 : Nat) = 0) ∧ ((1 : Nat) ∈ ([1,999] : List Nat))) ∧ (Si (((k + 1) : Nat) : Int)) ∧ True) ∧ ((((26 : Nat) = 26) ∧ (Sc c) ∧ ((1 : Nat) ∈ ([1,999] : List Nat))) ∧ True) ∧ (true = true) ∧ (true = true)) _ (by kernel_rfl) ⟨⟨⟨rfl,rfl,(by decide)⟩,rfl,tt⟩,⟨⟨rfl,⟨rfl,rfl,rfl,rfl,rfl,rfl,tt⟩,(by decide)⟩,tt⟩,rfl,rfl⟩)
   ·intro n50
    refine W.exit (thenQ_exit (thenQ_exit (blockQ_hit ?_)))
    refine thenQ_normal ?_
    refine W.seq ?_
    refine Kk cok tab32 hnt [] [1,4] (⟨[(1,.ptr 1 0),(4,.i (0 : Int))],[(1,⟨26,.fix (cC c)⟩)],[1,999]⟩)
     (True ∧ True)
     ⟨tt,tt⟩ ?_
    refine W.block ?_
    refine W.loop (ι := Nat) (fun (i : Nat) => (⟨[(1,.ptr 1 0),(4,.i ((i : Nat) : Int))],[(1,⟨26,.fix (cC c)⟩)],[1,999]⟩ : St))
     (fun (i : Nat) => (i ≤ c.marks.length) ∧ (∀ j,j < i → markOK c.marks j = true))
     (fun (i : Nat) => (c.marks.length - i : Nat)) (0) ?_ ?_ ?_
    ·exact (show (0 ≤ c.marks.length) ∧ (∀ j,j < 0 → markOK c.marks j = true) from ⟨(by first | assumption | omega | rfl | (intro _ hjj; omega) | (simp; done) | (simp; omega)),(by exact upto_zero)⟩)
    ·exact Sub.of [] (@cast (((((1 : Nat) = 1) ∧ ((0 : Nat) = 0) ∧ ((1 : Nat) ∈ ([1,999] : List Nat))) ∧ ((.int .i64 (0 : Int) : Value) = .int .i64 ((0 : Nat) : Int)) ∧ True) ∧ ((((26 : Nat) = 26) ∧ (Sc c) ∧ ((1 : Nat) ∈ ([1,999] : List Nat))) ∧ True) ∧ (true = true) ∧ (true = true)) _ (by kernel_rfl) ⟨⟨⟨rfl,rfl,(by decide)⟩,(congrArg (Value.int .i64) (by first | rfl | omega | assumption | simp | simp_all)),tt⟩,⟨⟨rfl,⟨rfl,rfl,rfl,rfl,rfl,rfl,tt⟩,(by decide)⟩,tt⟩,rfl,rfl⟩)
    ·rintro i hC0
     have hC : (i ≤ c.marks.length) ∧ (∀ j,j < i → markOK c.marks j = true) := hC0
     clear hC0
     obtain ⟨hi,hA⟩ := hC
     refine W.to (⟨[(1,.ptr 1 0),(4,.i ((i : Nat) : Int))],[(1,⟨26,.fix (cC c)⟩)],[1,999]⟩) rfl ?_
     refine W.seq ?_
     refine Kk cok tab32 hnt [] [1,4,73] (⟨[(1,.ptr 1 0),(4,.i ((i : Nat) : Int)),(73,.b (decide (((i : Nat) : Int) < (((List.length c.marks) : Nat) : Int))))],[(1,⟨26,.fix (cC c)⟩)],[1,999]⟩)
      (True ∧ True ∧ True ∧ True ∧ (True ∧ True ∧ True) ∧ True)
      ⟨tt,tt,tt,tt,⟨tt,tt,tt⟩,tt⟩ ?_
     refine W.ifP (((i : Nat) : Int) < (((List.length c.marks) : Nat) : Int)) (.b (decide (((i : Nat) : Int) < (((List.length c.marks) : Nat) : Int)))) (by kernel_rfl) rfl trivial ?_ ?_
     ·intro h73
      refine W.skip (thenQ_normal ?_)
      refine W.seq ?_
      refine W.block ?_
      refine Kk cok tab32 hnt [] [1,4,5] (⟨[(1,.ptr 1 0),(4,.i ((i : Nat) : Int)),(5,.ptr 5 0)],[(1,⟨26,.fix (cC c)⟩),(5,⟨33,.fix [.i ((List.getD c.marks i default).value),.i ((List.getD c.marks i default).proc),.i ((List.getD c.marks i default).number),.b ((List.getD c.marks i default).gone)]⟩)],[5,1,999]⟩)
       (True ∧ True ∧ True ∧ (True ∧ True ∧ (0 ≤ ((i : Nat) : Int)) ∧ (((i : Nat) : Int) < (((List.length c.marks) : Nat) : Int))) ∧ True ∧ True ∧ (True ∧ True) ∧ True)
       ⟨tt,tt,tt,⟨tt,tt,(by omega),(by omega)⟩,tt,tt,⟨tt,tt⟩,tt⟩ ?_
      refine W.KA cok tab32 hnt [] [1,4,111] (⟨[(1,.ptr 1 0),(4,.i ((i : Nat) : Int)),(111,.b ((((!(within ((List.getD c.marks i default).value) (0 : Int) (3 : Int))) || (!(within ((List.getD c.marks i default).proc) (0 : Int) (2 : Int)))) || (!(within ((List.getD c.marks i default).number) (1 : Int) (20 : Int)))) || ((decide ((0 : Int) < ((i : Nat) : Int))) && (!(lessM (List.getD c.marks (Int.toNat (((i : Nat) : Int) - (1 : Int))) default) (List.getD c.marks i default))))))],[(1,⟨26,.fix (cC c)⟩),(5,⟨33,.fix [.i ((List.getD c.marks i default).value),.i ((List.getD c.marks i default).proc),.i ((List.getD c.marks i default).number),.b ((List.getD c.marks i default).gone)]⟩)],[5,1,999]⟩)
       ((fun (Z1:Bool)=>((fun (Z2:Bool)=>((fun (Z3:Bool)=>((fun (Z4:Bool)=>((fun (Z5:Bool)=>((fun (Z6:Bool)=>(True ∧ (True ∧ ((True ∧ ((True ∧ (True ∧ (True ∧ True))) ∧ True)) ∧ (True ∧ (True ∧ (((!Z2) = true → True) ∧ (((!Z2) = true → (((!Z2) = true) ∧ True)) ∧ (((!Z2) = true → (True ∧ (((((!Z2) = true) ∧ True) ∧ (True ∧ (True ∧ True))) ∧ True))) ∧ (((!Z2) = true → (((!Z2) = true) ∧ True)) ∧ ((True ∧ ((Z2 = true → True) ∧ (Z2 = false → ((!Z2) = true) ∧ True))) ∧ (True ∧ (((!Z3) = true → True) ∧ (((!Z3) = true → (((!Z3) = true) ∧ True)) ∧ (((!Z3) = true → (True ∧ (((((!Z3) = true) ∧ True) ∧ (True ∧ (True ∧ True))) ∧ True))) ∧ (((!Z3) = true → (((!Z3) = true) ∧ True)) ∧ ((True ∧ ((Z3 = true → True) ∧ (Z3 = false → ((!Z3) = true) ∧ True))) ∧ (True ∧ ((Z5 = true → True) ∧ ((Z5 = true → (((Z5 = true) ∧ True) ∧ (True ∧ True))) ∧ ((Z5 = true → True) ∧ ((Z6 = true → True) ∧ ((Z6 = true → ((Z6 = true) ∧ True)) ∧ ((Z6 = true → True) ∧ ((Z6 = true → (((Z6 = true) ∧ True) ∧ (True ∧ (Fits .i64 (((i : Nat) : Int) - (1 : Int)))))) ∧ ((Z6 = true → (((Z6 = true) ∧ True) ∧ (((Z6 = true) ∧ True) ∧ ((0 ≤ (((i : Nat) : Int) - (1 : Int))) ∧ ((((i : Nat) : Int) - (1 : Int)) < (((List.length c.marks) : Nat) : Int)))))) ∧ ((Z6 = true → ((Z6 = true) ∧ True)) ∧ ((Z6 = true → True) ∧ ((Z6 = true → (True ∧ ((((Z6 = true) ∧ True) ∧ (((Z6 = true) ∧ True) ∧ True)) ∧ True))) ∧ ((Z6 = true → ((Z6 = true) ∧ True)) ∧ ((Z5 = true → (((Z5 = true) ∧ ((Z5 = true) ∧ True)) ∧ ((Z1 = true → (Z6 = true) ∧ True) ∧ (Z1 = false → True)))) ∧ ((True ∧ ((Z4 = true → True) ∧ (Z4 = false → (Z5 = true) ∧ True))) ∧ True)))))))))))))))))))))))))))))))) (Z5 && (Z5 && Z1)))) (!Z4))) (Z3 || (!(within ((List.getD c.marks i default).number) (1 : Int) (20 : Int)))))) (Z2 || (!(within ((List.getD c.marks i default).proc) (0 : Int) (2 : Int)))))) (!(within ((List.getD c.marks i default).value) (0 : Int) (3 : Int))))) (decide ((0 : Int) < ((i : Nat) : Int)))) (by kernel_rfl) (by kernel_rfl)
       ⟨tt,tt,⟨tt,⟨tt,tt,tt,tt⟩,tt⟩,tt,tt,(fun _ => trivial),(fun hG => ⟨hG,tt⟩),(fun hG => ⟨tt,⟨⟨hG,tt⟩,tt,tt,tt⟩,tt⟩),(fun hG => ⟨hG,tt⟩),⟨tt,(fun _ => trivial),(fun hp => ⟨(not_t hp),tt⟩)⟩,tt,(fun _ => trivial),(fun hG => ⟨hG,tt⟩),(fun hG => ⟨tt,⟨⟨hG,tt⟩,tt,tt,tt⟩,tt⟩),(fun hG => ⟨hG,tt⟩),⟨tt,(fun _ => trivial),(fun hp => ⟨(not_t hp),tt⟩)⟩,tt,(fun _ => trivial),(fun hG => ⟨⟨hG,tt⟩,tt,tt⟩),(fun _ => trivial),(fun _ => trivial),(fun hG => ⟨hG,tt⟩),(fun _ => trivial),(fun hG => ⟨⟨hG,tt⟩,tt,(by have hg0 : (0 : Int) < ((i : Nat) : Int) := of_decide_eq_true (and_r (and_r hG)); exact fits_i64 (by omega) (by omega))⟩),(fun hG => ⟨⟨hG,tt⟩,⟨hG,tt⟩,(by have hg0 : (0 : Int) < ((i : Nat) : Int) := of_decide_eq_true (and_r (and_r hG)); omega),(by have hg0 : (0 : Int) < ((i : Nat) : Int) := of_decide_eq_true (and_r (and_r hG)); omega)⟩),(fun hG => ⟨hG,tt⟩),(fun _ => trivial),(fun hG => ⟨tt,⟨⟨hG,tt⟩,⟨hG,tt⟩,tt⟩,tt⟩),(fun hG => ⟨hG,tt⟩),(fun hG => ⟨⟨hG,hG,tt⟩,(fun hp => ⟨(and_t hG (and_t hG hp)),tt⟩),(fun _ => trivial)⟩),⟨tt,(fun _ => trivial),(fun hp => ⟨(not_t hp),tt⟩)⟩,tt⟩ ?_
      refine W.if' ((((!(within ((List.getD c.marks i default).value) (0 : Int) (3 : Int))) || (!(within ((List.getD c.marks i default).proc) (0 : Int) (2 : Int)))) || (!(within ((List.getD c.marks i default).number) (1 : Int) (20 : Int)))) || ((decide ((0 : Int) < ((i : Nat) : Int))) && (!(lessM (List.getD c.marks (Int.toNat (((i : Nat) : Int) - (1 : Int))) default) (List.getD c.marks i default))))) (.b ((((!(within ((List.getD c.marks i default).value) (0 : Int) (3 : Int))) || (!(within ((List.getD c.marks i default).proc) (0 : Int) (2 : Int)))) || (!(within ((List.getD c.marks i default).number) (1 : Int) (20 : Int)))) || ((decide ((0 : Int) < ((i : Nat) : Int))) && (!(lessM (List.getD c.marks (Int.toNat (((i : Nat) : Int) - (1 : Int))) default) (List.getD c.marks i default)))))) (by kernel_rfl) rfl trivial ?_ ?_
      ·intro h111
       refine Kk cok tab32 hnt [] [2] (⟨[(2,.b false)],[(1,⟨26,.fix (cC c)⟩),(5,⟨33,.fix [.i ((List.getD c.marks i default).value),.i ((List.getD c.marks i default).proc),.i ((List.getD c.marks i default).number),.b ((List.getD c.marks i default).gone)]⟩)],[5,1,999]⟩)
        (True ∧ True)
        ⟨tt,tt⟩ ?_
       refine W.ret (blockQ_ret (thenQ_ret (thenQ_ret (blockQ_ret (thenQ_ret ?_)))))
       exact endQ_ret (.b false) (by kernel_rfl) (@cast ((.bool false : Value) = .bool (validCopy c)) _ (by kernel_rfl) (congrArg Value.bool (by rw [show ((i : Int) - 1).toNat = i - 1 by omega] at h111; exact (valid_marks (mark_bad (i := i) (by omega) (markS_no h111))).symm)))
      ·intro n111
       refine W.skip (blockQ_normal (thenQ_normal ?_))
       refine Lk cok tab32 hnt [] (⟨[(1,.ptr 1 0),(4,.i (((i + 1) : Nat) : Int)),(74,.i ((i : Nat) : Int)),(75,.i (((i + 1) : Nat) : Int)),(111,.b ((((!(within ((List.getD c.marks i default).value) (0 : Int) (3 : Int))) || (!(within ((List.getD c.marks i default).proc) (0 : Int) (2 : Int)))) || (!(within ((List.getD c.marks i default).number) (1 : Int) (20 : Int)))) || ((decide ((0 : Int) < ((i : Nat) : Int))) && (!(lessM (List.getD c.marks (Int.toNat (((i : Nat) : Int) - (1 : Int))) default) (List.getD c.marks i default))))))],[(1,⟨26,.fix (cC c)⟩),(5,⟨33,.fix [.i ((List.getD c.marks i default).value),.i ((List.getD c.marks i default).proc),.i ((List.getD c.marks i default).number),.b ((List.getD c.marks i default).gone)]⟩)],[5,1,999]⟩)
        (True ∧ (True ∧ True ∧ (Fits .i64 (((i + 1) : Nat) : Int))) ∧ True ∧ True)
        ⟨tt,⟨tt,tt,(by exact fits_i64 (by omega) (by omega))⟩,tt,tt⟩ ?_
       refine thenQ_normal ?_
       refine ⟨((i + 1)),(show ((i + 1) ≤ c.marks.length) ∧ (∀ j,j < (i + 1) → markOK c.marks j = true) from ⟨(by first | assumption | omega | rfl | (intro _ hjj; omega) | (simp; done) | (simp; omega)),(by rw [show ((i : Int) - 1).toNat = i - 1 by omega] at n111; exact upto_succ hA (markS_ok n111))⟩),(show c.marks.length - (i + 1) < c.marks.length - i from (by first | omega | (simp_all; omega))),?_⟩
       exact Sub.of [] (@cast (((((1 : Nat) = 1) ∧ ((0 : Nat) = 0) ∧ ((1 : Nat) ∈ ([1,999] : List Nat))) ∧ (Si (((i + 1) : Nat) : Int)) ∧ True) ∧ ((((26 : Nat) = 26) ∧ (Sc c) ∧ ((1 : Nat) ∈ ([1,999] : List Nat))) ∧ True) ∧ (true = true) ∧ (true = true)) _ (by kernel_rfl) ⟨⟨⟨rfl,rfl,(by decide)⟩,rfl,tt⟩,⟨⟨rfl,⟨rfl,rfl,rfl,rfl,rfl,rfl,tt⟩,(by decide)⟩,tt⟩,rfl,rfl⟩)
     ·intro n73
      refine W.exit (thenQ_exit (thenQ_exit (blockQ_hit ?_)))
      refine thenQ_normal ?_
      refine Kk cok tab32 hnt [] [2] (⟨[(2,.b (decide ((((List.length c.marks) : Nat) : Int) ≤ (20 : Int))))],[(1,⟨26,.fix (cC c)⟩)],[1,999]⟩)
       (True ∧ True ∧ True ∧ (True ∧ True ∧ True) ∧ True ∧ True)
       ⟨tt,tt,tt,⟨tt,tt,tt⟩,tt,tt⟩ ?_
      refine W.ret ?_
      exact endQ_ret (.b (decide ((((List.length c.marks) : Nat) : Int) ≤ (20 : Int)))) (by kernel_rfl) (@cast ((.bool (decide ((((List.length c.marks) : Nat) : Int) ≤ (20 : Int))) : Value) = .bool (validCopy c)) _ (by kernel_rfl) (congrArg Value.bool (by exact valid_spec (valid_spec2 n48).2.2 (counts_part (valid_spec2 n48).1 (fun j hj => hU j (by omega))) (counts_part (valid_spec2 n48).2.1 (fun j hj => hD j (by omega))) (allN_true (fun j hj => hA j (by omega))))))
theorem ent32 : Entr prog 32 := ⟨_,func32,rfl,by decide⟩
end Go.Proofs.Try

set_option linter.unusedSimpArgs false
set_option linter.unusedVariables false
namespace Go.Proofs.Try
open Go.Ab Go.RowKit
def fs33 : FnS := fnS [.a [some .ints,some .ints,none,none,none,some .marks]] [.copy] (fun _ (c,_) => (.agg [.own 0 (List.length c.up),.own 1 (List.length c.down),.i c.value,.i c.time,.i c.proc,.own 2 (List.length c.marks)],[(3,.ints c.up),(3,.ints c.down),(33,.marks c.marks)],(c.up.length ≤ 1000 ∧ c.down.length ≤ 1000 ∧ c.marks.length ≤ 1000)))
abbrev T33 : Tab := lk []
theorem tab33 : TabOK prog T33 := TabOK.nil
set_option maxRecDepth 100000 in
set_option maxHeartbeats 1000000 in
theorem ok33 : FnOK prog 33 fs33 := by
 refine FnOK.mk cok func33 rfl rfl rfl ?_
 rintro fl ⟨(c : CopyD),_⟩ hpre F hnt0 _
 have hnt : F.nt = 22 := hnt0.trans ntmps33
 replace hpre : (c.up.length ≤ 1000 ∧ c.down.length ≤ 1000 ∧ c.marks.length ≤ 1000) := hpre
 have hs := hpre
 refine W.to (⟨[(0,.agg (cC c))],[],[999]⟩) rfl ?_
 refine W.lenA 0 0 (cC c) (.ints c.up) (by kernel_rfl) (by kernel_rfl) ?_
 intro hl_c_up; replace hl_c_up : List.length c.up ≤ 9223372036854775807 := hl_c_up
 refine W.lenA 0 1 (cC c) (.ints c.down) (by kernel_rfl) (by kernel_rfl) ?_
 intro hl_c_down; replace hl_c_down : List.length c.down ≤ 9223372036854775807 := hl_c_down
 refine W.lenA 0 5 (cC c) (.marks c.marks) (by kernel_rfl) (by kernel_rfl) ?_
 intro hl_c_marks; replace hl_c_marks : List.length c.marks ≤ 9223372036854775807 := hl_c_marks
 refine Kk cok tab33 hnt [] [1,2] (⟨[(1,.ptr 1 0),(2,.ptr 2 0)],[(1,⟨26,.fix (cC c)⟩),(2,⟨26,.fix [.v (.slice none 0 0),.v (.slice none 0 0),.i (0 : Int),.i (0 : Int),.i (0 : Int),.v (.slice none 0 0)]⟩)],[2,1,999]⟩)
  (True ∧ True ∧ True)
  ⟨tt,tt,tt⟩ ?_
 refine W.KA cok tab33 hnt [3,6,7,10,17,20] [2] (⟨[(2,.ptr 2 0)],[(1,⟨26,.fix (cC c)⟩),(2,⟨26,.fix [.own 6 (List.length c.up),.own 10 (List.length c.down),.i c.value,.i c.time,.i c.proc,.own 20 (List.length c.marks)]⟩),(6,⟨3,.row (.ints c.up)⟩),(10,⟨3,.row (.ints c.down)⟩),(20,⟨33,.row (.marks c.marks)⟩)],[20,17,10,7,6,3,2,1,999]⟩)
  (True ∧ True ∧ True ∧ ((True ∧ ((List.length ([] : List Int)) = (List.length ([] : List Int)))) ∧ True ∧ (((List.length ([] : List Int)) + (List.length c.up)) * 8 ≤ 140737488355328)) ∧ True ∧ True ∧ True ∧ ((True ∧ ((List.length ([] : List Int)) = (List.length ([] : List Int)))) ∧ True ∧ (((List.length ([] : List Int)) + (List.length c.down)) * 8 ≤ 140737488355328)) ∧ True ∧ True ∧ True ∧ True ∧ True ∧ True ∧ True ∧ True ∧ True ∧ ((True ∧ ((List.length ([] : List MarkD)) = (List.length ([] : List MarkD)))) ∧ True ∧ (((List.length ([] : List MarkD)) + (List.length c.marks)) * 32 ≤ 140737488355328)) ∧ (True ∧ True ∧ True ∧ True ∧ True ∧ True ∧ True) ∧ (True ∧ True) ∧ True) (by kernel_rfl) (by kernel_rfl)
  ⟨tt,tt,tt,⟨⟨tt,rfl⟩,tt,(by (try simp only [List.length_append,List.length_cons,List.length_nil,List.length_set]); omega)⟩,tt,tt,tt,⟨⟨tt,rfl⟩,tt,(by (try simp only [List.length_append,List.length_cons,List.length_nil,List.length_set]); omega)⟩,tt,tt,tt,tt,tt,tt,tt,tt,tt,⟨⟨tt,rfl⟩,tt,(by (try simp only [List.length_append,List.length_cons,List.length_nil,List.length_set]); omega)⟩,⟨tt,tt,tt,tt,tt,tt,tt⟩,⟨tt,tt⟩,tt⟩ ?_
 refine W.ret ?_
 exact endQ_rows [(0,6),(1,10),(2,20)] (.agg [.own 6 (List.length c.up),.own 10 (List.length c.down),.i c.value,.i c.time,.i c.proc,.own 20 (List.length c.marks)]) (by kernel_rfl) (@cast ((((6 : Nat) = 6) ∧ ((List.length c.up) = (List.length c.up)) ∧ ((0 : Nat) ∈ ([0,1,2] : List Nat))) ∧ (((10 : Nat) = 10) ∧ ((List.length c.down) = (List.length c.down)) ∧ ((1 : Nat) ∈ ([0,1,2] : List Nat))) ∧ (Si c.value) ∧ (Si c.time) ∧ (Si c.proc) ∧ (((20 : Nat) = 20) ∧ ((List.length c.marks) = (List.length c.marks)) ∧ ((2 : Nat) ∈ ([0,1,2] : List Nat))) ∧ True) _ (by kernel_rfl) ⟨⟨rfl,rfl,(by decide)⟩,⟨rfl,rfl,(by decide)⟩,rfl,rfl,rfl,⟨rfl,rfl,(by decide)⟩,tt⟩) (@cast ((((3 : Nat) = 3) ∧ (Sd (.ints c.up)) ∧ ((0 : Nat) ∈ ([0,1,2] : List Nat))) ∧ (((3 : Nat) = 3) ∧ (Sd (.ints c.down)) ∧ ((1 : Nat) ∈ ([0,1,2] : List Nat))) ∧ (((33 : Nat) = 33) ∧ (Sd (.marks c.marks)) ∧ ((2 : Nat) ∈ ([0,1,2] : List Nat))) ∧ True) _ (by kernel_rfl) ⟨⟨rfl,rfl,(by decide)⟩,⟨rfl,rfl,(by decide)⟩,⟨rfl,rfl,(by decide)⟩,tt⟩) (by kernel_rfl)
theorem ent33 : Entr prog 33 := ⟨_,func33,rfl,by decide⟩
end Go.Proofs.Try

set_option linter.unusedSimpArgs false
set_option linter.unusedVariables false
namespace Go.Proofs.Try
open Go.Ab Go.RowKit
def fs44 : FnS := fnS [.a [some .ints,some .ints,none,none,none,some .marks],.o] [.copy,.int] (fun _ (c,p,_) => (.i (countC c p),[],True))
abbrev T44 : Tab := lk []
theorem tab44 : TabOK prog T44 := TabOK.nil
set_option maxRecDepth 100000 in
set_option maxHeartbeats 1000000 in
theorem ok44 : FnOK prog 44 fs44 := by
 refine FnOK.mk cok func44 rfl rfl rfl ?_
 rintro fl ⟨(c : CopyD),(p : Int),_⟩ hpre F hnt0 _
 have hnt : F.nt = 31 := hnt0.trans ntmps44
 clear hpre
 refine W.to (⟨[(0,.agg (cC c)),(1,.i p)],[],[999]⟩) rfl ?_
 refine W.lenA 0 0 (cC c) (.ints c.up) (by kernel_rfl) (by kernel_rfl) ?_
 intro hl_c_up; replace hl_c_up : List.length c.up ≤ 9223372036854775807 := hl_c_up
 refine W.lenA 0 1 (cC c) (.ints c.down) (by kernel_rfl) (by kernel_rfl) ?_
 intro hl_c_down; replace hl_c_down : List.length c.down ≤ 9223372036854775807 := hl_c_down
 refine W.lenA 0 5 (cC c) (.marks c.marks) (by kernel_rfl) (by kernel_rfl) ?_
 intro hl_c_marks; replace hl_c_marks : List.length c.marks ≤ 9223372036854775807 := hl_c_marks
 refine Kk cok tab44 hnt [] [1,2] (⟨[(1,.i p),(2,.ptr 2 0)],[(2,⟨26,.fix (cC c)⟩)],[2,999]⟩)
  (True ∧ True ∧ True)
  ⟨tt,tt,tt⟩ ?_
 refine Kk cok tab44 hnt [] [1,2,5] (⟨[(1,.i p),(2,.ptr 2 0),(5,.i (0 : Int))],[(2,⟨26,.fix (cC c)⟩)],[2,999]⟩)
  (True ∧ True)
  ⟨tt,tt⟩ ?_
 refine W.seq ?_
 refine Kk cok tab44 hnt [] [1,2,5,6] (⟨[(1,.i p),(2,.ptr 2 0),(5,.i (0 : Int)),(6,.i (0 : Int))],[(2,⟨26,.fix (cC c)⟩)],[2,999]⟩)
  (True ∧ True)
  ⟨tt,tt⟩ ?_
 refine W.block ?_
 refine W.loop (ι := Nat × Int) (fun (x : Nat × Int) => match x with | (i,x) => (⟨[(1,.i p),(2,.ptr 2 0),(5,.i x),(6,.i ((i : Nat) : Int))],[(2,⟨26,.fix (cC c)⟩)],[2,999]⟩ : St))
  (fun (x : Nat × Int) => match x with | (i,x) => (i ≤ c.marks.length) ∧ (x = countN c.marks p i))
  (fun (x : Nat × Int) => match x with | (i,x) => (c.marks.length - i : Nat)) (0,(0 : Int)) ?_ ?_ ?_
 ·exact (show (0 ≤ c.marks.length) ∧ ((0 : Int) = countN c.marks p 0) from ⟨(by first | assumption | omega | rfl | (intro _ hjj; omega) | (simp; done) | (simp; omega)),(by rfl)⟩)
 ·exact Sub.of [] (@cast (((Si p) ∧ (((2 : Nat) = 2) ∧ ((0 : Nat) = 0) ∧ ((2 : Nat) ∈ ([2,999] : List Nat))) ∧ (Si (0 : Int)) ∧ ((.int .i64 (0 : Int) : Value) = .int .i64 ((0 : Nat) : Int)) ∧ True) ∧ ((((26 : Nat) = 26) ∧ (Sc c) ∧ ((2 : Nat) ∈ ([2,999] : List Nat))) ∧ True) ∧ (true = true) ∧ (true = true)) _ (by kernel_rfl) ⟨⟨rfl,⟨rfl,rfl,(by decide)⟩,rfl,(congrArg (Value.int .i64) (by first | rfl | omega | assumption | simp | simp_all)),tt⟩,⟨⟨rfl,⟨rfl,rfl,rfl,rfl,rfl,rfl,tt⟩,(by decide)⟩,tt⟩,rfl,rfl⟩)
 ·rintro ⟨i,x⟩ hC0
  have hC : (i ≤ c.marks.length) ∧ (x = countN c.marks p i) := hC0
  clear hC0
  obtain ⟨hi,hx⟩ := hC
  refine W.to (⟨[(1,.i p),(2,.ptr 2 0),(5,.i x),(6,.i ((i : Nat) : Int))],[(2,⟨26,.fix (cC c)⟩)],[2,999]⟩) rfl ?_
  refine W.seq ?_
  refine Kk cok tab44 hnt [] [1,2,5,6,11] (⟨[(1,.i p),(2,.ptr 2 0),(5,.i x),(6,.i ((i : Nat) : Int)),(11,.b (decide (((i : Nat) : Int) < (((List.length c.marks) : Nat) : Int))))],[(2,⟨26,.fix (cC c)⟩)],[2,999]⟩)
   (True ∧ True ∧ True ∧ True ∧ (True ∧ True ∧ True) ∧ True)
   ⟨tt,tt,tt,tt,⟨tt,tt,tt⟩,tt⟩ ?_
  refine W.ifP (((i : Nat) : Int) < (((List.length c.marks) : Nat) : Int)) (.b (decide (((i : Nat) : Int) < (((List.length c.marks) : Nat) : Int)))) (by kernel_rfl) rfl trivial ?_ ?_
  ·intro h11
   refine W.skip (thenQ_normal ?_)
   refine W.seq ?_
   refine W.block ?_
   refine Kk cok tab44 hnt [] [1,2,5,6,21] (⟨[(1,.i p),(2,.ptr 2 0),(5,.i x),(6,.i ((i : Nat) : Int)),(21,.b (decide (((List.getD c.marks i default).proc) = p)))],[(2,⟨26,.fix (cC c)⟩)],[2,999]⟩)
    (True ∧ True ∧ True ∧ (True ∧ True ∧ (0 ≤ ((i : Nat) : Int)) ∧ (((i : Nat) : Int) < (((List.length c.marks) : Nat) : Int))) ∧ True ∧ True ∧ True ∧ (True ∧ True ∧ True) ∧ True)
    ⟨tt,tt,tt,⟨tt,tt,(by omega),(by omega)⟩,tt,tt,tt,⟨tt,tt,tt⟩,tt⟩ ?_
   refine W.ifP (((List.getD c.marks i default).proc) = p) (.b (decide (((List.getD c.marks i default).proc) = p))) (by kernel_rfl) rfl trivial ?_ ?_
   ·intro h21
    refine Lk cok tab44 hnt [] ((fun (Z1:Bool)=>(⟨[(1,.i p),(2,.ptr 2 0),(5,.i (max x ((List.getD c.marks i default).number))),(6,.i ((i : Nat) : Int)),(21,.b (decide (((List.getD c.marks i default).proc) = p))),(22,.i x),(23,.ptr 2 5),(24,.sl (.marks c.marks)),(25,.i ((i : Nat) : Int)),(26,.ep [.i ((List.getD c.marks i default).value),.i ((List.getD c.marks i default).proc),.i ((List.getD c.marks i default).number),.b Z1]),(27,.ep [.i ((List.getD c.marks i default).number),.b Z1]),(28,.i ((List.getD c.marks i default).number)),(29,.i (max x ((List.getD c.marks i default).number)))],[(2,⟨26,.fix (cC c)⟩)],[2,999]⟩:St)) ((List.getD c.marks i default).gone))
     (True ∧ True ∧ True ∧ True ∧ (True ∧ True ∧ (0 ≤ ((i : Nat) : Int)) ∧ (((i : Nat) : Int) < (((List.length c.marks) : Nat) : Int))) ∧ True ∧ True ∧ (True ∧ True) ∧ True ∧ True)
     ⟨tt,tt,tt,tt,⟨tt,tt,(by omega),(by omega)⟩,tt,tt,⟨tt,tt⟩,tt,tt⟩ ?_
    refine blockQ_normal (thenQ_normal ?_)
    refine Lk cok tab44 hnt [] ((fun (Z1:Bool)=>(⟨[(1,.i p),(2,.ptr 2 0),(5,.i (max x ((List.getD c.marks i default).number))),(6,.i (((i + 1) : Nat) : Int)),(12,.i ((i : Nat) : Int)),(13,.i (((i + 1) : Nat) : Int)),(21,.b (decide (((List.getD c.marks i default).proc) = p))),(22,.i x),(23,.ptr 2 5),(24,.sl (.marks c.marks)),(25,.i ((i : Nat) : Int)),(26,.ep [.i ((List.getD c.marks i default).value),.i ((List.getD c.marks i default).proc),.i ((List.getD c.marks i default).number),.b Z1]),(27,.ep [.i ((List.getD c.marks i default).number),.b Z1]),(28,.i ((List.getD c.marks i default).number)),(29,.i (max x ((List.getD c.marks i default).number)))],[(2,⟨26,.fix (cC c)⟩)],[2,999]⟩:St)) ((List.getD c.marks i default).gone))
     (True ∧ (True ∧ True ∧ (Fits .i64 (((i + 1) : Nat) : Int))) ∧ True ∧ True)
     ⟨tt,⟨tt,tt,(by exact fits_i64 (by omega) (by omega))⟩,tt,tt⟩ ?_
    refine thenQ_normal ?_
    refine ⟨((i + 1),(max x ((List.getD c.marks i default).number))),(show ((i + 1) ≤ c.marks.length) ∧ ((max x ((List.getD c.marks i default).number)) = countN c.marks p (i + 1)) from ⟨(by first | assumption | omega | rfl | (intro _ hjj; omega) | (simp; done) | (simp; omega)),(by first | exact count_yes hx h21 | exact count_no hx n21)⟩),(show c.marks.length - (i + 1) < c.marks.length - i from (by first | omega | (simp_all; omega))),?_⟩
    exact Sub.of [] (@cast (((Si p) ∧ (((2 : Nat) = 2) ∧ ((0 : Nat) = 0) ∧ ((2 : Nat) ∈ ([2,999] : List Nat))) ∧ (Si (max x ((List.getD c.marks i default).number))) ∧ (Si (((i + 1) : Nat) : Int)) ∧ True) ∧ ((((26 : Nat) = 26) ∧ (Sc c) ∧ ((2 : Nat) ∈ ([2,999] : List Nat))) ∧ True) ∧ (true = true) ∧ (true = true)) _ (by kernel_rfl) ⟨⟨rfl,⟨rfl,rfl,(by decide)⟩,rfl,rfl,tt⟩,⟨⟨rfl,⟨rfl,rfl,rfl,rfl,rfl,rfl,tt⟩,(by decide)⟩,tt⟩,rfl,rfl⟩)
   ·intro n21
    refine W.skip (blockQ_normal (thenQ_normal ?_))
    refine Lk cok tab44 hnt [] (⟨[(1,.i p),(2,.ptr 2 0),(5,.i x),(6,.i (((i + 1) : Nat) : Int)),(12,.i ((i : Nat) : Int)),(13,.i (((i + 1) : Nat) : Int)),(21,.b (decide (((List.getD c.marks i default).proc) = p)))],[(2,⟨26,.fix (cC c)⟩)],[2,999]⟩)
     (True ∧ (True ∧ True ∧ (Fits .i64 (((i + 1) : Nat) : Int))) ∧ True ∧ True)
     ⟨tt,⟨tt,tt,(by exact fits_i64 (by omega) (by omega))⟩,tt,tt⟩ ?_
    refine thenQ_normal ?_
    refine ⟨((i + 1),x),(show ((i + 1) ≤ c.marks.length) ∧ (x = countN c.marks p (i + 1)) from ⟨(by first | assumption | omega | rfl | (intro _ hjj; omega) | (simp; done) | (simp; omega)),(by first | exact count_yes hx h21 | exact count_no hx n21)⟩),(show c.marks.length - (i + 1) < c.marks.length - i from (by first | omega | (simp_all; omega))),?_⟩
    exact Sub.of [] (@cast (((Si p) ∧ (((2 : Nat) = 2) ∧ ((0 : Nat) = 0) ∧ ((2 : Nat) ∈ ([2,999] : List Nat))) ∧ (Si x) ∧ (Si (((i + 1) : Nat) : Int)) ∧ True) ∧ ((((26 : Nat) = 26) ∧ (Sc c) ∧ ((2 : Nat) ∈ ([2,999] : List Nat))) ∧ True) ∧ (true = true) ∧ (true = true)) _ (by kernel_rfl) ⟨⟨rfl,⟨rfl,rfl,(by decide)⟩,rfl,rfl,tt⟩,⟨⟨rfl,⟨rfl,rfl,rfl,rfl,rfl,rfl,tt⟩,(by decide)⟩,tt⟩,rfl,rfl⟩)
  ·intro n11
   refine W.exit (thenQ_exit (thenQ_exit (blockQ_hit ?_)))
   refine thenQ_normal ?_
   refine Kk cok tab44 hnt [] [4] (⟨[(4,.i x)],[(2,⟨26,.fix (cC c)⟩)],[2,999]⟩)
    (True ∧ True ∧ True)
    ⟨tt,tt,tt⟩ ?_
   refine W.ret ?_
   exact endQ_ret (.i x) (by kernel_rfl) (@cast ((.int .i64 x : Value) = .int .i64 (countC c p)) _ (by kernel_rfl) (congrArg (Value.int .i64) (by rw [hx,show i = c.marks.length by omega]; rfl)))
theorem ent44 : Entr prog 44 := ⟨_,func44,rfl,by decide⟩
end Go.Proofs.Try

set_option linter.unusedSimpArgs false
set_option linter.unusedVariables false
namespace Go.Proofs.Try
open Go.Ab Go.RowKit
def fs20 : FnS := fnS [.a [some .ints,some .ints,none,none,none,some .marks],.o,.o] [.copy,.int,.int] (fun _ (c,value,p,_) => (.tup [.agg (cC ((putIn c value p).1)),.b ((putIn c value p).2)],[],True))
abbrev T20 : Tab := lk [(32,fs32),(33,fs33),(43,fs43),(44,fs44),(45,fs45)]
theorem tab20 : TabOK prog T20 := (TabOK.cons ok32 ent32 (TabOK.cons ok33 ent33 (TabOK.cons ok43 ent43 (TabOK.cons ok44 ent44 (TabOK.cons ok45 ent45 TabOK.nil)))))
set_option maxRecDepth 100000 in
set_option maxHeartbeats 1000000 in
theorem ok20 : FnOK prog 20 fs20 := by
 refine FnOK.mk cok func20 rfl rfl rfl ?_
 rintro fl ⟨(c : CopyD),(value : Int),(p : Int),_⟩ hpre F hnt0 _
 have hnt : F.nt = 79 := hnt0.trans ntmps20
 clear hpre
 refine W.to (⟨[(0,.agg (cC c)),(1,.i value),(2,.i p)],[],[999]⟩) rfl ?_
 refine W.lenA 0 0 (cC c) (.ints c.up) (by kernel_rfl) (by kernel_rfl) ?_
 intro hl_c_up; replace hl_c_up : List.length c.up ≤ 9223372036854775807 := hl_c_up
 refine W.lenA 0 1 (cC c) (.ints c.down) (by kernel_rfl) (by kernel_rfl) ?_
 intro hl_c_down; replace hl_c_down : List.length c.down ≤ 9223372036854775807 := hl_c_down
 refine W.lenA 0 5 (cC c) (.marks c.marks) (by kernel_rfl) (by kernel_rfl) ?_
 intro hl_c_marks; replace hl_c_marks : List.length c.marks ≤ 9223372036854775807 := hl_c_marks
 refine Kk cok tab20 hnt [] [1,2,3,6] (⟨[(1,.i value),(2,.i p),(3,.ptr 3 0),(6,.ptr 6 0)],[(3,⟨26,.fix (cC c)⟩),(6,⟨26,.fix [.v (.slice none 0 0),.v (.slice none 0 0),.i (0 : Int),.i (0 : Int),.i (0 : Int),.v (.slice none 0 0)]⟩)],[6,3,999]⟩)
  (True ∧ True ∧ True ∧ True)
  ⟨tt,tt,tt,tt⟩ ?_
 refine W.seq ?_
 refine Kk cok tab20 hnt [] [1,2,3,6,19] (⟨[(1,.i value),(2,.i p),(3,.ptr 3 0),(6,.ptr 6 0),(19,.b ((!(validCopy c)) || (!(within p (0 : Int) (2 : Int)))))],[(3,⟨26,.fix (cC c)⟩),(6,⟨26,.fix [.v (.slice none 0 0),.v (.slice none 0 0),.i (0 : Int),.i (0 : Int),.i (0 : Int),.v (.slice none 0 0)]⟩)],[6,3,999]⟩)
  ((fun (Z1:Bool)=>(True ∧ ((True ∧ (((True ∧ (True ∧ (True ∧ (True ∧ (True ∧ (True ∧ (True ∧ True))))))) ∧ True) ∧ True)) ∧ (True ∧ (True ∧ (((!Z1) = true → True) ∧ (((!Z1) = true → (True ∧ (((((!Z1) = true) ∧ True) ∧ (True ∧ (True ∧ True))) ∧ True))) ∧ (((!Z1) = true → (((!Z1) = true) ∧ True)) ∧ ((True ∧ ((Z1 = true → True) ∧ (Z1 = false → ((!Z1) = true) ∧ True))) ∧ True))))))))) (!(validCopy c)))
  ⟨tt,⟨tt,⟨⟨tt,tt,tt,tt,tt,tt,tt,tt⟩,tt⟩,tt⟩,tt,tt,(fun _ => trivial),(fun hG => ⟨tt,⟨⟨hG,tt⟩,tt,tt,tt⟩,tt⟩),(fun hG => ⟨hG,tt⟩),⟨tt,(fun _ => trivial),(fun hp => ⟨(not_t hp),tt⟩)⟩,tt⟩ ?_
 refine W.if' ((!(validCopy c)) || (!(within p (0 : Int) (2 : Int)))) (.b ((!(validCopy c)) || (!(within p (0 : Int) (2 : Int))))) (by kernel_rfl) rfl trivial ?_ ?_
 ·intro h19
  refine Kk cok tab20 hnt [] [6,7] (⟨[(6,.ptr 6 0),(7,.b false)],[(3,⟨26,.fix (cC c)⟩),(6,⟨26,.fix [.v (.slice none 0 0),.v (.slice none 0 0),.i (0 : Int),.i (0 : Int),.i (0 : Int),.v (.slice none 0 0)]⟩)],[6,3,999]⟩)
   (True ∧ (True ∧ True) ∧ True ∧ True)
   ⟨tt,⟨tt,tt⟩,tt,tt⟩ ?_
  refine W.ret (thenQ_ret ?_)
  exact endQ_ret (.tup [.agg [.v (.slice none 0 0),.v (.slice none 0 0),.i (0 : Int),.i (0 : Int),.i (0 : Int),.v (.slice none 0 0)],.b false]) (by kernel_rfl) (@cast (((((Value.slice none 0 0 : Value) = .slice none 0 0) ∧ ((Dat.ints ((putIn c value p).1.up)).len = 0)) ∧ (((Value.slice none 0 0 : Value) = .slice none 0 0) ∧ ((Dat.ints ((putIn c value p).1.down)).len = 0)) ∧ ((.int .i64 (0 : Int) : Value) = .int .i64 ((putIn c value p).1.value)) ∧ ((.int .i64 (0 : Int) : Value) = .int .i64 ((putIn c value p).1.time)) ∧ ((.int .i64 (0 : Int) : Value) = .int .i64 ((putIn c value p).1.proc)) ∧ (((Value.slice none 0 0 : Value) = .slice none 0 0) ∧ ((Dat.marks ((putIn c value p).1.marks)).len = 0)) ∧ True) ∧ ((.bool false : Value) = .bool ((putIn c value p).2)) ∧ True) _ (by kernel_rfl) ⟨⟨⟨rfl,(by show List.length ((putIn c value p).1.up) = 0; rw [putIn_no (gen_bad1 h19)]; try rfl)⟩,⟨rfl,(by show List.length ((putIn c value p).1.down) = 0; rw [putIn_no (gen_bad1 h19)]; try rfl)⟩,(congrArg (Value.int .i64) (by rw [putIn_no (gen_bad1 h19)]; try rfl)),(congrArg (Value.int .i64) (by rw [putIn_no (gen_bad1 h19)]; try rfl)),(congrArg (Value.int .i64) (by rw [putIn_no (gen_bad1 h19)]; try rfl)),⟨rfl,(by show List.length ((putIn c value p).1.marks) = 0; rw [putIn_no (gen_bad1 h19)]; try rfl)⟩,tt⟩,(congrArg Value.bool (by rw [putIn_no (gen_bad1 h19)]; try rfl)),tt⟩)
 ·intro n19
  have hg : putGood c p = true := gen_ok1 n19
  have hf := put_facts hg
  refine W.skip (thenQ_normal ?_)
  refine Kk cok tab20 hnt [] [1,2,3,6,8] (⟨[(1,.i value),(2,.i p),(3,.ptr 3 0),(6,.ptr 6 0),(8,.ptr 8 0)],[(3,⟨26,.fix (cC c)⟩),(6,⟨26,.fix [.v (.slice none 0 0),.v (.slice none 0 0),.i (0 : Int),.i (0 : Int),.i (0 : Int),.v (.slice none 0 0)]⟩),(8,⟨26,.fix [.own 22 (List.length c.up),.own 1022 (List.length c.down),.i c.value,.i c.time,.i c.proc,.own 2022 (List.length c.marks)]⟩),(22,⟨3,.row (.ints c.up)⟩),(1022,⟨3,.row (.ints c.down)⟩),(2022,⟨33,.row (.marks c.marks)⟩)],[8,2022,1022,22,6,3,999]⟩)
   (True ∧ (True ∧ ((True ∧ True ∧ True ∧ True ∧ True ∧ True ∧ True ∧ True) ∧ True) ∧ c.up.length ≤ 1000 ∧ c.down.length ≤ 1000 ∧ c.marks.length ≤ 1000) ∧ True ∧ (True ∧ True) ∧ True)
   ⟨tt,⟨tt,⟨⟨tt,tt,tt,tt,tt,tt,tt,tt⟩,tt⟩,(by omega)⟩,tt,⟨tt,tt⟩,tt⟩ ?_
  refine Kk cok tab20 hnt [] [3,6,8,9] (⟨[(3,.ptr 3 0),(6,.ptr 6 0),(8,.ptr 8 0),(9,.ptr 9 0)],[(3,⟨26,.fix (cC c)⟩),(6,⟨26,.fix [.v (.slice none 0 0),.v (.slice none 0 0),.i (0 : Int),.i (0 : Int),.i (0 : Int),.v (.slice none 0 0)]⟩),(8,⟨26,.fix [.own 22 (List.length c.up),.own 1022 (List.length c.down),.i c.value,.i c.time,.i c.proc,.own 2022 (List.length c.marks)]⟩),(9,⟨33,.fix [.i value,.i p,.i ((countC c p) + (1 : Int)),.b false]⟩),(22,⟨3,.row (.ints c.up)⟩),(1022,⟨3,.row (.ints c.down)⟩),(2022,⟨33,.row (.marks c.marks)⟩)],[9,8,2022,1022,22,6,3,999]⟩)
   (True ∧ True ∧ True ∧ True ∧ (True ∧ ((True ∧ True ∧ True ∧ True ∧ True ∧ True ∧ True ∧ True) ∧ True ∧ True) ∧ True) ∧ (True ∧ True ∧ (Fits .i64 ((countC c p) + (1 : Int)))) ∧ (True ∧ True ∧ True ∧ True) ∧ True ∧ (True ∧ True) ∧ True)
   ⟨tt,tt,tt,tt,⟨tt,⟨⟨tt,tt,tt,tt,tt,tt,tt,tt⟩,tt,tt⟩,tt⟩,⟨tt,tt,(by exact fits_i64 (by omega) (by omega))⟩,⟨tt,tt,tt,tt⟩,tt,⟨tt,tt⟩,tt⟩ ?_
  refine Kk cok tab20 hnt [30] [3,6,8,9] (⟨[(3,.ptr 3 0),(6,.ptr 6 0),(8,.ptr 8 0),(9,.ptr 9 0)],[(3,⟨26,.fix (cC c)⟩),(6,⟨26,.fix [.v (.slice none 0 0),.v (.slice none 0 0),.i (0 : Int),.i (0 : Int),.i (0 : Int),.v (.slice none 0 0)]⟩),(8,⟨26,.fix [.own 22 (List.length c.up),.own 1022 (List.length c.down),.i c.value,.i c.time,.i c.proc,.own 30 (List.length ([] : List MarkD))]⟩),(9,⟨33,.fix [.i value,.i p,.i ((countC c p) + (1 : Int)),.b false]⟩),(22,⟨3,.row (.ints c.up)⟩),(30,⟨33,.row (.marks ([] : List MarkD))⟩),(1022,⟨3,.row (.ints c.down)⟩),(2022,⟨33,.row (.marks c.marks)⟩)],[30,9,8,2022,1022,22,6,3,999]⟩)
   (True ∧ True ∧ (True ∧ True) ∧ True)
   ⟨tt,tt,⟨tt,tt⟩,tt⟩ ?_
  refine Kk cok tab20 hnt [] [3,6,8,9,10] (⟨[(3,.ptr 3 0),(6,.ptr 6 0),(8,.ptr 8 0),(9,.ptr 9 0),(10,.b false)],[(3,⟨26,.fix (cC c)⟩),(6,⟨26,.fix [.v (.slice none 0 0),.v (.slice none 0 0),.i (0 : Int),.i (0 : Int),.i (0 : Int),.v (.slice none 0 0)]⟩),(8,⟨26,.fix [.own 22 (List.length c.up),.own 1022 (List.length c.down),.i c.value,.i c.time,.i c.proc,.own 30 (List.length ([] : List MarkD))]⟩),(9,⟨33,.fix [.i value,.i p,.i ((countC c p) + (1 : Int)),.b false]⟩),(22,⟨3,.row (.ints c.up)⟩),(30,⟨33,.row (.marks ([] : List MarkD))⟩),(1022,⟨3,.row (.ints c.down)⟩),(2022,⟨33,.row (.marks c.marks)⟩)],[30,9,8,2022,1022,22,6,3,999]⟩)
   (True ∧ True)
   ⟨tt,tt⟩ ?_
  refine W.seq ?_
  refine Kk cok tab20 hnt [] [3,6,8,9,10,11] (⟨[(3,.ptr 3 0),(6,.ptr 6 0),(8,.ptr 8 0),(9,.ptr 9 0),(10,.b false),(11,.i (0 : Int))],[(3,⟨26,.fix (cC c)⟩),(6,⟨26,.fix [.v (.slice none 0 0),.v (.slice none 0 0),.i (0 : Int),.i (0 : Int),.i (0 : Int),.v (.slice none 0 0)]⟩),(8,⟨26,.fix [.own 22 (List.length c.up),.own 1022 (List.length c.down),.i c.value,.i c.time,.i c.proc,.own 30 (List.length ([] : List MarkD))]⟩),(9,⟨33,.fix [.i value,.i p,.i ((countC c p) + (1 : Int)),.b false]⟩),(22,⟨3,.row (.ints c.up)⟩),(30,⟨33,.row (.marks ([] : List MarkD))⟩),(1022,⟨3,.row (.ints c.down)⟩),(2022,⟨33,.row (.marks c.marks)⟩)],[30,9,8,2022,1022,22,6,3,999]⟩)
   (True ∧ True)
   ⟨tt,tt⟩ ?_
  refine W.block ?_
  refine W.loop (ι := Nat × Bool × (List MarkD)) (fun (x : Nat × Bool × (List MarkD)) => match x with | (i,put,ms) => (⟨[(3,.ptr 3 0),(6,.ptr 6 0),(8,.ptr 8 0),(9,.ptr 9 0),(10,.b put),(11,.i ((i : Nat) : Int))],[(3,⟨26,.fix (cC c)⟩),(6,⟨26,.fix [.v (.slice none 0 0),.v (.slice none 0 0),.i (0 : Int),.i (0 : Int),.i (0 : Int),.v (.slice none 0 0)]⟩),(8,⟨26,.fix [.own 22 (List.length c.up),.own 1022 (List.length c.down),.i c.value,.i c.time,.i c.proc,.own 30 ms.length]⟩),(9,⟨33,.fix [.i value,.i p,.i ((countC c p) + (1 : Int)),.b false]⟩),(22,⟨3,.row (.ints c.up)⟩),(30,⟨33,.row (.marks ms)⟩),(1022,⟨3,.row (.ints c.down)⟩)],[3,6,8,9,22,30,999,1022]⟩ : St))
   (fun (x : Nat × Bool × (List MarkD)) => match x with | (i,put,ms) => (i ≤ c.marks.length) ∧ (putUp (⟨value,p,countC c p + 1,false⟩ : MarkD) c.marks i put ms))
   (fun (x : Nat × Bool × (List MarkD)) => match x with | (i,put,ms) => (c.marks.length - i : Nat)) (0,false,([] : List MarkD)) ?_ ?_ ?_
  ·exact (show (0 ≤ c.marks.length) ∧ (putUp (⟨value,p,countC c p + 1,false⟩ : MarkD) c.marks 0 false ([] : List MarkD)) from ⟨(by first | assumption | omega | rfl | (intro _ hjj; omega) | (simp; done) | (simp; omega)),(by exact putUp_zero _ _)⟩)
  ·exact Sub.of [] (@cast (((((3 : Nat) = 3) ∧ ((0 : Nat) = 0) ∧ ((3 : Nat) ∈ ([3,6,8,9,22,30,999,1022] : List Nat))) ∧ (((6 : Nat) = 6) ∧ ((0 : Nat) = 0) ∧ ((6 : Nat) ∈ ([3,6,8,9,22,30,999,1022] : List Nat))) ∧ (((8 : Nat) = 8) ∧ ((0 : Nat) = 0) ∧ ((8 : Nat) ∈ ([3,6,8,9,22,30,999,1022] : List Nat))) ∧ (((9 : Nat) = 9) ∧ ((0 : Nat) = 0) ∧ ((9 : Nat) ∈ ([3,6,8,9,22,30,999,1022] : List Nat))) ∧ (Sv (.bool false)) ∧ ((.int .i64 (0 : Int) : Value) = .int .i64 ((0 : Nat) : Int)) ∧ True) ∧ ((((26 : Nat) = 26) ∧ (Sc c) ∧ ((3 : Nat) ∈ ([3,6,8,9,22,30,999,1022] : List Nat))) ∧ (((26 : Nat) = 26) ∧ ((((.slice none 0 0) : Value) = (.slice none 0 0)) ∧ (((.slice none 0 0) : Value) = (.slice none 0 0)) ∧ (Si (0 : Int)) ∧ (Si (0 : Int)) ∧ (Si (0 : Int)) ∧ (((.slice none 0 0) : Value) = (.slice none 0 0)) ∧ True) ∧ ((6 : Nat) ∈ ([3,6,8,9,22,30,999,1022] : List Nat))) ∧ (((26 : Nat) = 26) ∧ ((((22 : Nat) = 22) ∧ ((List.length c.up) = (List.length c.up)) ∧ ((22 : Nat) ∈ ([3,6,8,9,22,30,999,1022] : List Nat))) ∧ (((1022 : Nat) = 1022) ∧ ((List.length c.down) = (List.length c.down)) ∧ ((1022 : Nat) ∈ ([3,6,8,9,22,30,999,1022] : List Nat))) ∧ (Si c.value) ∧ (Si c.time) ∧ (Si c.proc) ∧ (((30 : Nat) = 30) ∧ ((List.length ([] : List MarkD)) = (List.length ([] : List MarkD))) ∧ ((30 : Nat) ∈ ([3,6,8,9,22,30,999,1022] : List Nat))) ∧ True) ∧ ((8 : Nat) ∈ ([3,6,8,9,22,30,999,1022] : List Nat))) ∧ (((33 : Nat) = 33) ∧ ((Si value) ∧ (Si p) ∧ (Si ((countC c p) + (1 : Int))) ∧ (Sv (.bool false)) ∧ True) ∧ ((9 : Nat) ∈ ([3,6,8,9,22,30,999,1022] : List Nat))) ∧ (((3 : Nat) = 3) ∧ (Sd (.ints c.up)) ∧ ((22 : Nat) ∈ ([3,6,8,9,22,30,999,1022] : List Nat))) ∧ (((33 : Nat) = 33) ∧ (Sd (.marks ([] : List MarkD))) ∧ ((30 : Nat) ∈ ([3,6,8,9,22,30,999,1022] : List Nat))) ∧ (((3 : Nat) = 3) ∧ (Sd (.ints c.down)) ∧ ((1022 : Nat) ∈ ([3,6,8,9,22,30,999,1022] : List Nat))) ∧ True) ∧ (true = true) ∧ (true = true)) _ (by kernel_rfl) ⟨⟨⟨rfl,rfl,(by decide)⟩,⟨rfl,rfl,(by decide)⟩,⟨rfl,rfl,(by decide)⟩,⟨rfl,rfl,(by decide)⟩,rfl,(congrArg (Value.int .i64) (by first | rfl | omega | assumption | simp | simp_all)),tt⟩,⟨⟨rfl,⟨rfl,rfl,rfl,rfl,rfl,rfl,tt⟩,(by decide)⟩,⟨rfl,⟨rfl,rfl,rfl,rfl,rfl,rfl,tt⟩,(by decide)⟩,⟨rfl,⟨⟨rfl,rfl,(by decide)⟩,⟨rfl,rfl,(by decide)⟩,rfl,rfl,rfl,⟨rfl,rfl,(by decide)⟩,tt⟩,(by decide)⟩,⟨rfl,⟨rfl,rfl,rfl,rfl,tt⟩,(by decide)⟩,⟨rfl,rfl,(by decide)⟩,⟨rfl,rfl,(by decide)⟩,⟨rfl,rfl,(by decide)⟩,tt⟩,rfl,rfl⟩)
  ·rintro ⟨i,put,ms⟩ hC0
   have hC : (i ≤ c.marks.length) ∧ (putUp (⟨value,p,countC c p + 1,false⟩ : MarkD) c.marks i put ms) := hC0
   clear hC0
   obtain ⟨hi,hm⟩ := hC
   refine W.to (⟨[(3,.ptr 3 0),(6,.ptr 6 0),(8,.ptr 8 0),(9,.ptr 9 0),(10,.b put),(11,.i ((i : Nat) : Int))],[(3,⟨26,.fix (cC c)⟩),(6,⟨26,.fix [.v (.slice none 0 0),.v (.slice none 0 0),.i (0 : Int),.i (0 : Int),.i (0 : Int),.v (.slice none 0 0)]⟩),(8,⟨26,.fix [.own 22 (List.length c.up),.own 1022 (List.length c.down),.i c.value,.i c.time,.i c.proc,.own 30 ms.length]⟩),(9,⟨33,.fix [.i value,.i p,.i ((countC c p) + (1 : Int)),.b false]⟩),(22,⟨3,.row (.ints c.up)⟩),(30,⟨33,.row (.marks ms)⟩),(1022,⟨3,.row (.ints c.down)⟩)],[3,6,8,9,22,30,999,1022]⟩) rfl ?_
   have hml := putUp_len hm
   refine W.seq ?_
   refine Kk cok tab20 hnt [] [3,6,8,9,10,11,36] (⟨[(3,.ptr 3 0),(6,.ptr 6 0),(8,.ptr 8 0),(9,.ptr 9 0),(10,.b put),(11,.i ((i : Nat) : Int)),(36,.b (decide (((i : Nat) : Int) < (((List.length c.marks) : Nat) : Int))))],[(3,⟨26,.fix (cC c)⟩),(6,⟨26,.fix [.v (.slice none 0 0),.v (.slice none 0 0),.i (0 : Int),.i (0 : Int),.i (0 : Int),.v (.slice none 0 0)]⟩),(8,⟨26,.fix [.own 22 (List.length c.up),.own 1022 (List.length c.down),.i c.value,.i c.time,.i c.proc,.own 30 ms.length]⟩),(9,⟨33,.fix [.i value,.i p,.i ((countC c p) + (1 : Int)),.b false]⟩),(22,⟨3,.row (.ints c.up)⟩),(30,⟨33,.row (.marks ms)⟩),(1022,⟨3,.row (.ints c.down)⟩)],[3,6,8,9,22,30,999,1022]⟩)
    (True ∧ True ∧ True ∧ True ∧ (True ∧ True ∧ True) ∧ True)
    ⟨tt,tt,tt,tt,⟨tt,tt,tt⟩,tt⟩ ?_
   refine W.ifP (((i : Nat) : Int) < (((List.length c.marks) : Nat) : Int)) (.b (decide (((i : Nat) : Int) < (((List.length c.marks) : Nat) : Int)))) (by kernel_rfl) rfl trivial ?_ ?_
   ·intro h36
    refine W.skip (thenQ_normal ?_)
    refine W.seq ?_
    refine W.block ?_
    refine W.seq ?_
    refine W.KA cok tab20 hnt [] [3,6,8,9,10,11,49] (⟨[(3,.ptr 3 0),(6,.ptr 6 0),(8,.ptr 8 0),(9,.ptr 9 0),(10,.b put),(11,.i ((i : Nat) : Int)),(49,.b ((!put) && (lessM (⟨value,p,((countC c p) + (1 : Int)),false⟩ : MarkD) (List.getD c.marks i default))))],[(3,⟨26,.fix (cC c)⟩),(6,⟨26,.fix [.v (.slice none 0 0),.v (.slice none 0 0),.i (0 : Int),.i (0 : Int),.i (0 : Int),.v (.slice none 0 0)]⟩),(8,⟨26,.fix [.own 22 (List.length c.up),.own 1022 (List.length c.down),.i c.value,.i c.time,.i c.proc,.own 30 ms.length]⟩),(9,⟨33,.fix [.i value,.i p,.i ((countC c p) + (1 : Int)),.b false]⟩),(22,⟨3,.row (.ints c.up)⟩),(30,⟨33,.row (.marks ms)⟩),(1022,⟨3,.row (.ints c.down)⟩)],[3,6,8,9,22,30,999,1022]⟩)
     ((fun (Z1:Bool)=>(True ∧ (True ∧ (True ∧ ((Z1 = true → True) ∧ ((Z1 = true → True) ∧ ((Z1 = true → ((Z1 = true) ∧ True)) ∧ ((Z1 = true → True) ∧ ((Z1 = true → (((Z1 = true) ∧ True) ∧ (((Z1 = true) ∧ True) ∧ ((0 ≤ ((i : Nat) : Int)) ∧ (((i : Nat) : Int) < (((List.length c.marks) : Nat) : Int)))))) ∧ ((Z1 = true → ((Z1 = true) ∧ True)) ∧ ((Z1 = true → (True ∧ ((((Z1 = true) ∧ True) ∧ (((Z1 = true) ∧ True) ∧ True)) ∧ True))) ∧ ((True ∧ ((Z1 = true → (Z1 = true) ∧ True) ∧ (Z1 = false → True))) ∧ True)))))))))))) (!put)) (by kernel_rfl) (by kernel_rfl)
     ⟨tt,tt,tt,(fun _ => trivial),(fun _ => trivial),(fun hG => ⟨hG,tt⟩),(fun _ => trivial),(fun hG => ⟨⟨hG,tt⟩,⟨hG,tt⟩,(by omega),(by omega)⟩),(fun hG => ⟨hG,tt⟩),(fun hG => ⟨tt,⟨⟨hG,tt⟩,⟨hG,tt⟩,tt⟩,tt⟩),⟨tt,(fun hp => ⟨hp,tt⟩),(fun _ => trivial)⟩,tt⟩ ?_
    refine W.if' ((!put) && (lessM (⟨value,p,((countC c p) + (1 : Int)),false⟩ : MarkD) (List.getD c.marks i default))) (.b ((!put) && (lessM (⟨value,p,((countC c p) + (1 : Int)),false⟩ : MarkD) (List.getD c.marks i default)))) (by kernel_rfl) rfl trivial ?_ ?_
    ·intro h49
     refine Kk cok tab20 hnt [54] [3,6,8,9,11] (⟨[(3,.ptr 3 0),(6,.ptr 6 0),(8,.ptr 8 0),(9,.ptr 9 0),(11,.i ((i : Nat) : Int))],[(3,⟨26,.fix (cC c)⟩),(6,⟨26,.fix [.v (.slice none 0 0),.v (.slice none 0 0),.i (0 : Int),.i (0 : Int),.i (0 : Int),.v (.slice none 0 0)]⟩),(8,⟨26,.fix [.own 22 (List.length c.up),.own 1022 (List.length c.down),.i c.value,.i c.time,.i c.proc,.own 54 (List.length (ms ++ ([(⟨value,p,((countC c p) + (1 : Int)),false⟩ : MarkD)])))]⟩),(9,⟨33,.fix [.i value,.i p,.i ((countC c p) + (1 : Int)),.b false]⟩),(22,⟨3,.row (.ints c.up)⟩),(54,⟨33,.row (.marks (ms ++ ([(⟨value,p,((countC c p) + (1 : Int)),false⟩ : MarkD)])))⟩),(1022,⟨3,.row (.ints c.down)⟩)],[54,53,3,6,8,9,22,30,999,1022]⟩)
      (True ∧ True ∧ True ∧ (True ∧ True) ∧ ((True ∧ (ms.length = ms.length)) ∧ True ∧ ((ms.length + (List.length ([(⟨value,p,((countC c p) + (1 : Int)),false⟩ : MarkD)]))) * 32 ≤ 140737488355328)) ∧ True ∧ (True ∧ True) ∧ True)
      ⟨tt,tt,tt,⟨tt,tt⟩,⟨⟨tt,rfl⟩,tt,(by (try simp only [List.length_append,List.length_cons,List.length_nil,List.length_set]); omega)⟩,tt,⟨tt,tt⟩,tt⟩ ?_
     refine Lk cok tab20 hnt [] (⟨[(3,.ptr 3 0),(6,.ptr 6 0),(8,.ptr 8 0),(9,.ptr 9 0),(10,.b true),(11,.i ((i : Nat) : Int))],[(3,⟨26,.fix (cC c)⟩),(6,⟨26,.fix [.v (.slice none 0 0),.v (.slice none 0 0),.i (0 : Int),.i (0 : Int),.i (0 : Int),.v (.slice none 0 0)]⟩),(8,⟨26,.fix [.own 22 (List.length c.up),.own 1022 (List.length c.down),.i c.value,.i c.time,.i c.proc,.own 54 (List.length (ms ++ ([(⟨value,p,((countC c p) + (1 : Int)),false⟩ : MarkD)])))]⟩),(9,⟨33,.fix [.i value,.i p,.i ((countC c p) + (1 : Int)),.b false]⟩),(22,⟨3,.row (.ints c.up)⟩),(54,⟨33,.row (.marks (ms ++ ([(⟨value,p,((countC c p) + (1 : Int)),false⟩ : MarkD)])))⟩),(1022,⟨3,.row (.ints c.down)⟩)],[54,53,3,6,8,9,22,30,999,1022]⟩)
      (True ∧ True)
      ⟨tt,tt⟩ ?_
     refine thenQ_normal ?_
     refine W.LA cok tab20 hnt [64] ((fun (Z1:Bool)=>(⟨[(3,.ptr 3 0),(6,.ptr 6 0),(8,.ptr 8 0),(9,.ptr 9 0),(10,.b true),(11,.i ((i : Nat) : Int)),(56,.ptr 8 5),(57,.own 54 (List.length (ms ++ ([(⟨value,p,((countC c p) + (1 : Int)),false⟩ : MarkD)])))),(58,.ptr 3 5),(59,.sl (.marks c.marks)),(60,.i ((i : Nat) : Int)),(61,.ep [.i ((List.getD c.marks i default).value),.i ((List.getD c.marks i default).proc),.i ((List.getD c.marks i default).number),.b Z1]),(62,.agg [.i ((List.getD c.marks i default).value),.i ((List.getD c.marks i default).proc),.i ((List.getD c.marks i default).number),.b Z1]),(63,.sl (.marks ([(List.getD c.marks i default)]))),(64,.own 64 (List.length ((ms ++ ([(⟨value,p,((countC c p) + (1 : Int)),false⟩ : MarkD)])) ++ ([(List.getD c.marks i default)])))),(65,.ptr 8 5)],[(3,⟨26,.fix (cC c)⟩),(6,⟨26,.fix [.v (.slice none 0 0),.v (.slice none 0 0),.i (0 : Int),.i (0 : Int),.i (0 : Int),.v (.slice none 0 0)]⟩),(8,⟨26,.fix [.own 22 (List.length c.up),.own 1022 (List.length c.down),.i c.value,.i c.time,.i c.proc,.own 64 (List.length ((ms ++ ([(⟨value,p,((countC c p) + (1 : Int)),false⟩ : MarkD)])) ++ ([(List.getD c.marks i default)])))]⟩),(9,⟨33,.fix [.i value,.i p,.i ((countC c p) + (1 : Int)),.b false]⟩),(22,⟨3,.row (.ints c.up)⟩),(64,⟨33,.row (.marks ((ms ++ ([(⟨value,p,((countC c p) + (1 : Int)),false⟩ : MarkD)])) ++ ([(List.getD c.marks i default)])))⟩),(1022,⟨3,.row (.ints c.down)⟩)],[64,63,54,53,3,6,8,9,22,30,999,1022]⟩:St)) ((List.getD c.marks i default).gone))
      (True ∧ True ∧ True ∧ True ∧ True ∧ (True ∧ True ∧ (0 ≤ ((i : Nat) : Int)) ∧ (((i : Nat) : Int) < (((List.length c.marks) : Nat) : Int))) ∧ True ∧ (True ∧ True) ∧ ((True ∧ ((List.length (ms ++ ([(⟨value,p,((countC c p) + (1 : Int)),false⟩ : MarkD)]))) = (List.length (ms ++ ([(⟨value,p,((countC c p) + (1 : Int)),false⟩ : MarkD)]))))) ∧ True ∧ (((List.length (ms ++ ([(⟨value,p,((countC c p) + (1 : Int)),false⟩ : MarkD)]))) + (List.length ([(List.getD c.marks i default)]))) * 32 ≤ 140737488355328)) ∧ True ∧ (True ∧ True) ∧ True) (by kernel_rfl) (by kernel_rfl)
      ⟨tt,tt,tt,tt,tt,⟨tt,tt,(by omega),(by omega)⟩,tt,⟨tt,tt⟩,⟨⟨tt,rfl⟩,tt,(by (try simp only [List.length_append,List.length_cons,List.length_nil,List.length_set]); omega)⟩,tt,⟨tt,tt⟩,tt⟩ ?_
     refine blockQ_normal (thenQ_normal ?_)
     refine Lk cok tab20 hnt [] ((fun (Z1:Bool)=>(⟨[(3,.ptr 3 0),(6,.ptr 6 0),(8,.ptr 8 0),(9,.ptr 9 0),(10,.b true),(11,.i (((i + 1) : Nat) : Int)),(37,.i ((i : Nat) : Int)),(38,.i (((i + 1) : Nat) : Int)),(56,.ptr 8 5),(57,.own 54 (List.length (ms ++ ([(⟨value,p,((countC c p) + (1 : Int)),false⟩ : MarkD)])))),(58,.ptr 3 5),(59,.sl (.marks c.marks)),(60,.i ((i : Nat) : Int)),(61,.ep [.i ((List.getD c.marks i default).value),.i ((List.getD c.marks i default).proc),.i ((List.getD c.marks i default).number),.b Z1]),(62,.agg [.i ((List.getD c.marks i default).value),.i ((List.getD c.marks i default).proc),.i ((List.getD c.marks i default).number),.b Z1]),(63,.sl (.marks ([(List.getD c.marks i default)]))),(64,.own 64 (List.length ((ms ++ ([(⟨value,p,((countC c p) + (1 : Int)),false⟩ : MarkD)])) ++ ([(List.getD c.marks i default)])))),(65,.ptr 8 5)],[(3,⟨26,.fix (cC c)⟩),(6,⟨26,.fix [.v (.slice none 0 0),.v (.slice none 0 0),.i (0 : Int),.i (0 : Int),.i (0 : Int),.v (.slice none 0 0)]⟩),(8,⟨26,.fix [.own 22 (List.length c.up),.own 1022 (List.length c.down),.i c.value,.i c.time,.i c.proc,.own 64 (List.length ((ms ++ ([(⟨value,p,((countC c p) + (1 : Int)),false⟩ : MarkD)])) ++ ([(List.getD c.marks i default)])))]⟩),(9,⟨33,.fix [.i value,.i p,.i ((countC c p) + (1 : Int)),.b false]⟩),(22,⟨3,.row (.ints c.up)⟩),(64,⟨33,.row (.marks ((ms ++ ([(⟨value,p,((countC c p) + (1 : Int)),false⟩ : MarkD)])) ++ ([(List.getD c.marks i default)])))⟩),(1022,⟨3,.row (.ints c.down)⟩)],[64,63,54,53,3,6,8,9,22,30,999,1022]⟩:St)) ((List.getD c.marks i default).gone))
      (True ∧ (True ∧ True ∧ (Fits .i64 (((i + 1) : Nat) : Int))) ∧ True ∧ True)
      ⟨tt,⟨tt,tt,(by exact fits_i64 (by omega) (by omega))⟩,tt,tt⟩ ?_
     refine thenQ_normal ?_
     refine ⟨((i + 1),true,((ms ++ ([(⟨value,p,((countC c p) + (1 : Int)),false⟩ : MarkD)])) ++ ([(List.getD c.marks i default)]))),(show ((i + 1) ≤ c.marks.length) ∧ (putUp (⟨value,p,countC c p + 1,false⟩ : MarkD) c.marks (i + 1) true ((ms ++ ([(⟨value,p,((countC c p) + (1 : Int)),false⟩ : MarkD)])) ++ ([(List.getD c.marks i default)]))) from ⟨(by first | assumption | omega | rfl | (intro _ hjj; omega) | (simp; done) | (simp; omega)),(by first | exact putUp_in hm (by omega) h49 | exact putUp_by hm (by omega) n49)⟩),(show c.marks.length - (i + 1) < c.marks.length - i from (by first | omega | (simp_all; omega))),?_⟩
     exact Sub.of [(30,64)] (@cast (((((3 : Nat) = 3) ∧ ((0 : Nat) = 0) ∧ ((3 : Nat) ∈ ([3,6,8,9,22,30,999,1022] : List Nat))) ∧ (((6 : Nat) = 6) ∧ ((0 : Nat) = 0) ∧ ((6 : Nat) ∈ ([3,6,8,9,22,30,999,1022] : List Nat))) ∧ (((8 : Nat) = 8) ∧ ((0 : Nat) = 0) ∧ ((8 : Nat) ∈ ([3,6,8,9,22,30,999,1022] : List Nat))) ∧ (((9 : Nat) = 9) ∧ ((0 : Nat) = 0) ∧ ((9 : Nat) ∈ ([3,6,8,9,22,30,999,1022] : List Nat))) ∧ (Sv (.bool true)) ∧ (Si (((i + 1) : Nat) : Int)) ∧ True) ∧ ((((26 : Nat) = 26) ∧ (Sc c) ∧ ((3 : Nat) ∈ ([3,6,8,9,22,30,999,1022] : List Nat))) ∧ (((26 : Nat) = 26) ∧ ((((.slice none 0 0) : Value) = (.slice none 0 0)) ∧ (((.slice none 0 0) : Value) = (.slice none 0 0)) ∧ (Si (0 : Int)) ∧ (Si (0 : Int)) ∧ (Si (0 : Int)) ∧ (((.slice none 0 0) : Value) = (.slice none 0 0)) ∧ True) ∧ ((6 : Nat) ∈ ([3,6,8,9,22,30,999,1022] : List Nat))) ∧ (((26 : Nat) = 26) ∧ ((((22 : Nat) = 22) ∧ ((List.length c.up) = (List.length c.up)) ∧ ((22 : Nat) ∈ ([3,6,8,9,22,30,999,1022] : List Nat))) ∧ (((1022 : Nat) = 1022) ∧ ((List.length c.down) = (List.length c.down)) ∧ ((1022 : Nat) ∈ ([3,6,8,9,22,30,999,1022] : List Nat))) ∧ (Si c.value) ∧ (Si c.time) ∧ (Si c.proc) ∧ (((64 : Nat) = 64) ∧ ((List.length ((ms ++ ([(⟨value,p,((countC c p) + (1 : Int)),false⟩ : MarkD)])) ++ ([(List.getD c.marks i default)]))) = (List.length ((ms ++ ([(⟨value,p,((countC c p) + (1 : Int)),false⟩ : MarkD)])) ++ ([(List.getD c.marks i default)])))) ∧ ((30 : Nat) ∈ ([3,6,8,9,22,30,999,1022] : List Nat))) ∧ True) ∧ ((8 : Nat) ∈ ([3,6,8,9,22,30,999,1022] : List Nat))) ∧ (((33 : Nat) = 33) ∧ ((Si value) ∧ (Si p) ∧ (Si ((countC c p) + (1 : Int))) ∧ (Sv (.bool false)) ∧ True) ∧ ((9 : Nat) ∈ ([3,6,8,9,22,30,999,1022] : List Nat))) ∧ (((3 : Nat) = 3) ∧ (Sd (.ints c.up)) ∧ ((22 : Nat) ∈ ([3,6,8,9,22,30,999,1022] : List Nat))) ∧ (((33 : Nat) = 33) ∧ (Sd (.marks ((ms ++ ([(⟨value,p,((countC c p) + (1 : Int)),false⟩ : MarkD)])) ++ ([(List.getD c.marks i default)])))) ∧ ((30 : Nat) ∈ ([3,6,8,9,22,30,999,1022] : List Nat))) ∧ (((3 : Nat) = 3) ∧ (Sd (.ints c.down)) ∧ ((1022 : Nat) ∈ ([3,6,8,9,22,30,999,1022] : List Nat))) ∧ True) ∧ (true = true) ∧ (true = true)) _ (by kernel_rfl) ⟨⟨⟨rfl,rfl,(by decide)⟩,⟨rfl,rfl,(by decide)⟩,⟨rfl,rfl,(by decide)⟩,⟨rfl,rfl,(by decide)⟩,rfl,rfl,tt⟩,⟨⟨rfl,⟨rfl,rfl,rfl,rfl,rfl,rfl,tt⟩,(by decide)⟩,⟨rfl,⟨rfl,rfl,rfl,rfl,rfl,rfl,tt⟩,(by decide)⟩,⟨rfl,⟨⟨rfl,rfl,(by decide)⟩,⟨rfl,rfl,(by decide)⟩,rfl,rfl,rfl,⟨rfl,rfl,(by decide)⟩,tt⟩,(by decide)⟩,⟨rfl,⟨rfl,rfl,rfl,rfl,tt⟩,(by decide)⟩,⟨rfl,rfl,(by decide)⟩,⟨rfl,rfl,(by decide)⟩,⟨rfl,rfl,(by decide)⟩,tt⟩,rfl,rfl⟩)
    ·intro n49
     refine W.skip (thenQ_normal ?_)
     refine W.LA cok tab20 hnt [64] ((fun (Z1:Bool)=>(⟨[(3,.ptr 3 0),(6,.ptr 6 0),(8,.ptr 8 0),(9,.ptr 9 0),(10,.b put),(11,.i ((i : Nat) : Int)),(49,.b ((!put) && (lessM (⟨value,p,((countC c p) + (1 : Int)),false⟩ : MarkD) (List.getD c.marks i default)))),(56,.ptr 8 5),(57,.own 30 ms.length),(58,.ptr 3 5),(59,.sl (.marks c.marks)),(60,.i ((i : Nat) : Int)),(61,.ep [.i ((List.getD c.marks i default).value),.i ((List.getD c.marks i default).proc),.i ((List.getD c.marks i default).number),.b Z1]),(62,.agg [.i ((List.getD c.marks i default).value),.i ((List.getD c.marks i default).proc),.i ((List.getD c.marks i default).number),.b Z1]),(63,.sl (.marks ([(List.getD c.marks i default)]))),(64,.own 64 (List.length (ms ++ ([(List.getD c.marks i default)])))),(65,.ptr 8 5)],[(3,⟨26,.fix (cC c)⟩),(6,⟨26,.fix [.v (.slice none 0 0),.v (.slice none 0 0),.i (0 : Int),.i (0 : Int),.i (0 : Int),.v (.slice none 0 0)]⟩),(8,⟨26,.fix [.own 22 (List.length c.up),.own 1022 (List.length c.down),.i c.value,.i c.time,.i c.proc,.own 64 (List.length (ms ++ ([(List.getD c.marks i default)])))]⟩),(9,⟨33,.fix [.i value,.i p,.i ((countC c p) + (1 : Int)),.b false]⟩),(22,⟨3,.row (.ints c.up)⟩),(64,⟨33,.row (.marks (ms ++ ([(List.getD c.marks i default)])))⟩),(1022,⟨3,.row (.ints c.down)⟩)],[64,63,3,6,8,9,22,30,999,1022]⟩:St)) ((List.getD c.marks i default).gone))
      (True ∧ True ∧ True ∧ True ∧ True ∧ (True ∧ True ∧ (0 ≤ ((i : Nat) : Int)) ∧ (((i : Nat) : Int) < (((List.length c.marks) : Nat) : Int))) ∧ True ∧ (True ∧ True) ∧ ((True ∧ (ms.length = ms.length)) ∧ True ∧ ((ms.length + (List.length ([(List.getD c.marks i default)]))) * 32 ≤ 140737488355328)) ∧ True ∧ (True ∧ True) ∧ True) (by kernel_rfl) (by kernel_rfl)
      ⟨tt,tt,tt,tt,tt,⟨tt,tt,(by omega),(by omega)⟩,tt,⟨tt,tt⟩,⟨⟨tt,rfl⟩,tt,(by (try simp only [List.length_append,List.length_cons,List.length_nil,List.length_set]); omega)⟩,tt,⟨tt,tt⟩,tt⟩ ?_
     refine blockQ_normal (thenQ_normal ?_)
     refine Lk cok tab20 hnt [] ((fun (Z1:Bool)=>(⟨[(3,.ptr 3 0),(6,.ptr 6 0),(8,.ptr 8 0),(9,.ptr 9 0),(10,.b put),(11,.i (((i + 1) : Nat) : Int)),(37,.i ((i : Nat) : Int)),(38,.i (((i + 1) : Nat) : Int)),(49,.b ((!put) && (lessM (⟨value,p,((countC c p) + (1 : Int)),false⟩ : MarkD) (List.getD c.marks i default)))),(56,.ptr 8 5),(57,.own 30 ms.length),(58,.ptr 3 5),(59,.sl (.marks c.marks)),(60,.i ((i : Nat) : Int)),(61,.ep [.i ((List.getD c.marks i default).value),.i ((List.getD c.marks i default).proc),.i ((List.getD c.marks i default).number),.b Z1]),(62,.agg [.i ((List.getD c.marks i default).value),.i ((List.getD c.marks i default).proc),.i ((List.getD c.marks i default).number),.b Z1]),(63,.sl (.marks ([(List.getD c.marks i default)]))),(64,.own 64 (List.length (ms ++ ([(List.getD c.marks i default)])))),(65,.ptr 8 5)],[(3,⟨26,.fix (cC c)⟩),(6,⟨26,.fix [.v (.slice none 0 0),.v (.slice none 0 0),.i (0 : Int),.i (0 : Int),.i (0 : Int),.v (.slice none 0 0)]⟩),(8,⟨26,.fix [.own 22 (List.length c.up),.own 1022 (List.length c.down),.i c.value,.i c.time,.i c.proc,.own 64 (List.length (ms ++ ([(List.getD c.marks i default)])))]⟩),(9,⟨33,.fix [.i value,.i p,.i ((countC c p) + (1 : Int)),.b false]⟩),(22,⟨3,.row (.ints c.up)⟩),(64,⟨33,.row (.marks (ms ++ ([(List.getD c.marks i default)])))⟩),(1022,⟨3,.row (.ints c.down)⟩)],[64,63,3,6,8,9,22,30,999,1022]⟩:St)) ((List.getD c.marks i default).gone))
      (True ∧ (True ∧ True ∧ (Fits .i64 (((i + 1) : Nat) : Int))) ∧ True ∧ True)
      ⟨tt,⟨tt,tt,(by exact fits_i64 (by omega) (by omega))⟩,tt,tt⟩ ?_
     refine thenQ_normal ?_
     refine ⟨((i + 1),put,(ms ++ ([(List.getD c.marks i default)]))),(show ((i + 1) ≤ c.marks.length) ∧ (putUp (⟨value,p,countC c p + 1,false⟩ : MarkD) c.marks (i + 1) put (ms ++ ([(List.getD c.marks i default)]))) from ⟨(by first | assumption | omega | rfl | (intro _ hjj; omega) | (simp; done) | (simp; omega)),(by first | exact putUp_in hm (by omega) h49 | exact putUp_by hm (by omega) n49)⟩),(show c.marks.length - (i + 1) < c.marks.length - i from (by first | omega | (simp_all; omega))),?_⟩
     exact Sub.of [(30,64)] (@cast (((((3 : Nat) = 3) ∧ ((0 : Nat) = 0) ∧ ((3 : Nat) ∈ ([3,6,8,9,22,30,999,1022] : List Nat))) ∧ (((6 : Nat) = 6) ∧ ((0 : Nat) = 0) ∧ ((6 : Nat) ∈ ([3,6,8,9,22,30,999,1022] : List Nat))) ∧ (((8 : Nat) = 8) ∧ ((0 : Nat) = 0) ∧ ((8 : Nat) ∈ ([3,6,8,9,22,30,999,1022] : List Nat))) ∧ (((9 : Nat) = 9) ∧ ((0 : Nat) = 0) ∧ ((9 : Nat) ∈ ([3,6,8,9,22,30,999,1022] : List Nat))) ∧ (Sv (.bool put)) ∧ (Si (((i + 1) : Nat) : Int)) ∧ True) ∧ ((((26 : Nat) = 26) ∧ (Sc c) ∧ ((3 : Nat) ∈ ([3,6,8,9,22,30,999,1022] : List Nat))) ∧ (((26 : Nat) = 26) ∧ ((((.slice none 0 0) : Value) = (.slice none 0 0)) ∧ (((.slice none 0 0) : Value) = (.slice none 0 0)) ∧ (Si (0 : Int)) ∧ (Si (0 : Int)) ∧ (Si (0 : Int)) ∧ (((.slice none 0 0) : Value) = (.slice none 0 0)) ∧ True) ∧ ((6 : Nat) ∈ ([3,6,8,9,22,30,999,1022] : List Nat))) ∧ (((26 : Nat) = 26) ∧ ((((22 : Nat) = 22) ∧ ((List.length c.up) = (List.length c.up)) ∧ ((22 : Nat) ∈ ([3,6,8,9,22,30,999,1022] : List Nat))) ∧ (((1022 : Nat) = 1022) ∧ ((List.length c.down) = (List.length c.down)) ∧ ((1022 : Nat) ∈ ([3,6,8,9,22,30,999,1022] : List Nat))) ∧ (Si c.value) ∧ (Si c.time) ∧ (Si c.proc) ∧ (((64 : Nat) = 64) ∧ ((List.length (ms ++ ([(List.getD c.marks i default)]))) = (List.length (ms ++ ([(List.getD c.marks i default)])))) ∧ ((30 : Nat) ∈ ([3,6,8,9,22,30,999,1022] : List Nat))) ∧ True) ∧ ((8 : Nat) ∈ ([3,6,8,9,22,30,999,1022] : List Nat))) ∧ (((33 : Nat) = 33) ∧ ((Si value) ∧ (Si p) ∧ (Si ((countC c p) + (1 : Int))) ∧ (Sv (.bool false)) ∧ True) ∧ ((9 : Nat) ∈ ([3,6,8,9,22,30,999,1022] : List Nat))) ∧ (((3 : Nat) = 3) ∧ (Sd (.ints c.up)) ∧ ((22 : Nat) ∈ ([3,6,8,9,22,30,999,1022] : List Nat))) ∧ (((33 : Nat) = 33) ∧ (Sd (.marks (ms ++ ([(List.getD c.marks i default)])))) ∧ ((30 : Nat) ∈ ([3,6,8,9,22,30,999,1022] : List Nat))) ∧ (((3 : Nat) = 3) ∧ (Sd (.ints c.down)) ∧ ((1022 : Nat) ∈ ([3,6,8,9,22,30,999,1022] : List Nat))) ∧ True) ∧ (true = true) ∧ (true = true)) _ (by kernel_rfl) ⟨⟨⟨rfl,rfl,(by decide)⟩,⟨rfl,rfl,(by decide)⟩,⟨rfl,rfl,(by decide)⟩,⟨rfl,rfl,(by decide)⟩,rfl,rfl,tt⟩,⟨⟨rfl,⟨rfl,rfl,rfl,rfl,rfl,rfl,tt⟩,(by decide)⟩,⟨rfl,⟨rfl,rfl,rfl,rfl,rfl,rfl,tt⟩,(by decide)⟩,⟨rfl,⟨⟨rfl,rfl,(by decide)⟩,⟨rfl,rfl,(by decide)⟩,rfl,rfl,rfl,⟨rfl,rfl,(by decide)⟩,tt⟩,(by decide)⟩,⟨rfl,⟨rfl,rfl,rfl,rfl,tt⟩,(by decide)⟩,⟨rfl,rfl,(by decide)⟩,⟨rfl,rfl,(by decide)⟩,⟨rfl,rfl,(by decide)⟩,tt⟩,rfl,rfl⟩)
   ·intro n36
    refine W.exit (thenQ_exit (thenQ_exit (blockQ_hit ?_)))
    refine thenQ_normal ?_
    refine W.seq ?_
    refine Kk cok tab20 hnt [] [6,8,9,67] (⟨[(6,.ptr 6 0),(8,.ptr 8 0),(9,.ptr 9 0),(67,.b (!put))],[(3,⟨26,.fix (cC c)⟩),(6,⟨26,.fix [.v (.slice none 0 0),.v (.slice none 0 0),.i (0 : Int),.i (0 : Int),.i (0 : Int),.v (.slice none 0 0)]⟩),(8,⟨26,.fix [.own 22 (List.length c.up),.own 1022 (List.length c.down),.i c.value,.i c.time,.i c.proc,.own 30 ms.length]⟩),(9,⟨33,.fix [.i value,.i p,.i ((countC c p) + (1 : Int)),.b false]⟩),(22,⟨3,.row (.ints c.up)⟩),(30,⟨33,.row (.marks ms)⟩),(1022,⟨3,.row (.ints c.down)⟩)],[3,6,8,9,22,30,999,1022]⟩)
     (True ∧ True ∧ True)
     ⟨tt,tt,tt⟩ ?_
    refine W.if' (!put) (.b (!put)) (by kernel_rfl) rfl trivial ?_ ?_
    ·intro h67
     have hms : ms ++ [(⟨value,p,countC c p + 1,false⟩ : MarkD)] = putM (⟨value,p,countC c p + 1,false⟩ : MarkD) c.marks := (putUp_end hm (by omega)).2 (not_g2 h67)
     refine Lk cok tab20 hnt [72] (⟨[(6,.ptr 6 0),(8,.ptr 8 0),(9,.ptr 9 0),(67,.b (!put)),(68,.ptr 8 5),(69,.own 30 ms.length),(70,.agg [.i value,.i p,.i ((countC c p) + (1 : Int)),.b false]),(71,.sl (.marks ([(⟨value,p,((countC c p) + (1 : Int)),false⟩ : MarkD)]))),(72,.own 72 (List.length (ms ++ ([(⟨value,p,((countC c p) + (1 : Int)),false⟩ : MarkD)])))),(73,.ptr 8 5)],[(3,⟨26,.fix (cC c)⟩),(6,⟨26,.fix [.v (.slice none 0 0),.v (.slice none 0 0),.i (0 : Int),.i (0 : Int),.i (0 : Int),.v (.slice none 0 0)]⟩),(8,⟨26,.fix [.own 22 (List.length c.up),.own 1022 (List.length c.down),.i c.value,.i c.time,.i c.proc,.own 72 (List.length (ms ++ ([(⟨value,p,((countC c p) + (1 : Int)),false⟩ : MarkD)])))]⟩),(9,⟨33,.fix [.i value,.i p,.i ((countC c p) + (1 : Int)),.b false]⟩),(22,⟨3,.row (.ints c.up)⟩),(72,⟨33,.row (.marks (ms ++ ([(⟨value,p,((countC c p) + (1 : Int)),false⟩ : MarkD)])))⟩),(1022,⟨3,.row (.ints c.down)⟩)],[72,71,3,6,8,9,22,30,999,1022]⟩)
      (True ∧ True ∧ True ∧ (True ∧ True) ∧ ((True ∧ (ms.length = ms.length)) ∧ True ∧ ((ms.length + (List.length ([(⟨value,p,((countC c p) + (1 : Int)),false⟩ : MarkD)]))) * 32 ≤ 140737488355328)) ∧ True ∧ (True ∧ True) ∧ True)
      ⟨tt,tt,tt,⟨tt,tt⟩,⟨⟨tt,rfl⟩,tt,(by (try simp only [List.length_append,List.length_cons,List.length_nil,List.length_set]); omega)⟩,tt,⟨tt,tt⟩,tt⟩ ?_
     refine thenQ_normal ?_
     refine W.seq ?_
     refine Kk cok tab20 hnt [] [6,8,76] (⟨[(6,.ptr 6 0),(8,.ptr 8 0),(76,.b (!(validCopy ⟨c.up,c.down,c.value,c.time,c.proc,ms ++ ([(⟨value,p,((countC c p) + (1 : Int)),false⟩ : MarkD)])⟩)))],[(3,⟨26,.fix (cC c)⟩),(6,⟨26,.fix [.v (.slice none 0 0),.v (.slice none 0 0),.i (0 : Int),.i (0 : Int),.i (0 : Int),.v (.slice none 0 0)]⟩),(8,⟨26,.fix [.own 22 (List.length c.up),.own 1022 (List.length c.down),.i c.value,.i c.time,.i c.proc,.own 72 (List.length (ms ++ ([(⟨value,p,((countC c p) + (1 : Int)),false⟩ : MarkD)])))]⟩),(9,⟨33,.fix [.i value,.i p,.i ((countC c p) + (1 : Int)),.b false]⟩),(22,⟨3,.row (.ints c.up)⟩),(72,⟨33,.row (.marks (ms ++ ([(⟨value,p,((countC c p) + (1 : Int)),false⟩ : MarkD)])))⟩),(1022,⟨3,.row (.ints c.down)⟩)],[72,71,3,6,8,9,22,30,999,1022]⟩)
      (True ∧ (True ∧ ((True ∧ (True ∧ ((List.length c.up) = (List.length c.up))) ∧ (True ∧ ((List.length c.down) = (List.length c.down))) ∧ True ∧ True ∧ True ∧ (True ∧ ((List.length (ms ++ ([(⟨value,p,((countC c p) + (1 : Int)),false⟩ : MarkD)]))) = (List.length (ms ++ ([(⟨value,p,((countC c p) + (1 : Int)),false⟩ : MarkD)]))))) ∧ True) ∧ True) ∧ True) ∧ True ∧ True)
      ⟨tt,⟨tt,⟨⟨tt,⟨tt,rfl⟩,⟨tt,rfl⟩,tt,tt,tt,⟨tt,rfl⟩,tt⟩,tt⟩,tt⟩,tt,tt⟩ ?_
     refine W.if' (!(validCopy ⟨c.up,c.down,c.value,c.time,c.proc,ms ++ ([(⟨value,p,((countC c p) + (1 : Int)),false⟩ : MarkD)])⟩)) (.b (!(validCopy ⟨c.up,c.down,c.value,c.time,c.proc,ms ++ ([(⟨value,p,((countC c p) + (1 : Int)),false⟩ : MarkD)])⟩))) (by kernel_rfl) rfl trivial ?_ ?_
     ·intro h76
      refine Kk cok tab20 hnt [] [6,7] (⟨[(6,.ptr 6 0),(7,.b false)],[(3,⟨26,.fix (cC c)⟩),(6,⟨26,.fix [.v (.slice none 0 0),.v (.slice none 0 0),.i (0 : Int),.i (0 : Int),.i (0 : Int),.v (.slice none 0 0)]⟩),(8,⟨26,.fix [.own 22 (List.length c.up),.own 1022 (List.length c.down),.i c.value,.i c.time,.i c.proc,.own 72 (List.length (ms ++ ([(⟨value,p,((countC c p) + (1 : Int)),false⟩ : MarkD)])))]⟩),(9,⟨33,.fix [.i value,.i p,.i ((countC c p) + (1 : Int)),.b false]⟩),(22,⟨3,.row (.ints c.up)⟩),(72,⟨33,.row (.marks (ms ++ ([(⟨value,p,((countC c p) + (1 : Int)),false⟩ : MarkD)])))⟩),(1022,⟨3,.row (.ints c.down)⟩)],[72,71,3,6,8,9,22,30,999,1022]⟩)
       (True ∧ (True ∧ True) ∧ True ∧ True)
       ⟨tt,⟨tt,tt⟩,tt,tt⟩ ?_
      refine W.ret (thenQ_ret ?_)
      exact endQ_ret (.tup [.agg [.v (.slice none 0 0),.v (.slice none 0 0),.i (0 : Int),.i (0 : Int),.i (0 : Int),.v (.slice none 0 0)],.b false]) (by kernel_rfl) (@cast (((((Value.slice none 0 0 : Value) = .slice none 0 0) ∧ ((Dat.ints ((putIn c value p).1.up)).len = 0)) ∧ (((Value.slice none 0 0 : Value) = .slice none 0 0) ∧ ((Dat.ints ((putIn c value p).1.down)).len = 0)) ∧ ((.int .i64 (0 : Int) : Value) = .int .i64 ((putIn c value p).1.value)) ∧ ((.int .i64 (0 : Int) : Value) = .int .i64 ((putIn c value p).1.time)) ∧ ((.int .i64 (0 : Int) : Value) = .int .i64 ((putIn c value p).1.proc)) ∧ (((Value.slice none 0 0 : Value) = .slice none 0 0) ∧ ((Dat.marks ((putIn c value p).1.marks)).len = 0)) ∧ True) ∧ ((.bool false : Value) = .bool ((putIn c value p).2)) ∧ True) _ (by kernel_rfl) ⟨⟨⟨rfl,(by show List.length ((putIn c value p).1.up) = 0; first | (rw [putIn_bad hg (by show validCopy ⟨c.up,c.down,c.value,c.time,c.proc,putM _ c.marks⟩ = false; rw [← hms]; exact not_f h76)] <;> rfl))⟩,⟨rfl,(by show List.length ((putIn c value p).1.down) = 0; first | (rw [putIn_bad hg (by show validCopy ⟨c.up,c.down,c.value,c.time,c.proc,putM _ c.marks⟩ = false; rw [← hms]; exact not_f h76)] <;> rfl))⟩,(congrArg (Value.int .i64) (by first | (rw [putIn_bad hg (by show validCopy ⟨c.up,c.down,c.value,c.time,c.proc,putM _ c.marks⟩ = false; rw [← hms]; exact not_f h76)] <;> rfl))),(congrArg (Value.int .i64) (by first | (rw [putIn_bad hg (by show validCopy ⟨c.up,c.down,c.value,c.time,c.proc,putM _ c.marks⟩ = false; rw [← hms]; exact not_f h76)] <;> rfl))),(congrArg (Value.int .i64) (by first | (rw [putIn_bad hg (by show validCopy ⟨c.up,c.down,c.value,c.time,c.proc,putM _ c.marks⟩ = false; rw [← hms]; exact not_f h76)] <;> rfl))),⟨rfl,(by show List.length ((putIn c value p).1.marks) = 0; first | (rw [putIn_bad hg (by show validCopy ⟨c.up,c.down,c.value,c.time,c.proc,putM _ c.marks⟩ = false; rw [← hms]; exact not_f h76)] <;> rfl))⟩,tt⟩,(congrArg Value.bool (by first | (rw [putIn_bad hg (by show validCopy ⟨c.up,c.down,c.value,c.time,c.proc,putM _ c.marks⟩ = false; rw [← hms]; exact not_f h76)] <;> rfl))),tt⟩)
     ·intro n76
      refine W.skip (thenQ_normal ?_)
      refine Kk cok tab20 hnt [] [6,7] (⟨[(6,.ptr 6 0),(7,.b true)],[(3,⟨26,.fix (cC c)⟩),(6,⟨26,.fix [.own 22 (List.length c.up),.own 1022 (List.length c.down),.i c.value,.i c.time,.i c.proc,.own 72 (List.length (ms ++ ([(⟨value,p,((countC c p) + (1 : Int)),false⟩ : MarkD)])))]⟩),(8,⟨26,.fix [.own 22 (List.length c.up),.own 1022 (List.length c.down),.i c.value,.i c.time,.i c.proc,.own 72 (List.length (ms ++ ([(⟨value,p,((countC c p) + (1 : Int)),false⟩ : MarkD)])))]⟩),(9,⟨33,.fix [.i value,.i p,.i ((countC c p) + (1 : Int)),.b false]⟩),(22,⟨3,.row (.ints c.up)⟩),(72,⟨33,.row (.marks (ms ++ ([(⟨value,p,((countC c p) + (1 : Int)),false⟩ : MarkD)])))⟩),(1022,⟨3,.row (.ints c.down)⟩)],[72,71,3,6,8,9,22,30,999,1022]⟩)
       (True ∧ (True ∧ True) ∧ True ∧ True)
       ⟨tt,⟨tt,tt⟩,tt,tt⟩ ?_
      refine W.ret ?_
      exact endQ_ret (.tup [.agg [.own 22 (List.length c.up),.own 1022 (List.length c.down),.i c.value,.i c.time,.i c.proc,.own 72 (List.length (ms ++ ([(⟨value,p,((countC c p) + (1 : Int)),false⟩ : MarkD)])))],.b true]) (by kernel_rfl) (@cast (((((List.length c.up) = (List.length c.up)) ∧ ((.ints c.up : Dat) = .ints ((putIn c value p).1.up)) ∧ ((22 : Nat) ∉ ([] : List Nat))) ∧ (((List.length c.down) = (List.length c.down)) ∧ ((.ints c.down : Dat) = .ints ((putIn c value p).1.down)) ∧ ((1022 : Nat) ∉ ([] : List Nat))) ∧ ((.int .i64 c.value : Value) = .int .i64 ((putIn c value p).1.value)) ∧ ((.int .i64 c.time : Value) = .int .i64 ((putIn c value p).1.time)) ∧ ((.int .i64 c.proc : Value) = .int .i64 ((putIn c value p).1.proc)) ∧ (((List.length (ms ++ ([(⟨value,p,((countC c p) + (1 : Int)),false⟩ : MarkD)]))) = (List.length (ms ++ ([(⟨value,p,((countC c p) + (1 : Int)),false⟩ : MarkD)])))) ∧ ((.marks (ms ++ ([(⟨value,p,((countC c p) + (1 : Int)),false⟩ : MarkD)])) : Dat) = .marks ((putIn c value p).1.marks)) ∧ ((72 : Nat) ∉ ([] : List Nat))) ∧ True) ∧ ((.bool true : Value) = .bool ((putIn c value p).2)) ∧ True) _ (by kernel_rfl) ⟨⟨⟨rfl,(congrArg Dat.ints (by rw [putIn_ok hg (by show validCopy ⟨c.up,c.down,c.value,c.time,c.proc,putM _ c.marks⟩ = true; rw [← hms]; exact not_g n76)] <;> first | rfl | exact hms)),(by decide)⟩,⟨rfl,(congrArg Dat.ints (by rw [putIn_ok hg (by show validCopy ⟨c.up,c.down,c.value,c.time,c.proc,putM _ c.marks⟩ = true; rw [← hms]; exact not_g n76)] <;> first | rfl | exact hms)),(by decide)⟩,(congrArg (Value.int .i64) (by rw [putIn_ok hg (by show validCopy ⟨c.up,c.down,c.value,c.time,c.proc,putM _ c.marks⟩ = true; rw [← hms]; exact not_g n76)] <;> first | rfl | exact hms)),(congrArg (Value.int .i64) (by rw [putIn_ok hg (by show validCopy ⟨c.up,c.down,c.value,c.time,c.proc,putM _ c.marks⟩ = true; rw [← hms]; exact not_g n76)] <;> first | rfl | exact hms)),(congrArg (Value.int .i64) (by rw [putIn_ok hg (by show validCopy ⟨c.up,c.down,c.value,c.time,c.proc,putM _ c.marks⟩ = true; rw [← hms]; exact not_g n76)] <;> first | rfl | exact hms)),⟨rfl,(congrArg Dat.marks (by rw [putIn_ok hg (by show validCopy ⟨c.up,c.down,c.value,c.time,c.proc,putM _ c.marks⟩ = true; rw [← hms]; exact not_g n76)] <;> first | rfl | exact hms)),(by decide)⟩,tt⟩,(congrArg Value.bool (by rw [putIn_ok hg (by show validCopy ⟨c.up,c.down,c.value,c.time,c.proc,putM _ c.marks⟩ = true; rw [← hms]; exact not_g n76)] <;> first | rfl | exact hms)),tt⟩)
    ·intro n67
     have hms : ms = putM (⟨value,p,countC c p + 1,false⟩ : MarkD) c.marks := (putUp_end hm (by omega)).1 (not_g n67)
     refine W.skip (thenQ_normal ?_)
     refine W.seq ?_
     refine Kk cok tab20 hnt [] [6,8,76] (⟨[(6,.ptr 6 0),(8,.ptr 8 0),(76,.b (!(validCopy ⟨c.up,c.down,c.value,c.time,c.proc,ms⟩)))],[(3,⟨26,.fix (cC c)⟩),(6,⟨26,.fix [.v (.slice none 0 0),.v (.slice none 0 0),.i (0 : Int),.i (0 : Int),.i (0 : Int),.v (.slice none 0 0)]⟩),(8,⟨26,.fix [.own 22 (List.length c.up),.own 1022 (List.length c.down),.i c.value,.i c.time,.i c.proc,.own 30 ms.length]⟩),(9,⟨33,.fix [.i value,.i p,.i ((countC c p) + (1 : Int)),.b false]⟩),(22,⟨3,.row (.ints c.up)⟩),(30,⟨33,.row (.marks ms)⟩),(1022,⟨3,.row (.ints c.down)⟩)],[3,6,8,9,22,30,999,1022]⟩)
      (True ∧ (True ∧ ((True ∧ (True ∧ ((List.length c.up) = (List.length c.up))) ∧ (True ∧ ((List.length c.down) = (List.length c.down))) ∧ True ∧ True ∧ True ∧ (True ∧ (ms.length = ms.length)) ∧ True) ∧ True) ∧ True) ∧ True ∧ True)
      ⟨tt,⟨tt,⟨⟨tt,⟨tt,rfl⟩,⟨tt,rfl⟩,tt,tt,tt,⟨tt,rfl⟩,tt⟩,tt⟩,tt⟩,tt,tt⟩ ?_
     refine W.if' (!(validCopy ⟨c.up,c.down,c.value,c.time,c.proc,ms⟩)) (.b (!(validCopy ⟨c.up,c.down,c.value,c.time,c.proc,ms⟩))) (by kernel_rfl) rfl trivial ?_ ?_
     ·intro h76
      refine Kk cok tab20 hnt [] [6,7] (⟨[(6,.ptr 6 0),(7,.b false)],[(3,⟨26,.fix (cC c)⟩),(6,⟨26,.fix [.v (.slice none 0 0),.v (.slice none 0 0),.i (0 : Int),.i (0 : Int),.i (0 : Int),.v (.slice none 0 0)]⟩),(8,⟨26,.fix [.own 22 (List.length c.up),.own 1022 (List.length c.down),.i c.value,.i c.time,.i c.proc,.own 30 ms.length]⟩),(9,⟨33,.fix [.i value,.i p,.i ((countC c p) + (1 : Int)),.b false]⟩),(22,⟨3,.row (.ints c.up)⟩),(30,⟨33,.row (.marks ms)⟩),(1022,⟨3,.row (.ints c.down)⟩)],[3,6,8,9,22,30,999,1022]⟩)
       (True ∧ (True ∧ True) ∧ True ∧ True)
       ⟨tt,⟨tt,tt⟩,tt,tt⟩ ?_
      refine W.ret (thenQ_ret ?_)
      exact endQ_ret (.tup [.agg [.v (.slice none 0 0),.v (.slice none 0 0),.i (0 : Int),.i (0 : Int),.i (0 : Int),.v (.slice none 0 0)],.b false]) (by kernel_rfl) (@cast (((((Value.slice none 0 0 : Value) = .slice none 0 0) ∧ ((Dat.ints ((putIn c value p).1.up)).len = 0)) ∧ (((Value.slice none 0 0 : Value) = .slice none 0 0) ∧ ((Dat.ints ((putIn c value p).1.down)).len = 0)) ∧ ((.int .i64 (0 : Int) : Value) = .int .i64 ((putIn c value p).1.value)) ∧ ((.int .i64 (0 : Int) : Value) = .int .i64 ((putIn c value p).1.time)) ∧ ((.int .i64 (0 : Int) : Value) = .int .i64 ((putIn c value p).1.proc)) ∧ (((Value.slice none 0 0 : Value) = .slice none 0 0) ∧ ((Dat.marks ((putIn c value p).1.marks)).len = 0)) ∧ True) ∧ ((.bool false : Value) = .bool ((putIn c value p).2)) ∧ True) _ (by kernel_rfl) ⟨⟨⟨rfl,(by show List.length ((putIn c value p).1.up) = 0; first | (rw [putIn_bad hg (by show validCopy ⟨c.up,c.down,c.value,c.time,c.proc,putM _ c.marks⟩ = false; rw [← hms]; exact not_f h76)] <;> rfl))⟩,⟨rfl,(by show List.length ((putIn c value p).1.down) = 0; first | (rw [putIn_bad hg (by show validCopy ⟨c.up,c.down,c.value,c.time,c.proc,putM _ c.marks⟩ = false; rw [← hms]; exact not_f h76)] <;> rfl))⟩,(congrArg (Value.int .i64) (by first | (rw [putIn_bad hg (by show validCopy ⟨c.up,c.down,c.value,c.time,c.proc,putM _ c.marks⟩ = false; rw [← hms]; exact not_f h76)] <;> rfl))),(congrArg (Value.int .i64) (by first | (rw [putIn_bad hg (by show validCopy ⟨c.up,c.down,c.value,c.time,c.proc,putM _ c.marks⟩ = false; rw [← hms]; exact not_f h76)] <;> rfl))),(congrArg (Value.int .i64) (by first | (rw [putIn_bad hg (by show validCopy ⟨c.up,c.down,c.value,c.time,c.proc,putM _ c.marks⟩ = false; rw [← hms]; exact not_f h76)] <;> rfl))),⟨rfl,(by show List.length ((putIn c value p).1.marks) = 0; first | (rw [putIn_bad hg (by show validCopy ⟨c.up,c.down,c.value,c.time,c.proc,putM _ c.marks⟩ = false; rw [← hms]; exact not_f h76)] <;> rfl))⟩,tt⟩,(congrArg Value.bool (by first | (rw [putIn_bad hg (by show validCopy ⟨c.up,c.down,c.value,c.time,c.proc,putM _ c.marks⟩ = false; rw [← hms]; exact not_f h76)] <;> rfl))),tt⟩)
     ·intro n76
      refine W.skip (thenQ_normal ?_)
      refine Kk cok tab20 hnt [] [6,7] (⟨[(6,.ptr 6 0),(7,.b true)],[(3,⟨26,.fix (cC c)⟩),(6,⟨26,.fix [.own 22 (List.length c.up),.own 1022 (List.length c.down),.i c.value,.i c.time,.i c.proc,.own 30 ms.length]⟩),(8,⟨26,.fix [.own 22 (List.length c.up),.own 1022 (List.length c.down),.i c.value,.i c.time,.i c.proc,.own 30 ms.length]⟩),(9,⟨33,.fix [.i value,.i p,.i ((countC c p) + (1 : Int)),.b false]⟩),(22,⟨3,.row (.ints c.up)⟩),(30,⟨33,.row (.marks ms)⟩),(1022,⟨3,.row (.ints c.down)⟩)],[3,6,8,9,22,30,999,1022]⟩)
       (True ∧ (True ∧ True) ∧ True ∧ True)
       ⟨tt,⟨tt,tt⟩,tt,tt⟩ ?_
      refine W.ret ?_
      exact endQ_ret (.tup [.agg [.own 22 (List.length c.up),.own 1022 (List.length c.down),.i c.value,.i c.time,.i c.proc,.own 30 ms.length],.b true]) (by kernel_rfl) (@cast (((((List.length c.up) = (List.length c.up)) ∧ ((.ints c.up : Dat) = .ints ((putIn c value p).1.up)) ∧ ((22 : Nat) ∉ ([] : List Nat))) ∧ (((List.length c.down) = (List.length c.down)) ∧ ((.ints c.down : Dat) = .ints ((putIn c value p).1.down)) ∧ ((1022 : Nat) ∉ ([] : List Nat))) ∧ ((.int .i64 c.value : Value) = .int .i64 ((putIn c value p).1.value)) ∧ ((.int .i64 c.time : Value) = .int .i64 ((putIn c value p).1.time)) ∧ ((.int .i64 c.proc : Value) = .int .i64 ((putIn c value p).1.proc)) ∧ ((ms.length = ms.length) ∧ ((.marks ms : Dat) = .marks ((putIn c value p).1.marks)) ∧ ((30 : Nat) ∉ ([] : List Nat))) ∧ True) ∧ ((.bool true : Value) = .bool ((putIn c value p).2)) ∧ True) _ (by kernel_rfl) ⟨⟨⟨rfl,(congrArg Dat.ints (by rw [putIn_ok hg (by show validCopy ⟨c.up,c.down,c.value,c.time,c.proc,putM _ c.marks⟩ = true; rw [← hms]; exact not_g n76)] <;> first | rfl | exact hms)),(by decide)⟩,⟨rfl,(congrArg Dat.ints (by rw [putIn_ok hg (by show validCopy ⟨c.up,c.down,c.value,c.time,c.proc,putM _ c.marks⟩ = true; rw [← hms]; exact not_g n76)] <;> first | rfl | exact hms)),(by decide)⟩,(congrArg (Value.int .i64) (by rw [putIn_ok hg (by show validCopy ⟨c.up,c.down,c.value,c.time,c.proc,putM _ c.marks⟩ = true; rw [← hms]; exact not_g n76)] <;> first | rfl | exact hms)),(congrArg (Value.int .i64) (by rw [putIn_ok hg (by show validCopy ⟨c.up,c.down,c.value,c.time,c.proc,putM _ c.marks⟩ = true; rw [← hms]; exact not_g n76)] <;> first | rfl | exact hms)),(congrArg (Value.int .i64) (by rw [putIn_ok hg (by show validCopy ⟨c.up,c.down,c.value,c.time,c.proc,putM _ c.marks⟩ = true; rw [← hms]; exact not_g n76)] <;> first | rfl | exact hms)),⟨rfl,(congrArg Dat.marks (by rw [putIn_ok hg (by show validCopy ⟨c.up,c.down,c.value,c.time,c.proc,putM _ c.marks⟩ = true; rw [← hms]; exact not_g n76)] <;> first | rfl | exact hms)),(by decide)⟩,tt⟩,(congrArg Value.bool (by rw [putIn_ok hg (by show validCopy ⟨c.up,c.down,c.value,c.time,c.proc,putM _ c.marks⟩ = true; rw [← hms]; exact not_g n76)] <;> first | rfl | exact hms)),tt⟩)
theorem ent20 : Entr prog 20 := ⟨_,func20,rfl,by decide⟩
end Go.Proofs.Try
