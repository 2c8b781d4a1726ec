import Derived.Test.YtfoifegcfbglpaaQF3S0
set_option linter.unusedSimpArgs false
set_option linter.unusedVariables false
namespace Go.Proofs.Try
open Go.Ab Go.RowKit
def fs43 : FnS := fnS [.o,.o,.o] [.int,.int,.int] (fun _ (n,low,high,_) => (.b (within n low high),[],True))
abbrev T43 : Tab := lk []
theorem tab43 : TabOK prog T43 := TabOK.nil
set_option maxRecDepth 100000 in
set_option maxHeartbeats 1000000 in
theorem ok43 : FnOK prog 43 fs43 := by
 refine FnOK.mk cok func43 rfl rfl rfl ?_
 rintro fl ⟨(n : Int),(low : Int),(high : Int),_⟩ hpre F hnt0 _
 have hnt : F.nt = 15 := hnt0.trans ntmps43
 clear hpre
 refine W.to (⟨[(0,.i n),(1,.i low),(2,.i high)],[],[999]⟩) rfl ?_
 refine Kk cok tab43 hnt [] [0,1,2] (⟨[(0,.i n),(1,.i low),(2,.i high)],[],[999]⟩)
  (True ∧ True)
  ⟨tt,tt⟩ ?_
 refine Kk cok tab43 hnt [] [6] (⟨[(6,.b ((decide (low ≤ n)) && (decide (n ≤ high))))],[],[999]⟩)
  ((fun (Z1:Bool)=>(True ∧ (True ∧ ((True ∧ (True ∧ True)) ∧ (True ∧ ((Z1 = true → True) ∧ ((Z1 = true → True) ∧ ((Z1 = true → (((Z1 = true) ∧ True) ∧ (((Z1 = true) ∧ True) ∧ True))) ∧ ((True ∧ ((Z1 = true → (Z1 = true) ∧ True) ∧ (Z1 = false → True))) ∧ (True ∧ True)))))))))) (decide (low ≤ n)))
  ⟨tt,tt,⟨tt,tt,tt⟩,tt,(fun _ => trivial),(fun _ => trivial),(fun hG => ⟨⟨hG,tt⟩,⟨hG,tt⟩,tt⟩),⟨tt,(fun hp => ⟨hp,tt⟩),(fun _ => trivial)⟩,tt,tt⟩ ?_
 refine W.ret ?_
 exact endQ_ret (.b ((decide (low ≤ n)) && (decide (n ≤ high)))) (by kernel_rfl) (@cast ((.bool ((decide (low ≤ n)) && (decide (n ≤ high))) : Value) = .bool (within n low high)) _ (by kernel_rfl) (congrArg Value.bool (by first | rfl | simp_all)))
theorem ent43 : Entr prog 43 := ⟨_,func43,rfl,by decide⟩
end Go.Proofs.Try

set_option linter.unusedSimpArgs false
set_option linter.unusedVariables false
namespace Go.Proofs.Try
open Go.Ab Go.RowKit
def fs45 : FnS := fnS [.o,.o] [.mark,.mark] (fun _ (a,b,_) => (.b (lessM a b),[],True))
abbrev T45 : Tab := lk []
theorem tab45 : TabOK prog T45 := TabOK.nil
set_option maxRecDepth 100000 in
set_option maxHeartbeats 1000000 in
theorem ok45 : FnOK prog 45 fs45 := by
 refine FnOK.mk cok func45 rfl rfl rfl ?_
 rintro fl ⟨(a : MarkD),(b : MarkD),_⟩ hpre F hnt0 _
 have hnt : F.nt = 20 := hnt0.trans ntmps45
 clear hpre
 refine W.to (⟨[(0,.agg [.i a.value,.i a.proc,.i a.number,.b a.gone]),(1,.agg [.i b.value,.i b.proc,.i b.number,.b b.gone])],[],[999]⟩) rfl ?_
 refine Kk cok tab45 hnt [] [2,3] (⟨[(2,.ptr 2 0),(3,.ptr 3 0)],[(2,⟨33,.fix [.i a.value,.i a.proc,.i a.number,.b a.gone]⟩),(3,⟨33,.fix [.i b.value,.i b.proc,.i b.number,.b b.gone]⟩)],[3,2,999]⟩)
  (True ∧ True ∧ True ∧ True)
  ⟨tt,tt,tt,tt⟩ ?_
 refine W.seq ?_
 refine Kk cok tab45 hnt [] [2,3,9] (⟨[(2,.ptr 2 0),(3,.ptr 3 0),(9,.b (decide (a.proc ≠ b.proc)))],[(2,⟨33,.fix [.i a.value,.i a.proc,.i a.number,.b a.gone]⟩),(3,⟨33,.fix [.i b.value,.i b.proc,.i b.number,.b b.gone]⟩)],[3,2,999]⟩)
  (True ∧ True ∧ True ∧ True ∧ (True ∧ True ∧ True) ∧ True)
  ⟨tt,tt,tt,tt,⟨tt,tt,tt⟩,tt⟩ ?_
 refine W.ifP (a.proc ≠ b.proc) (.b (decide (a.proc ≠ b.proc))) (by kernel_rfl) rfl trivial ?_ ?_
 ·intro h9
  refine Kk cok tab45 hnt [] [4] (⟨[(4,.b (decide (a.proc < b.proc)))],[(2,⟨33,.fix [.i a.value,.i a.proc,.i a.number,.b a.gone]⟩),(3,⟨33,.fix [.i b.value,.i b.proc,.i b.number,.b b.gone]⟩)],[3,2,999]⟩)
   (True ∧ True ∧ True ∧ True ∧ (True ∧ True ∧ True) ∧ True ∧ True)
   ⟨tt,tt,tt,tt,⟨tt,tt,tt⟩,tt,tt⟩ ?_
  refine W.ret (thenQ_ret ?_)
  exact endQ_ret (.b (decide (a.proc < b.proc))) (by kernel_rfl) (@cast ((.bool (decide (a.proc < b.proc)) : Value) = .bool (lessM a b)) _ (by kernel_rfl) (congrArg Value.bool (by unfold lessM; rw [decide_eq_true h9]; rfl)))
 ·intro n9
  refine W.skip (thenQ_normal ?_)
  refine Kk cok tab45 hnt [] [4] (⟨[(4,.b (decide (a.number < b.number)))],[(2,⟨33,.fix [.i a.value,.i a.proc,.i a.number,.b a.gone]⟩),(3,⟨33,.fix [.i b.value,.i b.proc,.i b.number,.b b.gone]⟩)],[3,2,999]⟩)
   (True ∧ True ∧ True ∧ True ∧ (True ∧ True ∧ True) ∧ True ∧ True)
   ⟨tt,tt,tt,tt,⟨tt,tt,tt⟩,tt,tt⟩ ?_
  refine W.ret ?_
  exact endQ_ret (.b (decide (a.number < b.number))) (by kernel_rfl) (@cast ((.bool (decide (a.number < b.number)) : Value) = .bool (lessM a b)) _ (by kernel_rfl) (congrArg Value.bool (by unfold lessM; rw [decide_eq_false n9]; rfl)))
theorem ent45 : Entr prog 45 := ⟨_,func45,rfl,by decide⟩
end Go.Proofs.Try

set_option linter.unusedSimpArgs false
set_option linter.unusedVariables false
namespace Go.Proofs.Try
open Go.Ab Go.RowKit
def fs32 : FnS := fnS [.a [some .ints,some .ints,none,none,none,some .marks]] [.copy] (fun _ (c,_) => (.b (validCopy c),[],True))
abbrev T32 : Tab := lk [(43,fs43),(45,fs45)]
theorem tab32 : TabOK prog T32 := (TabOK.cons ok43 ent43 (TabOK.cons ok45 ent45 TabOK.nil))
set_option maxRecDepth 100000 in
set_option maxHeartbeats 1000000 in
theorem ok32 : FnOK prog 32 fs32 := by
 refine FnOK.mk cok func32 rfl rfl rfl ?_
 rintro fl ⟨(c : CopyD),_⟩ hpre F hnt0 _
 have hnt : F.nt = 116 := hnt0.trans ntmps32
 clear hpre
 refine W.to (⟨[(0,.agg (cC c))],[],[999]⟩) rfl ?_
 refine W.lenA 0 0 (cC c) (.ints c.up) (by kernel_rfl) (by kernel_rfl) ?_
 intro hl_c_up; replace hl_c_up : List.length c.up ≤ 9223372036854775807 := hl_c_up
 refine W.lenA 0 1 (cC c) (.ints c.down) (by kernel_rfl) (by kernel_rfl) ?_
 intro hl_c_down; replace hl_c_down : List.length c.down ≤ 9223372036854775807 := hl_c_down
 refine W.lenA 0 5 (cC c) (.marks c.marks) (by kernel_rfl) (by kernel_rfl) ?_
 intro hl_c_marks; replace hl_c_marks : List.length c.marks ≤ 9223372036854775807 := hl_c_marks
 refine Kk cok tab32 hnt [] [1] (⟨[(1,.ptr 1 0)],[(1,⟨26,.fix (cC c)⟩)],[1,999]⟩)
  (True ∧ True ∧ True)
  ⟨tt,tt,tt⟩ ?_
 refine W.seq ?_
 refine Kk cok tab32 hnt [] [1,48] (⟨[(1,.ptr 1 0),(48,.b ((((((decide ((((List.length c.up) : Nat) : Int) ≠ (3 : Int))) || (decide ((((List.length c.down) : Nat) : Int) ≠ (3 : Int)))) || (!(within c.value (0 : Int) (3 : Int)))) || (!(within c.time (0 : Int) (30 : Int)))) || (!(within c.proc (0 : Int) (2 : Int)))) || ((decide (c.time = (0 : Int))) && ((decide (c.value ≠ (0 : Int))) || (decide (c.proc ≠ (0 : Int)))))))],[(1,⟨26,.fix (cC c)⟩)],[1,999]⟩)
  ((fun (Z1:Bool)=>((fun (Z2:Bool)=>((fun (Z3:Bool)=>((fun (Z4:Bool)=>((fun (Z5:Bool)=>((fun (Z6:Bool)=>((fun (Z7:Bool)=>((fun (Z8:Bool)=>((fun (Z9:Bool)=>((fun (Z10:Bool)=>(True ∧ (True ∧ (True ∧ ((True ∧ (True ∧ True)) ∧ (True ∧ (((!Z3) = true → True) ∧ (((!Z3) = true → (((!Z3) = true) ∧ True)) ∧ (((!Z3) = true → (((!Z3) = true) ∧ True)) ∧ (((!Z3) = true → ((((!Z3) = true) ∧ True) ∧ (True ∧ True))) ∧ ((True ∧ ((Z3 = true → True) ∧ (Z3 = false → ((!Z3) = true) ∧ True))) ∧ (True ∧ (((!Z4) = true → True) ∧ (((!Z4) = true → (((!Z4) = true) ∧ True)) ∧ (((!Z4) = true → (True ∧ (((((!Z4) = true) ∧ True) ∧ (True ∧ (True ∧ True))) ∧ True))) ∧ (((!Z4) = true → (((!Z4) = true) ∧ True)) ∧ ((True ∧ ((Z4 = true → True) ∧ (Z4 = false → ((!Z4) = true) ∧ True))) ∧ (True ∧ (((!Z5) = true → True) ∧ (((!Z5) = true → (((!Z5) = true) ∧ True)) ∧ (((!Z5) = true → (True ∧ (((((!Z5) = true) ∧ True) ∧ (True ∧ (True ∧ True))) ∧ True))) ∧ (((!Z5) = true → (((!Z5) = true) ∧ True)) ∧ ((True ∧ ((Z5 = true → True) ∧ (Z5 = false → ((!Z5) = true) ∧ True))) ∧ (True ∧ (((!Z6) = true → True) ∧ (((!Z6) = true → (((!Z6) = true) ∧ True)) ∧ (((!Z6) = true → (True ∧ (((((!Z6) = true) ∧ True) ∧ (True ∧ (True ∧ True))) ∧ True))) ∧ (((!Z6) = true → (((!Z6) = true) ∧ True)) ∧ ((True ∧ ((Z6 = true → True) ∧ (Z6 = false → ((!Z6) = true) ∧ True))) ∧ (True ∧ ((Z8 = true → True) ∧ ((Z8 = true → ((Z8 = true) ∧ True)) ∧ ((Z8 = true → (((Z8 = true) ∧ True) ∧ (True ∧ True))) ∧ ((Z8 = true → True) ∧ ((Z9 = true → True) ∧ ((Z9 = true → ((Z9 = true) ∧ True)) ∧ ((Z9 = true → (((Z9 = true) ∧ True) ∧ (True ∧ True))) ∧ ((Z9 = true → True) ∧ ((Z10 = true → True) ∧ ((Z10 = true → ((Z10 = true) ∧ True)) ∧ ((Z10 = true → (((Z10 = true) ∧ True) ∧ (True ∧ True))) ∧ ((Z9 = true → (((Z9 = true) ∧ ((Z9 = true) ∧ True)) ∧ ((Z2 = true → True) ∧ (Z2 = false → (Z10 = true) ∧ True)))) ∧ ((Z8 = true → (((Z8 = true) ∧ ((Z8 = true) ∧ True)) ∧ ((Z1 = true → (Z9 = true) ∧ True) ∧ (Z1 = false → True)))) ∧ ((True ∧ ((Z7 = true → True) ∧ (Z7 = false → (Z8 = true) ∧ True))) ∧ True)))))))))))))))))))))))))))))))))))))))))))) (Z9 && (Z9 && (!Z2))))) (Z8 && (Z8 && Z1)))) (!Z7))) (Z6 || (!(within c.proc (0 : Int) (2 : Int)))))) (Z5 || (!(within c.time (0 : Int) (30 : Int)))))) (Z4 || (!(within c.value (0 : Int) (3 : Int)))))) (Z3 || (decide ((((List.length c.down) : Nat) : Int) ≠ (3 : Int)))))) (decide ((((List.length c.up) : Nat) : Int) ≠ (3 : Int))))) (decide (c.value ≠ (0 : Int))))) (decide (c.time = (0 : Int))))
  ⟨tt,tt,tt,⟨tt,tt,tt⟩,tt,(fun _ => trivial),(fun hG => ⟨hG,tt⟩),(fun hG => ⟨hG,tt⟩),(fun hG => ⟨⟨hG,tt⟩,tt,tt⟩),⟨tt,(fun _ => trivial),(fun hp => ⟨(not_t hp),tt⟩)⟩,tt,(fun _ => trivial),(fun hG => ⟨hG,tt⟩),(fun hG => ⟨tt,⟨⟨hG,tt⟩,tt,tt,tt⟩,tt⟩),(fun hG => ⟨hG,tt⟩),⟨tt,(fun _ => trivial),(fun hp => ⟨(not_t hp),tt⟩)⟩,tt,(fun _ => trivial),(fun hG => ⟨hG,tt⟩),(fun hG => ⟨tt,⟨⟨hG,tt⟩,tt,tt,tt⟩,tt⟩),(fun hG => ⟨hG,tt⟩),⟨tt,(fun _ => trivial),(fun hp => ⟨(not_t hp),tt⟩)⟩,tt,(fun _ => trivial),(fun hG => ⟨hG,tt⟩),(fun hG => ⟨tt,⟨⟨hG,tt⟩,tt,tt,tt⟩,tt⟩),(fun hG => ⟨hG,tt⟩),⟨tt,(fun _ => trivial),(fun hp => ⟨(not_t hp),tt⟩)⟩,tt,(fun _ => trivial),(fun hG => ⟨hG,tt⟩),(fun hG => ⟨⟨hG,tt⟩,tt,tt⟩),(fun _ => trivial),(fun _ => trivial),(fun hG => ⟨hG,tt⟩),(fun hG => ⟨⟨hG,tt⟩,tt,tt⟩),(fun _ => trivial),(fun _ => trivial),(fun hG => ⟨hG,tt⟩),(fun hG => ⟨⟨hG,tt⟩,tt,tt⟩),(fun hG => ⟨⟨hG,hG,tt⟩,(fun _ => trivial),(fun hp => ⟨(and_t hG (and_t hG (not_t hp))),tt⟩)⟩),(fun hG => ⟨⟨hG,hG,tt⟩,(fun hp => ⟨(and_t hG (and_t hG hp)),tt⟩),(fun _ => trivial)⟩),⟨tt,(fun _ => trivial),(fun hp => ⟨(not_t hp),tt⟩)⟩,tt⟩ ?_
 refine W.if' ((((((decide ((((List.length c.up) : Nat) : Int) ≠ (3 : Int))) || (decide ((((List.length c.down) : Nat) : Int) ≠ (3 : Int)))) || (!(within c.value (0 : Int) (3 : Int)))) || (!(within c.time (0 : Int) (30 : Int)))) || (!(within c.proc (0 : Int) (2 : Int)))) || ((decide (c.time = (0 : Int))) && ((decide (c.value ≠ (0 : Int))) || (decide (c.proc ≠ (0 : Int)))))) (.b ((((((decide ((((List.length c.up) : Nat) : Int) ≠ (3 : Int))) || (decide ((((List.length c.down) : Nat) : Int) ≠ (3 : Int)))) || (!(within c.value (0 : Int) (3 : Int)))) || (!(within c.time (0 : Int) (30 : Int)))) || (!(within c.proc (0 : Int) (2 : Int)))) || ((decide (c.time = (0 : Int))) && ((decide (c.value ≠ (0 : Int))) || (decide (c.proc ≠ (0 : Int))))))) (by kernel_rfl) rfl trivial ?_ ?_
 ·intro h48
  refine Kk cok tab32 hnt [] [2] (⟨[(2,.b false)],[(1,⟨26,.fix (cC c)⟩)],[1,999]⟩)
   (True ∧ True)
   ⟨tt,tt⟩ ?_
  refine W.ret (thenQ_ret ?_)
  exact endQ_ret (.b false) (by kernel_rfl) (@cast ((.bool false : Value) = .bool (validCopy c)) _ (by kernel_rfl) (congrArg Value.bool (by exact (valid_spec1 h48).symm)))
 ·intro n48
  have n48_0 : ¬ ((((List.length c.up) : Nat) : Int) ≠ (3 : Int)) := of_decide_eq_false (or_l (or_l (or_l (or_l (or_l n48)))))
  have n48_1 : ¬ ((((List.length c.down) : Nat) : Int) ≠ (3 : Int)) := of_decide_eq_false (or_r (or_l (or_l (or_l (or_l n48)))))
  refine W.skip (thenQ_normal ?_)
  refine W.seq ?_
  refine Kk cok tab32 hnt [] [1,3] (⟨[(1,.ptr 1 0),(3,.i (0 : Int))],[(1,⟨26,.fix (cC c)⟩)],[1,999]⟩)
   (True ∧ True)
   ⟨tt,tt⟩ ?_
  refine W.block ?_
  refine W.loop (ι := Nat) (fun (k : Nat) => (⟨[(1,.ptr 1 0),(3,.i ((k : Nat) : Int))],[(1,⟨26,.fix (cC c)⟩)],[1,999]⟩ : St))
   (fun (k : Nat) => (k ≤ 3) ∧ (∀ j,j < k → within (c.up.getD j 0) 0 20 = true) ∧ (∀ j,j < k → within (c.down.getD j 0) 0 20 = true))
   (fun (k : Nat) => (3 - k : Nat)) (0) ?_ ?_ ?_
  ·exact (show (0 ≤ 3) ∧ (∀ j,j < 0 → within (c.up.getD j 0) 0 20 = true) ∧ (∀ j,j < 0 → within (c.down.getD j 0) 0 20 = true) from ⟨(by first | assumption | omega | rfl | (intro _ hjj; omega) | (simp; done) | (simp; omega)),(by exact upto_zero),(by exact upto_zero)⟩)
  ·exact Sub.of [] (@cast (((((1 : Nat) = 1) ∧ ((0 : Nat) = 0) ∧ ((1 : Nat) ∈ ([1,999] : List Nat))) ∧ ((.int .i64 (0 : Int) : Value) = .int .i64 ((0 : Nat) : Int)) ∧ True) ∧ ((((26 : Nat) = 26) ∧ (Sc c) ∧ ((1 : Nat) ∈ ([1,999] : List Nat))) ∧ True) ∧ (true = true) ∧ (true = true)) _ (by kernel_rfl) ⟨⟨⟨rfl,rfl,(by decide)⟩,(congrArg (Value.int .i64) (by first | rfl | omega | assumption | simp | simp_all)),tt⟩,⟨⟨rfl,⟨rfl,rfl,rfl,rfl,rfl,rfl,tt⟩,(by decide)⟩,tt⟩,rfl,rfl⟩)
  ·rintro k hC0
   have hC : (k ≤ 3) ∧ (∀ j,j < k → within (c.up.getD j 0) 0 20 = true) ∧ (∀ j,j < k → within (c.down.getD j 0) 0 20 = true) := hC0
   clear hC0
   obtain ⟨hk,hU,hD⟩ := hC
   refine W.to (⟨[(1,.ptr 1 0),(3,.i ((k : Nat) : Int))],[(1,⟨26,.fix (cC c)⟩)],[1,999]⟩) rfl ?_
   have hs := valid_spec2 n48
   refine W.seq ?_
   refine Kk cok tab32 hnt [] [1,3,50] (⟨[(1,.ptr 1 0),(3,.i ((k : Nat) : Int)),(50,.b (decide (((k : Nat) : Int) < (3 : Int))))],[(1,⟨26,.fix (cC c)⟩)],[1,999]⟩)
    (True ∧ (True ∧ True ∧ True) ∧ True)
    ⟨tt,⟨tt,tt,tt⟩,tt⟩ ?_
   refine W.ifP (((k : Nat) : Int) < (3 : Int)) (.b (decide (((k : Nat) : Int) < (3 : Int)))) (by kernel_rfl) rfl trivial ?_ ?_
   ·intro h50
    refine W.skip (thenQ_normal ?_)
    refine W.seq ?_
    refine W.block ?_
    refine Kk cok tab32 hnt [] [1,3,68] (⟨[(1,.ptr 1 0),(3,.i ((k : Nat) : Int)),(68,.b ((!(within (List.getD c.up k 0) (0 : Int) (20 : Int))) || (!(within (List.getD c.down k 0) (0 : Int) (20 : Int)))))],[(1,⟨26,.fix (cC c)⟩)],[1,999]⟩)
     ((fun (Z1:Bool)=>(True ∧ (True ∧ (True ∧ ((True ∧ (True ∧ ((0 ≤ ((k : Nat) : Int)) ∧ (((k : Nat) : Int) < (((List.length c.up) : Nat) : Int))))) ∧ (True ∧ ((True ∧ ((True ∧ (True ∧ (True ∧ True))) ∧ True)) ∧ (True ∧ (True ∧ (((!Z1) = true → True) ∧ (((!Z1) = true → (((!Z1) = true) ∧ True)) ∧ (((!Z1) = true → True) ∧ (((!Z1) = true → ((((!Z1) = true) ∧ True) ∧ ((((!Z1) = true) ∧ True) ∧ ((0 ≤ ((k : Nat) : Int)) ∧ (((k : Nat) : Int) < (((List.length c.down) : Nat) : Int)))))) ∧ (((!Z1) = true → (((!Z1) = true) ∧ True)) ∧ (((!Z1) = true → (True ∧ (((((!Z1) = true) ∧ True) ∧ (True ∧ (True ∧ True))) ∧ True))) ∧ (((!Z1) = true → (((!Z1) = true) ∧ True)) ∧ ((True ∧ ((Z1 = true → True) ∧ (Z1 = false → ((!Z1) = true) ∧ True))) ∧ True))))))))))))))))) (!(within (List.getD c.up k 0) (0 : Int) (20 : Int))))
     ⟨tt,tt,tt,⟨tt,tt,(by omega),(by omega)⟩,tt,⟨tt,⟨tt,tt,tt,tt⟩,tt⟩,tt,tt,(fun _ => trivial),(fun hG => ⟨hG,tt⟩),(fun _ => trivial),(fun hG => ⟨⟨hG,tt⟩,⟨hG,tt⟩,(by omega),(by omega)⟩),(fun hG => ⟨hG,tt⟩),(fun hG => ⟨tt,⟨⟨hG,tt⟩,tt,tt,tt⟩,tt⟩),(fun hG => ⟨hG,tt⟩),⟨tt,(fun _ => trivial),(fun hp => ⟨(not_t hp),tt⟩)⟩,tt⟩ ?_
    refine W.if' ((!(within (List.getD c.up k 0) (0 : Int) (20 : Int))) || (!(within (List.getD c.down k 0) (0 : Int) (20 : Int)))) (.b ((!(within (List.getD c.up k 0) (0 : Int) (20 : Int))) || (!(within (List.getD c.down k 0) (0 : Int) (20 : Int))))) (by kernel_rfl) rfl trivial ?_ ?_
    ·intro h68
     refine Kk cok tab32 hnt [] [2] (⟨[(2,.b false)],[(1,⟨26,.fix (cC c)⟩)],[1,999]⟩)
      (True ∧ True)
      ⟨tt,tt⟩ ?_
     refine W.ret (blockQ_ret (thenQ_ret (thenQ_ret (blockQ_ret (thenQ_ret ?_)))))
     exact endQ_ret (.b false) (by kernel_rfl) (@cast ((.bool false : Value) = .bool (validCopy c)) _ (by kernel_rfl) (congrArg Value.bool (by exact (counts_bad hs.1 hs.2.1 (by omega) h68).symm)))
    ·intro n68
     refine W.skip (blockQ_normal (thenQ_normal ?_))
     refine Lk cok tab32 hnt [] (⟨[(1,.ptr 1 0),(3,.i (((k + 1) : Nat) : Int)),(51,.i ((k : Nat) : Int)),(52,.i (((k + 1) : Nat) : Int)),(68,.b ((!(within (List.getD c.up k 0) (0 : Int) (20 : Int))) || (!(within (List.getD c.down k 0) (0 : Int) (20 : Int)))))],[(1,⟨26,.fix (cC c)⟩)],[1,999]⟩)
      (True ∧ (True ∧ True ∧ (Fits .i64 (((k + 1) : Nat) : Int))) ∧ True ∧ True)
      ⟨tt,⟨tt,tt,(by exact fits_i64 (by omega) (by omega))⟩,tt,tt⟩ ?_
     refine thenQ_normal ?_
     refine ⟨((k + 1)),(show ((k + 1) ≤ 3) ∧ (∀ j,j < (k + 1) → within (c.up.getD j 0) 0 20 = true) ∧ (∀ j,j < (k + 1) → within (c.down.getD j 0) 0 20 = true) from ⟨(by first | assumption | omega | rfl | (intro _ hjj; omega) | (simp; done) | (simp; omega)),(by exact upto_succ hU (within_bad n68).1),(by exact upto_succ hD (within_bad n68).2)⟩),(show 3 - (k + 1) < 3 - k from (by first | omega | (simp_all; omega))),?_⟩
     exact Sub.of [] (@cast (((((1 : Nat) = 1) ∧ ((0 : Nat) = 0) ∧ ((1 : Nat) ∈ ([1,999] : List Nat))) ∧ (Si (((k + 1) : Nat) : Int)) ∧ True) ∧ ((((26 : Nat) = 26) ∧ (Sc c) ∧ ((1 : Nat) ∈ ([1,999] : List Nat))) ∧ True) ∧ (true = true) ∧ (true = true)) _ (by kernel_rfl) ⟨⟨⟨rfl,rfl,(by decide)⟩,rfl,tt⟩,⟨⟨rfl,⟨rfl,rfl,rfl,rfl,rfl,rfl,tt⟩,(by decide)⟩,tt⟩,rfl,rfl⟩)
   ·intro n50
    refine W.exit (thenQ_exit (thenQ_exit (blockQ_hit ?_)))
    refine thenQ_normal ?_
    refine W.seq ?_
    refine Kk cok tab32 hnt [] [1,4] (⟨[(1,.ptr 1 0),(4,.i (0 : Int))],[(1,⟨26,.fix (cC c)⟩)],[1,999]⟩)
     (True ∧ True)
     ⟨tt,tt⟩ ?_
    refine W.block ?_
    refine W.loop (ι := Nat) (fun (i : Nat) => (⟨[(1,.ptr 1 0),(4,.i ((i : Nat) : Int))],[(1,⟨26,.fix (cC c)⟩)],[1,999]⟩ : St))
     (fun (i : Nat) => (i ≤ c.marks.length) ∧ (∀ j,j < i → markOK c.marks j = true))
     (fun (i : Nat) => (c.marks.length - i : Nat)) (0) ?_ ?_ ?_
    ·exact (show (0 ≤ c.marks.length) ∧ (∀ j,j < 0 → markOK c.marks j = true) from ⟨(by first | assumption | omega | rfl | (intro _ hjj; omega) | (simp; done) | (simp; omega)),(by exact upto_zero)⟩)
    ·exact Sub.of [] (@cast (((((1 : Nat) = 1) ∧ ((0 : Nat) = 0) ∧ ((1 : Nat) ∈ ([1,999] : List Nat))) ∧ ((.int .i64 (0 : Int) : Value) = .int .i64 ((0 : Nat) : Int)) ∧ True) ∧ ((((26 : Nat) = 26) ∧ (Sc c) ∧ ((1 : Nat) ∈ ([1,999] : List Nat))) ∧ True) ∧ (true = true) ∧ (true = true)) _ (by kernel_rfl) ⟨⟨⟨rfl,rfl,(by decide)⟩,(congrArg (Value.int .i64) (by first | rfl | omega | assumption | simp | simp_all)),tt⟩,⟨⟨rfl,⟨rfl,rfl,rfl,rfl,rfl,rfl,tt⟩,(by decide)⟩,tt⟩,rfl,rfl⟩)
    ·rintro i hC0
     have hC : (i ≤ c.marks.length) ∧ (∀ j,j < i → markOK c.marks j = true) := hC0
     clear hC0
     obtain ⟨hi,hA⟩ := hC
     refine W.to (⟨[(1,.ptr 1 0),(4,.i ((i : Nat) : Int))],[(1,⟨26,.fix (cC c)⟩)],[1,999]⟩) rfl ?_
     refine W.seq ?_
     refine Kk cok tab32 hnt [] [1,4,73] (⟨[(1,.ptr 1 0),(4,.i ((i : Nat) : Int)),(73,.b (decide (((i : Nat) : Int) < (((List.length c.marks) : Nat) : Int))))],[(1,⟨26,.fix (cC c)⟩)],[1,999]⟩)
      (True ∧ True ∧ True ∧ True ∧ (True ∧ True ∧ True) ∧ True)
      ⟨tt,tt,tt,tt,⟨tt,tt,tt⟩,tt⟩ ?_
     refine W.ifP (((i : Nat) : Int) < (((List.length c.marks) : Nat) : Int)) (.b (decide (((i : Nat) : Int) < (((List.length c.marks) : Nat) : Int)))) (by kernel_rfl) rfl trivial ?_ ?_
     ·intro h73
      refine W.skip (thenQ_normal ?_)
      refine W.seq ?_
      refine W.block ?_
      refine Kk cok tab32 hnt [] [1,4,5] (⟨[(1,.ptr 1 0),(4,.i ((i : Nat) : Int)),(5,.ptr 5 0)],[(1,⟨26,.fix (cC c)⟩),(5,⟨33,.fix [.i ((List.getD c.marks i default).value),.i ((List.getD c.marks i default).proc),.i ((List.getD c.marks i default).number),.b ((List.getD c.marks i default).gone)]⟩)],[5,1,999]⟩)
       (True ∧ True ∧ True ∧ (True ∧ True ∧ (0 ≤ ((i : Nat) : Int)) ∧ (((i : Nat) : Int) < (((List.length c.marks) : Nat) : Int))) ∧ True ∧ True ∧ (True ∧ True) ∧ True)
       ⟨tt,tt,tt,⟨tt,tt,(by omega),(by omega)⟩,tt,tt,⟨tt,tt⟩,tt⟩ ?_
      refine W.KA cok tab32 hnt [] [1,4,111] (⟨[(1,.ptr 1 0),(4,.i ((i : Nat) : Int)),(111,.b ((((!(within ((List.getD c.marks i default).value) (0 : Int) (3 : Int))) || (!(within ((List.getD c.marks i default).proc) (0 : Int) (2 : Int)))) || (!(within ((List.getD c.marks i default).number) (1 : Int) (20 : Int)))) || ((decide ((0 : Int) < ((i : Nat) : Int))) && (!(lessM (List.getD c.marks (Int.toNat (((i : Nat) : Int) - (1 : Int))) default) (List.getD c.marks i default))))))],[(1,⟨26,.fix (cC c)⟩),(5,⟨33,.fix [.i ((List.getD c.marks i default).value),.i ((List.getD c.marks i default).proc),.i ((List.getD c.marks i default).number),.b ((List.getD c.marks i default).gone)]⟩)],[5,1,999]⟩)
       ((fun (Z1:Bool)=>((fun (Z2:Bool)=>((fun (Z3:Bool)=>((fun (Z4:Bool)=>((fun (Z5:Bool)=>((fun (Z6:Bool)=>(True ∧ (True ∧ ((True ∧ ((True ∧ (True ∧ (True ∧ True))) ∧ True)) ∧ (True ∧ (True ∧ (((!Z2) = true → True) ∧ (((!Z2) = true → (((!Z2) = true) ∧ True)) ∧ (((!Z2) = true → (True ∧ (((((!Z2) = true) ∧ True) ∧ (True ∧ (True ∧ True))) ∧ True))) ∧ (((!Z2) = true → (((!Z2) = true) ∧ True)) ∧ ((True ∧ ((Z2 = true → True) ∧ (Z2 = false → ((!Z2) = true) ∧ True))) ∧ (True ∧ (((!Z3) = true → True) ∧ (((!Z3) = true → (((!Z3) = true) ∧ True)) ∧ (((!Z3) = true → (True ∧ (((((!Z3) = true) ∧ True) ∧ (True ∧ (True ∧ True))) ∧ True))) ∧ (((!Z3) = true → (((!Z3) = true) ∧ True)) ∧ ((True ∧ ((Z3 = true → True) ∧ (Z3 = false → ((!Z3) = true) ∧ True))) ∧ (True ∧ ((Z5 = true → True) ∧ ((Z5 = true → (((Z5 = true) ∧ True) ∧ (True ∧ True))) ∧ ((Z5 = true → True) ∧ ((Z6 = true → True) ∧ ((Z6 = true → ((Z6 = true) ∧ True)) ∧ ((Z6 = true → True) ∧ ((Z6 = true → (((Z6 = true) ∧ True) ∧ (True ∧ (Fits .i64 (((i : Nat) : Int) - (1 : Int)))))) ∧ ((Z6 = true → (((Z6 = true) ∧ True) ∧ (((Z6 = true) ∧ True) ∧ ((0 ≤ (((i : Nat) : Int) - (1 : Int))) ∧ ((((i : Nat) : Int) - (1 : Int)) < (((List.length c.marks) : Nat) : Int)))))) ∧ ((Z6 = true → ((Z6 = true) ∧ True)) ∧ ((Z6 = true → True) ∧ ((Z6 = true → (True ∧ ((((Z6 = true) ∧ True) ∧ (((Z6 = true) ∧ True) ∧ True)) ∧ True))) ∧ ((Z6 = true → ((Z6 = true) ∧ True)) ∧ ((Z5 = true → (((Z5 = true) ∧ ((Z5 = true) ∧ True)) ∧ ((Z1 = true → (Z6 = true) ∧ True) ∧ (Z1 = false → True)))) ∧ ((True ∧ ((Z4 = true → True) ∧ (Z4 = false → (Z5 = true) ∧ True))) ∧ True)))))))))))))))))))))))))))))))) (Z5 && (Z5 && Z1)))) (!Z4))) (Z3 || (!(within ((List.getD c.marks i default).number) (1 : Int) (20 : Int)))))) (Z2 || (!(within ((List.getD c.marks i default).proc) (0 : Int) (2 : Int)))))) (!(within ((List.getD c.marks i default).value) (0 : Int) (3 : Int))))) (decide ((0 : Int) < ((i : Nat) : Int)))) (by kernel_rfl) (by kernel_rfl)
       ⟨tt,tt,⟨tt,⟨tt,tt,tt,tt⟩,tt⟩,tt,tt,(fun _ => trivial),(fun hG => ⟨hG,tt⟩),(fun hG => ⟨tt,⟨⟨hG,tt⟩,tt,tt,tt⟩,tt⟩),(fun hG => ⟨hG,tt⟩),⟨tt,(fun _ => trivial),(fun hp => ⟨(not_t hp),tt⟩)⟩,tt,(fun _ => trivial),(fun hG => ⟨hG,tt⟩),(fun hG => ⟨tt,⟨⟨hG,tt⟩,tt,tt,tt⟩,tt⟩),(fun hG => ⟨hG,tt⟩),⟨tt,(fun _ => trivial),(fun hp => ⟨(not_t hp),tt⟩)⟩,tt,(fun _ => trivial),(fun hG => ⟨⟨hG,tt⟩,tt,tt⟩),(fun _ => trivial),(fun _ => trivial),(fun hG => ⟨hG,tt⟩),(fun _ => trivial),(fun hG => ⟨⟨hG,tt⟩,tt,(by have hg0 : (0 : Int) < ((i : Nat) : Int) := of_decide_eq_true (and_r (and_r hG)); exact fits_i64 (by omega) (by omega))⟩),(fun hG => ⟨⟨hG,tt⟩,⟨hG,tt⟩,(by have hg0 : (0 : Int) < ((i : Nat) : Int) := of_decide_eq_true (and_r (and_r hG)); omega),(by have hg0 : (0 : Int) < ((i : Nat) : Int) := of_decide_eq_true (and_r (and_r hG)); omega)⟩),(fun hG => ⟨hG,tt⟩),(fun _ => trivial),(fun hG => ⟨tt,⟨⟨hG,tt⟩,⟨hG,tt⟩,tt⟩,tt⟩),(fun hG => ⟨hG,tt⟩),(fun hG => ⟨⟨hG,hG,tt⟩,(fun hp => ⟨(and_t hG (and_t hG hp)),tt⟩),(fun _ => trivial)⟩),⟨tt,(fun _ => trivial),(fun hp => ⟨(not_t hp),tt⟩)⟩,tt⟩ ?_
      refine W.if' ((((!(within ((List.getD c.marks i default).value) (0 : Int) (3 : Int))) || (!(within ((List.getD c.marks i default).proc) (0 : Int) (2 : Int)))) || (!(within ((List.getD c.marks i default).number) (1 : Int) (20 : Int)))) || ((decide ((0 : Int) < ((i : Nat) : Int))) && (!(lessM (List.getD c.marks (Int.toNat (((i : Nat) : Int) - (1 : Int))) default) (List.getD c.marks i default))))) (.b ((((!(within ((List.getD c.marks i default).value) (0 : Int) (3 : Int))) || (!(within ((List.getD c.marks i default).proc) (0 : Int) (2 : Int)))) || (!(within ((List.getD c.marks i default).number) (1 : Int) (20 : Int)))) || ((decide ((0 : Int) < ((i : Nat) : Int))) && (!(lessM (List.getD c.marks (Int.toNat (((i : Nat) : Int) - (1 : Int))) default) (List.getD c.marks i default)))))) (by kernel_rfl) rfl trivial ?_ ?_
      ·intro h111
       refine Kk cok tab32 hnt [] [2] (⟨[(2,.b false)],[(1,⟨26,.fix (cC c)⟩),(5,⟨33,.fix [.i ((List.getD c.marks i default).value),.i ((List.getD c.marks i default).proc),.i ((List.getD c.marks i default).number),.b ((List.getD c.marks i default).gone)]⟩)],[5,1,999]⟩)
        (True ∧ True)
        ⟨tt,tt⟩ ?_
       refine W.ret (blockQ_ret (thenQ_ret (thenQ_ret (blockQ_ret (thenQ_ret ?_)))))
       exact endQ_ret (.b false) (by kernel_rfl) (@cast ((.bool false : Value) = .bool (validCopy c)) _ (by kernel_rfl) (congrArg Value.bool (by rw [show ((i : Int) - 1).toNat = i - 1 by omega] at h111; exact (valid_marks (mark_bad (i := i) (by omega) (markS_no h111))).symm)))
      ·intro n111
       refine W.skip (blockQ_normal (thenQ_normal ?_))
       refine Lk cok tab32 hnt [] (⟨[(1,.ptr 1 0),(4,.i (((i + 1) : Nat) : Int)),(74,.i ((i : Nat) : Int)),(75,.i (((i + 1) : Nat) : Int)),(111,.b ((((!(within ((List.getD c.marks i default).value) (0 : Int) (3 : Int))) || (!(within ((List.getD c.marks i default).proc) (0 : Int) (2 : Int)))) || (!(within ((List.getD c.marks i default).number) (1 : Int) (20 : Int)))) || ((decide ((0 : Int) < ((i : Nat) : Int))) && (!(lessM (List.getD c.marks (Int.toNat (((i : Nat) : Int) - (1 : Int))) default) (List.getD c.marks i default))))))],[(1,⟨26,.fix (cC c)⟩),(5,⟨33,.fix [.i ((List.getD c.marks i default).value),.i ((List.getD c.marks i default).proc),.i ((List.getD c.marks i default).number),.b ((List.getD c.marks i default).gone)]⟩)],[5,1,999]⟩)
        (True ∧ (True ∧ True ∧ (Fits .i64 (((i + 1) : Nat) : Int))) ∧ True ∧ True)
        ⟨tt,⟨tt,tt,(by exact fits_i64 (by omega) (by omega))⟩,tt,tt⟩ ?_
       refine thenQ_normal ?_
       refine ⟨((i + 1)),(show ((i + 1) ≤ c.marks.length) ∧ (∀ j,j < (i + 1) → markOK c.marks j = true) from ⟨(by first | assumption | omega | rfl | (intro _ hjj; omega) | (simp; done) | (simp; omega)),(by rw [show ((i : Int) - 1).toNat = i - 1 by omega] at n111; exact upto_succ hA (markS_ok n111))⟩),(show c.marks.length - (i + 1) < c.marks.length - i from (by first | omega | (simp_all; omega))),?_⟩
       exact Sub.of [] (@cast (((((1 : Nat) = 1) ∧ ((0 : Nat) = 0) ∧ ((1 : Nat) ∈ ([1,999] : List Nat))) ∧ (Si (((i + 1) : Nat) : Int)) ∧ True) ∧ ((((26 : Nat) = 26) ∧ (Sc c) ∧ ((1 : Nat) ∈ ([1,999] : List Nat))) ∧ True) ∧ (true = true) ∧ (true = true)) _ (by kernel_rfl) ⟨⟨⟨rfl,rfl,(by decide)⟩,rfl,tt⟩,⟨⟨rfl,⟨rfl,rfl,rfl,rfl,rfl,rfl,tt⟩,(by decide)⟩,tt⟩,rfl,rfl⟩)
     ·intro n73
      refine W.exit (thenQ_exit (thenQ_exit (blockQ_hit ?_)))
      refine thenQ_normal ?_
      refine Kk cok tab32 hnt [] [2] (⟨[(2,.b (decide ((((List.length c.marks) : Nat) : Int) ≤ (20 : Int))))],[(1,⟨26,.fix (cC c)⟩)],[1,999]⟩)
       (True ∧ True ∧ True ∧ (True ∧ True ∧ True) ∧ True ∧ True)
       ⟨tt,tt,tt,⟨tt,tt,tt⟩,tt,tt⟩ ?_
      refine W.ret ?_
      exact endQ_ret (.b (decide ((((List.length c.marks) : Nat) : Int) ≤ (20 : Int)))) (by kernel_rfl) (@cast ((.bool (decide ((((List.length c.marks) : Nat) : Int) ≤ (20 : Int))) : Value) = .bool (validCopy c)) _ (by kernel_rfl) (congrArg Value.bool (by exact valid_spec (valid_spec2 n48).2.2 (counts_part (valid_spec2 n48).1 (fun j hj => hU j (by omega))) (counts_part (valid_spec2 n48).2.1 (fun j hj => hD j (by omega))) (allN_true (fun j hj => hA j (by omega))))))
theorem ent32 : Entr prog 32 := ⟨_,func32,rfl,by decide⟩
end Go.Proofs.Try

set_option linter.unusedSimpArgs false
set_option linter.unusedVariables false
namespace Go.Proofs.Try
open Go.Ab Go.RowKit
def fs33 : FnS := fnS [.a [some .ints,some .ints,none,none,none,some .marks]] [.copy] (fun _ (c,_) => (.agg [.own 0 (List.length c.up),.own 1 (List.length c.down),.i c.value,.i c.time,.i c.proc,.own 2 (List.length c.marks)],[(3,.ints c.up),(3,.ints c.down),(33,.marks c.marks)],(c.up.length ≤ 1000 ∧ c.down.length ≤ 1000 ∧ c.marks.length ≤ 1000)))
abbrev T33 : Tab := lk []
theorem tab33 : TabOK prog T33 := TabOK.nil
set_option maxRecDepth 100000 in
set_option maxHeartbeats 1000000 in
theorem ok33 : FnOK prog 33 fs33 := by
 refine FnOK.mk cok func33 rfl rfl rfl ?_
 rintro fl ⟨(c : CopyD),_⟩ hpre F hnt0 _
 have hnt : F.nt = 22 := hnt0.trans ntmps33
 replace hpre : (c.up.length ≤ 1000 ∧ c.down.length ≤ 1000 ∧ c.marks.length ≤ 1000) := hpre
 have hs := hpre
 refine W.to (⟨[(0,.agg (cC c))],[],[999]⟩) rfl ?_
 refine W.lenA 0 0 (cC c) (.ints c.up) (by kernel_rfl) (by kernel_rfl) ?_
 intro hl_c_up; replace hl_c_up : List.length c.up ≤ 9223372036854775807 := hl_c_up
 refine W.lenA 0 1 (cC c) (.ints c.down) (by kernel_rfl) (by kernel_rfl) ?_
 intro hl_c_down; replace hl_c_down : List.length c.down ≤ 9223372036854775807 := hl_c_down
 refine W.lenA 0 5 (cC c) (.marks c.marks) (by kernel_rfl) (by kernel_rfl) ?_
 intro hl_c_marks; replace hl_c_marks : List.length c.marks ≤ 9223372036854775807 := hl_c_marks
 refine Kk cok tab33 hnt [] [1,2] (⟨[(1,.ptr 1 0),(2,.ptr 2 0)],[(1,⟨26,.fix (cC c)⟩),(2,⟨26,.fix [.v (.slice none 0 0),.v (.slice none 0 0),.i (0 : Int),.i (0 : Int),.i (0 : Int),.v (.slice none 0 0)]⟩)],[2,1,999]⟩)
  (True ∧ True ∧ True)
  ⟨tt,tt,tt⟩ ?_
 refine W.KA cok tab33 hnt [3,6,7,10,17,20] [2] (⟨[(2,.ptr 2 0)],[(1,⟨26,.fix (cC c)⟩),(2,⟨26,.fix [.own 6 (List.length c.up),.own 10 (List.length c.down),.i c.value,.i c.time,.i c.proc,.own 20 (List.length c.marks)]⟩),(6,⟨3,.row (.ints c.up)⟩),(10,⟨3,.row (.ints c.down)⟩),(20,⟨33,.row (.marks c.marks)⟩)],[20,17,10,7,6,3,2,1,999]⟩)
  (True ∧ True ∧ True ∧ ((True ∧ ((List.length ([] : List Int)) = (List.length ([] : List Int)))) ∧ True ∧ (((List.length ([] : List Int)) + (List.length c.up)) * 8 ≤ 140737488355328)) ∧ True ∧ True ∧ True ∧ ((True ∧ ((List.length ([] : List Int)) = (List.length ([] : List Int)))) ∧ True ∧ (((List.length ([] : List Int)) + (List.length c.down)) * 8 ≤ 140737488355328)) ∧ True ∧ True ∧ True ∧ True ∧ True ∧ True ∧ True ∧ True ∧ True ∧ ((True ∧ ((List.length ([] : List MarkD)) = (List.length ([] : List MarkD)))) ∧ True ∧ (((List.length ([] : List MarkD)) + (List.length c.marks)) * 32 ≤ 140737488355328)) ∧ (True ∧ True ∧ True ∧ True ∧ True ∧ True ∧ True) ∧ (True ∧ True) ∧ True) (by kernel_rfl) (by kernel_rfl)
  ⟨tt,tt,tt,⟨⟨tt,rfl⟩,tt,(by (try simp only [List.length_append,List.length_cons,List.length_nil,List.length_set]); omega)⟩,tt,tt,tt,⟨⟨tt,rfl⟩,tt,(by (try simp only [List.length_append,List.length_cons,List.length_nil,List.length_set]); omega)⟩,tt,tt,tt,tt,tt,tt,tt,tt,tt,⟨⟨tt,rfl⟩,tt,(by (try simp only [List.length_append,List.length_cons,List.length_nil,List.length_set]); omega)⟩,⟨tt,tt,tt,tt,tt,tt,tt⟩,⟨tt,tt⟩,tt⟩ ?_
 refine W.ret ?_
 exact endQ_rows [(0,6),(1,10),(2,20)] (.agg [.own 6 (List.length c.up),.own 10 (List.length c.down),.i c.value,.i c.time,.i c.proc,.own 20 (List.length c.marks)]) (by kernel_rfl) (@cast ((((6 : Nat) = 6) ∧ ((List.length c.up) = (List.length c.up)) ∧ ((0 : Nat) ∈ ([0,1,2] : List Nat))) ∧ (((10 : Nat) = 10) ∧ ((List.length c.down) = (List.length c.down)) ∧ ((1 : Nat) ∈ ([0,1,2] : List Nat))) ∧ (Si c.value) ∧ (Si c.time) ∧ (Si c.proc) ∧ (((20 : Nat) = 20) ∧ ((List.length c.marks) = (List.length c.marks)) ∧ ((2 : Nat) ∈ ([0,1,2] : List Nat))) ∧ True) _ (by kernel_rfl) ⟨⟨rfl,rfl,(by decide)⟩,⟨rfl,rfl,(by decide)⟩,rfl,rfl,rfl,⟨rfl,rfl,(by decide)⟩,tt⟩) (@cast ((((3 : Nat) = 3) ∧ (Sd (.ints c.up)) ∧ ((0 : Nat) ∈ ([0,1,2] : List Nat))) ∧ (((3 : Nat) = 3) ∧ (Sd (.ints c.down)) ∧ ((1 : Nat) ∈ ([0,1,2] : List Nat))) ∧ (((33 : Nat) = 33) ∧ (Sd (.marks c.marks)) ∧ ((2 : Nat) ∈ ([0,1,2] : List Nat))) ∧ True) _ (by kernel_rfl) ⟨⟨rfl,rfl,(by decide)⟩,⟨rfl,rfl,(by decide)⟩,⟨rfl,rfl,(by decide)⟩,tt⟩) (by kernel_rfl)
theorem ent33 : Entr prog 33 := ⟨_,func33,rfl,by decide⟩
end Go.Proofs.Try

set_option linter.unusedSimpArgs false
set_option linter.unusedVariables false
namespace Go.Proofs.Try
open Go.Ab Go.RowKit
def fs34 : FnS := fnS [.a [some .ints,some .ints,none,none,none,some .marks],.a [some .ints,some .ints,none,none,none,some .marks]] [.copy,.copy] (fun _ (a,b,_) => (.b (newerC a b),[],True))
abbrev T34 : Tab := lk []
theorem tab34 : TabOK prog T34 := TabOK.nil
set_option maxRecDepth 100000 in
set_option maxHeartbeats 1000000 in
theorem ok34 : FnOK prog 34 fs34 := by
 refine FnOK.mk cok func34 rfl rfl rfl ?_
 rintro fl ⟨(a : CopyD),(b : CopyD),_⟩ hpre F hnt0 _
 have hnt : F.nt = 30 := hnt0.trans ntmps34
 clear hpre
 refine W.to (⟨[(0,.agg (cC a)),(1,.agg (cC b))],[],[999]⟩) rfl ?_
 refine W.lenA 0 0 (cC a) (.ints a.up) (by kernel_rfl) (by kernel_rfl) ?_
 intro hl_a_up; replace hl_a_up : List.length a.up ≤ 9223372036854775807 := hl_a_up
 refine W.lenA 0 1 (cC a) (.ints a.down) (by kernel_rfl) (by kernel_rfl) ?_
 intro hl_a_down; replace hl_a_down : List.length a.down ≤ 9223372036854775807 := hl_a_down
 refine W.lenA 0 5 (cC a) (.marks a.marks) (by kernel_rfl) (by kernel_rfl) ?_
 intro hl_a_marks; replace hl_a_marks : List.length a.marks ≤ 9223372036854775807 := hl_a_marks
 refine W.lenA 1 0 (cC b) (.ints b.up) (by kernel_rfl) (by kernel_rfl) ?_
 intro hl_b_up; replace hl_b_up : List.length b.up ≤ 9223372036854775807 := hl_b_up
 refine W.lenA 1 1 (cC b) (.ints b.down) (by kernel_rfl) (by kernel_rfl) ?_
 intro hl_b_down; replace hl_b_down : List.length b.down ≤ 9223372036854775807 := hl_b_down
 refine W.lenA 1 5 (cC b) (.marks b.marks) (by kernel_rfl) (by kernel_rfl) ?_
 intro hl_b_marks; replace hl_b_marks : List.length b.marks ≤ 9223372036854775807 := hl_b_marks
 refine Kk cok tab34 hnt [] [2,3] (⟨[(2,.ptr 2 0),(3,.ptr 3 0)],[(2,⟨26,.fix (cC a)⟩),(3,⟨26,.fix (cC b)⟩)],[3,2,999]⟩)
  (True ∧ True ∧ True ∧ True)
  ⟨tt,tt,tt,tt⟩ ?_
 refine W.seq ?_
 refine Kk cok tab34 hnt [] [2,3,9] (⟨[(2,.ptr 2 0),(3,.ptr 3 0),(9,.b (decide (a.time ≠ b.time)))],[(2,⟨26,.fix (cC a)⟩),(3,⟨26,.fix (cC b)⟩)],[3,2,999]⟩)
  (True ∧ True ∧ True ∧ True ∧ (True ∧ True ∧ True) ∧ True)
  ⟨tt,tt,tt,tt,⟨tt,tt,tt⟩,tt⟩ ?_
 refine W.ifP (a.time ≠ b.time) (.b (decide (a.time ≠ b.time))) (by kernel_rfl) rfl trivial ?_ ?_
 ·intro h9
  refine Kk cok tab34 hnt [] [4] (⟨[(4,.b (decide (b.time < a.time)))],[(2,⟨26,.fix (cC a)⟩),(3,⟨26,.fix (cC b)⟩)],[3,2,999]⟩)
   (True ∧ True ∧ True ∧ True ∧ (True ∧ True ∧ True) ∧ True ∧ True)
   ⟨tt,tt,tt,tt,⟨tt,tt,tt⟩,tt,tt⟩ ?_
  refine W.ret (thenQ_ret ?_)
  exact endQ_ret (.b (decide (b.time < a.time))) (by kernel_rfl) (@cast ((.bool (decide (b.time < a.time)) : Value) = .bool (newerC a b)) _ (by kernel_rfl) (congrArg Value.bool (by unfold newerC; rw [decide_eq_true h9]; rfl)))
 ·intro n9
  refine W.skip (thenQ_normal ?_)
  refine W.seq ?_
  refine Kk cok tab34 hnt [] [2,3,19] (⟨[(2,.ptr 2 0),(3,.ptr 3 0),(19,.b (decide (a.proc ≠ b.proc)))],[(2,⟨26,.fix (cC a)⟩),(3,⟨26,.fix (cC b)⟩)],[3,2,999]⟩)
   (True ∧ True ∧ True ∧ True ∧ (True ∧ True ∧ True) ∧ True)
   ⟨tt,tt,tt,tt,⟨tt,tt,tt⟩,tt⟩ ?_
  refine W.ifP (a.proc ≠ b.proc) (.b (decide (a.proc ≠ b.proc))) (by kernel_rfl) rfl trivial ?_ ?_
  ·intro h19
   refine Kk cok tab34 hnt [] [4] (⟨[(4,.b (decide (b.proc < a.proc)))],[(2,⟨26,.fix (cC a)⟩),(3,⟨26,.fix (cC b)⟩)],[3,2,999]⟩)
    (True ∧ True ∧ True ∧ True ∧ (True ∧ True ∧ True) ∧ True ∧ True)
    ⟨tt,tt,tt,tt,⟨tt,tt,tt⟩,tt,tt⟩ ?_
   refine W.ret (thenQ_ret ?_)
   exact endQ_ret (.b (decide (b.proc < a.proc))) (by kernel_rfl) (@cast ((.bool (decide (b.proc < a.proc)) : Value) = .bool (newerC a b)) _ (by kernel_rfl) (congrArg Value.bool (by unfold newerC; rw [decide_eq_false n9,decide_eq_true h19]; rfl)))
  ·intro n19
   refine W.skip (thenQ_normal ?_)
   refine Kk cok tab34 hnt [] [4] (⟨[(4,.b (decide (b.value < a.value)))],[(2,⟨26,.fix (cC a)⟩),(3,⟨26,.fix (cC b)⟩)],[3,2,999]⟩)
    (True ∧ True ∧ True ∧ True ∧ (True ∧ True ∧ True) ∧ True ∧ True)
    ⟨tt,tt,tt,tt,⟨tt,tt,tt⟩,tt,tt⟩ ?_
   refine W.ret ?_
   exact endQ_ret (.b (decide (b.value < a.value))) (by kernel_rfl) (@cast ((.bool (decide (b.value < a.value)) : Value) = .bool (newerC a b)) _ (by kernel_rfl) (congrArg Value.bool (by unfold newerC; rw [decide_eq_false n9,decide_eq_false n19]; rfl)))
theorem ent34 : Entr prog 34 := ⟨_,func34,rfl,by decide⟩
end Go.Proofs.Try

set_option linter.unusedSimpArgs false
set_option linter.unusedVariables false
namespace Go.Proofs.Try
open Go.Ab Go.RowKit
def fs35 : FnS := fnS [.s .marks,.s .marks] [.marks,.marks] (fun _ (a,b,_) => (.tup [.sl (.marks ((uniteP a b).1)),.b ((uniteP a b).2)],[],(a.length ≤ 1000 ∧ b.length ≤ 1000)))
abbrev T35 : Tab := lk [(45,fs45)]
theorem tab35 : TabOK prog T35 := (TabOK.cons ok45 ent45 TabOK.nil)
set_option maxRecDepth 100000 in
set_option maxHeartbeats 1000000 in
theorem ok35 : FnOK prog 35 fs35 := by
 refine FnOK.mk cok func35 rfl rfl rfl ?_
 rintro fl ⟨(a : List MarkD),(b : List MarkD),_⟩ hpre F hnt0 _
 have hnt : F.nt = 112 := hnt0.trans ntmps35
 replace hpre : (a.length ≤ 1000 ∧ b.length ≤ 1000) := hpre
 have hs := hpre
 refine W.to (⟨[(0,.sl (.marks a)),(1,.sl (.marks b))],[],[999]⟩) rfl ?_
 refine W.lenOf 0 (.marks a) (by kernel_rfl) ?_
 intro hl_a; replace hl_a : List.length a ≤ 9223372036854775807 := hl_a
 refine W.lenOf 1 (.marks b) (by kernel_rfl) ?_
 intro hl_b; replace hl_b : List.length b ≤ 9223372036854775807 := hl_b
 refine Kk cok tab35 hnt [] [0,1] (⟨[(0,.sl (.marks a)),(1,.sl (.marks b))],[],[999]⟩)
  (True ∧ True ∧ True)
  ⟨tt,tt,tt⟩ ?_
 refine Kk cok tab35 hnt [10] [0,1,6] (⟨[(0,.sl (.marks a)),(1,.sl (.marks b)),(6,.own 10 (List.length ([] : List MarkD)))],[(10,⟨33,.row (.marks ([] : List MarkD))⟩)],[10,999]⟩)
  (True ∧ True ∧ True)
  ⟨tt,tt,tt⟩ ?_
 refine Kk cok tab35 hnt [] [0,1,6,7] (⟨[(0,.sl (.marks a)),(1,.sl (.marks b)),(6,.own 10 (List.length ([] : List MarkD))),(7,.i (0 : Int))],[(10,⟨33,.row (.marks ([] : List MarkD))⟩)],[10,999]⟩)
  (True ∧ True)
  ⟨tt,tt⟩ ?_
 refine Kk cok tab35 hnt [] [0,1,6,7,8] (⟨[(0,.sl (.marks a)),(1,.sl (.marks b)),(6,.own 10 (List.length ([] : List MarkD))),(7,.i (0 : Int)),(8,.i (0 : Int))],[(10,⟨33,.row (.marks ([] : List MarkD))⟩)],[10,999]⟩)
  (True ∧ True)
  ⟨tt,tt⟩ ?_
 refine W.seq ?_
 refine W.block ?_
 refine W.loop (ι := (List MarkD) × Nat × Nat) (fun (x : (List MarkD) × Nat × Nat) => match x with | (o,i,k) => (⟨[(0,.sl (.marks a)),(1,.sl (.marks b)),(6,.own 10 o.length),(7,.i ((i : Nat) : Int)),(8,.i ((k : Nat) : Int))],[(10,⟨33,.row (.marks o)⟩)],[10,999]⟩ : St))
  (fun (x : (List MarkD) × Nat × Nat) => match x with | (o,i,k) => (i ≤ a.length ∧ k ≤ b.length) ∧ (unUp a b i k o) ∧ (o.length ≤ i + k))
  (fun (x : (List MarkD) × Nat × Nat) => match x with | (o,i,k) => (a.length - i + (b.length - k) : Nat)) (([] : List MarkD),0,0) ?_ ?_ ?_
 ·exact (show (0 ≤ a.length ∧ 0 ≤ b.length) ∧ (unUp a b 0 0 ([] : List MarkD)) ∧ (([] : List MarkD).length ≤ 0 + 0) from ⟨(by first | assumption | omega | rfl | (intro _ hjj; omega) | (simp; done) | (simp; omega)),(by exact unUp_zero a b),(by exact Nat.le_refl _)⟩)
 ·exact Sub.of [] (@cast (((Sd (.marks a)) ∧ (Sd (.marks b)) ∧ (((10 : Nat) = 10) ∧ ((List.length ([] : List MarkD)) = (List.length ([] : List MarkD))) ∧ ((10 : Nat) ∈ ([10,999] : List Nat))) ∧ ((.int .i64 (0 : Int) : Value) = .int .i64 ((0 : Nat) : Int)) ∧ ((.int .i64 (0 : Int) : Value) = .int .i64 ((0 : Nat) : Int)) ∧ True) ∧ ((((33 : Nat) = 33) ∧ (Sd (.marks ([] : List MarkD))) ∧ ((10 : Nat) ∈ ([10,999] : List Nat))) ∧ True) ∧ (true = true) ∧ (true = true)) _ (by kernel_rfl) ⟨⟨rfl,rfl,⟨rfl,rfl,(by decide)⟩,(congrArg (Value.int .i64) (by first | rfl | omega | assumption | simp | simp_all)),(congrArg (Value.int .i64) (by first | rfl | omega | assumption | simp | simp_all)),tt⟩,⟨⟨rfl,rfl,(by decide)⟩,tt⟩,rfl,rfl⟩)
 ·rintro ⟨o,i,k⟩ hC0
  have hC : (i ≤ a.length ∧ k ≤ b.length) ∧ (unUp a b i k o) ∧ (o.length ≤ i + k) := hC0
  clear hC0
  obtain ⟨hik,hu,hol⟩ := hC
  refine W.to (⟨[(0,.sl (.marks a)),(1,.sl (.marks b)),(6,.own 10 o.length),(7,.i ((i : Nat) : Int)),(8,.i ((k : Nat) : Int))],[(10,⟨33,.row (.marks o)⟩)],[10,999]⟩) rfl ?_
  refine W.seq ?_
  refine Kk cok tab35 hnt [] [0,1,6,7,8,20] (⟨[(0,.sl (.marks a)),(1,.sl (.marks b)),(6,.own 10 o.length),(7,.i ((i : Nat) : Int)),(8,.i ((k : Nat) : Int)),(20,.b ((decide (((i : Nat) : Int) < (a.length : Int))) || (decide (((k : Nat) : Int) < (b.length : Int)))))],[(10,⟨33,.row (.marks o)⟩)],[10,999]⟩)
   ((fun (Z1:Bool)=>(True ∧ (True ∧ (True ∧ ((True ∧ (True ∧ True)) ∧ (True ∧ (((!Z1) = true → True) ∧ (((!Z1) = true → True) ∧ (((!Z1) = true → (((!Z1) = true) ∧ True)) ∧ (((!Z1) = true → ((((!Z1) = true) ∧ True) ∧ ((((!Z1) = true) ∧ True) ∧ True))) ∧ ((True ∧ ((Z1 = true → True) ∧ (Z1 = false → ((!Z1) = true) ∧ True))) ∧ True))))))))))) (decide (((i : Nat) : Int) < (a.length : Int))))
   ⟨tt,tt,tt,⟨tt,tt,tt⟩,tt,(fun _ => trivial),(fun _ => trivial),(fun hG => ⟨hG,tt⟩),(fun hG => ⟨⟨hG,tt⟩,⟨hG,tt⟩,tt⟩),⟨tt,(fun _ => trivial),(fun hp => ⟨(not_t hp),tt⟩)⟩,tt⟩ ?_
  refine W.if' ((decide (((i : Nat) : Int) < (a.length : Int))) || (decide (((k : Nat) : Int) < (b.length : Int)))) (.b ((decide (((i : Nat) : Int) < (a.length : Int))) || (decide (((k : Nat) : Int) < (b.length : Int))))) (by kernel_rfl) rfl trivial ?_ ?_
  ·intro h20
   refine W.skip (thenQ_normal ?_)
   refine W.block ?_
   refine W.KA cok tab35 hnt [] [0,1,6,7,8,41] (⟨[(0,.sl (.marks a)),(1,.sl (.marks b)),(6,.own 10 o.length),(7,.i ((i : Nat) : Int)),(8,.i ((k : Nat) : Int)),(41,.b ((decide (((k : Nat) : Int) = (b.length : Int))) || ((decide (((i : Nat) : Int) < (a.length : Int))) && (lessM (a.getD i default) (b.getD k default)))))],[(10,⟨33,.row (.marks o)⟩)],[10,999]⟩)
    ((fun (Z1:Bool)=>((fun (Z2:Bool)=>((fun (Z3:Bool)=>((fun (Z4:Bool)=>(True ∧ (True ∧ (True ∧ ((True ∧ (True ∧ True)) ∧ (True ∧ ((Z3 = true → True) ∧ ((Z3 = true → True) ∧ ((Z3 = true → ((Z3 = true) ∧ True)) ∧ ((Z3 = true → (((Z3 = true) ∧ True) ∧ (((Z3 = true) ∧ True) ∧ True))) ∧ ((Z3 = true → True) ∧ ((Z4 = true → True) ∧ ((Z4 = true → True) ∧ ((Z4 = true → (((Z4 = true) ∧ True) ∧ (((Z4 = true) ∧ True) ∧ ((0 ≤ ((i : Nat) : Int)) ∧ (((i : Nat) : Int) < (a.length : Int)))))) ∧ ((Z4 = true → ((Z4 = true) ∧ True)) ∧ ((Z4 = true → True) ∧ ((Z4 = true → True) ∧ ((Z4 = true → (((Z4 = true) ∧ True) ∧ (((Z4 = true) ∧ True) ∧ ((0 ≤ ((k : Nat) : Int)) ∧ (((k : Nat) : Int) < (b.length : Int)))))) ∧ ((Z4 = true → ((Z4 = true) ∧ True)) ∧ ((Z4 = true → (True ∧ ((((Z4 = true) ∧ True) ∧ (((Z4 = true) ∧ True) ∧ True)) ∧ True))) ∧ ((Z3 = true → (((Z3 = true) ∧ ((Z3 = true) ∧ True)) ∧ ((Z1 = true → (Z4 = true) ∧ True) ∧ (Z1 = false → True)))) ∧ ((True ∧ ((Z2 = true → True) ∧ (Z2 = false → (Z3 = true) ∧ True))) ∧ True)))))))))))))))))))))) (Z3 && (Z3 && Z1)))) (!Z2))) (decide (((k : Nat) : Int) = (b.length : Int))))) (decide (((i : Nat) : Int) < (a.length : Int)))) (by kernel_rfl) (by kernel_rfl)
    ⟨tt,tt,tt,⟨tt,tt,tt⟩,tt,(fun _ => trivial),(fun _ => trivial),(fun hG => ⟨hG,tt⟩),(fun hG => ⟨⟨hG,tt⟩,⟨hG,tt⟩,tt⟩),(fun _ => trivial),(fun _ => trivial),(fun _ => trivial),(fun hG => ⟨⟨hG,tt⟩,⟨hG,tt⟩,(by have hg0 : ¬ (((k : Nat) : Int) = (b.length : Int)) := of_decide_eq_false (not_f (and_l hG)); have hg1 : ¬ (((k : Nat) : Int) = (b.length : Int)) := of_decide_eq_false (not_f (and_l (and_r hG))); have hg2 : ((i : Nat) : Int) < (a.length : Int) := of_decide_eq_true (and_r (and_r hG)); omega),(by have hg0 : ¬ (((k : Nat) : Int) = (b.length : Int)) := of_decide_eq_false (not_f (and_l hG)); have hg1 : ¬ (((k : Nat) : Int) = (b.length : Int)) := of_decide_eq_false (not_f (and_l (and_r hG))); have hg2 : ((i : Nat) : Int) < (a.length : Int) := of_decide_eq_true (and_r (and_r hG)); omega)⟩),(fun hG => ⟨hG,tt⟩),(fun _ => trivial),(fun _ => trivial),(fun hG => ⟨⟨hG,tt⟩,⟨hG,tt⟩,(by have hg0 : ¬ (((k : Nat) : Int) = (b.length : Int)) := of_decide_eq_false (not_f (and_l hG)); have hg1 : ¬ (((k : Nat) : Int) = (b.length : Int)) := of_decide_eq_false (not_f (and_l (and_r hG))); have hg2 : ((i : Nat) : Int) < (a.length : Int) := of_decide_eq_true (and_r (and_r hG)); omega),(by have hg0 : ¬ (((k : Nat) : Int) = (b.length : Int)) := of_decide_eq_false (not_f (and_l hG)); have hg1 : ¬ (((k : Nat) : Int) = (b.length : Int)) := of_decide_eq_false (not_f (and_l (and_r hG))); have hg2 : ((i : Nat) : Int) < (a.length : Int) := of_decide_eq_true (and_r (and_r hG)); omega)⟩),(fun hG => ⟨hG,tt⟩),(fun hG => ⟨tt,⟨⟨hG,tt⟩,⟨hG,tt⟩,tt⟩,tt⟩),(fun hG => ⟨⟨hG,hG,tt⟩,(fun hp => ⟨(and_t hG (and_t hG hp)),tt⟩),(fun _ => trivial)⟩),⟨tt,(fun _ => trivial),(fun hp => ⟨(not_t hp),tt⟩)⟩,tt⟩ ?_
   refine W.if' ((decide (((k : Nat) : Int) = (b.length : Int))) || ((decide (((i : Nat) : Int) < (a.length : Int))) && (lessM (a.getD i default) (b.getD k default)))) (.b ((decide (((k : Nat) : Int) = (b.length : Int))) || ((decide (((i : Nat) : Int) < (a.length : Int))) && (lessM (a.getD i default) (b.getD k default))))) (by kernel_rfl) rfl trivial ?_ ?_
   ·intro h41
    have hai := (un_a hu (by simp at h20; omega) hik h41).2
    refine Kk cok tab35 hnt [48] [0,1,6,7,8] (⟨[(0,.sl (.marks a)),(1,.sl (.marks b)),(6,.own 48 (List.length (o ++ ([(a.getD i default)])))),(7,.i ((i : Nat) : Int)),(8,.i ((k : Nat) : Int))],[(48,⟨33,.row (.marks (o ++ ([(a.getD i default)])))⟩)],[48,47,10,999]⟩)
     (True ∧ True ∧ True ∧ (True ∧ True ∧ (0 ≤ ((i : Nat) : Int)) ∧ (((i : Nat) : Int) < (a.length : Int))) ∧ True ∧ (True ∧ True) ∧ ((True ∧ (o.length = o.length)) ∧ True ∧ ((o.length + (List.length ([(a.getD i default)]))) * 32 ≤ 140737488355328)) ∧ True ∧ True)
     ⟨tt,tt,tt,⟨tt,tt,(by omega),(by omega)⟩,tt,⟨tt,tt⟩,⟨⟨tt,rfl⟩,tt,(by (try simp only [List.length_append,List.length_cons,List.length_nil,List.length_set]); omega)⟩,tt,tt⟩ ?_
    refine Lk cok tab35 hnt [] (⟨[(0,.sl (.marks a)),(1,.sl (.marks b)),(6,.own 48 (List.length (o ++ ([(a.getD i default)])))),(7,.i (((i + 1) : Nat) : Int)),(8,.i ((k : Nat) : Int)),(49,.i ((i : Nat) : Int)),(50,.i (((i + 1) : Nat) : Int))],[(48,⟨33,.row (.marks (o ++ ([(a.getD i default)])))⟩)],[48,47,10,999]⟩)
     (True ∧ (True ∧ True ∧ (Fits .i64 (((i + 1) : Nat) : Int))) ∧ True ∧ True)
     ⟨tt,⟨tt,tt,(by exact fits_i64 (by omega) (by omega))⟩,tt,tt⟩ ?_
    refine blockQ_normal (thenQ_normal ?_)
    refine ⟨((o ++ ([(a.getD i default)])),(i + 1),k),(show ((i + 1) ≤ a.length ∧ k ≤ b.length) ∧ (unUp a b (i + 1) k (o ++ ([(a.getD i default)]))) ∧ ((o ++ ([(a.getD i default)])).length ≤ (i + 1) + k) from ⟨(by first | (have := (un_a hu (by simp at h20; omega) hik h41).2; omega) | (have := (un_b hu hik n41 h65).2; omega) | omega),(by first | exact (un_a hu (by simp at h20; omega) hik h41).1 | exact (un_b hu hik n41 h65).1 | exact un_c hu hbb n85),(by simp; omega)⟩),(show a.length - (i + 1) + (b.length - k) < a.length - i + (b.length - k) from (by first | (have := (un_a hu (by simp at h20; omega) hik h41).2; omega) | (have := (un_b hu hik n41 h65).2; omega) | omega)),?_⟩
    exact Sub.of [(10,48)] (@cast (((Sd (.marks a)) ∧ (Sd (.marks b)) ∧ (((48 : Nat) = 48) ∧ ((List.length (o ++ ([(a.getD i default)]))) = (List.length (o ++ ([(a.getD i default)])))) ∧ ((10 : Nat) ∈ ([10,999] : List Nat))) ∧ (Si (((i + 1) : Nat) : Int)) ∧ (Si ((k : Nat) : Int)) ∧ True) ∧ ((((33 : Nat) = 33) ∧ (Sd (.marks (o ++ ([(a.getD i default)])))) ∧ ((10 : Nat) ∈ ([10,999] : List Nat))) ∧ True) ∧ (true = true) ∧ (true = true)) _ (by kernel_rfl) ⟨⟨rfl,rfl,⟨rfl,rfl,(by decide)⟩,rfl,rfl,tt⟩,⟨⟨rfl,rfl,(by decide)⟩,tt⟩,rfl,rfl⟩)
   ·intro n41
    have n41_0 : ¬ (((k : Nat) : Int) = (b.length : Int)) := of_decide_eq_false (or_l n41)
    refine W.KA cok tab35 hnt [] [0,1,6,7,8,65] (⟨[(0,.sl (.marks a)),(1,.sl (.marks b)),(6,.own 10 o.length),(7,.i ((i : Nat) : Int)),(8,.i ((k : Nat) : Int)),(65,.b ((decide (((i : Nat) : Int) = (a.length : Int))) || (lessM (b.getD k default) (a.getD i default))))],[(10,⟨33,.row (.marks o)⟩)],[10,999]⟩)
     ((fun (Z1:Bool)=>(True ∧ (True ∧ (True ∧ ((True ∧ (True ∧ True)) ∧ (True ∧ (((!Z1) = true → True) ∧ (((!Z1) = true → True) ∧ (((!Z1) = true → ((((!Z1) = true) ∧ True) ∧ ((((!Z1) = true) ∧ True) ∧ ((0 ≤ ((k : Nat) : Int)) ∧ (((k : Nat) : Int) < (b.length : Int)))))) ∧ (((!Z1) = true → (((!Z1) = true) ∧ True)) ∧ (((!Z1) = true → True) ∧ (((!Z1) = true → True) ∧ (((!Z1) = true → ((((!Z1) = true) ∧ True) ∧ ((((!Z1) = true) ∧ True) ∧ ((0 ≤ ((i : Nat) : Int)) ∧ (((i : Nat) : Int) < (a.length : Int)))))) ∧ (((!Z1) = true → (((!Z1) = true) ∧ True)) ∧ (((!Z1) = true → (True ∧ (((((!Z1) = true) ∧ True) ∧ ((((!Z1) = true) ∧ True) ∧ True)) ∧ True))) ∧ ((True ∧ ((Z1 = true → True) ∧ (Z1 = false → ((!Z1) = true) ∧ True))) ∧ True)))))))))))))))) (decide (((i : Nat) : Int) = (a.length : Int)))) (by kernel_rfl) (by kernel_rfl)
     ⟨tt,tt,tt,⟨tt,tt,tt⟩,tt,(fun _ => trivial),(fun _ => trivial),(fun hG => ⟨⟨hG,tt⟩,⟨hG,tt⟩,(by have hg0 : ¬ (((i : Nat) : Int) = (a.length : Int)) := of_decide_eq_false (not_f hG); omega),(by have hg0 : ¬ (((i : Nat) : Int) = (a.length : Int)) := of_decide_eq_false (not_f hG); omega)⟩),(fun hG => ⟨hG,tt⟩),(fun _ => trivial),(fun _ => trivial),(fun hG => ⟨⟨hG,tt⟩,⟨hG,tt⟩,(by have hg0 : ¬ (((i : Nat) : Int) = (a.length : Int)) := of_decide_eq_false (not_f hG); omega),(by have hg0 : ¬ (((i : Nat) : Int) = (a.length : Int)) := of_decide_eq_false (not_f hG); omega)⟩),(fun hG => ⟨hG,tt⟩),(fun hG => ⟨tt,⟨⟨hG,tt⟩,⟨hG,tt⟩,tt⟩,tt⟩),⟨tt,(fun _ => trivial),(fun hp => ⟨(not_t hp),tt⟩)⟩,tt⟩ ?_
    refine W.if' ((decide (((i : Nat) : Int) = (a.length : Int))) || (lessM (b.getD k default) (a.getD i default))) (.b ((decide (((i : Nat) : Int) = (a.length : Int))) || (lessM (b.getD k default) (a.getD i default)))) (by kernel_rfl) rfl trivial ?_ ?_
    ·intro h65
     have hbi := (un_b hu hik n41 h65).2
     refine Kk cok tab35 hnt [72] [0,1,6,7,8] (⟨[(0,.sl (.marks a)),(1,.sl (.marks b)),(6,.own 72 (List.length (o ++ ([(b.getD k default)])))),(7,.i ((i : Nat) : Int)),(8,.i ((k : Nat) : Int))],[(72,⟨33,.row (.marks (o ++ ([(b.getD k default)])))⟩)],[72,71,10,999]⟩)
      (True ∧ True ∧ True ∧ (True ∧ True ∧ (0 ≤ ((k : Nat) : Int)) ∧ (((k : Nat) : Int) < (b.length : Int))) ∧ True ∧ (True ∧ True) ∧ ((True ∧ (o.length = o.length)) ∧ True ∧ ((o.length + (List.length ([(b.getD k default)]))) * 32 ≤ 140737488355328)) ∧ True ∧ True)
      ⟨tt,tt,tt,⟨tt,tt,(by omega),(by omega)⟩,tt,⟨tt,tt⟩,⟨⟨tt,rfl⟩,tt,(by (try simp only [List.length_append,List.length_cons,List.length_nil,List.length_set]); omega)⟩,tt,tt⟩ ?_
     refine Lk cok tab35 hnt [] (⟨[(0,.sl (.marks a)),(1,.sl (.marks b)),(6,.own 72 (List.length (o ++ ([(b.getD k default)])))),(7,.i ((i : Nat) : Int)),(8,.i (((k + 1) : Nat) : Int)),(73,.i ((k : Nat) : Int)),(74,.i (((k + 1) : Nat) : Int))],[(72,⟨33,.row (.marks (o ++ ([(b.getD k default)])))⟩)],[72,71,10,999]⟩)
      (True ∧ (True ∧ True ∧ (Fits .i64 (((k + 1) : Nat) : Int))) ∧ True ∧ True)
      ⟨tt,⟨tt,tt,(by exact fits_i64 (by omega) (by omega))⟩,tt,tt⟩ ?_
     refine blockQ_normal (thenQ_normal ?_)
     refine ⟨((o ++ ([(b.getD k default)])),i,(k + 1)),(show (i ≤ a.length ∧ (k + 1) ≤ b.length) ∧ (unUp a b i (k + 1) (o ++ ([(b.getD k default)]))) ∧ ((o ++ ([(b.getD k default)])).length ≤ i + (k + 1)) from ⟨(by first | (have := (un_a hu (by simp at h20; omega) hik h41).2; omega) | (have := (un_b hu hik n41 h65).2; omega) | omega),(by first | exact (un_a hu (by simp at h20; omega) hik h41).1 | exact (un_b hu hik n41 h65).1 | exact un_c hu hbb n85),(by simp; omega)⟩),(show a.length - i + (b.length - (k + 1)) < a.length - i + (b.length - k) from (by first | (have := (un_a hu (by simp at h20; omega) hik h41).2; omega) | (have := (un_b hu hik n41 h65).2; omega) | omega)),?_⟩
     exact Sub.of [(10,72)] (@cast (((Sd (.marks a)) ∧ (Sd (.marks b)) ∧ (((72 : Nat) = 72) ∧ ((List.length (o ++ ([(b.getD k default)]))) = (List.length (o ++ ([(b.getD k default)])))) ∧ ((10 : Nat) ∈ ([10,999] : List Nat))) ∧ (Si ((i : Nat) : Int)) ∧ (Si (((k + 1) : Nat) : Int)) ∧ True) ∧ ((((33 : Nat) = 33) ∧ (Sd (.marks (o ++ ([(b.getD k default)])))) ∧ ((10 : Nat) ∈ ([10,999] : List Nat))) ∧ True) ∧ (true = true) ∧ (true = true)) _ (by kernel_rfl) ⟨⟨rfl,rfl,⟨rfl,rfl,(by decide)⟩,rfl,rfl,tt⟩,⟨⟨rfl,rfl,(by decide)⟩,tt⟩,rfl,rfl⟩)
    ·intro n65
     have n65_0 : ¬ (((i : Nat) : Int) = (a.length : Int)) := of_decide_eq_false (or_l n65)
     have hbb := un_both hik n41 n65
     refine W.seq ?_
     refine W.KA cok tab35 hnt [] [0,1,6,7,8,85] (⟨[(0,.sl (.marks a)),(1,.sl (.marks b)),(6,.own 10 o.length),(7,.i ((i : Nat) : Int)),(8,.i ((k : Nat) : Int)),(85,.b (decide (((a.getD i default).value) ≠ ((b.getD k default).value))))],[(10,⟨33,.row (.marks o)⟩)],[10,999]⟩)
      (True ∧ True ∧ (True ∧ True ∧ (0 ≤ ((i : Nat) : Int)) ∧ (((i : Nat) : Int) < (a.length : Int))) ∧ True ∧ True ∧ True ∧ True ∧ (True ∧ True ∧ (0 ≤ ((k : Nat) : Int)) ∧ (((k : Nat) : Int) < (b.length : Int))) ∧ True ∧ True ∧ (True ∧ True ∧ True) ∧ True) (by kernel_rfl) (by kernel_rfl)
      ⟨tt,tt,⟨tt,tt,(by omega),(by omega)⟩,tt,tt,tt,tt,⟨tt,tt,(by omega),(by omega)⟩,tt,tt,⟨tt,tt,tt⟩,tt⟩ ?_
     refine W.ifP (((a.getD i default).value) ≠ ((b.getD k default).value)) (.b (decide (((a.getD i default).value) ≠ ((b.getD k default).value)))) (by kernel_rfl) rfl trivial ?_ ?_
     ·intro h85
      refine Kk cok tab35 hnt [] [4,5] (⟨[(4,.v (.slice none 0 0)),(5,.b false)],[(10,⟨33,.row (.marks o)⟩)],[10,999]⟩)
       (True ∧ True ∧ True)
       ⟨tt,tt,tt⟩ ?_
      refine W.ret (thenQ_ret (blockQ_ret (thenQ_ret (blockQ_ret (thenQ_ret ?_)))))
      exact endQ_ret (.tup [.v (.slice none 0 0),.b false]) (by kernel_rfl) (@cast ((((Value.slice none 0 0 : Value) = .slice none 0 0) ∧ ((Dat.marks ((uniteP a b).1)).len = 0)) ∧ ((.bool false : Value) = .bool ((uniteP a b).2)) ∧ True) _ (by kernel_rfl) ⟨⟨rfl,(by show List.length ((uniteP a b).1) = 0; rw [un_no hu hbb h85]; try rfl)⟩,(congrArg Value.bool (by rw [un_no hu hbb h85]; try rfl)),tt⟩)
     ·intro n85
      refine W.skip (thenQ_normal ?_)
      refine Kk cok tab35 hnt [] [0,1,6,7,8,9] (⟨[(0,.sl (.marks a)),(1,.sl (.marks b)),(6,.own 10 o.length),(7,.i ((i : Nat) : Int)),(8,.i ((k : Nat) : Int)),(9,.ptr 9 0)],[(9,⟨33,.fix [.i ((a.getD i default).value),.i ((a.getD i default).proc),.i ((a.getD i default).number),.b ((a.getD i default).gone)]⟩),(10,⟨33,.row (.marks o)⟩)],[9,10,999]⟩)
       (True ∧ True ∧ (True ∧ True ∧ (0 ≤ ((i : Nat) : Int)) ∧ (((i : Nat) : Int) < (a.length : Int))) ∧ True ∧ True ∧ (True ∧ True) ∧ True)
       ⟨tt,tt,⟨tt,tt,(by omega),(by omega)⟩,tt,tt,⟨tt,tt⟩,tt⟩ ?_
      refine Kk cok tab35 hnt [] [0,1,6,7,8,9] (⟨[(0,.sl (.marks a)),(1,.sl (.marks b)),(6,.own 10 o.length),(7,.i ((i : Nat) : Int)),(8,.i ((k : Nat) : Int)),(9,.ptr 9 0)],[(9,⟨33,.fix [.i ((a.getD i default).value),.i ((a.getD i default).proc),.i ((a.getD i default).number),.b (((a.getD i default).gone) || ((b.getD k default).gone))]⟩),(10,⟨33,.row (.marks o)⟩)],[9,10,999]⟩)
       ((fun (Z1:Bool)=>(True ∧ (True ∧ ((True ∧ (True ∧ ((0 ≤ ((i : Nat) : Int)) ∧ (((i : Nat) : Int) < (a.length : Int))))) ∧ (True ∧ (True ∧ (True ∧ (((!Z1) = true → True) ∧ (((!Z1) = true → True) ∧ (((!Z1) = true → ((((!Z1) = true) ∧ True) ∧ ((((!Z1) = true) ∧ True) ∧ ((0 ≤ ((k : Nat) : Int)) ∧ (((k : Nat) : Int) < (b.length : Int)))))) ∧ (((!Z1) = true → (((!Z1) = true) ∧ True)) ∧ (((!Z1) = true → (((!Z1) = true) ∧ True)) ∧ ((True ∧ ((Z1 = true → True) ∧ (Z1 = false → ((!Z1) = true) ∧ True))) ∧ (True ∧ ((True ∧ True) ∧ True))))))))))))))) ((a.getD i default).gone))
       ⟨tt,tt,⟨tt,tt,(by omega),(by omega)⟩,tt,tt,tt,(fun _ => trivial),(fun _ => trivial),(fun hG => ⟨⟨hG,tt⟩,⟨hG,tt⟩,(by omega),(by omega)⟩),(fun hG => ⟨hG,tt⟩),(fun hG => ⟨hG,tt⟩),⟨tt,(fun _ => trivial),(fun hp => ⟨(not_t hp),tt⟩)⟩,tt,⟨tt,tt⟩,tt⟩ ?_
      refine Kk cok tab35 hnt [106] [0,1,6,7,8] ((fun (Z1:Bool)=>(⟨[(0,.sl (.marks a)),(1,.sl (.marks b)),(6,.own 106 (List.length (o ++ ([(⟨((a.getD i default).value),((a.getD i default).proc),((a.getD i default).number),Z1⟩ : MarkD)])))),(7,.i ((i : Nat) : Int)),(8,.i ((k : Nat) : Int))],[(9,⟨33,.fix [.i ((a.getD i default).value),.i ((a.getD i default).proc),.i ((a.getD i default).number),.b Z1]⟩),(106,⟨33,.row (.marks (o ++ ([(⟨((a.getD i default).value),((a.getD i default).proc),((a.getD i default).number),Z1⟩ : MarkD)])))⟩)],[106,105,9,10,999]⟩:St)) (((a.getD i default).gone) || ((b.getD k default).gone)))
       (True ∧ True ∧ (True ∧ True) ∧ ((True ∧ (o.length = o.length)) ∧ True ∧ ((o.length + (List.length ([(⟨((a.getD i default).value),((a.getD i default).proc),((a.getD i default).number),(((a.getD i default).gone) || ((b.getD k default).gone))⟩ : MarkD)]))) * 32 ≤ 140737488355328)) ∧ True ∧ True)
       ⟨tt,tt,⟨tt,tt⟩,⟨⟨tt,rfl⟩,tt,(by (try simp only [List.length_append,List.length_cons,List.length_nil,List.length_set]); omega)⟩,tt,tt⟩ ?_
      refine Kk cok tab35 hnt [] [0,1,6,7,8] ((fun (Z1:Bool)=>(⟨[(0,.sl (.marks a)),(1,.sl (.marks b)),(6,.own 106 (List.length (o ++ ([(⟨((a.getD i default).value),((a.getD i default).proc),((a.getD i default).number),Z1⟩ : MarkD)])))),(7,.i (((i + 1) : Nat) : Int)),(8,.i ((k : Nat) : Int))],[(9,⟨33,.fix [.i ((a.getD i default).value),.i ((a.getD i default).proc),.i ((a.getD i default).number),.b Z1]⟩),(106,⟨33,.row (.marks (o ++ ([(⟨((a.getD i default).value),((a.getD i default).proc),((a.getD i default).number),Z1⟩ : MarkD)])))⟩)],[106,105,9,10,999]⟩:St)) (((a.getD i default).gone) || ((b.getD k default).gone)))
       (True ∧ (True ∧ True ∧ (Fits .i64 (((i + 1) : Nat) : Int))) ∧ True ∧ True)
       ⟨tt,⟨tt,tt,(by exact fits_i64 (by omega) (by omega))⟩,tt,tt⟩ ?_
      refine Lk cok tab35 hnt [] ((fun (Z1:Bool)=>(⟨[(0,.sl (.marks a)),(1,.sl (.marks b)),(6,.own 106 (List.length (o ++ ([(⟨((a.getD i default).value),((a.getD i default).proc),((a.getD i default).number),Z1⟩ : MarkD)])))),(7,.i (((i + 1) : Nat) : Int)),(8,.i (((k + 1) : Nat) : Int)),(109,.i ((k : Nat) : Int)),(110,.i (((k + 1) : Nat) : Int))],[(9,⟨33,.fix [.i ((a.getD i default).value),.i ((a.getD i default).proc),.i ((a.getD i default).number),.b Z1]⟩),(106,⟨33,.row (.marks (o ++ ([(⟨((a.getD i default).value),((a.getD i default).proc),((a.getD i default).number),Z1⟩ : MarkD)])))⟩)],[106,105,9,10,999]⟩:St)) (((a.getD i default).gone) || ((b.getD k default).gone)))
       (True ∧ (True ∧ True ∧ (Fits .i64 (((k + 1) : Nat) : Int))) ∧ True ∧ True)
       ⟨tt,⟨tt,tt,(by exact fits_i64 (by omega) (by omega))⟩,tt,tt⟩ ?_
      refine blockQ_normal (thenQ_normal ?_)
      refine ⟨((o ++ ([(⟨((a.getD i default).value),((a.getD i default).proc),((a.getD i default).number),(((a.getD i default).gone) || ((b.getD k default).gone))⟩ : MarkD)])),(i + 1),(k + 1)),(show ((i + 1) ≤ a.length ∧ (k + 1) ≤ b.length) ∧ (unUp a b (i + 1) (k + 1) (o ++ ([(⟨((a.getD i default).value),((a.getD i default).proc),((a.getD i default).number),(((a.getD i default).gone) || ((b.getD k default).gone))⟩ : MarkD)]))) ∧ ((o ++ ([(⟨((a.getD i default).value),((a.getD i default).proc),((a.getD i default).number),(((a.getD i default).gone) || ((b.getD k default).gone))⟩ : MarkD)])).length ≤ (i + 1) + (k + 1)) from ⟨(by first | (have := (un_a hu (by simp at h20; omega) hik h41).2; omega) | (have := (un_b hu hik n41 h65).2; omega) | omega),(by first | exact (un_a hu (by simp at h20; omega) hik h41).1 | exact (un_b hu hik n41 h65).1 | exact un_c hu hbb n85),(by simp; omega)⟩),(show a.length - (i + 1) + (b.length - (k + 1)) < a.length - i + (b.length - k) from (by first | (have := (un_a hu (by simp at h20; omega) hik h41).2; omega) | (have := (un_b hu hik n41 h65).2; omega) | omega)),?_⟩
      exact Sub.of [(10,106)] (@cast (((Sd (.marks a)) ∧ (Sd (.marks b)) ∧ (((106 : Nat) = 106) ∧ ((List.length (o ++ ([(⟨((a.getD i default).value),((a.getD i default).proc),((a.getD i default).number),(((a.getD i default).gone) || ((b.getD k default).gone))⟩ : MarkD)]))) = (List.length (o ++ ([(⟨((a.getD i default).value),((a.getD i default).proc),((a.getD i default).number),(((a.getD i default).gone) || ((b.getD k default).gone))⟩ : MarkD)])))) ∧ ((10 : Nat) ∈ ([10,999] : List Nat))) ∧ (Si (((i + 1) : Nat) : Int)) ∧ (Si (((k + 1) : Nat) : Int)) ∧ True) ∧ ((((33 : Nat) = 33) ∧ (Sd (.marks (o ++ ([(⟨((a.getD i default).value),((a.getD i default).proc),((a.getD i default).number),(((a.getD i default).gone) || ((b.getD k default).gone))⟩ : MarkD)])))) ∧ ((10 : Nat) ∈ ([10,999] : List Nat))) ∧ True) ∧ (true = true) ∧ (true = true)) _ (by kernel_rfl) ⟨⟨rfl,rfl,⟨rfl,rfl,(by decide)⟩,rfl,rfl,tt⟩,⟨⟨rfl,rfl,(by decide)⟩,tt⟩,rfl,rfl⟩)
  ·intro n20
   have n20_0 : ¬ (((i : Nat) : Int) < (a.length : Int)) := of_decide_eq_false (or_l n20)
   have n20_1 : ¬ (((k : Nat) : Int) < (b.length : Int)) := of_decide_eq_false (or_r n20)
   refine W.exit (thenQ_exit (thenQ_exit (blockQ_hit ?_)))
   refine thenQ_normal ?_
   refine Kk cok tab35 hnt [] [4,5] (⟨[(4,.own 10 o.length),(5,.b true)],[(10,⟨33,.row (.marks o)⟩)],[10,999]⟩)
    (True ∧ True ∧ True ∧ True)
    ⟨tt,tt,tt,tt⟩ ?_
   refine W.ret ?_
   exact endQ_ret (.tup [.own 10 o.length,.b true]) (by kernel_rfl) (@cast (((o.length = o.length) ∧ ((.marks o : Dat) = .marks ((uniteP a b).1)) ∧ ((10 : Nat) ∉ ([] : List Nat))) ∧ ((.bool true : Value) = .bool ((uniteP a b).2)) ∧ True) _ (by kernel_rfl) ⟨⟨rfl,(congrArg Dat.marks (by rw [un_end hu n20]; try rfl)),(by decide)⟩,(congrArg Value.bool (by rw [un_end hu n20]; try rfl)),tt⟩)
theorem ent35 : Entr prog 35 := ⟨_,func35,rfl,by decide⟩
end Go.Proofs.Try
