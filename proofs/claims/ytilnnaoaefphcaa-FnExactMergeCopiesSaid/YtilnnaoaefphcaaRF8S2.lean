import Derived.Test.YtilnnaoaefphcaaRF8S0
import Derived.Test.YtilnnaoaefphcaaRF8S1
set_option linter.unusedSimpArgs false
set_option linter.unusedVariables false
namespace Go.Proofs.Try
open Go.Ab Go.RowKit
def fs54 : FnS := fnS [.s .marks,.s .marks] [.marks,.marks] (fun _ (a,b,_) => (.tup [.sl (.marks ((uniteP a b).1)),.b ((uniteP a b).2)],[],(a.length ≤ 1000 ∧ b.length ≤ 1000)))
abbrev T54 : Tab := lk [(50,fs50)]
theorem tab54 : TabOK prog T54 := (TabOK.cons ok50 ent50 TabOK.nil)
set_option maxRecDepth 100000 in
set_option maxHeartbeats 1000000 in
theorem ok54 : FnOK prog 54 fs54 := by
 refine FnOK.mk cok func54 rfl rfl rfl ?_
 rintro fl ⟨(a : List MarkD),(b : List MarkD),_⟩ hpre F hnt0 _
 have hnt : F.nt = 112 := hnt0.trans ntmps54
 replace hpre : (a.length ≤ 1000 ∧ b.length ≤ 1000) := hpre
 have hs := hpre
 refine W.to (⟨[(0,.sl (.marks a)),(1,.sl (.marks b))],[],[999]⟩) rfl ?_
 refine W.lenOf 0 (.marks a) (by kernel_rfl) ?_
 intro hl_a; replace hl_a : List.length a ≤ 9223372036854775807 := hl_a
 refine W.lenOf 1 (.marks b) (by kernel_rfl) ?_
 intro hl_b; replace hl_b : List.length b ≤ 9223372036854775807 := hl_b
 refine Kk cok tab54 hnt [] [0,1] (⟨[(0,.sl (.marks a)),(1,.sl (.marks b))],[],[999]⟩)
  (True ∧ True ∧ True)
  ⟨tt,tt,tt⟩ ?_
 refine Kk cok tab54 hnt [10] [0,1,6] (⟨[(0,.sl (.marks a)),(1,.sl (.marks b)),(6,.own 10 (List.length ([] : List MarkD)))],[(10,⟨50,.row (.marks ([] : List MarkD))⟩)],[10,999]⟩)
  (True ∧ True ∧ True)
  ⟨tt,tt,tt⟩ ?_
 refine Kk cok tab54 hnt [] [0,1,6,7] (⟨[(0,.sl (.marks a)),(1,.sl (.marks b)),(6,.own 10 (List.length ([] : List MarkD))),(7,.i (0 : Int))],[(10,⟨50,.row (.marks ([] : List MarkD))⟩)],[10,999]⟩)
  (True ∧ True)
  ⟨tt,tt⟩ ?_
 refine Kk cok tab54 hnt [] [0,1,6,7,8] (⟨[(0,.sl (.marks a)),(1,.sl (.marks b)),(6,.own 10 (List.length ([] : List MarkD))),(7,.i (0 : Int)),(8,.i (0 : Int))],[(10,⟨50,.row (.marks ([] : List MarkD))⟩)],[10,999]⟩)
  (True ∧ True)
  ⟨tt,tt⟩ ?_
 refine W.seq ?_
 refine W.block ?_
 refine W.loop (ι := (List MarkD) × Nat × Nat) (fun (x : (List MarkD) × Nat × Nat) => match x with | (o,i,k) => (⟨[(0,.sl (.marks a)),(1,.sl (.marks b)),(6,.own 10 o.length),(7,.i ((i : Nat) : Int)),(8,.i ((k : Nat) : Int))],[(10,⟨50,.row (.marks o)⟩)],[10,999]⟩ : St))
  (fun (x : (List MarkD) × Nat × Nat) => match x with | (o,i,k) => (i ≤ a.length ∧ k ≤ b.length) ∧ (unUp a b i k o) ∧ (o.length ≤ i + k))
  (fun (x : (List MarkD) × Nat × Nat) => match x with | (o,i,k) => (a.length - i + (b.length - k) : Nat)) (([] : List MarkD),0,0) ?_ ?_ ?_
 ·exact (show (0 ≤ a.length ∧ 0 ≤ b.length) ∧ (unUp a b 0 0 ([] : List MarkD)) ∧ (([] : List MarkD).length ≤ 0 + 0) from ⟨(by first | assumption | omega | rfl | (intro _ hjj; omega) | (simp; done) | (simp; omega)),(by exact unUp_zero a b),(by exact Nat.le_refl _)⟩)
 ·exact Sub.of [] (@cast (((Sd (.marks a)) ∧ (Sd (.marks b)) ∧ (((10 : Nat) = 10) ∧ ((List.length ([] : List MarkD)) = (List.length ([] : List MarkD))) ∧ ((10 : Nat) ∈ ([10,999] : List Nat))) ∧ ((.int .i64 (0 : Int) : Value) = .int .i64 ((0 : Nat) : Int)) ∧ ((.int .i64 (0 : Int) : Value) = .int .i64 ((0 : Nat) : Int)) ∧ True) ∧ ((((50 : Nat) = 50) ∧ (Sd (.marks ([] : List MarkD))) ∧ ((10 : Nat) ∈ ([10,999] : List Nat))) ∧ True) ∧ (true = true) ∧ (true = true)) _ (by kernel_rfl) ⟨⟨rfl,rfl,⟨rfl,rfl,(by decide)⟩,(congrArg (Value.int .i64) (by first | rfl | omega | assumption | simp | simp_all)),(congrArg (Value.int .i64) (by first | rfl | omega | assumption | simp | simp_all)),tt⟩,⟨⟨rfl,rfl,(by decide)⟩,tt⟩,rfl,rfl⟩)
 ·rintro ⟨o,i,k⟩ hC0
  have hC : (i ≤ a.length ∧ k ≤ b.length) ∧ (unUp a b i k o) ∧ (o.length ≤ i + k) := hC0
  clear hC0
  obtain ⟨hik,hu,hol⟩ := hC
  refine W.to (⟨[(0,.sl (.marks a)),(1,.sl (.marks b)),(6,.own 10 o.length),(7,.i ((i : Nat) : Int)),(8,.i ((k : Nat) : Int))],[(10,⟨50,.row (.marks o)⟩)],[10,999]⟩) rfl ?_
  refine W.seq ?_
  refine Kk cok tab54 hnt [] [0,1,6,7,8,20] (⟨[(0,.sl (.marks a)),(1,.sl (.marks b)),(6,.own 10 o.length),(7,.i ((i : Nat) : Int)),(8,.i ((k : Nat) : Int)),(20,.b ((decide (((i : Nat) : Int) < (a.length : Int))) || (decide (((k : Nat) : Int) < (b.length : Int)))))],[(10,⟨50,.row (.marks o)⟩)],[10,999]⟩)
   ((fun (Z1:Bool)=>(True ∧ (True ∧ (True ∧ ((True ∧ (True ∧ True)) ∧ (True ∧ (((!Z1) = true → True) ∧ (((!Z1) = true → True) ∧ (((!Z1) = true → (((!Z1) = true) ∧ True)) ∧ (((!Z1) = true → ((((!Z1) = true) ∧ True) ∧ ((((!Z1) = true) ∧ True) ∧ True))) ∧ ((True ∧ ((Z1 = true → True) ∧ (Z1 = false → ((!Z1) = true) ∧ True))) ∧ True))))))))))) (decide (((i : Nat) : Int) < (a.length : Int))))
   ⟨tt,tt,tt,⟨tt,tt,tt⟩,tt,(fun _ => trivial),(fun _ => trivial),(fun hG => ⟨hG,tt⟩),(fun hG => ⟨⟨hG,tt⟩,⟨hG,tt⟩,tt⟩),⟨tt,(fun _ => trivial),(fun hp => ⟨(not_t hp),tt⟩)⟩,tt⟩ ?_
  refine W.if' ((decide (((i : Nat) : Int) < (a.length : Int))) || (decide (((k : Nat) : Int) < (b.length : Int)))) (.b ((decide (((i : Nat) : Int) < (a.length : Int))) || (decide (((k : Nat) : Int) < (b.length : Int))))) (by kernel_rfl) rfl trivial ?_ ?_
  ·intro h20
   refine W.skip (thenQ_normal ?_)
   refine W.block ?_
   refine W.KA cok tab54 hnt [] [0,1,6,7,8,41] (⟨[(0,.sl (.marks a)),(1,.sl (.marks b)),(6,.own 10 o.length),(7,.i ((i : Nat) : Int)),(8,.i ((k : Nat) : Int)),(41,.b ((decide (((k : Nat) : Int) = (b.length : Int))) || ((decide (((i : Nat) : Int) < (a.length : Int))) && (lessM (a.getD i default) (b.getD k default)))))],[(10,⟨50,.row (.marks o)⟩)],[10,999]⟩)
    ((fun (Z1:Bool)=>((fun (Z2:Bool)=>((fun (Z3:Bool)=>((fun (Z4:Bool)=>(True ∧ (True ∧ (True ∧ ((True ∧ (True ∧ True)) ∧ (True ∧ ((Z3 = true → True) ∧ ((Z3 = true → True) ∧ ((Z3 = true → ((Z3 = true) ∧ True)) ∧ ((Z3 = true → (((Z3 = true) ∧ True) ∧ (((Z3 = true) ∧ True) ∧ True))) ∧ ((Z3 = true → True) ∧ ((Z4 = true → True) ∧ ((Z4 = true → True) ∧ ((Z4 = true → (((Z4 = true) ∧ True) ∧ (((Z4 = true) ∧ True) ∧ ((0 ≤ ((i : Nat) : Int)) ∧ (((i : Nat) : Int) < (a.length : Int)))))) ∧ ((Z4 = true → ((Z4 = true) ∧ True)) ∧ ((Z4 = true → True) ∧ ((Z4 = true → True) ∧ ((Z4 = true → (((Z4 = true) ∧ True) ∧ (((Z4 = true) ∧ True) ∧ ((0 ≤ ((k : Nat) : Int)) ∧ (((k : Nat) : Int) < (b.length : Int)))))) ∧ ((Z4 = true → ((Z4 = true) ∧ True)) ∧ ((Z4 = true → (True ∧ ((((Z4 = true) ∧ True) ∧ (((Z4 = true) ∧ True) ∧ True)) ∧ True))) ∧ ((Z3 = true → (((Z3 = true) ∧ ((Z3 = true) ∧ True)) ∧ ((Z1 = true → (Z4 = true) ∧ True) ∧ (Z1 = false → True)))) ∧ ((True ∧ ((Z2 = true → True) ∧ (Z2 = false → (Z3 = true) ∧ True))) ∧ True)))))))))))))))))))))) (Z3 && (Z3 && Z1)))) (!Z2))) (decide (((k : Nat) : Int) = (b.length : Int))))) (decide (((i : Nat) : Int) < (a.length : Int)))) (by kernel_rfl) (by kernel_rfl)
    ⟨tt,tt,tt,⟨tt,tt,tt⟩,tt,(fun _ => trivial),(fun _ => trivial),(fun hG => ⟨hG,tt⟩),(fun hG => ⟨⟨hG,tt⟩,⟨hG,tt⟩,tt⟩),(fun _ => trivial),(fun _ => trivial),(fun _ => trivial),(fun hG => ⟨⟨hG,tt⟩,⟨hG,tt⟩,(by have hg0 : ¬ (((k : Nat) : Int) = (b.length : Int)) := of_decide_eq_false (not_f (and_l hG)); have hg1 : ¬ (((k : Nat) : Int) = (b.length : Int)) := of_decide_eq_false (not_f (and_l (and_r hG))); have hg2 : ((i : Nat) : Int) < (a.length : Int) := of_decide_eq_true (and_r (and_r hG)); omega),(by have hg0 : ¬ (((k : Nat) : Int) = (b.length : Int)) := of_decide_eq_false (not_f (and_l hG)); have hg1 : ¬ (((k : Nat) : Int) = (b.length : Int)) := of_decide_eq_false (not_f (and_l (and_r hG))); have hg2 : ((i : Nat) : Int) < (a.length : Int) := of_decide_eq_true (and_r (and_r hG)); omega)⟩),(fun hG => ⟨hG,tt⟩),(fun _ => trivial),(fun _ => trivial),(fun hG => ⟨⟨hG,tt⟩,⟨hG,tt⟩,(by have hg0 : ¬ (((k : Nat) : Int) = (b.length : Int)) := of_decide_eq_false (not_f (and_l hG)); have hg1 : ¬ (((k : Nat) : Int) = (b.length : Int)) := of_decide_eq_false (not_f (and_l (and_r hG))); have hg2 : ((i : Nat) : Int) < (a.length : Int) := of_decide_eq_true (and_r (and_r hG)); omega),(by have hg0 : ¬ (((k : Nat) : Int) = (b.length : Int)) := of_decide_eq_false (not_f (and_l hG)); have hg1 : ¬ (((k : Nat) : Int) = (b.length : Int)) := of_decide_eq_false (not_f (and_l (and_r hG))); have hg2 : ((i : Nat) : Int) < (a.length : Int) := of_decide_eq_true (and_r (and_r hG)); omega)⟩),(fun hG => ⟨hG,tt⟩),(fun hG => ⟨tt,⟨⟨hG,tt⟩,⟨hG,tt⟩,tt⟩,tt⟩),(fun hG => ⟨⟨hG,hG,tt⟩,(fun hp => ⟨(and_t hG (and_t hG hp)),tt⟩),(fun _ => trivial)⟩),⟨tt,(fun _ => trivial),(fun hp => ⟨(not_t hp),tt⟩)⟩,tt⟩ ?_
   refine W.if' ((decide (((k : Nat) : Int) = (b.length : Int))) || ((decide (((i : Nat) : Int) < (a.length : Int))) && (lessM (a.getD i default) (b.getD k default)))) (.b ((decide (((k : Nat) : Int) = (b.length : Int))) || ((decide (((i : Nat) : Int) < (a.length : Int))) && (lessM (a.getD i default) (b.getD k default))))) (by kernel_rfl) rfl trivial ?_ ?_
   ·intro h41
    have hai := (un_a hu (by simp at h20; omega) hik h41).2
    refine Kk cok tab54 hnt [48] [0,1,6,7,8] (⟨[(0,.sl (.marks a)),(1,.sl (.marks b)),(6,.own 48 (List.length (o ++ ([(a.getD i default)])))),(7,.i ((i : Nat) : Int)),(8,.i ((k : Nat) : Int))],[(48,⟨50,.row (.marks (o ++ ([(a.getD i default)])))⟩)],[48,47,10,999]⟩)
     (True ∧ True ∧ True ∧ (True ∧ True ∧ (0 ≤ ((i : Nat) : Int)) ∧ (((i : Nat) : Int) < (a.length : Int))) ∧ True ∧ (True ∧ True) ∧ ((True ∧ (o.length = o.length)) ∧ True ∧ ((o.length + (List.length ([(a.getD i default)]))) * 32 ≤ 140737488355328)) ∧ True ∧ True)
     ⟨tt,tt,tt,⟨tt,tt,(by omega),(by omega)⟩,tt,⟨tt,tt⟩,⟨⟨tt,rfl⟩,tt,(by (try simp only [List.length_append,List.length_cons,List.length_nil,List.length_set]); omega)⟩,tt,tt⟩ ?_
    refine Lk cok tab54 hnt [] (⟨[(0,.sl (.marks a)),(1,.sl (.marks b)),(6,.own 48 (List.length (o ++ ([(a.getD i default)])))),(7,.i (((i + 1) : Nat) : Int)),(8,.i ((k : Nat) : Int)),(49,.i ((i : Nat) : Int)),(50,.i (((i + 1) : Nat) : Int))],[(48,⟨50,.row (.marks (o ++ ([(a.getD i default)])))⟩)],[48,47,10,999]⟩)
     (True ∧ (True ∧ True ∧ (Fits .i64 (((i + 1) : Nat) : Int))) ∧ True ∧ True)
     ⟨tt,⟨tt,tt,(by exact fits_i64 (by omega) (by omega))⟩,tt,tt⟩ ?_
    refine blockQ_normal (thenQ_normal ?_)
    refine ⟨((o ++ ([(a.getD i default)])),(i + 1),k),(show ((i + 1) ≤ a.length ∧ k ≤ b.length) ∧ (unUp a b (i + 1) k (o ++ ([(a.getD i default)]))) ∧ ((o ++ ([(a.getD i default)])).length ≤ (i + 1) + k) from ⟨(by first | (have := (un_a hu (by simp at h20; omega) hik h41).2; omega) | (have := (un_b hu hik n41 h65).2; omega) | omega),(by first | exact (un_a hu (by simp at h20; omega) hik h41).1 | exact (un_b hu hik n41 h65).1 | exact un_c hu hbb n85),(by simp; omega)⟩),(show a.length - (i + 1) + (b.length - k) < a.length - i + (b.length - k) from (by first | (have := (un_a hu (by simp at h20; omega) hik h41).2; omega) | (have := (un_b hu hik n41 h65).2; omega) | omega)),?_⟩
    exact Sub.of [(10,48)] (@cast (((Sd (.marks a)) ∧ (Sd (.marks b)) ∧ (((48 : Nat) = 48) ∧ ((List.length (o ++ ([(a.getD i default)]))) = (List.length (o ++ ([(a.getD i default)])))) ∧ ((10 : Nat) ∈ ([10,999] : List Nat))) ∧ (Si (((i + 1) : Nat) : Int)) ∧ (Si ((k : Nat) : Int)) ∧ True) ∧ ((((50 : Nat) = 50) ∧ (Sd (.marks (o ++ ([(a.getD i default)])))) ∧ ((10 : Nat) ∈ ([10,999] : List Nat))) ∧ True) ∧ (true = true) ∧ (true = true)) _ (by kernel_rfl) ⟨⟨rfl,rfl,⟨rfl,rfl,(by decide)⟩,rfl,rfl,tt⟩,⟨⟨rfl,rfl,(by decide)⟩,tt⟩,rfl,rfl⟩)
   ·intro n41
    have n41_0 : ¬ (((k : Nat) : Int) = (b.length : Int)) := of_decide_eq_false (or_l n41)
    refine W.KA cok tab54 hnt [] [0,1,6,7,8,65] (⟨[(0,.sl (.marks a)),(1,.sl (.marks b)),(6,.own 10 o.length),(7,.i ((i : Nat) : Int)),(8,.i ((k : Nat) : Int)),(65,.b ((decide (((i : Nat) : Int) = (a.length : Int))) || (lessM (b.getD k default) (a.getD i default))))],[(10,⟨50,.row (.marks o)⟩)],[10,999]⟩)
     ((fun (Z1:Bool)=>(True ∧ (True ∧ (True ∧ ((True ∧ (True ∧ True)) ∧ (True ∧ (((!Z1) = true → True) ∧ (((!Z1) = true → True) ∧ (((!Z1) = true → ((((!Z1) = true) ∧ True) ∧ ((((!Z1) = true) ∧ True) ∧ ((0 ≤ ((k : Nat) : Int)) ∧ (((k : Nat) : Int) < (b.length : Int)))))) ∧ (((!Z1) = true → (((!Z1) = true) ∧ True)) ∧ (((!Z1) = true → True) ∧ (((!Z1) = true → True) ∧ (((!Z1) = true → ((((!Z1) = true) ∧ True) ∧ ((((!Z1) = true) ∧ True) ∧ ((0 ≤ ((i : Nat) : Int)) ∧ (((i : Nat) : Int) < (a.length : Int)))))) ∧ (((!Z1) = true → (((!Z1) = true) ∧ True)) ∧ (((!Z1) = true → (True ∧ (((((!Z1) = true) ∧ True) ∧ ((((!Z1) = true) ∧ True) ∧ True)) ∧ True))) ∧ ((True ∧ ((Z1 = true → True) ∧ (Z1 = false → ((!Z1) = true) ∧ True))) ∧ True)))))))))))))))) (decide (((i : Nat) : Int) = (a.length : Int)))) (by kernel_rfl) (by kernel_rfl)
     ⟨tt,tt,tt,⟨tt,tt,tt⟩,tt,(fun _ => trivial),(fun _ => trivial),(fun hG => ⟨⟨hG,tt⟩,⟨hG,tt⟩,(by have hg0 : ¬ (((i : Nat) : Int) = (a.length : Int)) := of_decide_eq_false (not_f hG); omega),(by have hg0 : ¬ (((i : Nat) : Int) = (a.length : Int)) := of_decide_eq_false (not_f hG); omega)⟩),(fun hG => ⟨hG,tt⟩),(fun _ => trivial),(fun _ => trivial),(fun hG => ⟨⟨hG,tt⟩,⟨hG,tt⟩,(by have hg0 : ¬ (((i : Nat) : Int) = (a.length : Int)) := of_decide_eq_false (not_f hG); omega),(by have hg0 : ¬ (((i : Nat) : Int) = (a.length : Int)) := of_decide_eq_false (not_f hG); omega)⟩),(fun hG => ⟨hG,tt⟩),(fun hG => ⟨tt,⟨⟨hG,tt⟩,⟨hG,tt⟩,tt⟩,tt⟩),⟨tt,(fun _ => trivial),(fun hp => ⟨(not_t hp),tt⟩)⟩,tt⟩ ?_
    refine W.if' ((decide (((i : Nat) : Int) = (a.length : Int))) || (lessM (b.getD k default) (a.getD i default))) (.b ((decide (((i : Nat) : Int) = (a.length : Int))) || (lessM (b.getD k default) (a.getD i default)))) (by kernel_rfl) rfl trivial ?_ ?_
    ·intro h65
     have hbi := (un_b hu hik n41 h65).2
     refine Kk cok tab54 hnt [72] [0,1,6,7,8] (⟨[(0,.sl (.marks a)),(1,.sl (.marks b)),(6,.own 72 (List.length (o ++ ([(b.getD k default)])))),(7,.i ((i : Nat) : Int)),(8,.i ((k : Nat) : Int))],[(72,⟨50,.row (.marks (o ++ ([(b.getD k default)])))⟩)],[72,71,10,999]⟩)
      (True ∧ True ∧ True ∧ (True ∧ True ∧ (0 ≤ ((k : Nat) : Int)) ∧ (((k : Nat) : Int) < (b.length : Int))) ∧ True ∧ (True ∧ True) ∧ ((True ∧ (o.length = o.length)) ∧ True ∧ ((o.length + (List.length ([(b.getD k default)]))) * 32 ≤ 140737488355328)) ∧ True ∧ True)
      ⟨tt,tt,tt,⟨tt,tt,(by omega),(by omega)⟩,tt,⟨tt,tt⟩,⟨⟨tt,rfl⟩,tt,(by (try simp only [List.length_append,List.length_cons,List.length_nil,List.length_set]); omega)⟩,tt,tt⟩ ?_
     refine Lk cok tab54 hnt [] (⟨[(0,.sl (.marks a)),(1,.sl (.marks b)),(6,.own 72 (List.length (o ++ ([(b.getD k default)])))),(7,.i ((i : Nat) : Int)),(8,.i (((k + 1) : Nat) : Int)),(73,.i ((k : Nat) : Int)),(74,.i (((k + 1) : Nat) : Int))],[(72,⟨50,.row (.marks (o ++ ([(b.getD k default)])))⟩)],[72,71,10,999]⟩)
      (True ∧ (True ∧ True ∧ (Fits .i64 (((k + 1) : Nat) : Int))) ∧ True ∧ True)
      ⟨tt,⟨tt,tt,(by exact fits_i64 (by omega) (by omega))⟩,tt,tt⟩ ?_
     refine blockQ_normal (thenQ_normal ?_)
     refine ⟨((o ++ ([(b.getD k default)])),i,(k + 1)),(show (i ≤ a.length ∧ (k + 1) ≤ b.length) ∧ (unUp a b i (k + 1) (o ++ ([(b.getD k default)]))) ∧ ((o ++ ([(b.getD k default)])).length ≤ i + (k + 1)) from ⟨(by first | (have := (un_a hu (by simp at h20; omega) hik h41).2; omega) | (have := (un_b hu hik n41 h65).2; omega) | omega),(by first | exact (un_a hu (by simp at h20; omega) hik h41).1 | exact (un_b hu hik n41 h65).1 | exact un_c hu hbb n85),(by simp; omega)⟩),(show a.length - i + (b.length - (k + 1)) < a.length - i + (b.length - k) from (by first | (have := (un_a hu (by simp at h20; omega) hik h41).2; omega) | (have := (un_b hu hik n41 h65).2; omega) | omega)),?_⟩
     exact Sub.of [(10,72)] (@cast (((Sd (.marks a)) ∧ (Sd (.marks b)) ∧ (((72 : Nat) = 72) ∧ ((List.length (o ++ ([(b.getD k default)]))) = (List.length (o ++ ([(b.getD k default)])))) ∧ ((10 : Nat) ∈ ([10,999] : List Nat))) ∧ (Si ((i : Nat) : Int)) ∧ (Si (((k + 1) : Nat) : Int)) ∧ True) ∧ ((((50 : Nat) = 50) ∧ (Sd (.marks (o ++ ([(b.getD k default)])))) ∧ ((10 : Nat) ∈ ([10,999] : List Nat))) ∧ True) ∧ (true = true) ∧ (true = true)) _ (by kernel_rfl) ⟨⟨rfl,rfl,⟨rfl,rfl,(by decide)⟩,rfl,rfl,tt⟩,⟨⟨rfl,rfl,(by decide)⟩,tt⟩,rfl,rfl⟩)
    ·intro n65
     have n65_0 : ¬ (((i : Nat) : Int) = (a.length : Int)) := of_decide_eq_false (or_l n65)
     have hbb := un_both hik n41 n65
     refine W.seq ?_
     refine W.KA cok tab54 hnt [] [0,1,6,7,8,85] (⟨[(0,.sl (.marks a)),(1,.sl (.marks b)),(6,.own 10 o.length),(7,.i ((i : Nat) : Int)),(8,.i ((k : Nat) : Int)),(85,.b (decide (((a.getD i default).value) ≠ ((b.getD k default).value))))],[(10,⟨50,.row (.marks o)⟩)],[10,999]⟩)
      (True ∧ True ∧ (True ∧ True ∧ (0 ≤ ((i : Nat) : Int)) ∧ (((i : Nat) : Int) < (a.length : Int))) ∧ True ∧ True ∧ True ∧ True ∧ (True ∧ True ∧ (0 ≤ ((k : Nat) : Int)) ∧ (((k : Nat) : Int) < (b.length : Int))) ∧ True ∧ True ∧ (True ∧ True ∧ True) ∧ True) (by kernel_rfl) (by kernel_rfl)
      ⟨tt,tt,⟨tt,tt,(by omega),(by omega)⟩,tt,tt,tt,tt,⟨tt,tt,(by omega),(by omega)⟩,tt,tt,⟨tt,tt,tt⟩,tt⟩ ?_
     refine W.ifP (((a.getD i default).value) ≠ ((b.getD k default).value)) (.b (decide (((a.getD i default).value) ≠ ((b.getD k default).value)))) (by kernel_rfl) rfl trivial ?_ ?_
     ·intro h85
      refine Kk cok tab54 hnt [] [4,5] (⟨[(4,.v (.slice none 0 0)),(5,.b false)],[(10,⟨50,.row (.marks o)⟩)],[10,999]⟩)
       (True ∧ True ∧ True)
       ⟨tt,tt,tt⟩ ?_
      refine W.ret (thenQ_ret (blockQ_ret (thenQ_ret (blockQ_ret (thenQ_ret ?_)))))
      exact endQ_ret (.tup [.v (.slice none 0 0),.b false]) (by kernel_rfl) (@cast ((((Value.slice none 0 0 : Value) = .slice none 0 0) ∧ ((Dat.marks ((uniteP a b).1)).len = 0)) ∧ ((.bool false : Value) = .bool ((uniteP a b).2)) ∧ True) _ (by kernel_rfl) ⟨⟨rfl,(by show List.length ((uniteP a b).1) = 0; rw [un_no hu hbb h85]; try rfl)⟩,(congrArg Value.bool (by rw [un_no hu hbb h85]; try rfl)),tt⟩)
     ·intro n85
      refine W.skip (thenQ_normal ?_)
      refine Kk cok tab54 hnt [] [0,1,6,7,8,9] (⟨[(0,.sl (.marks a)),(1,.sl (.marks b)),(6,.own 10 o.length),(7,.i ((i : Nat) : Int)),(8,.i ((k : Nat) : Int)),(9,.ptr 9 0)],[(9,⟨50,.fix [.i ((a.getD i default).value),.i ((a.getD i default).proc),.i ((a.getD i default).number),.b ((a.getD i default).gone)]⟩),(10,⟨50,.row (.marks o)⟩)],[9,10,999]⟩)
       (True ∧ True ∧ (True ∧ True ∧ (0 ≤ ((i : Nat) : Int)) ∧ (((i : Nat) : Int) < (a.length : Int))) ∧ True ∧ True ∧ (True ∧ True) ∧ True)
       ⟨tt,tt,⟨tt,tt,(by omega),(by omega)⟩,tt,tt,⟨tt,tt⟩,tt⟩ ?_
      refine Kk cok tab54 hnt [] [0,1,6,7,8,9] (⟨[(0,.sl (.marks a)),(1,.sl (.marks b)),(6,.own 10 o.length),(7,.i ((i : Nat) : Int)),(8,.i ((k : Nat) : Int)),(9,.ptr 9 0)],[(9,⟨50,.fix [.i ((a.getD i default).value),.i ((a.getD i default).proc),.i ((a.getD i default).number),.b (((a.getD i default).gone) || ((b.getD k default).gone))]⟩),(10,⟨50,.row (.marks o)⟩)],[9,10,999]⟩)
       ((fun (Z1:Bool)=>(True ∧ (True ∧ ((True ∧ (True ∧ ((0 ≤ ((i : Nat) : Int)) ∧ (((i : Nat) : Int) < (a.length : Int))))) ∧ (True ∧ (True ∧ (True ∧ (((!Z1) = true → True) ∧ (((!Z1) = true → True) ∧ (((!Z1) = true → ((((!Z1) = true) ∧ True) ∧ ((((!Z1) = true) ∧ True) ∧ ((0 ≤ ((k : Nat) : Int)) ∧ (((k : Nat) : Int) < (b.length : Int)))))) ∧ (((!Z1) = true → (((!Z1) = true) ∧ True)) ∧ (((!Z1) = true → (((!Z1) = true) ∧ True)) ∧ ((True ∧ ((Z1 = true → True) ∧ (Z1 = false → ((!Z1) = true) ∧ True))) ∧ (True ∧ ((True ∧ True) ∧ True))))))))))))))) ((a.getD i default).gone))
       ⟨tt,tt,⟨tt,tt,(by omega),(by omega)⟩,tt,tt,tt,(fun _ => trivial),(fun _ => trivial),(fun hG => ⟨⟨hG,tt⟩,⟨hG,tt⟩,(by omega),(by omega)⟩),(fun hG => ⟨hG,tt⟩),(fun hG => ⟨hG,tt⟩),⟨tt,(fun _ => trivial),(fun hp => ⟨(not_t hp),tt⟩)⟩,tt,⟨tt,tt⟩,tt⟩ ?_
      refine Kk cok tab54 hnt [106] [0,1,6,7,8] ((fun (Z1:Bool)=>(⟨[(0,.sl (.marks a)),(1,.sl (.marks b)),(6,.own 106 (List.length (o ++ ([(⟨((a.getD i default).value),((a.getD i default).proc),((a.getD i default).number),Z1⟩ : MarkD)])))),(7,.i ((i : Nat) : Int)),(8,.i ((k : Nat) : Int))],[(9,⟨50,.fix [.i ((a.getD i default).value),.i ((a.getD i default).proc),.i ((a.getD i default).number),.b Z1]⟩),(106,⟨50,.row (.marks (o ++ ([(⟨((a.getD i default).value),((a.getD i default).proc),((a.getD i default).number),Z1⟩ : MarkD)])))⟩)],[106,105,9,10,999]⟩:St)) (((a.getD i default).gone) || ((b.getD k default).gone)))
       (True ∧ True ∧ (True ∧ True) ∧ ((True ∧ (o.length = o.length)) ∧ True ∧ ((o.length + (List.length ([(⟨((a.getD i default).value),((a.getD i default).proc),((a.getD i default).number),(((a.getD i default).gone) || ((b.getD k default).gone))⟩ : MarkD)]))) * 32 ≤ 140737488355328)) ∧ True ∧ True)
       ⟨tt,tt,⟨tt,tt⟩,⟨⟨tt,rfl⟩,tt,(by (try simp only [List.length_append,List.length_cons,List.length_nil,List.length_set]); omega)⟩,tt,tt⟩ ?_
      refine Kk cok tab54 hnt [] [0,1,6,7,8] ((fun (Z1:Bool)=>(⟨[(0,.sl (.marks a)),(1,.sl (.marks b)),(6,.own 106 (List.length (o ++ ([(⟨((a.getD i default).value),((a.getD i default).proc),((a.getD i default).number),Z1⟩ : MarkD)])))),(7,.i (((i + 1) : Nat) : Int)),(8,.i ((k : Nat) : Int))],[(9,⟨50,.fix [.i ((a.getD i default).value),.i ((a.getD i default).proc),.i ((a.getD i default).number),.b Z1]⟩),(106,⟨50,.row (.marks (o ++ ([(⟨((a.getD i default).value),((a.getD i default).proc),((a.getD i default).number),Z1⟩ : MarkD)])))⟩)],[106,105,9,10,999]⟩:St)) (((a.getD i default).gone) || ((b.getD k default).gone)))
       (True ∧ (True ∧ True ∧ (Fits .i64 (((i + 1) : Nat) : Int))) ∧ True ∧ True)
       ⟨tt,⟨tt,tt,(by exact fits_i64 (by omega) (by omega))⟩,tt,tt⟩ ?_
      refine Lk cok tab54 hnt [] ((fun (Z1:Bool)=>(⟨[(0,.sl (.marks a)),(1,.sl (.marks b)),(6,.own 106 (List.length (o ++ ([(⟨((a.getD i default).value),((a.getD i default).proc),((a.getD i default).number),Z1⟩ : MarkD)])))),(7,.i (((i + 1) : Nat) : Int)),(8,.i (((k + 1) : Nat) : Int)),(109,.i ((k : Nat) : Int)),(110,.i (((k + 1) : Nat) : Int))],[(9,⟨50,.fix [.i ((a.getD i default).value),.i ((a.getD i default).proc),.i ((a.getD i default).number),.b Z1]⟩),(106,⟨50,.row (.marks (o ++ ([(⟨((a.getD i default).value),((a.getD i default).proc),((a.getD i default).number),Z1⟩ : MarkD)])))⟩)],[106,105,9,10,999]⟩:St)) (((a.getD i default).gone) || ((b.getD k default).gone)))
       (True ∧ (True ∧ True ∧ (Fits .i64 (((k + 1) : Nat) : Int))) ∧ True ∧ True)
       ⟨tt,⟨tt,tt,(by exact fits_i64 (by omega) (by omega))⟩,tt,tt⟩ ?_
      refine blockQ_normal (thenQ_normal ?_)
      refine ⟨((o ++ ([(⟨((a.getD i default).value),((a.getD i default).proc),((a.getD i default).number),(((a.getD i default).gone) || ((b.getD k default).gone))⟩ : MarkD)])),(i + 1),(k + 1)),(show ((i + 1) ≤ a.length ∧ (k + 1) ≤ b.length) ∧ (unUp a b (i + 1) (k + 1) (o ++ ([(⟨((a.getD i default).value),((a.getD i default).proc),((a.getD i default).number),(((a.getD i default).gone) || ((b.getD k default).gone))⟩ : MarkD)]))) ∧ ((o ++ ([(⟨((a.getD i default).value),((a.getD i default).proc),((a.getD i default).number),(((a.getD i default).gone) || ((b.getD k default).gone))⟩ : MarkD)])).length ≤ (i + 1) + (k + 1)) from ⟨(by first | (have := (un_a hu (by simp at h20; omega) hik h41).2; omega) | (have := (un_b hu hik n41 h65).2; omega) | omega),(by first | exact (un_a hu (by simp at h20; omega) hik h41).1 | exact (un_b hu hik n41 h65).1 | exact un_c hu hbb n85),(by simp; omega)⟩),(show a.length - (i + 1) + (b.length - (k + 1)) < a.length - i + (b.length - k) from (by first | (have := (un_a hu (by simp at h20; omega) hik h41).2; omega) | (have := (un_b hu hik n41 h65).2; omega) | omega)),?_⟩
      exact Sub.of [(10,106)] (@cast (((Sd (.marks a)) ∧ (Sd (.marks b)) ∧ (((106 : Nat) = 106) ∧ ((List.length (o ++ ([(⟨((a.getD i default).value),((a.getD i default).proc),((a.getD i default).number),(((a.getD i default).gone) || ((b.getD k default).gone))⟩ : MarkD)]))) = (List.length (o ++ ([(⟨((a.getD i default).value),((a.getD i default).proc),((a.getD i default).number),(((a.getD i default).gone) || ((b.getD k default).gone))⟩ : MarkD)])))) ∧ ((10 : Nat) ∈ ([10,999] : List Nat))) ∧ (Si (((i + 1) : Nat) : Int)) ∧ (Si (((k + 1) : Nat) : Int)) ∧ True) ∧ ((((50 : Nat) = 50) ∧ (Sd (.marks (o ++ ([(⟨((a.getD i default).value),((a.getD i default).proc),((a.getD i default).number),(((a.getD i default).gone) || ((b.getD k default).gone))⟩ : MarkD)])))) ∧ ((10 : Nat) ∈ ([10,999] : List Nat))) ∧ True) ∧ (true = true) ∧ (true = true)) _ (by kernel_rfl) ⟨⟨rfl,rfl,⟨rfl,rfl,(by decide)⟩,rfl,rfl,tt⟩,⟨⟨rfl,rfl,(by decide)⟩,tt⟩,rfl,rfl⟩)
  ·intro n20
   have n20_0 : ¬ (((i : Nat) : Int) < (a.length : Int)) := of_decide_eq_false (or_l n20)
   have n20_1 : ¬ (((k : Nat) : Int) < (b.length : Int)) := of_decide_eq_false (or_r n20)
   refine W.exit (thenQ_exit (thenQ_exit (blockQ_hit ?_)))
   refine thenQ_normal ?_
   refine Kk cok tab54 hnt [] [4,5] (⟨[(4,.own 10 o.length),(5,.b true)],[(10,⟨50,.row (.marks o)⟩)],[10,999]⟩)
    (True ∧ True ∧ True ∧ True)
    ⟨tt,tt,tt,tt⟩ ?_
   refine W.ret ?_
   exact endQ_ret (.tup [.own 10 o.length,.b true]) (by kernel_rfl) (@cast (((o.length = o.length) ∧ ((.marks o : Dat) = .marks ((uniteP a b).1)) ∧ ((10 : Nat) ∉ ([] : List Nat))) ∧ ((.bool true : Value) = .bool ((uniteP a b).2)) ∧ True) _ (by kernel_rfl) ⟨⟨rfl,(congrArg Dat.marks (by rw [un_end hu n20]; try rfl)),(by decide)⟩,(congrArg Value.bool (by rw [un_end hu n20]; try rfl)),tt⟩)
theorem ent54 : Entr prog 54 := ⟨_,func54,rfl,by decide⟩
end Go.Proofs.Try

set_option linter.unusedSimpArgs false
set_option linter.unusedVariables false
namespace Go.Proofs.Try
open Go.Ab Go.RowKit
def fs25 : FnS := fnS [.a [some .ints,some .ints,none,none,none,some .marks],.a [some .ints,some .ints,none,none,none,some .marks]] [.copy,.copy] (fun _ (a,b,_) => (.tup [.agg (cC ((mergeC a b).1)),.b ((mergeC a b).2)],[],True))
abbrev T25 : Tab := lk [(34,fs34),(35,fs35),(47,fs47),(54,fs54)]
theorem tab25 : TabOK prog T25 := (TabOK.cons ok34 ent34 (TabOK.cons ok35 ent35 (TabOK.cons ok47 ent47 (TabOK.cons ok54 ent54 TabOK.nil))))
set_option maxRecDepth 100000 in
set_option maxHeartbeats 1000000 in
theorem ok25 : FnOK prog 25 fs25 := by
 refine FnOK.mk cok func25 rfl rfl rfl ?_
 rintro fl ⟨(a : CopyD),(b : CopyD),_⟩ hpre F hnt0 _
 have hnt : F.nt = 86 := hnt0.trans ntmps25
 clear hpre
 refine W.to (⟨[(0,.agg (cC a)),(1,.agg (cC b))],[],[999]⟩) rfl ?_
 refine W.lenA 0 0 (cC a) (.ints a.up) (by kernel_rfl) (by kernel_rfl) ?_
 intro hl_a_up; replace hl_a_up : List.length a.up ≤ 9223372036854775807 := hl_a_up
 refine W.lenA 0 1 (cC a) (.ints a.down) (by kernel_rfl) (by kernel_rfl) ?_
 intro hl_a_down; replace hl_a_down : List.length a.down ≤ 9223372036854775807 := hl_a_down
 refine W.lenA 0 5 (cC a) (.marks a.marks) (by kernel_rfl) (by kernel_rfl) ?_
 intro hl_a_marks; replace hl_a_marks : List.length a.marks ≤ 9223372036854775807 := hl_a_marks
 refine W.lenA 1 0 (cC b) (.ints b.up) (by kernel_rfl) (by kernel_rfl) ?_
 intro hl_b_up; replace hl_b_up : List.length b.up ≤ 9223372036854775807 := hl_b_up
 refine W.lenA 1 1 (cC b) (.ints b.down) (by kernel_rfl) (by kernel_rfl) ?_
 intro hl_b_down; replace hl_b_down : List.length b.down ≤ 9223372036854775807 := hl_b_down
 refine W.lenA 1 5 (cC b) (.marks b.marks) (by kernel_rfl) (by kernel_rfl) ?_
 intro hl_b_marks; replace hl_b_marks : List.length b.marks ≤ 9223372036854775807 := hl_b_marks
 refine Kk cok tab25 hnt [] [2,3,4] (⟨[(2,.ptr 2 0),(3,.ptr 3 0),(4,.ptr 4 0)],[(2,⟨29,.fix (cC a)⟩),(3,⟨29,.fix (cC b)⟩),(4,⟨29,.fix [.v (.slice none 0 0),.v (.slice none 0 0),.i (0 : Int),.i (0 : Int),.i (0 : Int),.v (.slice none 0 0)]⟩)],[4,3,2,999]⟩)
  (True ∧ True ∧ True ∧ True ∧ True)
  ⟨tt,tt,tt,tt,tt⟩ ?_
 refine W.seq ?_
 refine Kk cok tab25 hnt [] [2,3,4,17] (⟨[(2,.ptr 2 0),(3,.ptr 3 0),(4,.ptr 4 0),(17,.b ((!(validCopy a)) || (!(validCopy b))))],[(2,⟨29,.fix (cC a)⟩),(3,⟨29,.fix (cC b)⟩),(4,⟨29,.fix [.v (.slice none 0 0),.v (.slice none 0 0),.i (0 : Int),.i (0 : Int),.i (0 : Int),.v (.slice none 0 0)]⟩)],[4,3,2,999]⟩)
  ((fun (Z1:Bool)=>(True ∧ ((True ∧ (((True ∧ (True ∧ (True ∧ (True ∧ (True ∧ (True ∧ (True ∧ True))))))) ∧ True) ∧ True)) ∧ (True ∧ (True ∧ (((!Z1) = true → True) ∧ (((!Z1) = true → (True ∧ ((((((!Z1) = true) ∧ True) ∧ (True ∧ (True ∧ (True ∧ (True ∧ (True ∧ (True ∧ True))))))) ∧ True) ∧ True))) ∧ (((!Z1) = true → (((!Z1) = true) ∧ True)) ∧ ((True ∧ ((Z1 = true → True) ∧ (Z1 = false → ((!Z1) = true) ∧ True))) ∧ True))))))))) (!(validCopy a)))
  ⟨tt,⟨tt,⟨⟨tt,tt,tt,tt,tt,tt,tt,tt⟩,tt⟩,tt⟩,tt,tt,(fun _ => trivial),(fun hG => ⟨tt,⟨⟨⟨hG,tt⟩,tt,tt,tt,tt,tt,tt,tt⟩,tt⟩,tt⟩),(fun hG => ⟨hG,tt⟩),⟨tt,(fun _ => trivial),(fun hp => ⟨(not_t hp),tt⟩)⟩,tt⟩ ?_
 refine W.if' ((!(validCopy a)) || (!(validCopy b))) (.b ((!(validCopy a)) || (!(validCopy b)))) (by kernel_rfl) rfl trivial ?_ ?_
 ·intro h17
  refine Kk cok tab25 hnt [] [4,5] (⟨[(4,.ptr 4 0),(5,.b false)],[(2,⟨29,.fix (cC a)⟩),(3,⟨29,.fix (cC b)⟩),(4,⟨29,.fix [.v (.slice none 0 0),.v (.slice none 0 0),.i (0 : Int),.i (0 : Int),.i (0 : Int),.v (.slice none 0 0)]⟩)],[4,3,2,999]⟩)
   (True ∧ (True ∧ True) ∧ True ∧ True)
   ⟨tt,⟨tt,tt⟩,tt,tt⟩ ?_
  refine W.ret (thenQ_ret ?_)
  exact endQ_ret (.tup [.agg [.v (.slice none 0 0),.v (.slice none 0 0),.i (0 : Int),.i (0 : Int),.i (0 : Int),.v (.slice none 0 0)],.b false]) (by kernel_rfl) (@cast (((((Value.slice none 0 0 : Value) = .slice none 0 0) ∧ ((Dat.ints ((mergeC a b).1.up)).len = 0)) ∧ (((Value.slice none 0 0 : Value) = .slice none 0 0) ∧ ((Dat.ints ((mergeC a b).1.down)).len = 0)) ∧ ((.int .i64 (0 : Int) : Value) = .int .i64 ((mergeC a b).1.value)) ∧ ((.int .i64 (0 : Int) : Value) = .int .i64 ((mergeC a b).1.time)) ∧ ((.int .i64 (0 : Int) : Value) = .int .i64 ((mergeC a b).1.proc)) ∧ (((Value.slice none 0 0 : Value) = .slice none 0 0) ∧ ((Dat.marks ((mergeC a b).1.marks)).len = 0)) ∧ True) ∧ ((.bool false : Value) = .bool ((mergeC a b).2)) ∧ True) _ (by kernel_rfl) ⟨⟨⟨rfl,(by show List.length ((mergeC a b).1.up) = 0; rw [merge_no (gen_bad1 h17)]; try rfl)⟩,⟨rfl,(by show List.length ((mergeC a b).1.down) = 0; rw [merge_no (gen_bad1 h17)]; try rfl)⟩,(congrArg (Value.int .i64) (by rw [merge_no (gen_bad1 h17)]; try rfl)),(congrArg (Value.int .i64) (by rw [merge_no (gen_bad1 h17)]; try rfl)),(congrArg (Value.int .i64) (by rw [merge_no (gen_bad1 h17)]; try rfl)),⟨rfl,(by show List.length ((mergeC a b).1.marks) = 0; rw [merge_no (gen_bad1 h17)]; try rfl)⟩,tt⟩,(congrArg Value.bool (by rw [merge_no (gen_bad1 h17)]; try rfl)),tt⟩)
 ·intro n17
  have hg : (validCopy a && validCopy b) = true := gen_ok1 n17
  have hf := up_len (and_l hg)
  have hfb := up_len (and_r hg)
  have hul := uniteP_len a.marks b.marks
  refine W.skip (thenQ_normal ?_)
  refine Kk cok tab25 hnt [] [2,3,4,6] (⟨[(2,.ptr 2 0),(3,.ptr 3 0),(4,.ptr 4 0),(6,.ptr 6 0)],[(2,⟨29,.fix (cC a)⟩),(3,⟨29,.fix (cC b)⟩),(4,⟨29,.fix [.v (.slice none 0 0),.v (.slice none 0 0),.i (0 : Int),.i (0 : Int),.i (0 : Int),.v (.slice none 0 0)]⟩),(6,⟨29,.fix [.own 20 (List.length a.up),.own 1020 (List.length a.down),.i a.value,.i a.time,.i a.proc,.own 2020 (List.length a.marks)]⟩),(20,⟨3,.row (.ints a.up)⟩),(1020,⟨3,.row (.ints a.down)⟩),(2020,⟨50,.row (.marks a.marks)⟩)],[6,2020,1020,20,4,3,2,999]⟩)
   (True ∧ (True ∧ ((True ∧ True ∧ True ∧ True ∧ True ∧ True ∧ True ∧ True) ∧ True) ∧ a.up.length ≤ 1000 ∧ a.down.length ≤ 1000 ∧ a.marks.length ≤ 1000) ∧ True ∧ (True ∧ True) ∧ True)
   ⟨tt,⟨tt,⟨⟨tt,tt,tt,tt,tt,tt,tt,tt⟩,tt⟩,(by omega)⟩,tt,⟨tt,tt⟩,tt⟩ ?_
  refine W.seq ?_
  refine Kk cok tab25 hnt [] [2,3,4,6,23] (⟨[(2,.ptr 2 0),(3,.ptr 3 0),(4,.ptr 4 0),(6,.ptr 6 0),(23,.b (newerC b a))],[(2,⟨29,.fix (cC a)⟩),(3,⟨29,.fix (cC b)⟩),(4,⟨29,.fix [.v (.slice none 0 0),.v (.slice none 0 0),.i (0 : Int),.i (0 : Int),.i (0 : Int),.v (.slice none 0 0)]⟩),(6,⟨29,.fix [.own 20 (List.length a.up),.own 1020 (List.length a.down),.i a.value,.i a.time,.i a.proc,.own 2020 (List.length a.marks)]⟩),(20,⟨3,.row (.ints a.up)⟩),(1020,⟨3,.row (.ints a.down)⟩),(2020,⟨50,.row (.marks a.marks)⟩)],[6,2020,1020,20,4,3,2,999]⟩)
   (True ∧ True ∧ (True ∧ ((True ∧ True ∧ True ∧ True ∧ True ∧ True ∧ True ∧ True) ∧ (True ∧ True ∧ True ∧ True ∧ True ∧ True ∧ True ∧ True) ∧ True) ∧ True) ∧ True)
   ⟨tt,tt,⟨tt,⟨⟨tt,tt,tt,tt,tt,tt,tt,tt⟩,⟨tt,tt,tt,tt,tt,tt,tt,tt⟩,tt⟩,tt⟩,tt⟩ ?_
  refine W.meetT (ι := Int × Int × Int) (fun (x : Int × Int × Int) => match x with | (jv,jt,jp) => (⟨[(2,.ptr 2 0),(3,.ptr 3 0),(4,.ptr 4 0),(6,.ptr 6 0)],[(2,⟨29,.fix (cC a)⟩),(3,⟨29,.fix (cC b)⟩),(4,⟨29,.fix [.v (.slice none 0 0),.v (.slice none 0 0),.i (0 : Int),.i (0 : Int),.i (0 : Int),.v (.slice none 0 0)]⟩),(6,⟨29,.fix [.own 20 (List.length a.up),.own 1020 (List.length a.down),.i jv,.i jt,.i jp,.own 2020 (List.length a.marks)]⟩),(20,⟨3,.row (.ints a.up)⟩),(1020,⟨3,.row (.ints a.down)⟩),(2020,⟨50,.row (.marks a.marks)⟩)],[2,3,4,6,20,999,1020,2020]⟩ : St)) (fun (x : Int × Int × Int) => match x with | (jv,jt,jp) => (jv = (bif newerC b a then b.value else a.value)) ∧ (jt = (bif newerC b a then b.time else a.time)) ∧ (jp = (bif newerC b a then b.proc else a.proc))) ?_ ?_
  ·skip
   refine W.if' (newerC b a) (.b (newerC b a)) (by kernel_rfl) rfl trivial ?_ ?_
   ·intro h23
    refine Kk cok tab25 hnt [] [2,3,4,6] (⟨[(2,.ptr 2 0),(3,.ptr 3 0),(4,.ptr 4 0),(6,.ptr 6 0)],[(2,⟨29,.fix (cC a)⟩),(3,⟨29,.fix (cC b)⟩),(4,⟨29,.fix [.v (.slice none 0 0),.v (.slice none 0 0),.i (0 : Int),.i (0 : Int),.i (0 : Int),.v (.slice none 0 0)]⟩),(6,⟨29,.fix [.own 20 (List.length a.up),.own 1020 (List.length a.down),.i b.value,.i a.time,.i a.proc,.own 2020 (List.length a.marks)]⟩),(20,⟨3,.row (.ints a.up)⟩),(1020,⟨3,.row (.ints a.down)⟩),(2020,⟨50,.row (.marks a.marks)⟩)],[6,2020,1020,20,4,3,2,999]⟩)
     (True ∧ True ∧ True ∧ (True ∧ True) ∧ True)
     ⟨tt,tt,tt,⟨tt,tt⟩,tt⟩ ?_
    refine Kk cok tab25 hnt [] [2,3,4,6] (⟨[(2,.ptr 2 0),(3,.ptr 3 0),(4,.ptr 4 0),(6,.ptr 6 0)],[(2,⟨29,.fix (cC a)⟩),(3,⟨29,.fix (cC b)⟩),(4,⟨29,.fix [.v (.slice none 0 0),.v (.slice none 0 0),.i (0 : Int),.i (0 : Int),.i (0 : Int),.v (.slice none 0 0)]⟩),(6,⟨29,.fix [.own 20 (List.length a.up),.own 1020 (List.length a.down),.i b.value,.i b.time,.i a.proc,.own 2020 (List.length a.marks)]⟩),(20,⟨3,.row (.ints a.up)⟩),(1020,⟨3,.row (.ints a.down)⟩),(2020,⟨50,.row (.marks a.marks)⟩)],[6,2020,1020,20,4,3,2,999]⟩)
     (True ∧ True ∧ True ∧ (True ∧ True) ∧ True)
     ⟨tt,tt,tt,⟨tt,tt⟩,tt⟩ ?_
    refine Lk cok tab25 hnt [] (⟨[(2,.ptr 2 0),(3,.ptr 3 0),(4,.ptr 4 0),(6,.ptr 6 0),(30,.ptr 3 4),(31,.i b.proc),(32,.ptr 6 4)],[(2,⟨29,.fix (cC a)⟩),(3,⟨29,.fix (cC b)⟩),(4,⟨29,.fix [.v (.slice none 0 0),.v (.slice none 0 0),.i (0 : Int),.i (0 : Int),.i (0 : Int),.v (.slice none 0 0)]⟩),(6,⟨29,.fix [.own 20 (List.length a.up),.own 1020 (List.length a.down),.i b.value,.i b.time,.i b.proc,.own 2020 (List.length a.marks)]⟩),(20,⟨3,.row (.ints a.up)⟩),(1020,⟨3,.row (.ints a.down)⟩),(2020,⟨50,.row (.marks a.marks)⟩)],[6,2020,1020,20,4,3,2,999]⟩)
     (True ∧ True ∧ True ∧ (True ∧ True) ∧ True)
     ⟨tt,tt,tt,⟨tt,tt⟩,tt⟩ ?_
    refine thenQ_normal ?_
    refine ⟨(b.value,b.time,b.proc),(show (b.value = (bif newerC b a then b.value else a.value)) ∧ (b.time = (bif newerC b a then b.time else a.time)) ∧ (b.proc = (bif newerC b a then b.proc else a.proc)) from ⟨(by first | (rw [h23]; rfl) | (rw [n23]; rfl)),(by first | (rw [h23]; rfl) | (rw [n23]; rfl)),(by first | (rw [h23]; rfl) | (rw [n23]; rfl))⟩),?_⟩
    exact Sub.of [] (@cast (((((2 : Nat) = 2) ∧ ((0 : Nat) = 0) ∧ ((2 : Nat) ∈ ([2,3,4,6,20,999,1020,2020] : List Nat))) ∧ (((3 : Nat) = 3) ∧ ((0 : Nat) = 0) ∧ ((3 : Nat) ∈ ([2,3,4,6,20,999,1020,2020] : List Nat))) ∧ (((4 : Nat) = 4) ∧ ((0 : Nat) = 0) ∧ ((4 : Nat) ∈ ([2,3,4,6,20,999,1020,2020] : List Nat))) ∧ (((6 : Nat) = 6) ∧ ((0 : Nat) = 0) ∧ ((6 : Nat) ∈ ([2,3,4,6,20,999,1020,2020] : List Nat))) ∧ True) ∧ ((((29 : Nat) = 29) ∧ (Sc a) ∧ ((2 : Nat) ∈ ([2,3,4,6,20,999,1020,2020] : List Nat))) ∧ (((29 : Nat) = 29) ∧ (Sc b) ∧ ((3 : Nat) ∈ ([2,3,4,6,20,999,1020,2020] : List Nat))) ∧ (((29 : Nat) = 29) ∧ ((((.slice none 0 0) : Value) = (.slice none 0 0)) ∧ (((.slice none 0 0) : Value) = (.slice none 0 0)) ∧ (Si (0 : Int)) ∧ (Si (0 : Int)) ∧ (Si (0 : Int)) ∧ (((.slice none 0 0) : Value) = (.slice none 0 0)) ∧ True) ∧ ((4 : Nat) ∈ ([2,3,4,6,20,999,1020,2020] : List Nat))) ∧ (((29 : Nat) = 29) ∧ ((((20 : Nat) = 20) ∧ ((List.length a.up) = (List.length a.up)) ∧ ((20 : Nat) ∈ ([2,3,4,6,20,999,1020,2020] : List Nat))) ∧ (((1020 : Nat) = 1020) ∧ ((List.length a.down) = (List.length a.down)) ∧ ((1020 : Nat) ∈ ([2,3,4,6,20,999,1020,2020] : List Nat))) ∧ (Si b.value) ∧ (Si b.time) ∧ (Si b.proc) ∧ (((2020 : Nat) = 2020) ∧ ((List.length a.marks) = (List.length a.marks)) ∧ ((2020 : Nat) ∈ ([2,3,4,6,20,999,1020,2020] : List Nat))) ∧ True) ∧ ((6 : Nat) ∈ ([2,3,4,6,20,999,1020,2020] : List Nat))) ∧ (((3 : Nat) = 3) ∧ (Sd (.ints a.up)) ∧ ((20 : Nat) ∈ ([2,3,4,6,20,999,1020,2020] : List Nat))) ∧ (((3 : Nat) = 3) ∧ (Sd (.ints a.down)) ∧ ((1020 : Nat) ∈ ([2,3,4,6,20,999,1020,2020] : List Nat))) ∧ (((50 : Nat) = 50) ∧ (Sd (.marks a.marks)) ∧ ((2020 : Nat) ∈ ([2,3,4,6,20,999,1020,2020] : List Nat))) ∧ True) ∧ (true = true) ∧ (true = true)) _ (by kernel_rfl) ⟨⟨⟨rfl,rfl,(by decide)⟩,⟨rfl,rfl,(by decide)⟩,⟨rfl,rfl,(by decide)⟩,⟨rfl,rfl,(by decide)⟩,tt⟩,⟨⟨rfl,⟨rfl,rfl,rfl,rfl,rfl,rfl,tt⟩,(by decide)⟩,⟨rfl,⟨rfl,rfl,rfl,rfl,rfl,rfl,tt⟩,(by decide)⟩,⟨rfl,⟨rfl,rfl,rfl,rfl,rfl,rfl,tt⟩,(by decide)⟩,⟨rfl,⟨⟨rfl,rfl,(by decide)⟩,⟨rfl,rfl,(by decide)⟩,rfl,rfl,rfl,⟨rfl,rfl,(by decide)⟩,tt⟩,(by decide)⟩,⟨rfl,rfl,(by decide)⟩,⟨rfl,rfl,(by decide)⟩,⟨rfl,rfl,(by decide)⟩,tt⟩,rfl,rfl⟩)
   ·intro n23
    refine W.skip (thenQ_normal ?_)
    refine ⟨(a.value,a.time,a.proc),(show (a.value = (bif newerC b a then b.value else a.value)) ∧ (a.time = (bif newerC b a then b.time else a.time)) ∧ (a.proc = (bif newerC b a then b.proc else a.proc)) from ⟨(by first | (rw [h23]; rfl) | (rw [n23]; rfl)),(by first | (rw [h23]; rfl) | (rw [n23]; rfl)),(by first | (rw [h23]; rfl) | (rw [n23]; rfl))⟩),?_⟩
    exact Sub.of [] (@cast (((((2 : Nat) = 2) ∧ ((0 : Nat) = 0) ∧ ((2 : Nat) ∈ ([2,3,4,6,20,999,1020,2020] : List Nat))) ∧ (((3 : Nat) = 3) ∧ ((0 : Nat) = 0) ∧ ((3 : Nat) ∈ ([2,3,4,6,20,999,1020,2020] : List Nat))) ∧ (((4 : Nat) = 4) ∧ ((0 : Nat) = 0) ∧ ((4 : Nat) ∈ ([2,3,4,6,20,999,1020,2020] : List Nat))) ∧ (((6 : Nat) = 6) ∧ ((0 : Nat) = 0) ∧ ((6 : Nat) ∈ ([2,3,4,6,20,999,1020,2020] : List Nat))) ∧ True) ∧ ((((29 : Nat) = 29) ∧ (Sc a) ∧ ((2 : Nat) ∈ ([2,3,4,6,20,999,1020,2020] : List Nat))) ∧ (((29 : Nat) = 29) ∧ (Sc b) ∧ ((3 : Nat) ∈ ([2,3,4,6,20,999,1020,2020] : List Nat))) ∧ (((29 : Nat) = 29) ∧ ((((.slice none 0 0) : Value) = (.slice none 0 0)) ∧ (((.slice none 0 0) : Value) = (.slice none 0 0)) ∧ (Si (0 : Int)) ∧ (Si (0 : Int)) ∧ (Si (0 : Int)) ∧ (((.slice none 0 0) : Value) = (.slice none 0 0)) ∧ True) ∧ ((4 : Nat) ∈ ([2,3,4,6,20,999,1020,2020] : List Nat))) ∧ (((29 : Nat) = 29) ∧ ((((20 : Nat) = 20) ∧ ((List.length a.up) = (List.length a.up)) ∧ ((20 : Nat) ∈ ([2,3,4,6,20,999,1020,2020] : List Nat))) ∧ (((1020 : Nat) = 1020) ∧ ((List.length a.down) = (List.length a.down)) ∧ ((1020 : Nat) ∈ ([2,3,4,6,20,999,1020,2020] : List Nat))) ∧ (Si a.value) ∧ (Si a.time) ∧ (Si a.proc) ∧ (((2020 : Nat) = 2020) ∧ ((List.length a.marks) = (List.length a.marks)) ∧ ((2020 : Nat) ∈ ([2,3,4,6,20,999,1020,2020] : List Nat))) ∧ True) ∧ ((6 : Nat) ∈ ([2,3,4,6,20,999,1020,2020] : List Nat))) ∧ (((3 : Nat) = 3) ∧ (Sd (.ints a.up)) ∧ ((20 : Nat) ∈ ([2,3,4,6,20,999,1020,2020] : List Nat))) ∧ (((3 : Nat) = 3) ∧ (Sd (.ints a.down)) ∧ ((1020 : Nat) ∈ ([2,3,4,6,20,999,1020,2020] : List Nat))) ∧ (((50 : Nat) = 50) ∧ (Sd (.marks a.marks)) ∧ ((2020 : Nat) ∈ ([2,3,4,6,20,999,1020,2020] : List Nat))) ∧ True) ∧ (true = true) ∧ (true = true)) _ (by kernel_rfl) ⟨⟨⟨rfl,rfl,(by decide)⟩,⟨rfl,rfl,(by decide)⟩,⟨rfl,rfl,(by decide)⟩,⟨rfl,rfl,(by decide)⟩,tt⟩,⟨⟨rfl,⟨rfl,rfl,rfl,rfl,rfl,rfl,tt⟩,(by decide)⟩,⟨rfl,⟨rfl,rfl,rfl,rfl,rfl,rfl,tt⟩,(by decide)⟩,⟨rfl,⟨rfl,rfl,rfl,rfl,rfl,rfl,tt⟩,(by decide)⟩,⟨rfl,⟨⟨rfl,rfl,(by decide)⟩,⟨rfl,rfl,(by decide)⟩,rfl,rfl,rfl,⟨rfl,rfl,(by decide)⟩,tt⟩,(by decide)⟩,⟨rfl,rfl,(by decide)⟩,⟨rfl,rfl,(by decide)⟩,⟨rfl,rfl,(by decide)⟩,tt⟩,rfl,rfl⟩)
  ·rintro ⟨jv,jt,jp⟩ hC0
   have hC : (jv = (bif newerC b a then b.value else a.value)) ∧ (jt = (bif newerC b a then b.time else a.time)) ∧ (jp = (bif newerC b a then b.proc else a.proc)) := hC0
   clear hC0
   obtain ⟨hjv,hjt,hjp⟩ := hC
   refine W.to (⟨[(2,.ptr 2 0),(3,.ptr 3 0),(4,.ptr 4 0),(6,.ptr 6 0)],[(2,⟨29,.fix (cC a)⟩),(3,⟨29,.fix (cC b)⟩),(4,⟨29,.fix [.v (.slice none 0 0),.v (.slice none 0 0),.i (0 : Int),.i (0 : Int),.i (0 : Int),.v (.slice none 0 0)]⟩),(6,⟨29,.fix [.own 20 (List.length a.up),.own 1020 (List.length a.down),.i jv,.i jt,.i jp,.own 2020 (List.length a.marks)]⟩),(20,⟨3,.row (.ints a.up)⟩),(1020,⟨3,.row (.ints a.down)⟩),(2020,⟨50,.row (.marks a.marks)⟩)],[2,3,4,6,20,999,1020,2020]⟩) rfl ?_
   refine W.seq ?_
   refine Kk cok tab25 hnt [] [2,3,4,6,7] (⟨[(2,.ptr 2 0),(3,.ptr 3 0),(4,.ptr 4 0),(6,.ptr 6 0),(7,.i (0 : Int))],[(2,⟨29,.fix (cC a)⟩),(3,⟨29,.fix (cC b)⟩),(4,⟨29,.fix [.v (.slice none 0 0),.v (.slice none 0 0),.i (0 : Int),.i (0 : Int),.i (0 : Int),.v (.slice none 0 0)]⟩),(6,⟨29,.fix [.own 20 (List.length a.up),.own 1020 (List.length a.down),.i jv,.i jt,.i jp,.own 2020 (List.length a.marks)]⟩),(20,⟨3,.row (.ints a.up)⟩),(1020,⟨3,.row (.ints a.down)⟩),(2020,⟨50,.row (.marks a.marks)⟩)],[2,3,4,6,20,999,1020,2020]⟩)
    (True ∧ True)
    ⟨tt,tt⟩ ?_
   refine W.block ?_
   refine W.loop (ι := Nat × (List Int) × (List Int)) (fun (x : Nat × (List Int) × (List Int)) => match x with | (k,us,ds) => (⟨[(2,.ptr 2 0),(3,.ptr 3 0),(4,.ptr 4 0),(6,.ptr 6 0),(7,.i ((k : Nat) : Int))],[(2,⟨29,.fix (cC a)⟩),(3,⟨29,.fix (cC b)⟩),(4,⟨29,.fix [.v (.slice none 0 0),.v (.slice none 0 0),.i (0 : Int),.i (0 : Int),.i (0 : Int),.v (.slice none 0 0)]⟩),(6,⟨29,.fix [.own 20 us.length,.own 1020 ds.length,.i jv,.i jt,.i jp,.own 2020 (List.length a.marks)]⟩),(20,⟨3,.row (.ints us)⟩),(1020,⟨3,.row (.ints ds)⟩),(2020,⟨50,.row (.marks a.marks)⟩)],[2,3,4,6,20,999,1020,2020]⟩ : St))
    (fun (x : Nat × (List Int) × (List Int)) => match x with | (k,us,ds) => (k ≤ 3) ∧ (us = maxUp a.up b.up k) ∧ (ds = maxUp a.down b.down k))
    (fun (x : Nat × (List Int) × (List Int)) => match x with | (k,us,ds) => (3 - k : Nat)) (0,a.up,a.down) ?_ ?_ ?_
   ·exact (show (0 ≤ 3) ∧ (a.up = maxUp a.up b.up 0) ∧ (a.down = maxUp a.down b.down 0) from ⟨(by first | assumption | omega | rfl | (intro _ hjj; omega) | (simp; done) | (simp; omega)),(by exact maxUp_zero _ _),(by exact maxUp_zero _ _)⟩)
   ·exact Sub.of [] (@cast (((((2 : Nat) = 2) ∧ ((0 : Nat) = 0) ∧ ((2 : Nat) ∈ ([2,3,4,6,20,999,1020,2020] : List Nat))) ∧ (((3 : Nat) = 3) ∧ ((0 : Nat) = 0) ∧ ((3 : Nat) ∈ ([2,3,4,6,20,999,1020,2020] : List Nat))) ∧ (((4 : Nat) = 4) ∧ ((0 : Nat) = 0) ∧ ((4 : Nat) ∈ ([2,3,4,6,20,999,1020,2020] : List Nat))) ∧ (((6 : Nat) = 6) ∧ ((0 : Nat) = 0) ∧ ((6 : Nat) ∈ ([2,3,4,6,20,999,1020,2020] : List Nat))) ∧ ((.int .i64 (0 : Int) : Value) = .int .i64 ((0 : Nat) : Int)) ∧ True) ∧ ((((29 : Nat) = 29) ∧ (Sc a) ∧ ((2 : Nat) ∈ ([2,3,4,6,20,999,1020,2020] : List Nat))) ∧ (((29 : Nat) = 29) ∧ (Sc b) ∧ ((3 : Nat) ∈ ([2,3,4,6,20,999,1020,2020] : List Nat))) ∧ (((29 : Nat) = 29) ∧ ((((.slice none 0 0) : Value) = (.slice none 0 0)) ∧ (((.slice none 0 0) : Value) = (.slice none 0 0)) ∧ (Si (0 : Int)) ∧ (Si (0 : Int)) ∧ (Si (0 : Int)) ∧ (((.slice none 0 0) : Value) = (.slice none 0 0)) ∧ True) ∧ ((4 : Nat) ∈ ([2,3,4,6,20,999,1020,2020] : List Nat))) ∧ (((29 : Nat) = 29) ∧ ((((20 : Nat) = 20) ∧ ((List.length a.up) = (List.length a.up)) ∧ ((20 : Nat) ∈ ([2,3,4,6,20,999,1020,2020] : List Nat))) ∧ (((1020 : Nat) = 1020) ∧ ((List.length a.down) = (List.length a.down)) ∧ ((1020 : Nat) ∈ ([2,3,4,6,20,999,1020,2020] : List Nat))) ∧ (Si jv) ∧ (Si jt) ∧ (Si jp) ∧ (((2020 : Nat) = 2020) ∧ ((List.length a.marks) = (List.length a.marks)) ∧ ((2020 : Nat) ∈ ([2,3,4,6,20,999,1020,2020] : List Nat))) ∧ True) ∧ ((6 : Nat) ∈ ([2,3,4,6,20,999,1020,2020] : List Nat))) ∧ (((3 : Nat) = 3) ∧ (Sd (.ints a.up)) ∧ ((20 : Nat) ∈ ([2,3,4,6,20,999,1020,2020] : List Nat))) ∧ (((3 : Nat) = 3) ∧ (Sd (.ints a.down)) ∧ ((1020 : Nat) ∈ ([2,3,4,6,20,999,1020,2020] : List Nat))) ∧ (((50 : Nat) = 50) ∧ (Sd (.marks a.marks)) ∧ ((2020 : Nat) ∈ ([2,3,4,6,20,999,1020,2020] : List Nat))) ∧ True) ∧ (true = true) ∧ (true = true)) _ (by kernel_rfl) ⟨⟨⟨rfl,rfl,(by decide)⟩,⟨rfl,rfl,(by decide)⟩,⟨rfl,rfl,(by decide)⟩,⟨rfl,rfl,(by decide)⟩,(congrArg (Value.int .i64) (by first | rfl | omega | assumption | simp | simp_all)),tt⟩,⟨⟨rfl,⟨rfl,rfl,rfl,rfl,rfl,rfl,tt⟩,(by decide)⟩,⟨rfl,⟨rfl,rfl,rfl,rfl,rfl,rfl,tt⟩,(by decide)⟩,⟨rfl,⟨rfl,rfl,rfl,rfl,rfl,rfl,tt⟩,(by decide)⟩,⟨rfl,⟨⟨rfl,rfl,(by decide)⟩,⟨rfl,rfl,(by decide)⟩,rfl,rfl,rfl,⟨rfl,rfl,(by decide)⟩,tt⟩,(by decide)⟩,⟨rfl,rfl,(by decide)⟩,⟨rfl,rfl,(by decide)⟩,⟨rfl,rfl,(by decide)⟩,tt⟩,rfl,rfl⟩)
   ·rintro ⟨k,us,ds⟩ hC0
    have hC : (k ≤ 3) ∧ (us = maxUp a.up b.up k) ∧ (ds = maxUp a.down b.down k) := hC0
    clear hC0
    obtain ⟨hk,hus,hds⟩ := hC
    refine W.to (⟨[(2,.ptr 2 0),(3,.ptr 3 0),(4,.ptr 4 0),(6,.ptr 6 0),(7,.i ((k : Nat) : Int))],[(2,⟨29,.fix (cC a)⟩),(3,⟨29,.fix (cC b)⟩),(4,⟨29,.fix [.v (.slice none 0 0),.v (.slice none 0 0),.i (0 : Int),.i (0 : Int),.i (0 : Int),.v (.slice none 0 0)]⟩),(6,⟨29,.fix [.own 20 us.length,.own 1020 ds.length,.i jv,.i jt,.i jp,.own 2020 (List.length a.marks)]⟩),(20,⟨3,.row (.ints us)⟩),(1020,⟨3,.row (.ints ds)⟩),(2020,⟨50,.row (.marks a.marks)⟩)],[2,3,4,6,20,999,1020,2020]⟩) rfl ?_
    have hul2 : us.length = 3 := by rw [hus,maxUp_len (by omega)]; omega
    have hdl2 : ds.length = 3 := by rw [hds,maxUp_len (by omega)]; omega
    refine W.seq ?_
    refine Kk cok tab25 hnt [] [2,3,4,6,7,34] (⟨[(2,.ptr 2 0),(3,.ptr 3 0),(4,.ptr 4 0),(6,.ptr 6 0),(7,.i ((k : Nat) : Int)),(34,.b (decide (((k : Nat) : Int) < (3 : Int))))],[(2,⟨29,.fix (cC a)⟩),(3,⟨29,.fix (cC b)⟩),(4,⟨29,.fix [.v (.slice none 0 0),.v (.slice none 0 0),.i (0 : Int),.i (0 : Int),.i (0 : Int),.v (.slice none 0 0)]⟩),(6,⟨29,.fix [.own 20 us.length,.own 1020 ds.length,.i jv,.i jt,.i jp,.own 2020 (List.length a.marks)]⟩),(20,⟨3,.row (.ints us)⟩),(1020,⟨3,.row (.ints ds)⟩),(2020,⟨50,.row (.marks a.marks)⟩)],[2,3,4,6,20,999,1020,2020]⟩)
     (True ∧ (True ∧ True ∧ True) ∧ True)
     ⟨tt,⟨tt,tt,tt⟩,tt⟩ ?_
    refine W.ifP (((k : Nat) : Int) < (3 : Int)) (.b (decide (((k : Nat) : Int) < (3 : Int)))) (by kernel_rfl) rfl trivial ?_ ?_
    ·intro h34
     refine W.skip (thenQ_normal ?_)
     refine W.seq ?_
     refine W.block ?_
     refine W.KA cok tab25 hnt [] [2,3,4,6,7] (⟨[(2,.ptr 2 0),(3,.ptr 3 0),(4,.ptr 4 0),(6,.ptr 6 0),(7,.i ((k : Nat) : Int))],[(2,⟨29,.fix (cC a)⟩),(3,⟨29,.fix (cC b)⟩),(4,⟨29,.fix [.v (.slice none 0 0),.v (.slice none 0 0),.i (0 : Int),.i (0 : Int),.i (0 : Int),.v (.slice none 0 0)]⟩),(6,⟨29,.fix [.own 20 us.length,.own 1020 ds.length,.i jv,.i jt,.i jp,.own 2020 (List.length a.marks)]⟩),(20,⟨3,.row (.ints (List.set us k (max (List.getD a.up k 0) (List.getD b.up k 0))))⟩),(1020,⟨3,.row (.ints ds)⟩),(2020,⟨50,.row (.marks a.marks)⟩)],[2,3,4,6,20,999,1020,2020]⟩)
      (True ∧ True ∧ True ∧ True ∧ True ∧ True ∧ (True ∧ True ∧ (0 ≤ ((k : Nat) : Int)) ∧ (((k : Nat) : Int) < (((List.length a.up) : Nat) : Int))) ∧ True ∧ True ∧ True ∧ True ∧ (True ∧ True ∧ (0 ≤ ((k : Nat) : Int)) ∧ (((k : Nat) : Int) < (((List.length b.up) : Nat) : Int))) ∧ True ∧ (True ∧ True) ∧ (True ∧ True ∧ (0 ≤ ((k : Nat) : Int)) ∧ (((k : Nat) : Int) < (us.length : Int))) ∧ (True ∧ True ∧ (k < us.length)) ∧ True) (by kernel_rfl) (by kernel_rfl)
      ⟨tt,tt,tt,tt,tt,tt,⟨tt,tt,(by omega),(by omega)⟩,tt,tt,tt,tt,⟨tt,tt,(by omega),(by omega)⟩,tt,⟨tt,tt⟩,⟨tt,tt,(by omega),(by omega)⟩,⟨tt,tt,(by omega)⟩,tt⟩ ?_
     refine W.LA cok tab25 hnt [] (⟨[(2,.ptr 2 0),(3,.ptr 3 0),(4,.ptr 4 0),(6,.ptr 6 0),(7,.i ((k : Nat) : Int)),(52,.ptr 6 1),(53,.own 1020 ds.length),(54,.i ((k : Nat) : Int)),(55,.ptr 2 1),(56,.sl (.ints a.down)),(57,.i ((k : Nat) : Int)),(58,.ep [.i (List.getD a.down k 0)]),(59,.i (List.getD a.down k 0)),(60,.ptr 3 1),(61,.sl (.ints b.down)),(62,.i ((k : Nat) : Int)),(63,.ep [.i (List.getD b.down k 0)]),(64,.i (List.getD b.down k 0)),(65,.i (max (List.getD a.down k 0) (List.getD b.down k 0))),(66,.pel 1020 1 k 0)],[(2,⟨29,.fix (cC a)⟩),(3,⟨29,.fix (cC b)⟩),(4,⟨29,.fix [.v (.slice none 0 0),.v (.slice none 0 0),.i (0 : Int),.i (0 : Int),.i (0 : Int),.v (.slice none 0 0)]⟩),(6,⟨29,.fix [.own 20 us.length,.own 1020 ds.length,.i jv,.i jt,.i jp,.own 2020 (List.length a.marks)]⟩),(20,⟨3,.row (.ints (List.set us k (max (List.getD a.up k 0) (List.getD b.up k 0))))⟩),(1020,⟨3,.row (.ints (List.set ds k (max (List.getD a.down k 0) (List.getD b.down k 0))))⟩),(2020,⟨50,.row (.marks a.marks)⟩)],[2,3,4,6,20,999,1020,2020]⟩)
      (True ∧ True ∧ True ∧ True ∧ True ∧ True ∧ (True ∧ True ∧ (0 ≤ ((k : Nat) : Int)) ∧ (((k : Nat) : Int) < (((List.length a.down) : Nat) : Int))) ∧ True ∧ True ∧ True ∧ True ∧ (True ∧ True ∧ (0 ≤ ((k : Nat) : Int)) ∧ (((k : Nat) : Int) < (((List.length b.down) : Nat) : Int))) ∧ True ∧ (True ∧ True) ∧ (True ∧ True ∧ (0 ≤ ((k : Nat) : Int)) ∧ (((k : Nat) : Int) < (ds.length : Int))) ∧ (True ∧ True ∧ (k < ds.length)) ∧ True) (by kernel_rfl) (by kernel_rfl)
      ⟨tt,tt,tt,tt,tt,tt,⟨tt,tt,(by omega),(by omega)⟩,tt,tt,tt,tt,⟨tt,tt,(by omega),(by omega)⟩,tt,⟨tt,tt⟩,⟨tt,tt,(by omega),(by omega)⟩,⟨tt,tt,(by omega)⟩,tt⟩ ?_
     refine blockQ_normal (thenQ_normal ?_)
     refine Lk cok tab25 hnt [] (⟨[(2,.ptr 2 0),(3,.ptr 3 0),(4,.ptr 4 0),(6,.ptr 6 0),(7,.i (((k + 1) : Nat) : Int)),(35,.i ((k : Nat) : Int)),(36,.i (((k + 1) : Nat) : Int)),(52,.ptr 6 1),(53,.own 1020 ds.length),(54,.i ((k : Nat) : Int)),(55,.ptr 2 1),(56,.sl (.ints a.down)),(57,.i ((k : Nat) : Int)),(58,.ep [.i (List.getD a.down k 0)]),(59,.i (List.getD a.down k 0)),(60,.ptr 3 1),(61,.sl (.ints b.down)),(62,.i ((k : Nat) : Int)),(63,.ep [.i (List.getD b.down k 0)]),(64,.i (List.getD b.down k 0)),(65,.i (max (List.getD a.down k 0) (List.getD b.down k 0))),(66,.pel 1020 1 k 0)],[(2,⟨29,.fix (cC a)⟩),(3,⟨29,.fix (cC b)⟩),(4,⟨29,.fix [.v (.slice none 0 0),.v (.slice none 0 0),.i (0 : Int),.i (0 : Int),.i (0 : Int),.v (.slice none 0 0)]⟩),(6,⟨29,.fix [.own 20 us.length,.own 1020 ds.length,.i jv,.i jt,.i jp,.own 2020 (List.length a.marks)]⟩),(20,⟨3,.row (.ints (List.set us k (max (List.getD a.up k 0) (List.getD b.up k 0))))⟩),(1020,⟨3,.row (.ints (List.set ds k (max (List.getD a.down k 0) (List.getD b.down k 0))))⟩),(2020,⟨50,.row (.marks a.marks)⟩)],[2,3,4,6,20,999,1020,2020]⟩)
      (True ∧ (True ∧ True ∧ (Fits .i64 (((k + 1) : Nat) : Int))) ∧ True ∧ True)
      ⟨tt,⟨tt,tt,(by exact fits_i64 (by omega) (by omega))⟩,tt,tt⟩ ?_
     refine thenQ_normal ?_
     refine ⟨((k + 1),(List.set us k (max (List.getD a.up k 0) (List.getD b.up k 0))),(List.set ds k (max (List.getD a.down k 0) (List.getD b.down k 0)))),(show ((k + 1) ≤ 3) ∧ ((List.set us k (max (List.getD a.up k 0) (List.getD b.up k 0))) = maxUp a.up b.up (k + 1)) ∧ ((List.set ds k (max (List.getD a.down k 0) (List.getD b.down k 0))) = maxUp a.down b.down (k + 1)) from ⟨(by first | assumption | omega | rfl | (intro _ hjj; omega) | (simp; done) | (simp; omega)),(by exact maxUp_step hus (by omega)),(by exact maxUp_step hds (by omega))⟩),(show 3 - (k + 1) < 3 - k from (by first | omega | (simp_all; omega))),?_⟩
     exact Sub.of [] (@cast (((((2 : Nat) = 2) ∧ ((0 : Nat) = 0) ∧ ((2 : Nat) ∈ ([2,3,4,6,20,999,1020,2020] : List Nat))) ∧ (((3 : Nat) = 3) ∧ ((0 : Nat) = 0) ∧ ((3 : Nat) ∈ ([2,3,4,6,20,999,1020,2020] : List Nat))) ∧ (((4 : Nat) = 4) ∧ ((0 : Nat) = 0) ∧ ((4 : Nat) ∈ ([2,3,4,6,20,999,1020,2020] : List Nat))) ∧ (((6 : Nat) = 6) ∧ ((0 : Nat) = 0) ∧ ((6 : Nat) ∈ ([2,3,4,6,20,999,1020,2020] : List Nat))) ∧ (Si (((k + 1) : Nat) : Int)) ∧ True) ∧ ((((29 : Nat) = 29) ∧ (Sc a) ∧ ((2 : Nat) ∈ ([2,3,4,6,20,999,1020,2020] : List Nat))) ∧ (((29 : Nat) = 29) ∧ (Sc b) ∧ ((3 : Nat) ∈ ([2,3,4,6,20,999,1020,2020] : List Nat))) ∧ (((29 : Nat) = 29) ∧ ((((.slice none 0 0) : Value) = (.slice none 0 0)) ∧ (((.slice none 0 0) : Value) = (.slice none 0 0)) ∧ (Si (0 : Int)) ∧ (Si (0 : Int)) ∧ (Si (0 : Int)) ∧ (((.slice none 0 0) : Value) = (.slice none 0 0)) ∧ True) ∧ ((4 : Nat) ∈ ([2,3,4,6,20,999,1020,2020] : List Nat))) ∧ (((29 : Nat) = 29) ∧ ((((20 : Nat) = 20) ∧ (us.length = (List.length (List.set us k (max (List.getD a.up k 0) (List.getD b.up k 0))))) ∧ ((20 : Nat) ∈ ([2,3,4,6,20,999,1020,2020] : List Nat))) ∧ (((1020 : Nat) = 1020) ∧ (ds.length = (List.length (List.set ds k (max (List.getD a.down k 0) (List.getD b.down k 0))))) ∧ ((1020 : Nat) ∈ ([2,3,4,6,20,999,1020,2020] : List Nat))) ∧ (Si jv) ∧ (Si jt) ∧ (Si jp) ∧ (((2020 : Nat) = 2020) ∧ ((List.length a.marks) = (List.length a.marks)) ∧ ((2020 : Nat) ∈ ([2,3,4,6,20,999,1020,2020] : List Nat))) ∧ True) ∧ ((6 : Nat) ∈ ([2,3,4,6,20,999,1020,2020] : List Nat))) ∧ (((3 : Nat) = 3) ∧ (Sd (.ints (List.set us k (max (List.getD a.up k 0) (List.getD b.up k 0))))) ∧ ((20 : Nat) ∈ ([2,3,4,6,20,999,1020,2020] : List Nat))) ∧ (((3 : Nat) = 3) ∧ (Sd (.ints (List.set ds k (max (List.getD a.down k 0) (List.getD b.down k 0))))) ∧ ((1020 : Nat) ∈ ([2,3,4,6,20,999,1020,2020] : List Nat))) ∧ (((50 : Nat) = 50) ∧ (Sd (.marks a.marks)) ∧ ((2020 : Nat) ∈ ([2,3,4,6,20,999,1020,2020] : List Nat))) ∧ True) ∧ (true = true) ∧ (true = true)) _ (by kernel_rfl) ⟨⟨⟨rfl,rfl,(by decide)⟩,⟨rfl,rfl,(by decide)⟩,⟨rfl,rfl,(by decide)⟩,⟨rfl,rfl,(by decide)⟩,rfl,tt⟩,⟨⟨rfl,⟨rfl,rfl,rfl,rfl,rfl,rfl,tt⟩,(by decide)⟩,⟨rfl,⟨rfl,rfl,rfl,rfl,rfl,rfl,tt⟩,(by decide)⟩,⟨rfl,⟨rfl,rfl,rfl,rfl,rfl,rfl,tt⟩,(by decide)⟩,⟨rfl,⟨⟨rfl,(by first | rfl | omega | assumption | (symm; assumption) | simp | simp_all),(by decide)⟩,⟨rfl,(by first | rfl | omega | assumption | (symm; assumption) | simp | simp_all),(by decide)⟩,rfl,rfl,rfl,⟨rfl,rfl,(by decide)⟩,tt⟩,(by decide)⟩,⟨rfl,rfl,(by decide)⟩,⟨rfl,rfl,(by decide)⟩,⟨rfl,rfl,(by decide)⟩,tt⟩,rfl,rfl⟩)
    ·intro n34
     refine W.exit (thenQ_exit (thenQ_exit (blockQ_hit ?_)))
     refine thenQ_normal ?_
     refine Kk cok tab25 hnt [] [4,6,8,9] (⟨[(4,.ptr 4 0),(6,.ptr 6 0),(8,.sl (.marks ((uniteP a.marks b.marks).1))),(9,.b ((uniteP a.marks b.marks).2))],[(2,⟨29,.fix (cC a)⟩),(3,⟨29,.fix (cC b)⟩),(4,⟨29,.fix [.v (.slice none 0 0),.v (.slice none 0 0),.i (0 : Int),.i (0 : Int),.i (0 : Int),.v (.slice none 0 0)]⟩),(6,⟨29,.fix [.own 20 us.length,.own 1020 ds.length,.i jv,.i jt,.i jp,.own 2020 (List.length a.marks)]⟩),(20,⟨3,.row (.ints us)⟩),(1020,⟨3,.row (.ints ds)⟩),(2020,⟨50,.row (.marks a.marks)⟩)],[2,3,4,6,20,999,1020,2020]⟩)
      (True ∧ True ∧ True ∧ True ∧ (True ∧ (True ∧ True ∧ True) ∧ a.marks.length ≤ 1000 ∧ b.marks.length ≤ 1000) ∧ True ∧ True ∧ True ∧ True ∧ True ∧ True)
      ⟨tt,tt,tt,tt,⟨tt,⟨tt,tt,tt⟩,(by omega)⟩,tt,tt,tt,tt,tt,tt⟩ ?_
     refine Kk cok tab25 hnt [] [4,6,9] (⟨[(4,.ptr 4 0),(6,.ptr 6 0),(9,.b ((uniteP a.marks b.marks).2))],[(2,⟨29,.fix (cC a)⟩),(3,⟨29,.fix (cC b)⟩),(4,⟨29,.fix [.v (.slice none 0 0),.v (.slice none 0 0),.i (0 : Int),.i (0 : Int),.i (0 : Int),.v (.slice none 0 0)]⟩),(6,⟨29,.fix [.own 20 us.length,.own 1020 ds.length,.i jv,.i jt,.i jp,.sl (.marks ((uniteP a.marks b.marks).1))]⟩),(20,⟨3,.row (.ints us)⟩),(1020,⟨3,.row (.ints ds)⟩),(2020,⟨50,.row (.marks a.marks)⟩)],[2,3,4,6,20,999,1020,2020]⟩)
      (True ∧ True ∧ (True ∧ True) ∧ True)
      ⟨tt,tt,⟨tt,tt⟩,tt⟩ ?_
     refine W.seq ?_
     refine Kk cok tab25 hnt [] [4,6,83] (⟨[(4,.ptr 4 0),(6,.ptr 6 0),(83,.b ((!((uniteP a.marks b.marks).2)) || (!(validCopy ⟨us,ds,jv,jt,jp,(uniteP a.marks b.marks).1⟩))))],[(2,⟨29,.fix (cC a)⟩),(3,⟨29,.fix (cC b)⟩),(4,⟨29,.fix [.v (.slice none 0 0),.v (.slice none 0 0),.i (0 : Int),.i (0 : Int),.i (0 : Int),.v (.slice none 0 0)]⟩),(6,⟨29,.fix [.own 20 us.length,.own 1020 ds.length,.i jv,.i jt,.i jp,.sl (.marks ((uniteP a.marks b.marks).1))]⟩),(20,⟨3,.row (.ints us)⟩),(1020,⟨3,.row (.ints ds)⟩),(2020,⟨50,.row (.marks a.marks)⟩)],[2,3,4,6,20,999,1020,2020]⟩)
      ((fun (Z1:Bool)=>(True ∧ (True ∧ (True ∧ (((!Z1) = true → True) ∧ (((!Z1) = true → (True ∧ ((((((!Z1) = true) ∧ True) ∧ ((True ∧ (us.length = us.length)) ∧ ((True ∧ (ds.length = ds.length)) ∧ (True ∧ (True ∧ (True ∧ (True ∧ True))))))) ∧ True) ∧ True))) ∧ (((!Z1) = true → (((!Z1) = true) ∧ True)) ∧ ((True ∧ ((Z1 = true → True) ∧ (Z1 = false → ((!Z1) = true) ∧ True))) ∧ True)))))))) (!((uniteP a.marks b.marks).2)))
      ⟨tt,tt,tt,(fun _ => trivial),(fun hG => ⟨tt,⟨⟨⟨hG,tt⟩,⟨tt,rfl⟩,⟨tt,rfl⟩,tt,tt,tt,tt,tt⟩,tt⟩,tt⟩),(fun hG => ⟨hG,tt⟩),⟨tt,(fun _ => trivial),(fun hp => ⟨(not_t hp),tt⟩)⟩,tt⟩ ?_
     refine W.if' ((!((uniteP a.marks b.marks).2)) || (!(validCopy ⟨us,ds,jv,jt,jp,(uniteP a.marks b.marks).1⟩))) (.b ((!((uniteP a.marks b.marks).2)) || (!(validCopy ⟨us,ds,jv,jt,jp,(uniteP a.marks b.marks).1⟩)))) (by kernel_rfl) rfl trivial ?_ ?_
     ·intro h83
      refine Kk cok tab25 hnt [] [4,5] (⟨[(4,.ptr 4 0),(5,.b false)],[(2,⟨29,.fix (cC a)⟩),(3,⟨29,.fix (cC b)⟩),(4,⟨29,.fix [.v (.slice none 0 0),.v (.slice none 0 0),.i (0 : Int),.i (0 : Int),.i (0 : Int),.v (.slice none 0 0)]⟩),(6,⟨29,.fix [.own 20 us.length,.own 1020 ds.length,.i jv,.i jt,.i jp,.sl (.marks ((uniteP a.marks b.marks).1))]⟩),(20,⟨3,.row (.ints us)⟩),(1020,⟨3,.row (.ints ds)⟩),(2020,⟨50,.row (.marks a.marks)⟩)],[2,3,4,6,20,999,1020,2020]⟩)
       (True ∧ (True ∧ True) ∧ True ∧ True)
       ⟨tt,⟨tt,tt⟩,tt,tt⟩ ?_
      refine W.ret (thenQ_ret ?_)
      exact endQ_ret (.tup [.agg [.v (.slice none 0 0),.v (.slice none 0 0),.i (0 : Int),.i (0 : Int),.i (0 : Int),.v (.slice none 0 0)],.b false]) (by kernel_rfl) (@cast (((((Value.slice none 0 0 : Value) = .slice none 0 0) ∧ ((Dat.ints ((mergeC a b).1.up)).len = 0)) ∧ (((Value.slice none 0 0 : Value) = .slice none 0 0) ∧ ((Dat.ints ((mergeC a b).1.down)).len = 0)) ∧ ((.int .i64 (0 : Int) : Value) = .int .i64 ((mergeC a b).1.value)) ∧ ((.int .i64 (0 : Int) : Value) = .int .i64 ((mergeC a b).1.time)) ∧ ((.int .i64 (0 : Int) : Value) = .int .i64 ((mergeC a b).1.proc)) ∧ (((Value.slice none 0 0 : Value) = .slice none 0 0) ∧ ((Dat.marks ((mergeC a b).1.marks)).len = 0)) ∧ True) ∧ ((.bool false : Value) = .bool ((mergeC a b).2)) ∧ True) _ (by kernel_rfl) ⟨⟨⟨rfl,(by show List.length ((mergeC a b).1.up) = 0; rw [mg_bad hg (join_eq (maxUp_all (by rw [hus,show k = 3 by omega]) hf.1) (maxUp_all (by rw [hds,show k = 3 by omega]) hf.2.1) ⟨hjv,hjt,hjp⟩) h83]; try rfl)⟩,⟨rfl,(by show List.length ((mergeC a b).1.down) = 0; rw [mg_bad hg (join_eq (maxUp_all (by rw [hus,show k = 3 by omega]) hf.1) (maxUp_all (by rw [hds,show k = 3 by omega]) hf.2.1) ⟨hjv,hjt,hjp⟩) h83]; try rfl)⟩,(congrArg (Value.int .i64) (by rw [mg_bad hg (join_eq (maxUp_all (by rw [hus,show k = 3 by omega]) hf.1) (maxUp_all (by rw [hds,show k = 3 by omega]) hf.2.1) ⟨hjv,hjt,hjp⟩) h83]; try rfl)),(congrArg (Value.int .i64) (by rw [mg_bad hg (join_eq (maxUp_all (by rw [hus,show k = 3 by omega]) hf.1) (maxUp_all (by rw [hds,show k = 3 by omega]) hf.2.1) ⟨hjv,hjt,hjp⟩) h83]; try rfl)),(congrArg (Value.int .i64) (by rw [mg_bad hg (join_eq (maxUp_all (by rw [hus,show k = 3 by omega]) hf.1) (maxUp_all (by rw [hds,show k = 3 by omega]) hf.2.1) ⟨hjv,hjt,hjp⟩) h83]; try rfl)),⟨rfl,(by show List.length ((mergeC a b).1.marks) = 0; rw [mg_bad hg (join_eq (maxUp_all (by rw [hus,show k = 3 by omega]) hf.1) (maxUp_all (by rw [hds,show k = 3 by omega]) hf.2.1) ⟨hjv,hjt,hjp⟩) h83]; try rfl)⟩,tt⟩,(congrArg Value.bool (by rw [mg_bad hg (join_eq (maxUp_all (by rw [hus,show k = 3 by omega]) hf.1) (maxUp_all (by rw [hds,show k = 3 by omega]) hf.2.1) ⟨hjv,hjt,hjp⟩) h83]; try rfl)),tt⟩)
     ·intro n83
      refine W.skip (thenQ_normal ?_)
      refine Kk cok tab25 hnt [] [4,5] (⟨[(4,.ptr 4 0),(5,.b true)],[(2,⟨29,.fix (cC a)⟩),(3,⟨29,.fix (cC b)⟩),(4,⟨29,.fix [.own 20 us.length,.own 1020 ds.length,.i jv,.i jt,.i jp,.sl (.marks ((uniteP a.marks b.marks).1))]⟩),(6,⟨29,.fix [.own 20 us.length,.own 1020 ds.length,.i jv,.i jt,.i jp,.sl (.marks ((uniteP a.marks b.marks).1))]⟩),(20,⟨3,.row (.ints us)⟩),(1020,⟨3,.row (.ints ds)⟩),(2020,⟨50,.row (.marks a.marks)⟩)],[2,3,4,6,20,999,1020,2020]⟩)
       (True ∧ (True ∧ True) ∧ True ∧ True)
       ⟨tt,⟨tt,tt⟩,tt,tt⟩ ?_
      refine W.ret ?_
      exact endQ_ret (.tup [.agg [.own 20 us.length,.own 1020 ds.length,.i jv,.i jt,.i jp,.sl (.marks ((uniteP a.marks b.marks).1))],.b true]) (by kernel_rfl) (@cast ((((us.length = us.length) ∧ ((.ints us : Dat) = .ints ((mergeC a b).1.up)) ∧ ((20 : Nat) ∉ ([] : List Nat))) ∧ ((ds.length = ds.length) ∧ ((.ints ds : Dat) = .ints ((mergeC a b).1.down)) ∧ ((1020 : Nat) ∉ ([] : List Nat))) ∧ ((.int .i64 jv : Value) = .int .i64 ((mergeC a b).1.value)) ∧ ((.int .i64 jt : Value) = .int .i64 ((mergeC a b).1.time)) ∧ ((.int .i64 jp : Value) = .int .i64 ((mergeC a b).1.proc)) ∧ ((.marks ((uniteP a.marks b.marks).1) : Dat) = .marks ((mergeC a b).1.marks)) ∧ True) ∧ ((.bool true : Value) = .bool ((mergeC a b).2)) ∧ True) _ (by kernel_rfl) ⟨⟨⟨rfl,(congrArg Dat.ints (by rw [mg_ok hg (join_eq (maxUp_all (by rw [hus,show k = 3 by omega]) hf.1) (maxUp_all (by rw [hds,show k = 3 by omega]) hf.2.1) ⟨hjv,hjt,hjp⟩) n83]; try rfl)),(by decide)⟩,⟨rfl,(congrArg Dat.ints (by rw [mg_ok hg (join_eq (maxUp_all (by rw [hus,show k = 3 by omega]) hf.1) (maxUp_all (by rw [hds,show k = 3 by omega]) hf.2.1) ⟨hjv,hjt,hjp⟩) n83]; try rfl)),(by decide)⟩,(congrArg (Value.int .i64) (by rw [mg_ok hg (join_eq (maxUp_all (by rw [hus,show k = 3 by omega]) hf.1) (maxUp_all (by rw [hds,show k = 3 by omega]) hf.2.1) ⟨hjv,hjt,hjp⟩) n83]; try rfl)),(congrArg (Value.int .i64) (by rw [mg_ok hg (join_eq (maxUp_all (by rw [hus,show k = 3 by omega]) hf.1) (maxUp_all (by rw [hds,show k = 3 by omega]) hf.2.1) ⟨hjv,hjt,hjp⟩) n83]; try rfl)),(congrArg (Value.int .i64) (by rw [mg_ok hg (join_eq (maxUp_all (by rw [hus,show k = 3 by omega]) hf.1) (maxUp_all (by rw [hds,show k = 3 by omega]) hf.2.1) ⟨hjv,hjt,hjp⟩) n83]; try rfl)),(congrArg Dat.marks (by rw [mg_ok hg (join_eq (maxUp_all (by rw [hus,show k = 3 by omega]) hf.1) (maxUp_all (by rw [hds,show k = 3 by omega]) hf.2.1) ⟨hjv,hjt,hjp⟩) n83]; try rfl)),tt⟩,(congrArg Value.bool (by rw [mg_ok hg (join_eq (maxUp_all (by rw [hus,show k = 3 by omega]) hf.1) (maxUp_all (by rw [hds,show k = 3 by omega]) hf.2.1) ⟨hjv,hjt,hjp⟩) n83]; try rfl)),tt⟩)
theorem ent25 : Entr prog 25 := ⟨_,func25,rfl,by decide⟩
end Go.Proofs.Try

set_option linter.unusedSimpArgs false
set_option linter.unusedVariables false
namespace Go.Proofs.Try
open Go.Ab Go.RowKit
def fs44 : FnS := fnS [.o,.o,.o] [.int,.int,.int] (fun _ (n,low,high,_) => (.b (within n low high),[],True))
abbrev T44 : Tab := lk []
theorem tab44 : TabOK prog T44 := TabOK.nil
set_option maxRecDepth 100000 in
set_option maxHeartbeats 1000000 in
theorem ok44 : FnOK prog 44 fs44 := by
 refine FnOK.mk cok func44 rfl rfl rfl ?_
 rintro fl ⟨(n : Int),(low : Int),(high : Int),_⟩ hpre F hnt0 _
 have hnt : F.nt = 15 := hnt0.trans ntmps44
 clear hpre
 refine W.to (⟨[(0,.i n),(1,.i low),(2,.i high)],[],[999]⟩) rfl ?_
 refine Kk cok tab44 hnt [] [0,1,2] (⟨[(0,.i n),(1,.i low),(2,.i high)],[],[999]⟩)
  (True ∧ True)
  ⟨tt,tt⟩ ?_
 refine Kk cok tab44 hnt [] [6] (⟨[(6,.b ((decide (low ≤ n)) && (decide (n ≤ high))))],[],[999]⟩)
  ((fun (Z1:Bool)=>(True ∧ (True ∧ ((True ∧ (True ∧ True)) ∧ (True ∧ ((Z1 = true → True) ∧ ((Z1 = true → True) ∧ ((Z1 = true → (((Z1 = true) ∧ True) ∧ (((Z1 = true) ∧ True) ∧ True))) ∧ ((True ∧ ((Z1 = true → (Z1 = true) ∧ True) ∧ (Z1 = false → True))) ∧ (True ∧ True)))))))))) (decide (low ≤ n)))
  ⟨tt,tt,⟨tt,tt,tt⟩,tt,(fun _ => trivial),(fun _ => trivial),(fun hG => ⟨⟨hG,tt⟩,⟨hG,tt⟩,tt⟩),⟨tt,(fun hp => ⟨hp,tt⟩),(fun _ => trivial)⟩,tt,tt⟩ ?_
 refine W.ret ?_
 exact endQ_ret (.b ((decide (low ≤ n)) && (decide (n ≤ high)))) (by kernel_rfl) (@cast ((.bool ((decide (low ≤ n)) && (decide (n ≤ high))) : Value) = .bool (within n low high)) _ (by kernel_rfl) (congrArg Value.bool (by first | rfl | simp_all)))
theorem ent44 : Entr prog 44 := ⟨_,func44,rfl,by decide⟩
end Go.Proofs.Try

set_option linter.unusedSimpArgs false
set_option linter.unusedVariables false
namespace Go.Proofs.Try
open Go.Ab Go.RowKit
def fs61 : FnS := fnS [.o] [.mark] (fun _ (mm,_) => (.b (isMark mm),[],True))
abbrev T61 : Tab := lk [(44,fs44)]
theorem tab61 : TabOK prog T61 := (TabOK.cons ok44 ent44 TabOK.nil)
set_option maxRecDepth 100000 in
set_option maxHeartbeats 1000000 in
theorem ok61 : FnOK prog 61 fs61 := by
 refine FnOK.mk cok func61 rfl rfl rfl ?_
 rintro fl ⟨(mm : MarkD),_⟩ hpre F hnt0 _
 have hnt : F.nt = 16 := hnt0.trans ntmps61
 clear hpre
 refine W.to (⟨[(0,.agg [.i mm.value,.i mm.proc,.i mm.number,.b mm.gone])],[],[999]⟩) rfl ?_
 refine Kk cok tab61 hnt [] [1] (⟨[(1,.ptr 1 0)],[(1,⟨50,.fix [.i mm.value,.i mm.proc,.i mm.number,.b mm.gone]⟩)],[1,999]⟩)
  (True ∧ True ∧ True)
  ⟨tt,tt,tt⟩ ?_
 refine Kk cok tab61 hnt [] [2] (⟨[(2,.b (((within mm.value (0 : Int) (3 : Int)) && (within mm.proc (0 : Int) (2 : Int))) && (within mm.number (1 : Int) (20 : Int))))],[(1,⟨50,.fix [.i mm.value,.i mm.proc,.i mm.number,.b mm.gone]⟩)],[1,999]⟩)
  ((fun (Z1:Bool)=>((fun (Z2:Bool)=>(True ∧ (True ∧ ((True ∧ ((True ∧ (True ∧ (True ∧ True))) ∧ True)) ∧ (True ∧ ((Z1 = true → True) ∧ ((Z1 = true → ((Z1 = true) ∧ True)) ∧ ((Z1 = true → (True ∧ ((((Z1 = true) ∧ True) ∧ (True ∧ (True ∧ True))) ∧ True))) ∧ ((True ∧ ((Z1 = true → (Z1 = true) ∧ True) ∧ (Z1 = false → True))) ∧ (True ∧ ((Z2 = true → True) ∧ ((Z2 = true → ((Z2 = true) ∧ True)) ∧ ((Z2 = true → (True ∧ ((((Z2 = true) ∧ True) ∧ (True ∧ (True ∧ True))) ∧ True))) ∧ ((True ∧ ((Z2 = true → (Z2 = true) ∧ True) ∧ (Z2 = false → True))) ∧ (True ∧ True))))))))))))))) (Z1 && (within mm.proc (0 : Int) (2 : Int))))) (within mm.value (0 : Int) (3 : Int)))
  ⟨tt,tt,⟨tt,⟨tt,tt,tt,tt⟩,tt⟩,tt,(fun _ => trivial),(fun hG => ⟨hG,tt⟩),(fun hG => ⟨tt,⟨⟨hG,tt⟩,tt,tt,tt⟩,tt⟩),⟨tt,(fun hp => ⟨hp,tt⟩),(fun _ => trivial)⟩,tt,(fun _ => trivial),(fun hG => ⟨hG,tt⟩),(fun hG => ⟨tt,⟨⟨hG,tt⟩,tt,tt,tt⟩,tt⟩),⟨tt,(fun hp => ⟨hp,tt⟩),(fun _ => trivial)⟩,tt,tt⟩ ?_
 refine W.ret ?_
 exact endQ_ret (.b (((within mm.value (0 : Int) (3 : Int)) && (within mm.proc (0 : Int) (2 : Int))) && (within mm.number (1 : Int) (20 : Int)))) (by kernel_rfl) (@cast ((.bool (((within mm.value (0 : Int) (3 : Int)) && (within mm.proc (0 : Int) (2 : Int))) && (within mm.number (1 : Int) (20 : Int))) : Value) = .bool (isMark mm)) _ (by kernel_rfl) (congrArg Value.bool (by first | rfl | simp_all)))
theorem ent61 : Entr prog 61 := ⟨_,func61,rfl,by decide⟩
end Go.Proofs.Try

set_option linter.unusedSimpArgs false
set_option linter.unusedVariables false
namespace Go.Proofs.Try
open Go.Ab Go.RowKit
def fs76 : FnS := fnS [.o] [.int] (fun _ (x,_) => (.b false,[],True))
abbrev T76 : Tab := lk []
theorem tab76 : TabOK prog T76 := TabOK.nil
set_option maxRecDepth 100000 in
set_option maxHeartbeats 1000000 in
theorem ok76 : FnOK prog 76 fs76 := by
 refine FnOK.mk cok func76 rfl rfl rfl ?_
 rintro fl ⟨(x : Int),_⟩ hpre F hnt0 _
 have hnt : F.nt = 6 := hnt0.trans ntmps76
 clear hpre
 refine W.to (⟨[(0,.i x)],[],[999]⟩) rfl ?_
 refine Kk cok tab76 hnt [] [0] (⟨[(0,.i x)],[],[999]⟩)
  (True ∧ True)
  ⟨tt,tt⟩ ?_
 refine Kk cok tab76 hnt [] [2] (⟨[(2,.b (decide (x ≠ x)))],[],[999]⟩)
  (True ∧ True ∧ (True ∧ True ∧ True) ∧ True ∧ True)
  ⟨tt,tt,⟨tt,tt,tt⟩,tt,tt⟩ ?_
 refine W.ret ?_
 exact endQ_ret (.b (decide (x ≠ x))) (by kernel_rfl) (@cast ((.bool (decide (x ≠ x)) : Value) = .bool false) _ (by kernel_rfl) (congrArg Value.bool (by simp)))
theorem ent76 : Entr prog 76 := ⟨_,func76,rfl,by decide⟩
end Go.Proofs.Try

set_option linter.unusedSimpArgs false
set_option linter.unusedVariables false
namespace Go.Proofs.Try
open Go.Ab Go.RowKit
def fs67 : FnS := fnS [.o,.o] [.int,.int] (fun _ (a,b,_) => (.i (cmpI a b),[],True))
abbrev T67 : Tab := lk [(76,fs76)]
theorem tab67 : TabOK prog T67 := (TabOK.cons ok76 ent76 TabOK.nil)
set_option maxRecDepth 100000 in
set_option maxHeartbeats 1000000 in
theorem ok67 : FnOK prog 67 fs67 := by
 refine FnOK.mk cok func67 rfl rfl rfl ?_
 rintro fl ⟨(a : Int),(b : Int),_⟩ hpre F hnt0 _
 have hnt : F.nt = 20 := hnt0.trans ntmps67
 clear hpre
 refine W.to (⟨[(0,.i a),(1,.i b)],[],[999]⟩) rfl ?_
 refine Kk cok tab67 hnt [] [0,1] (⟨[(0,.i a),(1,.i b)],[],[999]⟩)
  (True ∧ True)
  ⟨tt,tt⟩ ?_
 refine Kk cok tab67 hnt [] [0,1,5] (⟨[(0,.i a),(1,.i b),(5,.b false)],[],[999]⟩)
  (True ∧ (True ∧ (True ∧ True) ∧ True) ∧ True ∧ True)
  ⟨tt,⟨tt,⟨tt,tt⟩,tt⟩,tt,tt⟩ ?_
 refine Kk cok tab67 hnt [] [0,1,5,6] (⟨[(0,.i a),(1,.i b),(5,.b false),(6,.b false)],[],[999]⟩)
  (True ∧ (True ∧ (True ∧ True) ∧ True) ∧ True ∧ True)
  ⟨tt,⟨tt,⟨tt,tt⟩,tt⟩,tt,tt⟩ ?_
 refine W.seq ?_
 refine Kk cok tab67 hnt [] [0,1,6,11] (⟨[(0,.i a),(1,.i b),(6,.b false),(11,.b false)],[],[999]⟩)
  (True ∧ True)
  ⟨tt,tt⟩ ?_
 refine W.if' false (.b false) (by kernel_rfl) rfl trivial ?_ ?_
 ·intro h11
  refine W.seq ?_
  refine Kk cok tab67 hnt [] [12] (⟨[(12,.b false)],[],[999]⟩)
   (True ∧ True)
   ⟨tt,tt⟩ ?_
  refine W.if' false (.b false) (by kernel_rfl) rfl trivial ?_ ?_
  ·intro h12
   refine Kk cok tab67 hnt [] [4] (⟨[(4,.i (0 : Int))],[],[999]⟩)
    (True ∧ True)
    ⟨tt,tt⟩ ?_
   refine W.ret (thenQ_ret (thenQ_ret ?_))
   exact endQ_ret (.i (0 : Int)) (by kernel_rfl) (@cast ((.int .i64 (0 : Int) : Value) = .int .i64 (cmpI a b)) _ (by kernel_rfl) (congrArg (Value.int .i64) (by cases h11)))
  ·intro n12
   refine W.skip (thenQ_normal ?_)
   refine Kk cok tab67 hnt [] [4] (⟨[(4,.i (-1 : Int))],[],[999]⟩)
    (True ∧ True)
    ⟨tt,tt⟩ ?_
   refine W.ret (thenQ_ret ?_)
   exact endQ_ret (.i (-1 : Int)) (by kernel_rfl) (@cast ((.int .i64 (-1 : Int) : Value) = .int .i64 (cmpI a b)) _ (by kernel_rfl) (congrArg (Value.int .i64) (by cases h11)))
 ·intro n11
  refine W.skip (thenQ_normal ?_)
  refine W.seq ?_
  refine Kk cok tab67 hnt [] [0,1,13] (⟨[(0,.i a),(1,.i b),(13,.b false)],[],[999]⟩)
   (True ∧ True)
   ⟨tt,tt⟩ ?_
  refine W.if' false (.b false) (by kernel_rfl) rfl trivial ?_ ?_
  ·intro h13
   refine Kk cok tab67 hnt [] [4] (⟨[(4,.i (1 : Int))],[],[999]⟩)
    (True ∧ True)
    ⟨tt,tt⟩ ?_
   refine W.ret (thenQ_ret ?_)
   exact endQ_ret (.i (1 : Int)) (by kernel_rfl) (@cast ((.int .i64 (1 : Int) : Value) = .int .i64 (cmpI a b)) _ (by kernel_rfl) (congrArg (Value.int .i64) (by cases h13)))
  ·intro n13
   refine W.skip (thenQ_normal ?_)
   refine W.seq ?_
   refine Kk cok tab67 hnt [] [0,1,16] (⟨[(0,.i a),(1,.i b),(16,.b (decide (a < b)))],[],[999]⟩)
    (True ∧ True ∧ (True ∧ True ∧ True) ∧ True)
    ⟨tt,tt,⟨tt,tt,tt⟩,tt⟩ ?_
   refine W.ifP (a < b) (.b (decide (a < b))) (by kernel_rfl) rfl trivial ?_ ?_
   ·intro h16
    refine Kk cok tab67 hnt [] [4] (⟨[(4,.i (-1 : Int))],[],[999]⟩)
     (True ∧ True)
     ⟨tt,tt⟩ ?_
    refine W.ret (thenQ_ret ?_)
    exact endQ_ret (.i (-1 : Int)) (by kernel_rfl) (@cast ((.int .i64 (-1 : Int) : Value) = .int .i64 (cmpI a b)) _ (by kernel_rfl) (congrArg (Value.int .i64) (by unfold cmpI; rw [decide_eq_true h16]; rfl)))
   ·intro n16
    refine W.skip (thenQ_normal ?_)
    refine W.seq ?_
    refine Kk cok tab67 hnt [] [19] (⟨[(19,.b (decide (b < a)))],[],[999]⟩)
     (True ∧ True ∧ (True ∧ True ∧ True) ∧ True)
     ⟨tt,tt,⟨tt,tt,tt⟩,tt⟩ ?_
    refine W.ifP (b < a) (.b (decide (b < a))) (by kernel_rfl) rfl trivial ?_ ?_
    ·intro h19
     refine Kk cok tab67 hnt [] [4] (⟨[(4,.i (1 : Int))],[],[999]⟩)
      (True ∧ True)
      ⟨tt,tt⟩ ?_
     refine W.ret (thenQ_ret ?_)
     exact endQ_ret (.i (1 : Int)) (by kernel_rfl) (@cast ((.int .i64 (1 : Int) : Value) = .int .i64 (cmpI a b)) _ (by kernel_rfl) (congrArg (Value.int .i64) (by unfold cmpI; rw [decide_eq_false n16,decide_eq_true h19]; rfl)))
    ·intro n19
     refine W.skip (thenQ_normal ?_)
     refine Kk cok tab67 hnt [] [4] (⟨[(4,.i (0 : Int))],[],[999]⟩)
      (True ∧ True)
      ⟨tt,tt⟩ ?_
     refine W.ret ?_
     exact endQ_ret (.i (0 : Int)) (by kernel_rfl) (@cast ((.int .i64 (0 : Int) : Value) = .int .i64 (cmpI a b)) _ (by kernel_rfl) (congrArg (Value.int .i64) (by unfold cmpI; rw [decide_eq_false n16,decide_eq_false n19]; rfl)))
theorem ent67 : Entr prog 67 := ⟨_,func67,rfl,by decide⟩
end Go.Proofs.Try

set_option linter.unusedSimpArgs false
set_option linter.unusedVariables false
namespace Go.Proofs.Try
open Go.Ab Go.RowKit
def fs66 : FnS := fnS [.s .ints] [.ints] (fun _ (l,_) => (.i (orI l),[],True))
abbrev T66 : Tab := lk []
theorem tab66 : TabOK prog T66 := TabOK.nil
set_option maxRecDepth 100000 in
set_option maxHeartbeats 1000000 in
theorem ok66 : FnOK prog 66 fs66 := by
 refine FnOK.mk cok func66 rfl rfl rfl ?_
 rintro fl ⟨(l : List Int),_⟩ hpre F hnt0 _
 have hnt : F.nt = 18 := hnt0.trans ntmps66
 clear hpre
 refine W.to (⟨[(0,.sl (.ints l))],[],[999]⟩) rfl ?_
 refine W.lenOf 0 (.ints l) (by kernel_rfl) ?_
 intro hl_l; replace hl_l : List.length l ≤ 9223372036854775807 := hl_l
 refine Kk cok tab66 hnt [] [0] (⟨[(0,.sl (.ints l))],[],[999]⟩)
  (True ∧ True)
  ⟨tt,tt⟩ ?_
 refine Kk cok tab66 hnt [] [0,3] (⟨[(0,.sl (.ints l)),(3,.i (0 : Int))],[],[999]⟩)
  (True ∧ True)
  ⟨tt,tt⟩ ?_
 refine W.seq ?_
 refine Kk cok tab66 hnt [] [3,6,7,8] (⟨[(3,.i (0 : Int)),(6,.sl (.ints l)),(7,.i (l.length : Int)),(8,.i (0 : Int))],[],[999]⟩)
  (True ∧ True ∧ True ∧ True)
  ⟨tt,tt,tt,tt⟩ ?_
 refine W.block ?_
 refine W.loop (ι := Nat) (fun (i : Nat) => (⟨[(3,.i (0 : Int)),(6,.sl (.ints l)),(7,.i (l.length : Int)),(8,.i ((i : Nat) : Int))],[],[999]⟩ : St))
  (fun (i : Nat) => (i ≤ l.length) ∧ (orI l = orFrom l i))
  (fun (i : Nat) => (l.length - i : Nat)) (0) ?_ ?_ ?_
 ·exact (show (0 ≤ l.length) ∧ (orI l = orFrom l 0) from ⟨(by first | assumption | omega | rfl | (intro _ hjj; omega) | (simp; done) | (simp; omega)),(by rfl)⟩)
 ·exact Sub.of [] (@cast (((Si (0 : Int)) ∧ (Sd (.ints l)) ∧ (Si (l.length : Int)) ∧ ((.int .i64 (0 : Int) : Value) = .int .i64 ((0 : Nat) : Int)) ∧ True) ∧ True ∧ (true = true) ∧ (true = true)) _ (by kernel_rfl) ⟨⟨rfl,rfl,rfl,(congrArg (Value.int .i64) (by first | rfl | omega | assumption | simp | simp_all)),tt⟩,tt,rfl,rfl⟩)
 ·rintro i hC0
  have hC : (i ≤ l.length) ∧ (orI l = orFrom l i) := hC0
  clear hC0
  obtain ⟨hi,hA⟩ := hC
  refine W.to (⟨[(3,.i (0 : Int)),(6,.sl (.ints l)),(7,.i (l.length : Int)),(8,.i ((i : Nat) : Int))],[],[999]⟩) rfl ?_
  refine Kk cok tab66 hnt [] [3,6,7,8,9] (⟨[(3,.i (0 : Int)),(6,.sl (.ints l)),(7,.i (l.length : Int)),(8,.i ((i : Nat) : Int)),(9,.b (decide (((i : Nat) : Int) < (l.length : Int))))],[],[999]⟩)
   ((True ∧ True ∧ True) ∧ True)
   ⟨⟨tt,tt,tt⟩,tt⟩ ?_
  refine W.seq ?_
  refine W.ifP (((i : Nat) : Int) < (l.length : Int)) (.b (decide (((i : Nat) : Int) < (l.length : Int)))) (by kernel_rfl) rfl trivial ?_ ?_
  ·intro h9
   refine W.skip (thenQ_normal ?_)
   refine W.seq ?_
   refine W.block ?_
   refine Kk cok tab66 hnt [] [3,5,6,7,8] (⟨[(3,.i (0 : Int)),(5,.i (l.getD i 0)),(6,.sl (.ints l)),(7,.i (l.length : Int)),(8,.i ((i : Nat) : Int))],[],[999]⟩)
    ((True ∧ True ∧ (0 ≤ ((i : Nat) : Int)) ∧ (((i : Nat) : Int) < (l.length : Int))) ∧ True ∧ True ∧ True)
    ⟨⟨tt,tt,(by omega),(by omega)⟩,tt,tt,tt⟩ ?_
   refine Kk cok tab66 hnt [] [3,5,6,7,8,14] (⟨[(3,.i (0 : Int)),(5,.i (l.getD i 0)),(6,.sl (.ints l)),(7,.i (l.length : Int)),(8,.i ((i : Nat) : Int)),(14,.b (decide ((l.getD i 0) ≠ (0 : Int))))],[],[999]⟩)
    (True ∧ True ∧ (True ∧ True ∧ True) ∧ True)
    ⟨tt,tt,⟨tt,tt,tt⟩,tt⟩ ?_
   refine W.ifP ((l.getD i 0) ≠ (0 : Int)) (.b (decide ((l.getD i 0) ≠ (0 : Int)))) (by kernel_rfl) rfl trivial ?_ ?_
   ·intro h14
    refine Kk cok tab66 hnt [] [2] (⟨[(2,.i (l.getD i 0))],[],[999]⟩)
     (True ∧ True ∧ True)
     ⟨tt,tt,tt⟩ ?_
    refine W.ret (blockQ_ret (thenQ_ret (thenQ_ret (blockQ_ret (thenQ_ret ?_)))))
    exact endQ_ret (.i (l.getD i 0)) (by kernel_rfl) (@cast ((.int .i64 (l.getD i 0) : Value) = .int .i64 (orI l)) _ (by kernel_rfl) (congrArg (Value.int .i64) (by rw [hA,orFrom_yes (by omega) h14])))
   ·intro n14
    refine W.skip (blockQ_normal (thenQ_normal ?_))
    refine Lk cok tab66 hnt [] (⟨[(3,.i (0 : Int)),(5,.i (l.getD i 0)),(6,.sl (.ints l)),(7,.i (l.length : Int)),(8,.i (((i + 1) : Nat) : Int)),(14,.b (decide ((l.getD i 0) ≠ (0 : Int)))),(16,.i (((i + 1) : Nat) : Int))],[],[999]⟩)
     ((True ∧ True ∧ (Fits .i64 (((i + 1) : Nat) : Int))) ∧ True ∧ True)
     ⟨⟨tt,tt,(by exact fits_i64 (by omega) (by omega))⟩,tt,tt⟩ ?_
    refine thenQ_normal ?_
    refine ⟨((i + 1)),(show ((i + 1) ≤ l.length) ∧ (orI l = orFrom l (i + 1)) from ⟨(by first | assumption | omega | rfl | (intro _ hjj; omega) | (simp; done) | (simp; omega)),(by rw [hA]; exact orFrom_no (by omega) n14)⟩),(show l.length - (i + 1) < l.length - i from (by first | omega | (simp_all; omega))),?_⟩
    exact Sub.of [] (@cast (((Si (0 : Int)) ∧ (Sd (.ints l)) ∧ (Si (l.length : Int)) ∧ (Si (((i + 1) : Nat) : Int)) ∧ True) ∧ True ∧ (true = true) ∧ (true = true)) _ (by kernel_rfl) ⟨⟨rfl,rfl,rfl,rfl,tt⟩,tt,rfl,rfl⟩)
  ·intro n9
   refine W.exit (thenQ_exit (thenQ_exit (blockQ_hit ?_)))
   refine thenQ_normal ?_
   refine Kk cok tab66 hnt [] [2] (⟨[(2,.i (0 : Int))],[],[999]⟩)
    (True ∧ True ∧ True)
    ⟨tt,tt,tt⟩ ?_
   refine W.ret ?_
   exact endQ_ret (.i (0 : Int)) (by kernel_rfl) (@cast ((.int .i64 (0 : Int) : Value) = .int .i64 (orI l)) _ (by kernel_rfl) (congrArg (Value.int .i64) (by rw [hA,orFrom_end (by omega)])))
theorem ent66 : Entr prog 66 := ⟨_,func66,rfl,by decide⟩
end Go.Proofs.Try

set_option linter.unusedSimpArgs false
set_option linter.unusedVariables false
namespace Go.Proofs.Try
open Go.Ab Go.RowKit
def fs56 : FnS := fnS [.o,.o] [.mark,.mark] (fun _ (a,b,_) => (.i (cmpM a b),[],True))
abbrev T56 : Tab := lk [(66,fs66),(67,fs67)]
theorem tab56 : TabOK prog T56 := (TabOK.cons ok66 ent66 (TabOK.cons ok67 ent67 TabOK.nil))
set_option maxRecDepth 100000 in
set_option maxHeartbeats 1000000 in
theorem ok56 : FnOK prog 56 fs56 := by
 refine FnOK.mk cok func56 rfl rfl rfl ?_
 rintro fl ⟨(a : MarkD),(b : MarkD),_⟩ hpre F hnt0 _
 have hnt : F.nt = 17 := hnt0.trans ntmps56
 clear hpre
 refine W.to (⟨[(0,.agg [.i a.value,.i a.proc,.i a.number,.b a.gone]),(1,.agg [.i b.value,.i b.proc,.i b.number,.b b.gone])],[],[999]⟩) rfl ?_
 refine Kk cok tab56 hnt [] [2,3] (⟨[(2,.ptr 2 0),(3,.ptr 3 0)],[(2,⟨50,.fix [.i a.value,.i a.proc,.i a.number,.b a.gone]⟩),(3,⟨50,.fix [.i b.value,.i b.proc,.i b.number,.b b.gone]⟩)],[3,2,999]⟩)
  (True ∧ True ∧ True ∧ True)
  ⟨tt,tt,tt,tt⟩ ?_
 refine W.KA cok tab56 hnt [] [4] (⟨[(4,.i (orI ([(cmpI a.proc b.proc),(cmpI a.number b.number)])))],[(2,⟨50,.fix [.i a.value,.i a.proc,.i a.number,.b a.gone]⟩),(3,⟨50,.fix [.i b.value,.i b.proc,.i b.number,.b b.gone]⟩)],[15,3,2,999]⟩)
  (True ∧ True ∧ True ∧ True ∧ (True ∧ (True ∧ True ∧ True) ∧ True) ∧ True ∧ True ∧ True ∧ True ∧ (True ∧ (True ∧ True ∧ True) ∧ True) ∧ (True ∧ True ∧ True) ∧ (True ∧ (True ∧ True) ∧ True) ∧ True ∧ True) (by kernel_rfl) (by kernel_rfl)
  ⟨tt,tt,tt,tt,⟨tt,⟨tt,tt,tt⟩,tt⟩,tt,tt,tt,tt,⟨tt,⟨tt,tt,tt⟩,tt⟩,⟨tt,tt,tt⟩,⟨tt,⟨tt,tt⟩,tt⟩,tt,tt⟩ ?_
 refine W.ret ?_
 exact endQ_ret (.i (orI ([(cmpI a.proc b.proc),(cmpI a.number b.number)]))) (by kernel_rfl) (@cast ((.int .i64 (orI ([(cmpI a.proc b.proc),(cmpI a.number b.number)])) : Value) = .int .i64 (cmpM a b)) _ (by kernel_rfl) (congrArg (Value.int .i64) (by first | rfl | simp_all)))
theorem ent56 : Entr prog 56 := ⟨_,func56,rfl,by decide⟩
end Go.Proofs.Try

set_option linter.unusedSimpArgs false
set_option linter.unusedVariables false
namespace Go.Proofs.Try
open Go.Ab Go.RowKit
def fs75 : FnS := fnS [.o] [.int] (fun _ (n,_) => (.b (!within n 0 20),[],True))
abbrev T75 : Tab := lk [(44,fs44)]
theorem tab75 : TabOK prog T75 := (TabOK.cons ok44 ent44 TabOK.nil)
set_option maxRecDepth 100000 in
set_option maxHeartbeats 1000000 in
theorem ok75 : FnOK prog 75 fs75 := by
 refine FnOK.mk cok func75 rfl rfl rfl ?_
 rintro fl ⟨(n : Int),_⟩ hpre F hnt0 _
 have hnt : F.nt = 6 := hnt0.trans ntmps75
 clear hpre
 refine W.to (⟨[(0,.i n)],[],[999]⟩) rfl ?_
 refine Kk cok tab75 hnt [] [0] (⟨[(0,.i n)],[],[999]⟩)
  (True ∧ True)
  ⟨tt,tt⟩ ?_
 refine Kk cok tab75 hnt [] [2] (⟨[(2,.b (!(within n (0 : Int) (20 : Int))))],[],[999]⟩)
  (True ∧ (True ∧ (True ∧ True ∧ True ∧ True) ∧ True) ∧ True ∧ True ∧ True)
  ⟨tt,⟨tt,⟨tt,tt,tt,tt⟩,tt⟩,tt,tt,tt⟩ ?_
 refine W.ret ?_
 exact endQ_ret (.b (!(within n (0 : Int) (20 : Int)))) (by kernel_rfl) (@cast ((.bool (!(within n (0 : Int) (20 : Int))) : Value) = .bool (!within n 0 20)) _ (by kernel_rfl) (congrArg Value.bool (by first | rfl | simp_all)))
theorem ent75 : Entr prog 75 := ⟨_,func75,rfl,by decide⟩
end Go.Proofs.Try
