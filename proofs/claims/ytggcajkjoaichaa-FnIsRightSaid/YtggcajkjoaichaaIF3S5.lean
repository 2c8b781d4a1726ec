import Derived.Test.YtggcajkjoaichaaIF3S0
import Derived.Test.YtggcajkjoaichaaIF3S4
import Derived.Test.YtggcajkjoaichaaIF3S1
set_option linter.unusedSimpArgs false
set_option linter.unusedVariables false
namespace Go.Proofs.Try
open Go.Ab Go.RowKit
/-- spec.validHistory -/
def fs43 : FnS := fnS [.s .calls] [.calls] (fun _ (h, _) => (.b (validHistory h), [], True))
abbrev T43 : Tab := lk [(71, fs71)]
theorem tab43 : TabOK prog T43 := (TabOK.cons ok71 ent71 TabOK.nil)
set_option maxRecDepth 100000 in
set_option maxHeartbeats 1000000 in
theorem ok43 : FnOK prog 43 fs43 := by
  refine FnOK.mk cok func43 rfl rfl rfl ?_
  rintro fl ⟨(h : List CallD), _⟩ hpre F hnt0 _
  have hnt : F.nt = 112 := hnt0.trans ntmps43
  clear hpre
  refine W.to (⟨[(0, .sl (.calls h))], [], [999]⟩) rfl ?_
  refine W.lenOf 0 (.calls h) (by kernel_rfl) ?_
  intro hl_h; replace hl_h : List.length h ≤ 9223372036854775807 := hl_h
  refine W.K cok tab43 hnt [] [0] (⟨[(0, .sl (.calls h))], [], [999]⟩)
    (True ∧ True) (by kernel_rfl)
    ⟨trivial, trivial⟩ ?_
  refine W.seq ?_
  refine W.K cok tab43 hnt [] [0, 3] (⟨[(0, .sl (.calls h)), (3, .i (0 : Int))], [], [999]⟩)
    (True ∧ True) (by kernel_rfl)
    ⟨trivial, trivial⟩ ?_
  refine W.block ?_
  refine W.loop (ι := Nat) (fun (i : Nat) => (⟨[(0, .sl (.calls h)), (3, .i ((i : Nat) : Int))], [], [999]⟩ : St))
    (fun (i : Nat) => (i ≤ h.length) ∧ (∀ j, j < i → (isCall (callAt h j) && allN j (fun k => !clash (callAt h j) (callAt h k))) = true))
    (fun (i : Nat) => (h.length - i : Nat)) (0) ?_ ?_ ?_
  · exact (show (0 ≤ h.length) ∧ (∀ j, j < 0 → (isCall (callAt h j) && allN j (fun k => !clash (callAt h j) (callAt h k))) = true) from ⟨(by first | assumption | omega | rfl | (intro _ hjj; omega) | (simp; done) | (simp; omega)), (by exact upto_zero)⟩)
  · exact Sub.of [] (@cast ((((.calls h : Dat) = .calls h) ∧ (((.int .i64 (0 : Int) : Value) = .int .i64 ((0 : Nat) : Int)) ∧ True)) ∧ (True ∧ ((true = true) ∧ (true = true)))) _ (by kernel_rfl) ⟨⟨rfl, ⟨(congrArg (Value.int .i64) (by first | rfl | omega | assumption | simp | simp_all)), trivial⟩⟩, ⟨trivial, ⟨rfl, rfl⟩⟩⟩)
  · rintro i hC0
    have hC : (i ≤ h.length) ∧ (∀ j, j < i → (isCall (callAt h j) && allN j (fun k => !clash (callAt h j) (callAt h k))) = true) := hC0
    clear hC0
    obtain ⟨hi, hA⟩ := hC
    refine W.to (⟨[(0, .sl (.calls h)), (3, .i ((i : Nat) : Int))], [], [999]⟩) rfl ?_
    refine W.seq ?_
    refine W.K cok tab43 hnt [] [0, 3, 8] (⟨[(0, .sl (.calls h)), (3, .i ((i : Nat) : Int)), (8, .b (decide (((i : Nat) : Int) < (((List.length h) : Nat) : Int))))], [], [999]⟩)
      (True ∧ (True ∧ (True ∧ ((True ∧ (True ∧ True)) ∧ True)))) (by kernel_rfl)
      ⟨trivial, ⟨trivial, ⟨trivial, ⟨⟨trivial, ⟨trivial, trivial⟩⟩, trivial⟩⟩⟩⟩ ?_
    refine W.ifP (((i : Nat) : Int) < (((List.length h) : Nat) : Int)) (.b (decide (((i : Nat) : Int) < (((List.length h) : Nat) : Int)))) (by kernel_rfl) rfl trivial ?_ ?_
    · intro h8
      refine W.skip (thenQ_normal ?_)
      refine W.seq ?_
      refine W.block ?_
      refine W.seq ?_
      refine W.K cok tab43 hnt [] [0, 3, 16] (⟨[(0, .sl (.calls h)), (3, .i ((i : Nat) : Int)), (16, .b (!(isCall (List.getD h i default))))], [], [999]⟩)
        (True ∧ (True ∧ ((True ∧ (True ∧ ((0 ≤ ((i : Nat) : Int)) ∧ (((i : Nat) : Int) < (((List.length h) : Nat) : Int))))) ∧ (True ∧ ((True ∧ ((True ∧ True) ∧ True)) ∧ (True ∧ True)))))) (by kernel_rfl)
        ⟨trivial, ⟨trivial, ⟨⟨trivial, ⟨trivial, ⟨(by omega), (by omega)⟩⟩⟩, ⟨trivial, ⟨⟨trivial, ⟨⟨trivial, trivial⟩, trivial⟩⟩, ⟨trivial, trivial⟩⟩⟩⟩⟩⟩ ?_
      refine W.if' (!(isCall (List.getD h i default))) (.b (!(isCall (List.getD h i default)))) (by kernel_rfl) rfl trivial ?_ ?_
      · intro h16
        refine W.K cok tab43 hnt [] [2] (⟨[(2, .b false)], [], [999]⟩)
          (True ∧ True) (by kernel_rfl)
          ⟨trivial, trivial⟩ ?_
        refine W.ret (thenQ_ret (blockQ_ret (thenQ_ret (thenQ_ret (blockQ_ret (thenQ_ret ?_))))))
        exact endQ_ret (.b false) (by kernel_rfl) (@cast ((.bool false : Value) = .bool (validHistory h)) _ (by kernel_rfl) (congrArg Value.bool (by unfold validHistory; symm; exact and_fr (allN_false (i := i) (by omega) (and_fl (not_f h16))))))
      · intro n16
        refine W.skip (thenQ_normal ?_)
        refine W.K cok tab43 hnt [] [0, 3, 4] (⟨[(0, .sl (.calls h)), (3, .i ((i : Nat) : Int)), (4, .i (0 : Int))], [], [999]⟩)
          (True ∧ True) (by kernel_rfl)
          ⟨trivial, trivial⟩ ?_
        refine W.block ?_
        refine W.loop (ι := Nat) (fun (k : Nat) => (⟨[(0, .sl (.calls h)), (3, .i ((i : Nat) : Int)), (4, .i ((k : Nat) : Int))], [], [999]⟩ : St))
          (fun (k : Nat) => (k ≤ i) ∧ (∀ j, j < k → (!clash (callAt h i) (callAt h j)) = true))
          (fun (k : Nat) => (i - k : Nat)) (0) ?_ ?_ ?_
        · exact (show (0 ≤ i) ∧ (∀ j, j < 0 → (!clash (callAt h i) (callAt h j)) = true) from ⟨(by first | assumption | omega | rfl | (intro _ hjj; omega) | (simp; done) | (simp; omega)), (by exact upto_zero)⟩)
        · exact Sub.of [] (@cast ((((.calls h : Dat) = .calls h) ∧ (((.int .i64 ((i : Nat) : Int) : Value) = .int .i64 ((i : Nat) : Int)) ∧ (((.int .i64 (0 : Int) : Value) = .int .i64 ((0 : Nat) : Int)) ∧ True))) ∧ (True ∧ ((true = true) ∧ (true = true)))) _ (by kernel_rfl) ⟨⟨rfl, ⟨rfl, ⟨(congrArg (Value.int .i64) (by first | rfl | omega | assumption | simp | simp_all)), trivial⟩⟩⟩, ⟨trivial, ⟨rfl, rfl⟩⟩⟩)
        · rintro k hC0
          have hC : (k ≤ i) ∧ (∀ j, j < k → (!clash (callAt h i) (callAt h j)) = true) := hC0
          clear hC0
          obtain ⟨hk, hB⟩ := hC
          refine W.to (⟨[(0, .sl (.calls h)), (3, .i ((i : Nat) : Int)), (4, .i ((k : Nat) : Int))], [], [999]⟩) rfl ?_
          refine W.seq ?_
          refine W.K cok tab43 hnt [] [0, 3, 4, 19] (⟨[(0, .sl (.calls h)), (3, .i ((i : Nat) : Int)), (4, .i ((k : Nat) : Int)), (19, .b (decide (((k : Nat) : Int) < ((i : Nat) : Int))))], [], [999]⟩)
            (True ∧ (True ∧ ((True ∧ (True ∧ True)) ∧ True))) (by kernel_rfl)
            ⟨trivial, ⟨trivial, ⟨⟨trivial, ⟨trivial, trivial⟩⟩, trivial⟩⟩⟩ ?_
          refine W.ifP (((k : Nat) : Int) < ((i : Nat) : Int)) (.b (decide (((k : Nat) : Int) < ((i : Nat) : Int)))) (by kernel_rfl) rfl trivial ?_ ?_
          · intro h19
            refine W.skip (thenQ_normal ?_)
            refine W.seq ?_
            refine W.block ?_
            refine W.seq ?_
            refine W.KA cok tab43 hnt [] [0, 3, 4, 71] (⟨[(0, .sl (.calls h)), (3, .i ((i : Nat) : Int)), (4, .i ((k : Nat) : Int)), (71, .b ((((decide (((List.getD h k default).frm) = ((List.getD h i default).frm))) || (decide (((List.getD h k default).frm) = ((List.getD h i default).to)))) || (decide (((List.getD h k default).to) = ((List.getD h i default).frm)))) || (decide (((List.getD h k default).to) = ((List.getD h i default).to)))))], [], [999]⟩)
              (True ∧ (True ∧ ((True ∧ (True ∧ ((0 ≤ ((k : Nat) : Int)) ∧ (((k : Nat) : Int) < (((List.length h) : Nat) : Int))))) ∧ (True ∧ (True ∧ (True ∧ (True ∧ ((True ∧ (True ∧ ((0 ≤ ((i : Nat) : Int)) ∧ (((i : Nat) : Int) < (((List.length h) : Nat) : Int))))) ∧ (True ∧ (True ∧ ((True ∧ (True ∧ True)) ∧ (True ∧ (((!(decide (((List.getD h k default).frm) = ((List.getD h i default).frm)))) = true → True) ∧ (((!(decide (((List.getD h k default).frm) = ((List.getD h i default).frm)))) = true → True) ∧ (((!(decide (((List.getD h k default).frm) = ((List.getD h i default).frm)))) = true → ((((!(decide (((List.getD h k default).frm) = ((List.getD h i default).frm)))) = true) ∧ True) ∧ ((((!(decide (((List.getD h k default).frm) = ((List.getD h i default).frm)))) = true) ∧ True) ∧ ((0 ≤ ((k : Nat) : Int)) ∧ (((k : Nat) : Int) < (((List.length h) : Nat) : Int)))))) ∧ (((!(decide (((List.getD h k default).frm) = ((List.getD h i default).frm)))) = true → (((!(decide (((List.getD h k default).frm) = ((List.getD h i default).frm)))) = true) ∧ True)) ∧ (((!(decide (((List.getD h k default).frm) = ((List.getD h i default).frm)))) = true → (((!(decide (((List.getD h k default).frm) = ((List.getD h i default).frm)))) = true) ∧ True)) ∧ (((!(decide (((List.getD h k default).frm) = ((List.getD h i default).frm)))) = true → True) ∧ (((!(decide (((List.getD h k default).frm) = ((List.getD h i default).frm)))) = true → True) ∧ (((!(decide (((List.getD h k default).frm) = ((List.getD h i default).frm)))) = true → ((((!(decide (((List.getD h k default).frm) = ((List.getD h i default).frm)))) = true) ∧ True) ∧ ((((!(decide (((List.getD h k default).frm) = ((List.getD h i default).frm)))) = true) ∧ True) ∧ ((0 ≤ ((i : Nat) : Int)) ∧ (((i : Nat) : Int) < (((List.length h) : Nat) : Int)))))) ∧ (((!(decide (((List.getD h k default).frm) = ((List.getD h i default).frm)))) = true → (((!(decide (((List.getD h k default).frm) = ((List.getD h i default).frm)))) = true) ∧ True)) ∧ (((!(decide (((List.getD h k default).frm) = ((List.getD h i default).frm)))) = true → (((!(decide (((List.getD h k default).frm) = ((List.getD h i default).frm)))) = true) ∧ True)) ∧ (((!(decide (((List.getD h k default).frm) = ((List.getD h i default).frm)))) = true → ((((!(decide (((List.getD h k default).frm) = ((List.getD h i default).frm)))) = true) ∧ True) ∧ ((((!(decide (((List.getD h k default).frm) = ((List.getD h i default).frm)))) = true) ∧ True) ∧ True))) ∧ ((True ∧ (((decide (((List.getD h k default).frm) = ((List.getD h i default).frm))) = true → True) ∧ ((decide (((List.getD h k default).frm) = ((List.getD h i default).frm))) = false → ((!(decide (((List.getD h k default).frm) = ((List.getD h i default).frm)))) = true) ∧ True))) ∧ (True ∧ (((!((decide (((List.getD h k default).frm) = ((List.getD h i default).frm))) || (decide (((List.getD h k default).frm) = ((List.getD h i default).to))))) = true → True) ∧ (((!((decide (((List.getD h k default).frm) = ((List.getD h i default).frm))) || (decide (((List.getD h k default).frm) = ((List.getD h i default).to))))) = true → True) ∧ (((!((decide (((List.getD h k default).frm) = ((List.getD h i default).frm))) || (decide (((List.getD h k default).frm) = ((List.getD h i default).to))))) = true → ((((!((decide (((List.getD h k default).frm) = ((List.getD h i default).frm))) || (decide (((List.getD h k default).frm) = ((List.getD h i default).to))))) = true) ∧ True) ∧ ((((!((decide (((List.getD h k default).frm) = ((List.getD h i default).frm))) || (decide (((List.getD h k default).frm) = ((List.getD h i default).to))))) = true) ∧ True) ∧ ((0 ≤ ((k : Nat) : Int)) ∧ (((k : Nat) : Int) < (((List.length h) : Nat) : Int)))))) ∧ (((!((decide (((List.getD h k default).frm) = ((List.getD h i default).frm))) || (decide (((List.getD h k default).frm) = ((List.getD h i default).to))))) = true → (((!((decide (((List.getD h k default).frm) = ((List.getD h i default).frm))) || (decide (((List.getD h k default).frm) = ((List.getD h i default).to))))) = true) ∧ True)) ∧ (((!((decide (((List.getD h k default).frm) = ((List.getD h i default).frm))) || (decide (((List.getD h k default).frm) = ((List.getD h i default).to))))) = true → (((!((decide (((List.getD h k default).frm) = ((List.getD h i default).frm))) || (decide (((List.getD h k default).frm) = ((List.getD h i default).to))))) = true) ∧ True)) ∧ (((!((decide (((List.getD h k default).frm) = ((List.getD h i default).frm))) || (decide (((List.getD h k default).frm) = ((List.getD h i default).to))))) = true → True) ∧ (((!((decide (((List.getD h k default).frm) = ((List.getD h i default).frm))) || (decide (((List.getD h k default).frm) = ((List.getD h i default).to))))) = true → True) ∧ (((!((decide (((List.getD h k default).frm) = ((List.getD h i default).frm))) || (decide (((List.getD h k default).frm) = ((List.getD h i default).to))))) = true → ((((!((decide (((List.getD h k default).frm) = ((List.getD h i default).frm))) || (decide (((List.getD h k default).frm) = ((List.getD h i default).to))))) = true) ∧ True) ∧ ((((!((decide (((List.getD h k default).frm) = ((List.getD h i default).frm))) || (decide (((List.getD h k default).frm) = ((List.getD h i default).to))))) = true) ∧ True) ∧ ((0 ≤ ((i : Nat) : Int)) ∧ (((i : Nat) : Int) < (((List.length h) : Nat) : Int)))))) ∧ (((!((decide (((List.getD h k default).frm) = ((List.getD h i default).frm))) || (decide (((List.getD h k default).frm) = ((List.getD h i default).to))))) = true → (((!((decide (((List.getD h k default).frm) = ((List.getD h i default).frm))) || (decide (((List.getD h k default).frm) = ((List.getD h i default).to))))) = true) ∧ True)) ∧ (((!((decide (((List.getD h k default).frm) = ((List.getD h i default).frm))) || (decide (((List.getD h k default).frm) = ((List.getD h i default).to))))) = true → (((!((decide (((List.getD h k default).frm) = ((List.getD h i default).frm))) || (decide (((List.getD h k default).frm) = ((List.getD h i default).to))))) = true) ∧ True)) ∧ (((!((decide (((List.getD h k default).frm) = ((List.getD h i default).frm))) || (decide (((List.getD h k default).frm) = ((List.getD h i default).to))))) = true → ((((!((decide (((List.getD h k default).frm) = ((List.getD h i default).frm))) || (decide (((List.getD h k default).frm) = ((List.getD h i default).to))))) = true) ∧ True) ∧ ((((!((decide (((List.getD h k default).frm) = ((List.getD h i default).frm))) || (decide (((List.getD h k default).frm) = ((List.getD h i default).to))))) = true) ∧ True) ∧ True))) ∧ ((True ∧ ((((decide (((List.getD h k default).frm) = ((List.getD h i default).frm))) || (decide (((List.getD h k default).frm) = ((List.getD h i default).to)))) = true → True) ∧ (((decide (((List.getD h k default).frm) = ((List.getD h i default).frm))) || (decide (((List.getD h k default).frm) = ((List.getD h i default).to)))) = false → ((!((decide (((List.getD h k default).frm) = ((List.getD h i default).frm))) || (decide (((List.getD h k default).frm) = ((List.getD h i default).to))))) = true) ∧ True))) ∧ (True ∧ (((!(((decide (((List.getD h k default).frm) = ((List.getD h i default).frm))) || (decide (((List.getD h k default).frm) = ((List.getD h i default).to)))) || (decide (((List.getD h k default).to) = ((List.getD h i default).frm))))) = true → True) ∧ (((!(((decide (((List.getD h k default).frm) = ((List.getD h i default).frm))) || (decide (((List.getD h k default).frm) = ((List.getD h i default).to)))) || (decide (((List.getD h k default).to) = ((List.getD h i default).frm))))) = true → True) ∧ (((!(((decide (((List.getD h k default).frm) = ((List.getD h i default).frm))) || (decide (((List.getD h k default).frm) = ((List.getD h i default).to)))) || (decide (((List.getD h k default).to) = ((List.getD h i default).frm))))) = true → ((((!(((decide (((List.getD h k default).frm) = ((List.getD h i default).frm))) || (decide (((List.getD h k default).frm) = ((List.getD h i default).to)))) || (decide (((List.getD h k default).to) = ((List.getD h i default).frm))))) = true) ∧ True) ∧ ((((!(((decide (((List.getD h k default).frm) = ((List.getD h i default).frm))) || (decide (((List.getD h k default).frm) = ((List.getD h i default).to)))) || (decide (((List.getD h k default).to) = ((List.getD h i default).frm))))) = true) ∧ True) ∧ ((0 ≤ ((k : Nat) : Int)) ∧ (((k : Nat) : Int) < (((List.length h) : Nat) : Int)))))) ∧ (((!(((decide (((List.getD h k default).frm) = ((List.getD h i default).frm))) || (decide (((List.getD h k default).frm) = ((List.getD h i default).to)))) || (decide (((List.getD h k default).to) = ((List.getD h i default).frm))))) = true → (((!(((decide (((List.getD h k default).frm) = ((List.getD h i default).frm))) || (decide (((List.getD h k default).frm) = ((List.getD h i default).to)))) || (decide (((List.getD h k default).to) = ((List.getD h i default).frm))))) = true) ∧ True)) ∧ (((!(((decide (((List.getD h k default).frm) = ((List.getD h i default).frm))) || (decide (((List.getD h k default).frm) = ((List.getD h i default).to)))) || (decide (((List.getD h k default).to) = ((List.getD h i default).frm))))) = true → (((!(((decide (((List.getD h k default).frm) = ((List.getD h i default).frm))) || (decide (((List.getD h k default).frm) = ((List.getD h i default).to)))) || (decide (((List.getD h k default).to) = ((List.getD h i default).frm))))) = true) ∧ True)) ∧ (((!(((decide (((List.getD h k default).frm) = ((List.getD h i default).frm))) || (decide (((List.getD h k default).frm) = ((List.getD h i default).to)))) || (decide (((List.getD h k default).to) = ((List.getD h i default).frm))))) = true → True) ∧ (((!(((decide (((List.getD h k default).frm) = ((List.getD h i default).frm))) || (decide (((List.getD h k default).frm) = ((List.getD h i default).to)))) || (decide (((List.getD h k default).to) = ((List.getD h i default).frm))))) = true → True) ∧ (((!(((decide (((List.getD h k default).frm) = ((List.getD h i default).frm))) || (decide (((List.getD h k default).frm) = ((List.getD h i default).to)))) || (decide (((List.getD h k default).to) = ((List.getD h i default).frm))))) = true → ((((!(((decide (((List.getD h k default).frm) = ((List.getD h i default).frm))) || (decide (((List.getD h k default).frm) = ((List.getD h i default).to)))) || (decide (((List.getD h k default).to) = ((List.getD h i default).frm))))) = true) ∧ True) ∧ ((((!(((decide (((List.getD h k default).frm) = ((List.getD h i default).frm))) || (decide (((List.getD h k default).frm) = ((List.getD h i default).to)))) || (decide (((List.getD h k default).to) = ((List.getD h i default).frm))))) = true) ∧ True) ∧ ((0 ≤ ((i : Nat) : Int)) ∧ (((i : Nat) : Int) < (((List.length h) : Nat) : Int)))))) ∧ (((!(((decide (((List.getD h k default).frm) = ((List.getD h i default).frm))) || (decide (((List.getD h k default).frm) = ((List.getD h i default).to)))) || (decide (((List.getD h k default).to) = ((List.getD h i default).frm))))) = true → (((!(((decide (((List.getD h k default).frm) = ((List.getD h i default).frm))) || (decide (((List.getD h k default).frm) = ((List.getD h i default).to)))) || (decide (((List.getD h k default).to) = ((List.getD h i default).frm))))) = true) ∧ True)) ∧ (((!(((decide (((List.getD h k default).frm) = ((List.getD h i default).frm))) || (decide (((List.getD h k default).frm) = ((List.getD h i default).to)))) || (decide (((List.getD h k default).to) = ((List.getD h i default).frm))))) = true → (((!(((decide (((List.getD h k default).frm) = ((List.getD h i default).frm))) || (decide (((List.getD h k default).frm) = ((List.getD h i default).to)))) || (decide (((List.getD h k default).to) = ((List.getD h i default).frm))))) = true) ∧ True)) ∧ (((!(((decide (((List.getD h k default).frm) = ((List.getD h i default).frm))) || (decide (((List.getD h k default).frm) = ((List.getD h i default).to)))) || (decide (((List.getD h k default).to) = ((List.getD h i default).frm))))) = true → ((((!(((decide (((List.getD h k default).frm) = ((List.getD h i default).frm))) || (decide (((List.getD h k default).frm) = ((List.getD h i default).to)))) || (decide (((List.getD h k default).to) = ((List.getD h i default).frm))))) = true) ∧ True) ∧ ((((!(((decide (((List.getD h k default).frm) = ((List.getD h i default).frm))) || (decide (((List.getD h k default).frm) = ((List.getD h i default).to)))) || (decide (((List.getD h k default).to) = ((List.getD h i default).frm))))) = true) ∧ True) ∧ True))) ∧ ((True ∧ (((((decide (((List.getD h k default).frm) = ((List.getD h i default).frm))) || (decide (((List.getD h k default).frm) = ((List.getD h i default).to)))) || (decide (((List.getD h k default).to) = ((List.getD h i default).frm)))) = true → True) ∧ ((((decide (((List.getD h k default).frm) = ((List.getD h i default).frm))) || (decide (((List.getD h k default).frm) = ((List.getD h i default).to)))) || (decide (((List.getD h k default).to) = ((List.getD h i default).frm)))) = false → ((!(((decide (((List.getD h k default).frm) = ((List.getD h i default).frm))) || (decide (((List.getD h k default).frm) = ((List.getD h i default).to)))) || (decide (((List.getD h k default).to) = ((List.getD h i default).frm))))) = true) ∧ True))) ∧ True)))))))))))))))))))))))))))))))))))))))))))))))))) (by kernel_rfl) (by kernel_rfl)
              ⟨trivial, ⟨trivial, ⟨⟨trivial, ⟨trivial, ⟨(by omega), (by omega)⟩⟩⟩, ⟨trivial, ⟨trivial, ⟨trivial, ⟨trivial, ⟨⟨trivial, ⟨trivial, ⟨(by omega), (by omega)⟩⟩⟩, ⟨trivial, ⟨trivial, ⟨⟨trivial, ⟨trivial, trivial⟩⟩, ⟨trivial, ⟨(fun _ => trivial), ⟨(fun _ => trivial), ⟨(fun hG => ⟨⟨hG, trivial⟩, ⟨⟨hG, trivial⟩, ⟨(by have hg0 : ¬ (((List.getD h k default).frm) = ((List.getD h i default).frm)) := of_decide_eq_false (not_f hG); omega), (by have hg0 : ¬ (((List.getD h k default).frm) = ((List.getD h i default).frm)) := of_decide_eq_false (not_f hG); omega)⟩⟩⟩), ⟨(fun hG => ⟨hG, trivial⟩), ⟨(fun hG => ⟨hG, trivial⟩), ⟨(fun _ => trivial), ⟨(fun _ => trivial), ⟨(fun hG => ⟨⟨hG, trivial⟩, ⟨⟨hG, trivial⟩, ⟨(by have hg0 : ¬ (((List.getD h k default).frm) = ((List.getD h i default).frm)) := of_decide_eq_false (not_f hG); omega), (by have hg0 : ¬ (((List.getD h k default).frm) = ((List.getD h i default).frm)) := of_decide_eq_false (not_f hG); omega)⟩⟩⟩), ⟨(fun hG => ⟨hG, trivial⟩), ⟨(fun hG => ⟨hG, trivial⟩), ⟨(fun hG => ⟨⟨hG, trivial⟩, ⟨⟨hG, trivial⟩, trivial⟩⟩), ⟨⟨trivial, ⟨(fun _ => trivial), (fun hp => ⟨(not_t hp), trivial⟩)⟩⟩, ⟨trivial, ⟨(fun _ => trivial), ⟨(fun _ => trivial), ⟨(fun hG => ⟨⟨hG, trivial⟩, ⟨⟨hG, trivial⟩, ⟨(by have hg0 : ¬ (((List.getD h k default).frm) = ((List.getD h i default).frm)) := of_decide_eq_false (or_l (not_f hG)); have hg1 : ¬ (((List.getD h k default).frm) = ((List.getD h i default).to)) := of_decide_eq_false (or_r (not_f hG)); omega), (by have hg0 : ¬ (((List.getD h k default).frm) = ((List.getD h i default).frm)) := of_decide_eq_false (or_l (not_f hG)); have hg1 : ¬ (((List.getD h k default).frm) = ((List.getD h i default).to)) := of_decide_eq_false (or_r (not_f hG)); omega)⟩⟩⟩), ⟨(fun hG => ⟨hG, trivial⟩), ⟨(fun hG => ⟨hG, trivial⟩), ⟨(fun _ => trivial), ⟨(fun _ => trivial), ⟨(fun hG => ⟨⟨hG, trivial⟩, ⟨⟨hG, trivial⟩, ⟨(by have hg0 : ¬ (((List.getD h k default).frm) = ((List.getD h i default).frm)) := of_decide_eq_false (or_l (not_f hG)); have hg1 : ¬ (((List.getD h k default).frm) = ((List.getD h i default).to)) := of_decide_eq_false (or_r (not_f hG)); omega), (by have hg0 : ¬ (((List.getD h k default).frm) = ((List.getD h i default).frm)) := of_decide_eq_false (or_l (not_f hG)); have hg1 : ¬ (((List.getD h k default).frm) = ((List.getD h i default).to)) := of_decide_eq_false (or_r (not_f hG)); omega)⟩⟩⟩), ⟨(fun hG => ⟨hG, trivial⟩), ⟨(fun hG => ⟨hG, trivial⟩), ⟨(fun hG => ⟨⟨hG, trivial⟩, ⟨⟨hG, trivial⟩, trivial⟩⟩), ⟨⟨trivial, ⟨(fun _ => trivial), (fun hp => ⟨(not_t hp), trivial⟩)⟩⟩, ⟨trivial, ⟨(fun _ => trivial), ⟨(fun _ => trivial), ⟨(fun hG => ⟨⟨hG, trivial⟩, ⟨⟨hG, trivial⟩, ⟨(by have hg0 : ¬ (((List.getD h k default).frm) = ((List.getD h i default).frm)) := of_decide_eq_false (or_l (or_l (not_f hG))); have hg1 : ¬ (((List.getD h k default).frm) = ((List.getD h i default).to)) := of_decide_eq_false (or_r (or_l (not_f hG))); have hg2 : ¬ (((List.getD h k default).to) = ((List.getD h i default).frm)) := of_decide_eq_false (or_r (not_f hG)); omega), (by have hg0 : ¬ (((List.getD h k default).frm) = ((List.getD h i default).frm)) := of_decide_eq_false (or_l (or_l (not_f hG))); have hg1 : ¬ (((List.getD h k default).frm) = ((List.getD h i default).to)) := of_decide_eq_false (or_r (or_l (not_f hG))); have hg2 : ¬ (((List.getD h k default).to) = ((List.getD h i default).frm)) := of_decide_eq_false (or_r (not_f hG)); omega)⟩⟩⟩), ⟨(fun hG => ⟨hG, trivial⟩), ⟨(fun hG => ⟨hG, trivial⟩), ⟨(fun _ => trivial), ⟨(fun _ => trivial), ⟨(fun hG => ⟨⟨hG, trivial⟩, ⟨⟨hG, trivial⟩, ⟨(by have hg0 : ¬ (((List.getD h k default).frm) = ((List.getD h i default).frm)) := of_decide_eq_false (or_l (or_l (not_f hG))); have hg1 : ¬ (((List.getD h k default).frm) = ((List.getD h i default).to)) := of_decide_eq_false (or_r (or_l (not_f hG))); have hg2 : ¬ (((List.getD h k default).to) = ((List.getD h i default).frm)) := of_decide_eq_false (or_r (not_f hG)); omega), (by have hg0 : ¬ (((List.getD h k default).frm) = ((List.getD h i default).frm)) := of_decide_eq_false (or_l (or_l (not_f hG))); have hg1 : ¬ (((List.getD h k default).frm) = ((List.getD h i default).to)) := of_decide_eq_false (or_r (or_l (not_f hG))); have hg2 : ¬ (((List.getD h k default).to) = ((List.getD h i default).frm)) := of_decide_eq_false (or_r (not_f hG)); omega)⟩⟩⟩), ⟨(fun hG => ⟨hG, trivial⟩), ⟨(fun hG => ⟨hG, trivial⟩), ⟨(fun hG => ⟨⟨hG, trivial⟩, ⟨⟨hG, trivial⟩, trivial⟩⟩), ⟨⟨trivial, ⟨(fun _ => trivial), (fun hp => ⟨(not_t hp), trivial⟩)⟩⟩, trivial⟩⟩⟩⟩⟩⟩⟩⟩⟩⟩⟩⟩⟩⟩⟩⟩⟩⟩⟩⟩⟩⟩⟩⟩⟩⟩⟩⟩⟩⟩⟩⟩⟩⟩⟩⟩⟩⟩⟩⟩⟩⟩⟩⟩⟩⟩⟩⟩⟩⟩ ?_
            refine W.if' ((((decide (((List.getD h k default).frm) = ((List.getD h i default).frm))) || (decide (((List.getD h k default).frm) = ((List.getD h i default).to)))) || (decide (((List.getD h k default).to) = ((List.getD h i default).frm)))) || (decide (((List.getD h k default).to) = ((List.getD h i default).to)))) (.b ((((decide (((List.getD h k default).frm) = ((List.getD h i default).frm))) || (decide (((List.getD h k default).frm) = ((List.getD h i default).to)))) || (decide (((List.getD h k default).to) = ((List.getD h i default).frm)))) || (decide (((List.getD h k default).to) = ((List.getD h i default).to))))) (by kernel_rfl) rfl trivial ?_ ?_
            · intro h71
              refine W.K cok tab43 hnt [] [2] (⟨[(2, .b false)], [], [999]⟩)
                (True ∧ True) (by kernel_rfl)
                ⟨trivial, trivial⟩ ?_
              refine W.ret (thenQ_ret (blockQ_ret (thenQ_ret (thenQ_ret (blockQ_ret (blockQ_ret (thenQ_ret (thenQ_ret (blockQ_ret (thenQ_ret ?_))))))))))
              exact endQ_ret (.b false) (by kernel_rfl) (@cast ((.bool false : Value) = .bool (validHistory h)) _ (by kernel_rfl) (congrArg Value.bool (by unfold validHistory; symm; exact and_fr (allN_false (i := i) (by omega) (and_fr (allN_false (i := k) (by omega) (clash_true1 h71)))))))
            · intro n71
              have n71_0 : ¬ (((List.getD h k default).frm) = ((List.getD h i default).frm)) := of_decide_eq_false (or_l (or_l (or_l n71)))
              have n71_1 : ¬ (((List.getD h k default).frm) = ((List.getD h i default).to)) := of_decide_eq_false (or_r (or_l (or_l n71)))
              have n71_2 : ¬ (((List.getD h k default).to) = ((List.getD h i default).frm)) := of_decide_eq_false (or_r (or_l n71))
              have n71_3 : ¬ (((List.getD h k default).to) = ((List.getD h i default).to)) := of_decide_eq_false (or_r n71)
              refine W.skip (thenQ_normal ?_)
              refine W.KA cok tab43 hnt [] [0, 3, 4, 108] (⟨[(0, .sl (.calls h)), (3, .i ((i : Nat) : Int)), (4, .i ((k : Nat) : Int)), (108, .b (((decide (((List.getD h k default).proc) = ((List.getD h i default).proc))) && (decide (((List.getD h i default).frm) < ((List.getD h k default).to)))) && (decide (((List.getD h k default).frm) < ((List.getD h i default).to)))))], [], [999]⟩)
                (True ∧ (True ∧ ((True ∧ (True ∧ ((0 ≤ ((k : Nat) : Int)) ∧ (((k : Nat) : Int) < (((List.length h) : Nat) : Int))))) ∧ (True ∧ (True ∧ (True ∧ (True ∧ ((True ∧ (True ∧ ((0 ≤ ((i : Nat) : Int)) ∧ (((i : Nat) : Int) < (((List.length h) : Nat) : Int))))) ∧ (True ∧ (True ∧ ((True ∧ (True ∧ True)) ∧ (True ∧ (((decide (((List.getD h k default).proc) = ((List.getD h i default).proc))) = true → True) ∧ (((decide (((List.getD h k default).proc) = ((List.getD h i default).proc))) = true → True) ∧ (((decide (((List.getD h k default).proc) = ((List.getD h i default).proc))) = true → ((((decide (((List.getD h k default).proc) = ((List.getD h i default).proc))) = true) ∧ True) ∧ ((((decide (((List.getD h k default).proc) = ((List.getD h i default).proc))) = true) ∧ True) ∧ ((0 ≤ ((k : Nat) : Int)) ∧ (((k : Nat) : Int) < (((List.length h) : Nat) : Int)))))) ∧ (((decide (((List.getD h k default).proc) = ((List.getD h i default).proc))) = true → (((decide (((List.getD h k default).proc) = ((List.getD h i default).proc))) = true) ∧ True)) ∧ (((decide (((List.getD h k default).proc) = ((List.getD h i default).proc))) = true → (((decide (((List.getD h k default).proc) = ((List.getD h i default).proc))) = true) ∧ True)) ∧ (((decide (((List.getD h k default).proc) = ((List.getD h i default).proc))) = true → True) ∧ (((decide (((List.getD h k default).proc) = ((List.getD h i default).proc))) = true → True) ∧ (((decide (((List.getD h k default).proc) = ((List.getD h i default).proc))) = true → ((((decide (((List.getD h k default).proc) = ((List.getD h i default).proc))) = true) ∧ True) ∧ ((((decide (((List.getD h k default).proc) = ((List.getD h i default).proc))) = true) ∧ True) ∧ ((0 ≤ ((i : Nat) : Int)) ∧ (((i : Nat) : Int) < (((List.length h) : Nat) : Int)))))) ∧ (((decide (((List.getD h k default).proc) = ((List.getD h i default).proc))) = true → (((decide (((List.getD h k default).proc) = ((List.getD h i default).proc))) = true) ∧ True)) ∧ (((decide (((List.getD h k default).proc) = ((List.getD h i default).proc))) = true → (((decide (((List.getD h k default).proc) = ((List.getD h i default).proc))) = true) ∧ True)) ∧ (((decide (((List.getD h k default).proc) = ((List.getD h i default).proc))) = true → ((((decide (((List.getD h k default).proc) = ((List.getD h i default).proc))) = true) ∧ True) ∧ ((((decide (((List.getD h k default).proc) = ((List.getD h i default).proc))) = true) ∧ True) ∧ True))) ∧ ((True ∧ (((decide (((List.getD h k default).proc) = ((List.getD h i default).proc))) = true → ((decide (((List.getD h k default).proc) = ((List.getD h i default).proc))) = true) ∧ True) ∧ ((decide (((List.getD h k default).proc) = ((List.getD h i default).proc))) = false → True))) ∧ (True ∧ ((((decide (((List.getD h k default).proc) = ((List.getD h i default).proc))) && (decide (((List.getD h i default).frm) < ((List.getD h k default).to)))) = true → True) ∧ ((((decide (((List.getD h k default).proc) = ((List.getD h i default).proc))) && (decide (((List.getD h i default).frm) < ((List.getD h k default).to)))) = true → True) ∧ ((((decide (((List.getD h k default).proc) = ((List.getD h i default).proc))) && (decide (((List.getD h i default).frm) < ((List.getD h k default).to)))) = true → (((((decide (((List.getD h k default).proc) = ((List.getD h i default).proc))) && (decide (((List.getD h i default).frm) < ((List.getD h k default).to)))) = true) ∧ True) ∧ (((((decide (((List.getD h k default).proc) = ((List.getD h i default).proc))) && (decide (((List.getD h i default).frm) < ((List.getD h k default).to)))) = true) ∧ True) ∧ ((0 ≤ ((i : Nat) : Int)) ∧ (((i : Nat) : Int) < (((List.length h) : Nat) : Int)))))) ∧ ((((decide (((List.getD h k default).proc) = ((List.getD h i default).proc))) && (decide (((List.getD h i default).frm) < ((List.getD h k default).to)))) = true → ((((decide (((List.getD h k default).proc) = ((List.getD h i default).proc))) && (decide (((List.getD h i default).frm) < ((List.getD h k default).to)))) = true) ∧ True)) ∧ ((((decide (((List.getD h k default).proc) = ((List.getD h i default).proc))) && (decide (((List.getD h i default).frm) < ((List.getD h k default).to)))) = true → ((((decide (((List.getD h k default).proc) = ((List.getD h i default).proc))) && (decide (((List.getD h i default).frm) < ((List.getD h k default).to)))) = true) ∧ True)) ∧ ((((decide (((List.getD h k default).proc) = ((List.getD h i default).proc))) && (decide (((List.getD h i default).frm) < ((List.getD h k default).to)))) = true → True) ∧ ((((decide (((List.getD h k default).proc) = ((List.getD h i default).proc))) && (decide (((List.getD h i default).frm) < ((List.getD h k default).to)))) = true → True) ∧ ((((decide (((List.getD h k default).proc) = ((List.getD h i default).proc))) && (decide (((List.getD h i default).frm) < ((List.getD h k default).to)))) = true → (((((decide (((List.getD h k default).proc) = ((List.getD h i default).proc))) && (decide (((List.getD h i default).frm) < ((List.getD h k default).to)))) = true) ∧ True) ∧ (((((decide (((List.getD h k default).proc) = ((List.getD h i default).proc))) && (decide (((List.getD h i default).frm) < ((List.getD h k default).to)))) = true) ∧ True) ∧ ((0 ≤ ((k : Nat) : Int)) ∧ (((k : Nat) : Int) < (((List.length h) : Nat) : Int)))))) ∧ ((((decide (((List.getD h k default).proc) = ((List.getD h i default).proc))) && (decide (((List.getD h i default).frm) < ((List.getD h k default).to)))) = true → ((((decide (((List.getD h k default).proc) = ((List.getD h i default).proc))) && (decide (((List.getD h i default).frm) < ((List.getD h k default).to)))) = true) ∧ True)) ∧ ((((decide (((List.getD h k default).proc) = ((List.getD h i default).proc))) && (decide (((List.getD h i default).frm) < ((List.getD h k default).to)))) = true → ((((decide (((List.getD h k default).proc) = ((List.getD h i default).proc))) && (decide (((List.getD h i default).frm) < ((List.getD h k default).to)))) = true) ∧ True)) ∧ ((((decide (((List.getD h k default).proc) = ((List.getD h i default).proc))) && (decide (((List.getD h i default).frm) < ((List.getD h k default).to)))) = true → (((((decide (((List.getD h k default).proc) = ((List.getD h i default).proc))) && (decide (((List.getD h i default).frm) < ((List.getD h k default).to)))) = true) ∧ True) ∧ (((((decide (((List.getD h k default).proc) = ((List.getD h i default).proc))) && (decide (((List.getD h i default).frm) < ((List.getD h k default).to)))) = true) ∧ True) ∧ True))) ∧ ((True ∧ ((((decide (((List.getD h k default).proc) = ((List.getD h i default).proc))) && (decide (((List.getD h i default).frm) < ((List.getD h k default).to)))) = true → (((decide (((List.getD h k default).proc) = ((List.getD h i default).proc))) && (decide (((List.getD h i default).frm) < ((List.getD h k default).to)))) = true) ∧ True) ∧ (((decide (((List.getD h k default).proc) = ((List.getD h i default).proc))) && (decide (((List.getD h i default).frm) < ((List.getD h k default).to)))) = false → True))) ∧ True))))))))))))))))))))))))))))))))))))) (by kernel_rfl) (by kernel_rfl)
                ⟨trivial, ⟨trivial, ⟨⟨trivial, ⟨trivial, ⟨(by omega), (by omega)⟩⟩⟩, ⟨trivial, ⟨trivial, ⟨trivial, ⟨trivial, ⟨⟨trivial, ⟨trivial, ⟨(by omega), (by omega)⟩⟩⟩, ⟨trivial, ⟨trivial, ⟨⟨trivial, ⟨trivial, trivial⟩⟩, ⟨trivial, ⟨(fun _ => trivial), ⟨(fun _ => trivial), ⟨(fun hG => ⟨⟨hG, trivial⟩, ⟨⟨hG, trivial⟩, ⟨(by have hg0 : ((List.getD h k default).proc) = ((List.getD h i default).proc) := of_decide_eq_true hG; omega), (by have hg0 : ((List.getD h k default).proc) = ((List.getD h i default).proc) := of_decide_eq_true hG; omega)⟩⟩⟩), ⟨(fun hG => ⟨hG, trivial⟩), ⟨(fun hG => ⟨hG, trivial⟩), ⟨(fun _ => trivial), ⟨(fun _ => trivial), ⟨(fun hG => ⟨⟨hG, trivial⟩, ⟨⟨hG, trivial⟩, ⟨(by have hg0 : ((List.getD h k default).proc) = ((List.getD h i default).proc) := of_decide_eq_true hG; omega), (by have hg0 : ((List.getD h k default).proc) = ((List.getD h i default).proc) := of_decide_eq_true hG; omega)⟩⟩⟩), ⟨(fun hG => ⟨hG, trivial⟩), ⟨(fun hG => ⟨hG, trivial⟩), ⟨(fun hG => ⟨⟨hG, trivial⟩, ⟨⟨hG, trivial⟩, trivial⟩⟩), ⟨⟨trivial, ⟨(fun hp => ⟨hp, trivial⟩), (fun _ => trivial)⟩⟩, ⟨trivial, ⟨(fun _ => trivial), ⟨(fun _ => trivial), ⟨(fun hG => ⟨⟨hG, trivial⟩, ⟨⟨hG, trivial⟩, ⟨(by have hg0 : ((List.getD h k default).proc) = ((List.getD h i default).proc) := of_decide_eq_true (and_l hG); have hg1 : ((List.getD h i default).frm) < ((List.getD h k default).to) := of_decide_eq_true (and_r hG); omega), (by have hg0 : ((List.getD h k default).proc) = ((List.getD h i default).proc) := of_decide_eq_true (and_l hG); have hg1 : ((List.getD h i default).frm) < ((List.getD h k default).to) := of_decide_eq_true (and_r hG); omega)⟩⟩⟩), ⟨(fun hG => ⟨hG, trivial⟩), ⟨(fun hG => ⟨hG, trivial⟩), ⟨(fun _ => trivial), ⟨(fun _ => trivial), ⟨(fun hG => ⟨⟨hG, trivial⟩, ⟨⟨hG, trivial⟩, ⟨(by have hg0 : ((List.getD h k default).proc) = ((List.getD h i default).proc) := of_decide_eq_true (and_l hG); have hg1 : ((List.getD h i default).frm) < ((List.getD h k default).to) := of_decide_eq_true (and_r hG); omega), (by have hg0 : ((List.getD h k default).proc) = ((List.getD h i default).proc) := of_decide_eq_true (and_l hG); have hg1 : ((List.getD h i default).frm) < ((List.getD h k default).to) := of_decide_eq_true (and_r hG); omega)⟩⟩⟩), ⟨(fun hG => ⟨hG, trivial⟩), ⟨(fun hG => ⟨hG, trivial⟩), ⟨(fun hG => ⟨⟨hG, trivial⟩, ⟨⟨hG, trivial⟩, trivial⟩⟩), ⟨⟨trivial, ⟨(fun hp => ⟨hp, trivial⟩), (fun _ => trivial)⟩⟩, trivial⟩⟩⟩⟩⟩⟩⟩⟩⟩⟩⟩⟩⟩⟩⟩⟩⟩⟩⟩⟩⟩⟩⟩⟩⟩⟩⟩⟩⟩⟩⟩⟩⟩⟩⟩⟩⟩ ?_
              refine W.if' (((decide (((List.getD h k default).proc) = ((List.getD h i default).proc))) && (decide (((List.getD h i default).frm) < ((List.getD h k default).to)))) && (decide (((List.getD h k default).frm) < ((List.getD h i default).to)))) (.b (((decide (((List.getD h k default).proc) = ((List.getD h i default).proc))) && (decide (((List.getD h i default).frm) < ((List.getD h k default).to)))) && (decide (((List.getD h k default).frm) < ((List.getD h i default).to))))) (by kernel_rfl) rfl trivial ?_ ?_
              · intro h108
                have h108_0 : ((List.getD h k default).proc) = ((List.getD h i default).proc) := of_decide_eq_true (and_l (and_l h108))
                have h108_1 : ((List.getD h i default).frm) < ((List.getD h k default).to) := of_decide_eq_true (and_r (and_l h108))
                have h108_2 : ((List.getD h k default).frm) < ((List.getD h i default).to) := of_decide_eq_true (and_r h108)
                refine W.K cok tab43 hnt [] [2] (⟨[(2, .b false)], [], [999]⟩)
                  (True ∧ True) (by kernel_rfl)
                  ⟨trivial, trivial⟩ ?_
                refine W.ret (blockQ_ret (thenQ_ret (thenQ_ret (blockQ_ret (blockQ_ret (thenQ_ret (thenQ_ret (blockQ_ret (thenQ_ret ?_)))))))))
                exact endQ_ret (.b false) (by kernel_rfl) (@cast ((.bool false : Value) = .bool (validHistory h)) _ (by kernel_rfl) (congrArg Value.bool (by unfold validHistory; symm; exact and_fr (allN_false (i := i) (by omega) (and_fr (allN_false (i := k) (by omega) (clash_true2 h108)))))))
              · intro n108
                refine W.skip (blockQ_normal (thenQ_normal ?_))
                refine W.L cok tab43 hnt [] (⟨[(0, .sl (.calls h)), (3, .i ((i : Nat) : Int)), (4, .i (((k + 1) : Nat) : Int)), (20, .i ((k : Nat) : Int)), (21, .i (((k + 1) : Nat) : Int)), (108, .b (((decide (((List.getD h k default).proc) = ((List.getD h i default).proc))) && (decide (((List.getD h i default).frm) < ((List.getD h k default).to)))) && (decide (((List.getD h k default).frm) < ((List.getD h i default).to)))))], [], [999]⟩)
                  (True ∧ ((True ∧ (True ∧ (Fits .i64 (((k + 1) : Nat) : Int)))) ∧ (True ∧ True))) (by kernel_rfl)
                  ⟨trivial, ⟨⟨trivial, ⟨trivial, (by exact fits_i64 (by omega) (by omega))⟩⟩, ⟨trivial, trivial⟩⟩⟩ ?_
                refine thenQ_normal ?_
                refine ⟨((k + 1)), (show ((k + 1) ≤ i) ∧ (∀ j, j < (k + 1) → (!clash (callAt h i) (callAt h j)) = true) from ⟨(by first | assumption | omega | rfl | (intro _ hjj; omega) | (simp; done) | (simp; omega)), (by exact upto_succ hB (clash_false n71 n108))⟩), (show i - (k + 1) < i - k from (by first | omega | (simp_all; omega))), ?_⟩
                exact Sub.of [] (@cast ((((.calls h : Dat) = .calls h) ∧ (((.int .i64 ((i : Nat) : Int) : Value) = .int .i64 ((i : Nat) : Int)) ∧ (((.int .i64 (((k + 1) : Nat) : Int) : Value) = .int .i64 (((k + 1) : Nat) : Int)) ∧ True))) ∧ (True ∧ ((true = true) ∧ (true = true)))) _ (by kernel_rfl) ⟨⟨rfl, ⟨rfl, ⟨rfl, trivial⟩⟩⟩, ⟨trivial, ⟨rfl, rfl⟩⟩⟩)
          · intro n19
            refine W.exit (thenQ_exit (thenQ_exit (blockQ_hit ?_)))
            refine blockQ_normal (thenQ_normal ?_)
            refine W.L cok tab43 hnt [] (⟨[(0, .sl (.calls h)), (3, .i (((i + 1) : Nat) : Int)), (4, .i ((k : Nat) : Int)), (9, .i ((i : Nat) : Int)), (10, .i (((i + 1) : Nat) : Int)), (19, .b (decide (((k : Nat) : Int) < ((i : Nat) : Int))))], [], [999]⟩)
              (True ∧ ((True ∧ (True ∧ (Fits .i64 (((i + 1) : Nat) : Int)))) ∧ (True ∧ True))) (by kernel_rfl)
              ⟨trivial, ⟨⟨trivial, ⟨trivial, (by exact fits_i64 (by omega) (by omega))⟩⟩, ⟨trivial, trivial⟩⟩⟩ ?_
            refine thenQ_normal ?_
            refine ⟨((i + 1)), (show ((i + 1) ≤ h.length) ∧ (∀ j, j < (i + 1) → (isCall (callAt h j) && allN j (fun k => !clash (callAt h j) (callAt h k))) = true) from ⟨(by first | assumption | omega | rfl | (intro _ hjj; omega) | (simp; done) | (simp; omega)), (by exact upto_succ hA (and_t (not_g n16) (allN_true (fun j hj => hB j (by omega)))))⟩), (show h.length - (i + 1) < h.length - i from (by first | omega | (simp_all; omega))), ?_⟩
            exact Sub.of [] (@cast ((((.calls h : Dat) = .calls h) ∧ (((.int .i64 (((i + 1) : Nat) : Int) : Value) = .int .i64 (((i + 1) : Nat) : Int)) ∧ True)) ∧ (True ∧ ((true = true) ∧ (true = true)))) _ (by kernel_rfl) ⟨⟨rfl, ⟨rfl, trivial⟩⟩, ⟨trivial, ⟨rfl, rfl⟩⟩⟩)
    · intro n8
      refine W.exit (thenQ_exit (thenQ_exit (blockQ_hit ?_)))
      refine thenQ_normal ?_
      refine W.K cok tab43 hnt [] [2] (⟨[(2, .b (decide ((((List.length h) : Nat) : Int) ≤ (6 : Int))))], [], [999]⟩)
        (True ∧ (True ∧ ((True ∧ (True ∧ True)) ∧ (True ∧ True)))) (by kernel_rfl)
        ⟨trivial, ⟨trivial, ⟨⟨trivial, ⟨trivial, trivial⟩⟩, ⟨trivial, trivial⟩⟩⟩⟩ ?_
      refine W.ret ?_
      exact endQ_ret (.b (decide ((((List.length h) : Nat) : Int) ≤ (6 : Int)))) (by kernel_rfl) (@cast ((.bool (decide ((((List.length h) : Nat) : Int) ≤ (6 : Int))) : Value) = .bool (validHistory h)) _ (by kernel_rfl) (congrArg Value.bool (by unfold validHistory; symm; rw [allN_true (fun j hj => hA j (by omega)), Bool.and_true]; exact bool_ext (by simp only [decide_eq_true_eq]; omega))))
theorem ent43 : Entr prog 43 := ⟨_, func43, rfl, by decide⟩

end Go.Proofs.Try

set_option linter.unusedSimpArgs false
set_option linter.unusedVariables false
namespace Go.Proofs.Try
open Go.Ab Go.RowKit
/-- spec.hasInt -/
def fs72 : FnS := fnS [.s .ints, .o] [.ints, .int] (fun _ (l, n, _) => (.b (hasInt l n), [], True))
abbrev T72 : Tab := lk []
theorem tab72 : TabOK prog T72 := TabOK.nil
set_option maxRecDepth 100000 in
set_option maxHeartbeats 1000000 in
theorem ok72 : FnOK prog 72 fs72 := by
  refine FnOK.mk cok func72 rfl rfl rfl ?_
  rintro fl ⟨(l : List Int), (n : Int), _⟩ hpre F hnt0 _
  have hnt : F.nt = 18 := hnt0.trans ntmps72
  clear hpre
  refine W.to (⟨[(0, .sl (.ints l)), (1, .i n)], [], [999]⟩) rfl ?_
  refine W.lenOf 0 (.ints l) (by kernel_rfl) ?_
  intro hl_l; replace hl_l : List.length l ≤ 9223372036854775807 := hl_l
  refine W.K cok tab72 hnt [] [0, 1] (⟨[(0, .sl (.ints l)), (1, .i n)], [], [999]⟩)
    (True ∧ True) (by kernel_rfl)
    ⟨trivial, trivial⟩ ?_
  refine W.seq ?_
  refine W.K cok tab72 hnt [] [0, 1, 5] (⟨[(0, .sl (.ints l)), (1, .i n), (5, .i (0 : Int))], [], [999]⟩)
    (True ∧ True) (by kernel_rfl)
    ⟨trivial, trivial⟩ ?_
  refine W.block ?_
  refine W.loop (ι := Nat) (fun (i : Nat) => (⟨[(0, .sl (.ints l)), (1, .i n), (5, .i ((i : Nat) : Int))], [], [999]⟩ : St))
    (fun (i : Nat) => (i ≤ l.length) ∧ (∀ j, j < i → decide (l.getD j 0 = n) = false))
    (fun (i : Nat) => (l.length - i : Nat)) (0) ?_ ?_ ?_
  · exact (show (0 ≤ l.length) ∧ (∀ j, j < 0 → decide (l.getD j 0 = n) = false) from ⟨(by first | assumption | omega | rfl | (intro _ hjj; omega) | (simp; done) | (simp; omega)), (by exact upto_zero)⟩)
  · exact Sub.of [] (@cast ((((.ints l : Dat) = .ints l) ∧ (((.int .i64 n : Value) = .int .i64 n) ∧ (((.int .i64 (0 : Int) : Value) = .int .i64 ((0 : Nat) : Int)) ∧ True))) ∧ (True ∧ ((true = true) ∧ (true = true)))) _ (by kernel_rfl) ⟨⟨rfl, ⟨rfl, ⟨(congrArg (Value.int .i64) (by first | rfl | omega | assumption | simp | simp_all)), trivial⟩⟩⟩, ⟨trivial, ⟨rfl, rfl⟩⟩⟩)
  · rintro i hC0
    have hC : (i ≤ l.length) ∧ (∀ j, j < i → decide (l.getD j 0 = n) = false) := hC0
    clear hC0
    obtain ⟨hi, hA⟩ := hC
    refine W.to (⟨[(0, .sl (.ints l)), (1, .i n), (5, .i ((i : Nat) : Int))], [], [999]⟩) rfl ?_
    refine W.seq ?_
    refine W.K cok tab72 hnt [] [0, 1, 5, 9] (⟨[(0, .sl (.ints l)), (1, .i n), (5, .i ((i : Nat) : Int)), (9, .b (decide (((i : Nat) : Int) < (((List.length l) : Nat) : Int))))], [], [999]⟩)
      (True ∧ (True ∧ (True ∧ ((True ∧ (True ∧ True)) ∧ True)))) (by kernel_rfl)
      ⟨trivial, ⟨trivial, ⟨trivial, ⟨⟨trivial, ⟨trivial, trivial⟩⟩, trivial⟩⟩⟩⟩ ?_
    refine W.ifP (((i : Nat) : Int) < (((List.length l) : Nat) : Int)) (.b (decide (((i : Nat) : Int) < (((List.length l) : Nat) : Int)))) (by kernel_rfl) rfl trivial ?_ ?_
    · intro h9
      refine W.skip (thenQ_normal ?_)
      refine W.seq ?_
      refine W.block ?_
      refine W.K cok tab72 hnt [] [0, 1, 5, 17] (⟨[(0, .sl (.ints l)), (1, .i n), (5, .i ((i : Nat) : Int)), (17, .b (decide ((List.getD l i 0) = n)))], [], [999]⟩)
        (True ∧ (True ∧ ((True ∧ (True ∧ ((0 ≤ ((i : Nat) : Int)) ∧ (((i : Nat) : Int) < (((List.length l) : Nat) : Int))))) ∧ (True ∧ (True ∧ ((True ∧ (True ∧ True)) ∧ True)))))) (by kernel_rfl)
        ⟨trivial, ⟨trivial, ⟨⟨trivial, ⟨trivial, ⟨(by omega), (by omega)⟩⟩⟩, ⟨trivial, ⟨trivial, ⟨⟨trivial, ⟨trivial, trivial⟩⟩, trivial⟩⟩⟩⟩⟩⟩ ?_
      refine W.ifP ((List.getD l i 0) = n) (.b (decide ((List.getD l i 0) = n))) (by kernel_rfl) rfl trivial ?_ ?_
      · intro h17
        refine W.K cok tab72 hnt [] [4] (⟨[(4, .b true)], [], [999]⟩)
          (True ∧ True) (by kernel_rfl)
          ⟨trivial, trivial⟩ ?_
        refine W.ret (blockQ_ret (thenQ_ret (thenQ_ret (blockQ_ret (thenQ_ret ?_)))))
        exact endQ_ret (.b true) (by kernel_rfl) (@cast ((.bool true : Value) = .bool (hasInt l n)) _ (by kernel_rfl) (congrArg Value.bool (by unfold hasInt; symm; exact anyN_true (i := i) (by omega) (decide_eq_true h17))))
      · intro n17
        refine W.skip (blockQ_normal (thenQ_normal ?_))
        refine W.L cok tab72 hnt [] (⟨[(0, .sl (.ints l)), (1, .i n), (5, .i (((i + 1) : Nat) : Int)), (10, .i ((i : Nat) : Int)), (11, .i (((i + 1) : Nat) : Int)), (17, .b (decide ((List.getD l i 0) = n)))], [], [999]⟩)
          (True ∧ ((True ∧ (True ∧ (Fits .i64 (((i + 1) : Nat) : Int)))) ∧ (True ∧ True))) (by kernel_rfl)
          ⟨trivial, ⟨⟨trivial, ⟨trivial, (by exact fits_i64 (by omega) (by omega))⟩⟩, ⟨trivial, trivial⟩⟩⟩ ?_
        refine thenQ_normal ?_
        refine ⟨((i + 1)), (show ((i + 1) ≤ l.length) ∧ (∀ j, j < (i + 1) → decide (l.getD j 0 = n) = false) from ⟨(by first | assumption | omega | rfl | (intro _ hjj; omega) | (simp; done) | (simp; omega)), (by exact upto_succ hA (decide_eq_false n17))⟩), (show l.length - (i + 1) < l.length - i from (by first | omega | (simp_all; omega))), ?_⟩
        exact Sub.of [] (@cast ((((.ints l : Dat) = .ints l) ∧ (((.int .i64 n : Value) = .int .i64 n) ∧ (((.int .i64 (((i + 1) : Nat) : Int) : Value) = .int .i64 (((i + 1) : Nat) : Int)) ∧ True))) ∧ (True ∧ ((true = true) ∧ (true = true)))) _ (by kernel_rfl) ⟨⟨rfl, ⟨rfl, ⟨rfl, trivial⟩⟩⟩, ⟨trivial, ⟨rfl, rfl⟩⟩⟩)
    · intro n9
      refine W.exit (thenQ_exit (thenQ_exit (blockQ_hit ?_)))
      refine thenQ_normal ?_
      refine W.K cok tab72 hnt [] [4] (⟨[(4, .b false)], [], [999]⟩)
        (True ∧ True) (by kernel_rfl)
        ⟨trivial, trivial⟩ ?_
      refine W.ret ?_
      exact endQ_ret (.b false) (by kernel_rfl) (@cast ((.bool false : Value) = .bool (hasInt l n)) _ (by kernel_rfl) (congrArg Value.bool (by unfold hasInt; symm; exact anyN_false (fun j hj => hA j (by omega)))))
theorem ent72 : Entr prog 72 := ⟨_, func72, rfl, by decide⟩

end Go.Proofs.Try

set_option linter.unusedSimpArgs false
set_option linter.unusedVariables false
namespace Go.Proofs.Try
open Go.Ab Go.RowKit
/-- spec.validOrder -/
def fs44 : FnS := fnS [.o, .s .ints] [.int, .ints] (fun _ (n, l, _) => (.b (isOrd l n), [], (0 ≤ n ∧ n ≤ 9223372036854775807)))
abbrev T44 : Tab := lk [(50, fs50), (72, fs72)]
theorem tab44 : TabOK prog T44 := (TabOK.cons ok50 ent50 (TabOK.cons ok72 ent72 TabOK.nil))
set_option maxRecDepth 100000 in
set_option maxHeartbeats 1000000 in
theorem ok44 : FnOK prog 44 fs44 := by
  refine FnOK.mk cok func44 rfl rfl rfl ?_
  rintro fl ⟨(n : Int), (l : List Int), _⟩ hpre F hnt0 _
  have hnt : F.nt = 34 := hnt0.trans ntmps44
  replace hpre : (0 ≤ n ∧ n ≤ 9223372036854775807) := hpre
  have hn := hpre
  refine W.to (⟨[(0, .i n), (1, .sl (.ints l))], [], [999]⟩) rfl ?_
  refine W.lenOf 1 (.ints l) (by kernel_rfl) ?_
  intro hl_l; replace hl_l : List.length l ≤ 9223372036854775807 := hl_l
  refine W.K cok tab44 hnt [] [0, 1] (⟨[(0, .i n), (1, .sl (.ints l))], [], [999]⟩)
    (True ∧ True) (by kernel_rfl)
    ⟨trivial, trivial⟩ ?_
  refine W.seq ?_
  refine W.K cok tab44 hnt [] [0, 1, 5] (⟨[(0, .i n), (1, .sl (.ints l)), (5, .i (0 : Int))], [], [999]⟩)
    (True ∧ True) (by kernel_rfl)
    ⟨trivial, trivial⟩ ?_
  refine W.block ?_
  refine W.loop (ι := Nat) (fun (i : Nat) => (⟨[(0, .i n), (1, .sl (.ints l)), (5, .i ((i : Nat) : Int))], [], [999]⟩ : St))
    (fun (i : Nat) => (i ≤ l.length) ∧ (∀ j, j < i → ordOK l n j = true))
    (fun (i : Nat) => (l.length - i : Nat)) (0) ?_ ?_ ?_
  · exact (show (0 ≤ l.length) ∧ (∀ j, j < 0 → ordOK l n j = true) from ⟨(by first | assumption | omega | rfl | (intro _ hjj; omega) | (simp; done) | (simp; omega)), (by exact upto_zero)⟩)
  · exact Sub.of [] (@cast ((((.int .i64 n : Value) = .int .i64 n) ∧ (((.ints l : Dat) = .ints l) ∧ (((.int .i64 (0 : Int) : Value) = .int .i64 ((0 : Nat) : Int)) ∧ True))) ∧ (True ∧ ((true = true) ∧ (true = true)))) _ (by kernel_rfl) ⟨⟨rfl, ⟨rfl, ⟨(congrArg (Value.int .i64) (by first | rfl | omega | assumption | simp | simp_all)), trivial⟩⟩⟩, ⟨trivial, ⟨rfl, rfl⟩⟩⟩)
  · rintro i hC0
    have hC : (i ≤ l.length) ∧ (∀ j, j < i → ordOK l n j = true) := hC0
    clear hC0
    obtain ⟨hi, hA⟩ := hC
    refine W.to (⟨[(0, .i n), (1, .sl (.ints l)), (5, .i ((i : Nat) : Int))], [], [999]⟩) rfl ?_
    refine W.seq ?_
    refine W.K cok tab44 hnt [] [0, 1, 5, 9] (⟨[(0, .i n), (1, .sl (.ints l)), (5, .i ((i : Nat) : Int)), (9, .b (decide (((i : Nat) : Int) < (((List.length l) : Nat) : Int))))], [], [999]⟩)
      (True ∧ (True ∧ (True ∧ ((True ∧ (True ∧ True)) ∧ True)))) (by kernel_rfl)
      ⟨trivial, ⟨trivial, ⟨trivial, ⟨⟨trivial, ⟨trivial, trivial⟩⟩, trivial⟩⟩⟩⟩ ?_
    refine W.ifP (((i : Nat) : Int) < (((List.length l) : Nat) : Int)) (.b (decide (((i : Nat) : Int) < (((List.length l) : Nat) : Int)))) (by kernel_rfl) rfl trivial ?_ ?_
    · intro h9
      refine W.skip (thenQ_normal ?_)
      refine W.seq ?_
      refine W.block ?_
      refine W.KA cok tab44 hnt [] [0, 1, 5, 29] (⟨[(0, .i n), (1, .sl (.ints l)), (5, .i ((i : Nat) : Int)), (29, .b ((!(within (List.getD l i 0) (0 : Int) (n - (1 : Int)))) || (hasInt (List.take i l) (List.getD l i 0))))], [], [999]⟩)
        (True ∧ (True ∧ ((True ∧ (True ∧ ((0 ≤ ((i : Nat) : Int)) ∧ (((i : Nat) : Int) < (((List.length l) : Nat) : Int))))) ∧ (True ∧ (True ∧ ((True ∧ (True ∧ (Fits .i64 (n - (1 : Int))))) ∧ ((True ∧ ((True ∧ (True ∧ (True ∧ True))) ∧ True)) ∧ (True ∧ (True ∧ (((!(!(within (List.getD l i 0) (0 : Int) (n - (1 : Int))))) = true → True) ∧ (((!(!(within (List.getD l i 0) (0 : Int) (n - (1 : Int))))) = true → True) ∧ (((!(!(within (List.getD l i 0) (0 : Int) (n - (1 : Int))))) = true → ((((!(!(within (List.getD l i 0) (0 : Int) (n - (1 : Int))))) = true) ∧ True) ∧ (True ∧ ((((!(!(within (List.getD l i 0) (0 : Int) (n - (1 : Int))))) = true) ∧ True) ∧ ((0 ≤ (0 : Int)) ∧ (((0 : Int) ≤ ((i : Nat) : Int)) ∧ (((i : Nat) : Int) ≤ (((List.length l) : Nat) : Int)))))))) ∧ (((!(!(within (List.getD l i 0) (0 : Int) (n - (1 : Int))))) = true → True) ∧ (((!(!(within (List.getD l i 0) (0 : Int) (n - (1 : Int))))) = true → True) ∧ (((!(!(within (List.getD l i 0) (0 : Int) (n - (1 : Int))))) = true → ((((!(!(within (List.getD l i 0) (0 : Int) (n - (1 : Int))))) = true) ∧ True) ∧ ((((!(!(within (List.getD l i 0) (0 : Int) (n - (1 : Int))))) = true) ∧ True) ∧ ((0 ≤ ((i : Nat) : Int)) ∧ (((i : Nat) : Int) < (((List.length l) : Nat) : Int)))))) ∧ (((!(!(within (List.getD l i 0) (0 : Int) (n - (1 : Int))))) = true → (((!(!(within (List.getD l i 0) (0 : Int) (n - (1 : Int))))) = true) ∧ True)) ∧ (((!(!(within (List.getD l i 0) (0 : Int) (n - (1 : Int))))) = true → (True ∧ (((((!(!(within (List.getD l i 0) (0 : Int) (n - (1 : Int))))) = true) ∧ True) ∧ ((((!(!(within (List.getD l i 0) (0 : Int) (n - (1 : Int))))) = true) ∧ True) ∧ True)) ∧ True))) ∧ ((True ∧ (((!(within (List.getD l i 0) (0 : Int) (n - (1 : Int)))) = true → True) ∧ ((!(within (List.getD l i 0) (0 : Int) (n - (1 : Int)))) = false → ((!(!(within (List.getD l i 0) (0 : Int) (n - (1 : Int))))) = true) ∧ True))) ∧ True)))))))))))))))))) (by kernel_rfl) (by kernel_rfl)
        ⟨trivial, ⟨trivial, ⟨⟨trivial, ⟨trivial, ⟨(by omega), (by omega)⟩⟩⟩, ⟨trivial, ⟨trivial, ⟨⟨trivial, ⟨trivial, (by exact fits_i64 (by omega) (by omega))⟩⟩, ⟨⟨trivial, ⟨⟨trivial, ⟨trivial, ⟨trivial, trivial⟩⟩⟩, trivial⟩⟩, ⟨trivial, ⟨trivial, ⟨(fun _ => trivial), ⟨(fun _ => trivial), ⟨(fun hG => ⟨⟨hG, trivial⟩, ⟨trivial, ⟨⟨hG, trivial⟩, ⟨(by omega), ⟨(by omega), (by omega)⟩⟩⟩⟩⟩), ⟨(fun _ => trivial), ⟨(fun _ => trivial), ⟨(fun hG => ⟨⟨hG, trivial⟩, ⟨⟨hG, trivial⟩, ⟨(by omega), (by omega)⟩⟩⟩), ⟨(fun hG => ⟨hG, trivial⟩), ⟨(fun hG => ⟨trivial, ⟨⟨⟨hG, trivial⟩, ⟨⟨hG, trivial⟩, trivial⟩⟩, trivial⟩⟩), ⟨⟨trivial, ⟨(fun _ => trivial), (fun hp => ⟨(not_t hp), trivial⟩)⟩⟩, trivial⟩⟩⟩⟩⟩⟩⟩⟩⟩⟩⟩⟩⟩⟩⟩⟩⟩⟩ ?_
      refine W.if' ((!(within (List.getD l i 0) (0 : Int) (n - (1 : Int)))) || (hasInt (List.take i l) (List.getD l i 0))) (.b ((!(within (List.getD l i 0) (0 : Int) (n - (1 : Int)))) || (hasInt (List.take i l) (List.getD l i 0)))) (by kernel_rfl) rfl trivial ?_ ?_
      · intro h29
        refine W.K cok tab44 hnt [] [4] (⟨[(4, .b false)], [], [999]⟩)
          (True ∧ True) (by kernel_rfl)
          ⟨trivial, trivial⟩ ?_
        refine W.ret (blockQ_ret (thenQ_ret (thenQ_ret (blockQ_ret (thenQ_ret ?_)))))
        exact endQ_ret (.b false) (by kernel_rfl) (@cast ((.bool false : Value) = .bool (isOrd l n)) _ (by kernel_rfl) (congrArg Value.bool (by exact (ord_no (i := i) (by omega) h29).symm)))
      · intro n29
        refine W.skip (blockQ_normal (thenQ_normal ?_))
        refine W.L cok tab44 hnt [] (⟨[(0, .i n), (1, .sl (.ints l)), (5, .i (((i + 1) : Nat) : Int)), (10, .i ((i : Nat) : Int)), (11, .i (((i + 1) : Nat) : Int)), (29, .b ((!(within (List.getD l i 0) (0 : Int) (n - (1 : Int)))) || (hasInt (List.take i l) (List.getD l i 0))))], [], [999]⟩)
          (True ∧ ((True ∧ (True ∧ (Fits .i64 (((i + 1) : Nat) : Int)))) ∧ (True ∧ True))) (by kernel_rfl)
          ⟨trivial, ⟨⟨trivial, ⟨trivial, (by exact fits_i64 (by omega) (by omega))⟩⟩, ⟨trivial, trivial⟩⟩⟩ ?_
        refine thenQ_normal ?_
        refine ⟨((i + 1)), (show ((i + 1) ≤ l.length) ∧ (∀ j, j < (i + 1) → ordOK l n j = true) from ⟨(by first | assumption | omega | rfl | (intro _ hjj; omega) | (simp; done) | (simp; omega)), (by exact upto_succ hA (ord_ok n29))⟩), (show l.length - (i + 1) < l.length - i from (by first | omega | (simp_all; omega))), ?_⟩
        exact Sub.of [] (@cast ((((.int .i64 n : Value) = .int .i64 n) ∧ (((.ints l : Dat) = .ints l) ∧ (((.int .i64 (((i + 1) : Nat) : Int) : Value) = .int .i64 (((i + 1) : Nat) : Int)) ∧ True))) ∧ (True ∧ ((true = true) ∧ (true = true)))) _ (by kernel_rfl) ⟨⟨rfl, ⟨rfl, ⟨rfl, trivial⟩⟩⟩, ⟨trivial, ⟨rfl, rfl⟩⟩⟩)
    · intro n9
      refine W.exit (thenQ_exit (thenQ_exit (blockQ_hit ?_)))
      refine thenQ_normal ?_
      refine W.K cok tab44 hnt [] [4] (⟨[(4, .b (decide ((((List.length l) : Nat) : Int) = n)))], [], [999]⟩)
        (True ∧ (True ∧ (True ∧ ((True ∧ (True ∧ True)) ∧ (True ∧ True))))) (by kernel_rfl)
        ⟨trivial, ⟨trivial, ⟨trivial, ⟨⟨trivial, ⟨trivial, trivial⟩⟩, ⟨trivial, trivial⟩⟩⟩⟩⟩ ?_
      refine W.ret ?_
      exact endQ_ret (.b (decide ((((List.length l) : Nat) : Int) = n))) (by kernel_rfl) (@cast ((.bool (decide ((((List.length l) : Nat) : Int) = n)) : Value) = .bool (isOrd l n)) _ (by kernel_rfl) (congrArg Value.bool (by exact ord_end (fun j hj => hA j (by omega)))))
theorem ent44 : Entr prog 44 := ⟨_, func44, rfl, by decide⟩

end Go.Proofs.Try
