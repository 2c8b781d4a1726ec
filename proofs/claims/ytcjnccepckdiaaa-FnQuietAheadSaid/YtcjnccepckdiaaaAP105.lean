import Derived.Test.YtcjnccepckdiaaaAS
import Derived.Test.YtcjnccepckdiaaaM6
import Derived.Test.YtcjnccepckdiaaaAP90
set_option linter.unusedSimpArgs false
set_option linter.unusedVariables false
namespace Go.Proofs.Try
open Go.Ab Go.RowKit
/-- impl.QuietAhead$1 -/
def fs105 : FnS := fnS [.o, .o, .o] [.int, .int, (.ep .calls)] (fun _ (i, k, h, _) => (.b (quietF h i.toNat k.toNat), [], (0 ≤ i ∧ i < h.length) ∧ (0 ≤ k ∧ k < h.length) ∧ (validHistory h = true)))
abbrev T105 : Tab := lk [(90, fs90)]
theorem tab105 : TabOK prog T105 := (TabOK.cons ok90 ent90 TabOK.nil)
set_option maxRecDepth 100000 in
set_option maxHeartbeats 1000000 in
theorem ok105 : FnOK prog 105 fs105 := by
  refine FnOK.mk func105 rfl rfl rfl ?_
  rintro fl ⟨(i : Int), (k : Int), (h : List CallD), _⟩ hpre F hnt0 _
  have hnt : F.nt = 25 := hnt0.trans ntmps105
  replace hpre : (0 ≤ i ∧ i < h.length) ∧ (0 ≤ k ∧ k < h.length) ∧ (validHistory h = true) := hpre
  obtain ⟨hi, hk, hv⟩ := hpre
  refine W.to (⟨[(0, .i i), (1, .i k), (2, .ep [.sl (.calls h)])], [], [999]⟩) rfl ?_
  have hci := call_ok hv (i := i.toNat) (by omega)
  have hck := call_ok hv (i := k.toNat) (by omega)
  unfold callAt at hci hck
  refine W.K cok tab105 hnt [] [0, 1, 2] (⟨[(0, .i i), (1, .i k), (2, .ep [.sl (.calls h)])], [], [999]⟩)
    (True ∧ True) (by kernel_rfl)
    ⟨trivial, trivial⟩ ?_
  refine W.seq ?_
  refine W.K cok tab105 hnt [] [0, 2, 6] (⟨[(0, .i i), (2, .ep [.sl (.calls h)]), (6, .i ((List.getD h (Int.toNat k) default).to))], [], [999]⟩)
    (True ∧ (True ∧ ((True ∧ (True ∧ ((0 ≤ k) ∧ (k < (((List.length h) : Nat) : Int))))) ∧ (True ∧ (True ∧ (True ∧ True)))))) (by kernel_rfl)
    ⟨trivial, ⟨trivial, ⟨⟨trivial, ⟨trivial, ⟨(by omega), (by omega)⟩⟩⟩, ⟨trivial, ⟨trivial, ⟨trivial, trivial⟩⟩⟩⟩⟩⟩ ?_
  refine W.block ?_
  refine W.loop (ι := Int) (fun (t : Int) => (⟨[(0, .i i), (2, .ep [.sl (.calls h)]), (6, .i t)], [], [999]⟩ : St))
    (fun (t : Int) => ((h.getD k.toNat default).to ≤ t) ∧ (0 ≤ t) ∧ (∀ j : Int, (h.getD k.toNat default).to ≤ j → j < t → ¬ openAt h j = 0))
    (fun (t : Int) => ((31 - t).toNat : Nat)) (((List.getD h (Int.toNat k) default).to)) ?_ ?_ ?_
  · exact (show ((h.getD k.toNat default).to ≤ ((List.getD h (Int.toNat k) default).to)) ∧ (0 ≤ ((List.getD h (Int.toNat k) default).to)) ∧ (∀ j : Int, (h.getD k.toNat default).to ≤ j → j < ((List.getD h (Int.toNat k) default).to) → ¬ openAt h j = 0) from ⟨(by first | assumption | omega | rfl | (intro _ hjj; omega) | (simp; done) | (simp; omega)), (by first | assumption | omega | rfl | (intro _ hjj; omega) | (simp; done) | (simp; omega)), (by intro j h1 h2; omega)⟩)
  · exact Sub.of [] (@cast ((((.int .i64 i : Value) = .int .i64 i) ∧ ((((.ep [.sl (.calls h)] : AV) = .ep [.sl (.calls h)]) ∧ (([] : List Nat) = [])) ∧ (((.int .i64 ((List.getD h (Int.toNat k) default).to) : Value) = .int .i64 ((List.getD h (Int.toNat k) default).to)) ∧ True))) ∧ (True ∧ ((true = true) ∧ (true = true)))) _ (by kernel_rfl) ⟨⟨rfl, ⟨⟨rfl, rfl⟩, ⟨rfl, trivial⟩⟩⟩, ⟨trivial, ⟨rfl, rfl⟩⟩⟩)
  · rintro t hC0
    have hC : ((h.getD k.toNat default).to ≤ t) ∧ (0 ≤ t) ∧ (∀ j : Int, (h.getD k.toNat default).to ≤ j → j < t → ¬ openAt h j = 0) := hC0
    clear hC0
    obtain ⟨ht, ht0, hA⟩ := hC
    refine W.to (⟨[(0, .i i), (2, .ep [.sl (.calls h)]), (6, .i t)], [], [999]⟩) rfl ?_
    refine W.seq ?_
    refine W.K cok tab105 hnt [] [0, 2, 6, 18] (⟨[(0, .i i), (2, .ep [.sl (.calls h)]), (6, .i t), (18, .b (decide (t < ((List.getD h (Int.toNat i) default).frm))))], [], [999]⟩)
      (True ∧ (True ∧ (True ∧ ((True ∧ (True ∧ ((0 ≤ i) ∧ (i < (((List.length h) : Nat) : Int))))) ∧ (True ∧ (True ∧ ((True ∧ (True ∧ True)) ∧ True))))))) (by kernel_rfl)
      ⟨trivial, ⟨trivial, ⟨trivial, ⟨⟨trivial, ⟨trivial, ⟨(by omega), (by omega)⟩⟩⟩, ⟨trivial, ⟨trivial, ⟨⟨trivial, ⟨trivial, trivial⟩⟩, trivial⟩⟩⟩⟩⟩⟩⟩ ?_
    refine W.ifP (t < ((List.getD h (Int.toNat i) default).frm)) (.b (decide (t < ((List.getD h (Int.toNat i) default).frm)))) (by kernel_rfl) rfl trivial ?_ ?_
    · intro h18
      refine W.skip (thenQ_normal ?_)
      refine W.seq ?_
      refine W.block ?_
      refine W.K cok tab105 hnt [] [0, 2, 6, 24] (⟨[(0, .i i), (2, .ep [.sl (.calls h)]), (6, .i t), (24, .b (decide ((openAt h t) = (0 : Int))))], [], [999]⟩)
        (True ∧ (True ∧ ((True ∧ ((True ∧ (True ∧ True)) ∧ True)) ∧ ((True ∧ (True ∧ True)) ∧ True)))) (by kernel_rfl)
        ⟨trivial, ⟨trivial, ⟨⟨trivial, ⟨⟨trivial, ⟨trivial, trivial⟩⟩, trivial⟩⟩, ⟨⟨trivial, ⟨trivial, trivial⟩⟩, trivial⟩⟩⟩⟩ ?_
      refine W.ifP ((openAt h t) = (0 : Int)) (.b (decide ((openAt h t) = (0 : Int)))) (by kernel_rfl) rfl trivial ?_ ?_
      · intro h24
        refine W.K cok tab105 hnt [] [5] (⟨[(5, .b true)], [], [999]⟩)
          (True ∧ True) (by kernel_rfl)
          ⟨trivial, trivial⟩ ?_
        refine W.ret (blockQ_ret (thenQ_ret (thenQ_ret (blockQ_ret (thenQ_ret ?_)))))
        exact endQ_ret (.b true) (by kernel_rfl) (@cast ((.bool true : Value) = .bool (quietF h i.toNat k.toNat)) _ (by kernel_rfl) (congrArg Value.bool (by exact (quiet_yes ht0 (by omega) ht (by assumption) h24).symm)))
      · intro n24
        refine W.skip (blockQ_normal (thenQ_normal ?_))
        refine W.L cok tab105 hnt [] (⟨[(0, .i i), (2, .ep [.sl (.calls h)]), (6, .i (t + (1 : Int))), (19, .i t), (20, .i (t + (1 : Int))), (24, .b (decide ((openAt h t) = (0 : Int))))], [], [999]⟩)
          (True ∧ ((True ∧ (True ∧ (Fits .i64 (t + (1 : Int))))) ∧ (True ∧ True))) (by kernel_rfl)
          ⟨trivial, ⟨⟨trivial, ⟨trivial, (by exact fits_i64 (by omega) (by omega))⟩⟩, ⟨trivial, trivial⟩⟩⟩ ?_
        refine thenQ_normal ?_
        refine ⟨((t + (1 : Int))), (show ((h.getD k.toNat default).to ≤ (t + (1 : Int))) ∧ (0 ≤ (t + (1 : Int))) ∧ (∀ j : Int, (h.getD k.toNat default).to ≤ j → j < (t + (1 : Int)) → ¬ openAt h j = 0) from ⟨(by first | assumption | omega | rfl | (intro _ hjj; omega) | (simp; done) | (simp; omega)), (by first | assumption | omega | rfl | (intro _ hjj; omega) | (simp; done) | (simp; omega)), (by intro j h1 h2; by_cases hj : j = t; (subst hj; exact n24); exact hA j h1 (by omega))⟩), (show (31 - (t + (1 : Int))).toNat < (31 - t).toNat from (by first | omega | (simp_all; omega))), ?_⟩
        exact Sub.of [] (@cast ((((.int .i64 i : Value) = .int .i64 i) ∧ ((((.ep [.sl (.calls h)] : AV) = .ep [.sl (.calls h)]) ∧ (([] : List Nat) = [])) ∧ (((.int .i64 (t + (1 : Int)) : Value) = .int .i64 (t + (1 : Int))) ∧ True))) ∧ (True ∧ ((true = true) ∧ (true = true)))) _ (by kernel_rfl) ⟨⟨rfl, ⟨⟨rfl, rfl⟩, ⟨rfl, trivial⟩⟩⟩, ⟨trivial, ⟨rfl, rfl⟩⟩⟩)
    · intro n18
      refine W.exit (thenQ_exit (thenQ_exit (blockQ_hit ?_)))
      refine thenQ_normal ?_
      refine W.K cok tab105 hnt [] [5] (⟨[(5, .b false)], [], [999]⟩)
        (True ∧ True) (by kernel_rfl)
        ⟨trivial, trivial⟩ ?_
      refine W.ret ?_
      exact endQ_ret (.b false) (by kernel_rfl) (@cast ((.bool false : Value) = .bool (quietF h i.toNat k.toNat)) _ (by kernel_rfl) (congrArg Value.bool (by exact (quiet_no n18 hA).symm)))
theorem ent105 : Entr prog 105 := ⟨_, func105, rfl, by decide⟩

end Go.Proofs.Try
