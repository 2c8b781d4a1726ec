import Derived.Test.YtcjnccepckdiaaaAS
import Derived.Test.YtcjnccepckdiaaaM4
import Derived.Test.YtcjnccepckdiaaaAP19
import Derived.Test.YtcjnccepckdiaaaAP90
set_option linter.unusedSimpArgs false
set_option linter.unusedVariables false
namespace Go.Proofs.Try
open Go.Ab Go.RowKit
/-- impl.WidthOf -/
def fs31 : FnS := fnS [.s .calls] [.calls] (fun _ (h, _) => (.i (widthOf h), [], True))
abbrev T31 : Tab := lk [(19, fs19), (90, fs90)]
theorem tab31 : TabOK prog T31 := (TabOK.cons ok19 ent19 (TabOK.cons ok90 ent90 TabOK.nil))
set_option maxRecDepth 100000 in
set_option maxHeartbeats 1000000 in
theorem ok31 : FnOK prog 31 fs31 := by
  refine FnOK.mk func31 rfl rfl rfl ?_
  rintro fl ⟨(h : List CallD), _⟩ hpre F hnt0 _
  have hnt : F.nt = 18 := hnt0.trans ntmps31
  clear hpre
  refine W.to (⟨[(0, .sl (.calls h))], [], [999]⟩) rfl ?_
  refine W.lenOf 0 (.calls h) (by kernel_rfl) ?_
  intro hl_h; replace hl_h : List.length h ≤ 9223372036854775807 := hl_h
  refine W.K cok tab31 hnt [] [0] (⟨[(0, .sl (.calls h))], [], [999]⟩)
    (True ∧ True) (by kernel_rfl)
    ⟨trivial, trivial⟩ ?_
  refine W.seq ?_
  refine W.K cok tab31 hnt [] [0, 7] (⟨[(0, .sl (.calls h)), (7, .b (!(validHistory h)))], [], [999]⟩)
    (True ∧ ((True ∧ ((True ∧ True) ∧ True)) ∧ (True ∧ True))) (by kernel_rfl)
    ⟨trivial, ⟨⟨trivial, ⟨⟨trivial, trivial⟩, trivial⟩⟩, ⟨trivial, trivial⟩⟩⟩ ?_
  refine W.if' (!(validHistory h)) (.b (!(validHistory h))) (by kernel_rfl) rfl trivial ?_ ?_
  · intro h7
    refine W.K cok tab31 hnt [] [2] (⟨[(2, .i (-1 : Int))], [], [999]⟩)
      (True ∧ True) (by kernel_rfl)
      ⟨trivial, trivial⟩ ?_
    refine W.ret (thenQ_ret ?_)
    exact endQ_ret (.i (-1 : Int)) (by kernel_rfl) (@cast ((.int .i64 (-1 : Int) : Value) = .int .i64 (widthOf h)) _ (by kernel_rfl) (congrArg (Value.int .i64) (by unfold widthOf; rw [not_f h7]; rfl)))
  · intro n7
    refine W.skip (thenQ_normal ?_)
    refine W.K cok tab31 hnt [] [0, 3] (⟨[(0, .sl (.calls h)), (3, .i (0 : Int))], [], [999]⟩)
      (True ∧ True) (by kernel_rfl)
      ⟨trivial, trivial⟩ ?_
    refine W.seq ?_
    refine W.K cok tab31 hnt [] [0, 3, 8] (⟨[(0, .sl (.calls h)), (3, .i (0 : Int)), (8, .i (0 : Int))], [], [999]⟩)
      (True ∧ True) (by kernel_rfl)
      ⟨trivial, trivial⟩ ?_
    refine W.block ?_
    refine W.loop (ι := Int × Nat) (fun (x : Int × Nat) => match x with | (most, t) => (⟨[(0, .sl (.calls h)), (3, .i most), (8, .i ((t : Nat) : Int))], [], [999]⟩ : St))
      (fun (x : Int × Nat) => match x with | (most, t) => (t ≤ 31) ∧ (most = maxN t (fun tt => openAt h ((tt : Nat) : Int))))
      (fun (x : Int × Nat) => match x with | (most, t) => (31 - t : Nat)) ((0 : Int), 0) ?_ ?_ ?_
    · exact (show (0 ≤ 31) ∧ ((0 : Int) = maxN 0 (fun tt => openAt h ((tt : Nat) : Int))) from ⟨(by first | assumption | omega | rfl | (intro _ hjj; omega) | (simp; done) | (simp; omega)), (by rfl)⟩)
    · exact Sub.of [] (@cast ((((.calls h : Dat) = .calls h) ∧ (((.int .i64 (0 : Int) : Value) = .int .i64 (0 : Int)) ∧ (((.int .i64 (0 : Int) : Value) = .int .i64 ((0 : Nat) : Int)) ∧ True))) ∧ (True ∧ ((true = true) ∧ (true = true)))) _ (by kernel_rfl) ⟨⟨rfl, ⟨rfl, ⟨(congrArg (Value.int .i64) (by first | rfl | omega | assumption | simp | simp_all)), trivial⟩⟩⟩, ⟨trivial, ⟨rfl, rfl⟩⟩⟩)
    · rintro ⟨most, t⟩ hC0
      have hC : (t ≤ 31) ∧ (most = maxN t (fun tt => openAt h ((tt : Nat) : Int))) := hC0
      clear hC0
      obtain ⟨ht, hm⟩ := hC
      refine W.to (⟨[(0, .sl (.calls h)), (3, .i most), (8, .i ((t : Nat) : Int))], [], [999]⟩) rfl ?_
      refine W.K cok tab31 hnt [] [0, 3, 8, 9] (⟨[(0, .sl (.calls h)), (3, .i most), (8, .i ((t : Nat) : Int)), (9, .b (decide (((t : Nat) : Int) < (31 : Int))))], [], [999]⟩)
        ((True ∧ (True ∧ True)) ∧ True) (by kernel_rfl)
        ⟨⟨trivial, ⟨trivial, trivial⟩⟩, trivial⟩ ?_
      refine W.seq ?_
      refine W.ifP (((t : Nat) : Int) < (31 : Int)) (.b (decide (((t : Nat) : Int) < (31 : Int)))) (by kernel_rfl) rfl trivial ?_ ?_
      · intro h9
        refine W.skip (thenQ_normal ?_)
        refine W.seq ?_
        refine W.block ?_
        refine W.K cok tab31 hnt [] [0, 3, 4, 8] (⟨[(0, .sl (.calls h)), (3, .i most), (4, .i ((t : Nat) : Int)), (8, .i ((t : Nat) : Int))], [], [999]⟩)
          (True ∧ (True ∧ True)) (by kernel_rfl)
          ⟨trivial, ⟨trivial, trivial⟩⟩ ?_
        refine W.L cok tab31 hnt [] (⟨[(0, .sl (.calls h)), (3, .i (max most (openAt h ((t : Nat) : Int)))), (4, .i ((t : Nat) : Int)), (8, .i ((t : Nat) : Int)), (11, .i most), (12, .sl (.calls h)), (13, .i ((t : Nat) : Int)), (14, .i (openAt h ((t : Nat) : Int))), (15, .i (max most (openAt h ((t : Nat) : Int))))], [], [999]⟩)
          (True ∧ (True ∧ (True ∧ ((True ∧ ((True ∧ (True ∧ True)) ∧ True)) ∧ ((True ∧ True) ∧ (True ∧ True)))))) (by kernel_rfl)
          ⟨trivial, ⟨trivial, ⟨trivial, ⟨⟨trivial, ⟨⟨trivial, ⟨trivial, trivial⟩⟩, trivial⟩⟩, ⟨⟨trivial, trivial⟩, ⟨trivial, trivial⟩⟩⟩⟩⟩⟩ ?_
        refine blockQ_normal (thenQ_normal ?_)
        refine W.L cok tab31 hnt [] (⟨[(0, .sl (.calls h)), (3, .i (max most (openAt h ((t : Nat) : Int)))), (4, .i ((t : Nat) : Int)), (8, .i (((t + 1) : Nat) : Int)), (11, .i most), (12, .sl (.calls h)), (13, .i ((t : Nat) : Int)), (14, .i (openAt h ((t : Nat) : Int))), (15, .i (max most (openAt h ((t : Nat) : Int)))), (16, .i (((t + 1) : Nat) : Int))], [], [999]⟩)
          ((True ∧ (True ∧ (Fits .i64 (((t + 1) : Nat) : Int)))) ∧ (True ∧ True)) (by kernel_rfl)
          ⟨⟨trivial, ⟨trivial, (by exact fits_i64 (by omega) (by omega))⟩⟩, ⟨trivial, trivial⟩⟩ ?_
        refine thenQ_normal ?_
        refine ⟨((max most (openAt h ((t : Nat) : Int))), (t + 1)), (show ((t + 1) ≤ 31) ∧ ((max most (openAt h ((t : Nat) : Int))) = maxN (t + 1) (fun tt => openAt h ((tt : Nat) : Int))) from ⟨(by first | assumption | omega | rfl | (intro _ hjj; omega) | (simp; done) | (simp; omega)), (by rw [hm]; rfl)⟩), (show 31 - (t + 1) < 31 - t from (by first | omega | (simp_all; omega))), ?_⟩
        exact Sub.of [] (@cast ((((.calls h : Dat) = .calls h) ∧ (((.int .i64 (max most (openAt h ((t : Nat) : Int))) : Value) = .int .i64 (max most (openAt h ((t : Nat) : Int)))) ∧ (((.int .i64 (((t + 1) : Nat) : Int) : Value) = .int .i64 (((t + 1) : Nat) : Int)) ∧ True))) ∧ (True ∧ ((true = true) ∧ (true = true)))) _ (by kernel_rfl) ⟨⟨rfl, ⟨rfl, ⟨rfl, trivial⟩⟩⟩, ⟨trivial, ⟨rfl, rfl⟩⟩⟩)
      · intro n9
        refine W.exit (thenQ_exit (thenQ_exit (blockQ_hit ?_)))
        refine thenQ_normal ?_
        refine W.K cok tab31 hnt [] [2] (⟨[(2, .i most)], [], [999]⟩)
          (True ∧ (True ∧ True)) (by kernel_rfl)
          ⟨trivial, ⟨trivial, trivial⟩⟩ ?_
        refine W.ret ?_
        exact endQ_ret (.i most) (by kernel_rfl) (@cast ((.int .i64 most : Value) = .int .i64 (widthOf h)) _ (by kernel_rfl) (congrArg (Value.int .i64) (by unfold widthOf; rw [not_g n7, hm, show t = 31 by omega]; rfl)))
theorem ent31 : Entr prog 31 := ⟨_, func31, rfl, by decide⟩

end Go.Proofs.Try
