import Derived.Test.YthjkiipikpiepaaDS
import Derived.Test.YthjkiipikpiepaaM8
import Derived.Test.YthjkiipikpiepaaDP7
set_option linter.unusedSimpArgs false
set_option linter.unusedVariables false
namespace Go.Proofs.Try
open Go.Ab Go.RowKit
/-- impl.TotalOf -/
def fs8 : FnS := fnS [.a [some .ints, some .ints, none, none, none, some .marks]] [.copy] (fun _ (c, _) => (.i (totalOf c), [], True))
abbrev T8 : Tab := lk [(7, fs7)]
theorem tab8 : TabOK prog T8 := (TabOK.cons ok7 ent7 TabOK.nil)
set_option maxRecDepth 100000 in
set_option maxHeartbeats 1000000 in
theorem ok8 : FnOK prog 8 fs8 := by
  refine FnOK.mk cok func8 rfl rfl rfl ?_
  rintro fl ⟨(c : CopyD), _⟩ hpre F hnt0 _
  have hnt : F.nt = 27 := hnt0.trans ntmps8
  clear hpre
  refine W.to (⟨[(0, .agg [.sl (.ints c.up), .sl (.ints c.down), .i c.value, .i c.time, .i c.proc, .sl (.marks c.marks)])], [], [999]⟩) rfl ?_
  refine W.lenA 0 0 [.sl (.ints c.up), .sl (.ints c.down), .i c.value, .i c.time, .i c.proc, .sl (.marks c.marks)] (.ints c.up) (by kernel_rfl) (by kernel_rfl) ?_
  intro hl_c_up; replace hl_c_up : List.length c.up ≤ 9223372036854775807 := hl_c_up
  refine W.lenA 0 1 [.sl (.ints c.up), .sl (.ints c.down), .i c.value, .i c.time, .i c.proc, .sl (.marks c.marks)] (.ints c.down) (by kernel_rfl) (by kernel_rfl) ?_
  intro hl_c_down; replace hl_c_down : List.length c.down ≤ 9223372036854775807 := hl_c_down
  refine W.lenA 0 5 [.sl (.ints c.up), .sl (.ints c.down), .i c.value, .i c.time, .i c.proc, .sl (.marks c.marks)] (.marks c.marks) (by kernel_rfl) (by kernel_rfl) ?_
  intro hl_c_marks; replace hl_c_marks : List.length c.marks ≤ 9223372036854775807 := hl_c_marks
  refine W.K cok tab8 hnt [] [1] (⟨[(1, .ptr 1 0)], [(1, ⟨26, .fix [.sl (.ints c.up), .sl (.ints c.down), .i c.value, .i c.time, .i c.proc, .sl (.marks c.marks)]⟩)], [1, 999]⟩)
    (True ∧ (True ∧ True)) (by kernel_rfl)
    ⟨trivial, ⟨trivial, trivial⟩⟩ ?_
  refine W.K cok tab8 hnt [] [1, 3] (⟨[(1, .ptr 1 0), (3, .i (0 : Int))], [(1, ⟨26, .fix [.sl (.ints c.up), .sl (.ints c.down), .i c.value, .i c.time, .i c.proc, .sl (.marks c.marks)]⟩)], [1, 999]⟩)
    (True ∧ True) (by kernel_rfl)
    ⟨trivial, trivial⟩ ?_
  refine W.seq ?_
  refine W.K cok tab8 hnt [] [1, 3, 7] (⟨[(1, .ptr 1 0), (3, .i (0 : Int)), (7, .b (!(validCopy c)))], [(1, ⟨26, .fix [.sl (.ints c.up), .sl (.ints c.down), .i c.value, .i c.time, .i c.proc, .sl (.marks c.marks)]⟩)], [1, 999]⟩)
    (True ∧ ((True ∧ (((True ∧ (True ∧ (True ∧ (True ∧ (True ∧ (True ∧ (True ∧ True))))))) ∧ True) ∧ True)) ∧ (True ∧ True))) (by kernel_rfl)
    ⟨trivial, ⟨⟨trivial, ⟨⟨⟨trivial, ⟨trivial, ⟨trivial, ⟨trivial, ⟨trivial, ⟨trivial, ⟨trivial, trivial⟩⟩⟩⟩⟩⟩⟩, trivial⟩, trivial⟩⟩, ⟨trivial, trivial⟩⟩⟩ ?_
  refine W.if' (!(validCopy c)) (.b (!(validCopy c))) (by kernel_rfl) rfl trivial ?_ ?_
  · intro h7
    refine W.K cok tab8 hnt [] [2] (⟨[(2, .i (0 : Int))], [(1, ⟨26, .fix [.sl (.ints c.up), .sl (.ints c.down), .i c.value, .i c.time, .i c.proc, .sl (.marks c.marks)]⟩)], [1, 999]⟩)
      (True ∧ (True ∧ True)) (by kernel_rfl)
      ⟨trivial, ⟨trivial, trivial⟩⟩ ?_
    refine W.ret (thenQ_ret ?_)
    exact endQ_ret (.i (0 : Int)) (by kernel_rfl) (@cast ((.int .i64 (0 : Int) : Value) = .int .i64 (totalOf c)) _ (by kernel_rfl) (congrArg (Value.int .i64) (by unfold totalOf; rw [not_f h7]; try rfl)))
  · intro n7
    refine W.skip (thenQ_normal ?_)
    refine W.seq ?_
    refine W.K cok tab8 hnt [] [1, 3, 9] (⟨[(1, .ptr 1 0), (3, .i (0 : Int)), (9, .i (0 : Int))], [(1, ⟨26, .fix [.sl (.ints c.up), .sl (.ints c.down), .i c.value, .i c.time, .i c.proc, .sl (.marks c.marks)]⟩)], [1, 999]⟩)
      (True ∧ True) (by kernel_rfl)
      ⟨trivial, trivial⟩ ?_
    refine W.block ?_
    refine W.loop (ι := Int × Nat) (fun (x : Int × Nat) => match x with | (x, k) => (⟨[(1, .ptr 1 0), (3, .i x), (9, .i ((k : Nat) : Int))], [(1, ⟨26, .fix [.sl (.ints c.up), .sl (.ints c.down), .i c.value, .i c.time, .i c.proc, .sl (.marks c.marks)]⟩)], [1, 999]⟩ : St))
      (fun (x : Int × Nat) => match x with | (x, k) => (k ≤ 3) ∧ (x = sumN k (fun jj => c.up.getD jj 0 - c.down.getD jj 0)))
      (fun (x : Int × Nat) => match x with | (x, k) => (3 - k : Nat)) ((0 : Int), 0) ?_ ?_ ?_
    · exact (show (0 ≤ 3) ∧ ((0 : Int) = sumN 0 (fun jj => c.up.getD jj 0 - c.down.getD jj 0)) from ⟨(by first | assumption | omega | rfl | (intro _ hjj; omega) | (simp; done) | (simp; omega)), (by rfl)⟩)
    · exact Sub.of [] (@cast (((((1 : Nat) = 1) ∧ (((0 : Nat) = 0) ∧ ((1 : Nat) ∈ ([1, 999] : List Nat)))) ∧ (((.int .i64 (0 : Int) : Value) = .int .i64 (0 : Int)) ∧ (((.int .i64 (0 : Int) : Value) = .int .i64 ((0 : Nat) : Int)) ∧ True))) ∧ (((((26 : Nat) = 26) ∧ ((((.ints c.up : Dat) = .ints c.up) ∧ (((.ints c.down : Dat) = .ints c.down) ∧ (((.int .i64 c.value : Value) = .int .i64 c.value) ∧ (((.int .i64 c.time : Value) = .int .i64 c.time) ∧ (((.int .i64 c.proc : Value) = .int .i64 c.proc) ∧ (((.marks c.marks : Dat) = .marks c.marks) ∧ True)))))) ∧ ((1 : Nat) ∈ ([1, 999] : List Nat)))) ∧ True) ∧ ((true = true) ∧ (true = true)))) _ (by kernel_rfl) ⟨⟨⟨rfl, ⟨rfl, (by decide)⟩⟩, ⟨rfl, ⟨(congrArg (Value.int .i64) (by first | rfl | omega | assumption | simp | simp_all)), trivial⟩⟩⟩, ⟨⟨⟨rfl, ⟨⟨rfl, ⟨rfl, ⟨rfl, ⟨rfl, ⟨rfl, ⟨rfl, trivial⟩⟩⟩⟩⟩⟩, (by decide)⟩⟩, trivial⟩, ⟨rfl, rfl⟩⟩⟩)
    · rintro ⟨x, k⟩ hC0
      have hC : (k ≤ 3) ∧ (x = sumN k (fun jj => c.up.getD jj 0 - c.down.getD jj 0)) := hC0
      clear hC0
      obtain ⟨hk, hx⟩ := hC
      refine W.to (⟨[(1, .ptr 1 0), (3, .i x), (9, .i ((k : Nat) : Int))], [(1, ⟨26, .fix [.sl (.ints c.up), .sl (.ints c.down), .i c.value, .i c.time, .i c.proc, .sl (.marks c.marks)]⟩)], [1, 999]⟩) rfl ?_
      have hl := up_len (not_g n7)
      have hb := sum3_bnd (not_g n7) hk
      have hu1 := hl.2.2.1 k
      have hd1 := hl.2.2.2.1 k
      refine W.K cok tab8 hnt [] [1, 3, 9, 10] (⟨[(1, .ptr 1 0), (3, .i x), (9, .i ((k : Nat) : Int)), (10, .b (decide (((k : Nat) : Int) < (3 : Int))))], [(1, ⟨26, .fix [.sl (.ints c.up), .sl (.ints c.down), .i c.value, .i c.time, .i c.proc, .sl (.marks c.marks)]⟩)], [1, 999]⟩)
        ((True ∧ (True ∧ True)) ∧ True) (by kernel_rfl)
        ⟨⟨trivial, ⟨trivial, trivial⟩⟩, trivial⟩ ?_
      refine W.seq ?_
      refine W.ifP (((k : Nat) : Int) < (3 : Int)) (.b (decide (((k : Nat) : Int) < (3 : Int)))) (by kernel_rfl) rfl trivial ?_ ?_
      · intro h10
        refine W.skip (thenQ_normal ?_)
        refine W.seq ?_
        refine W.block ?_
        refine W.K cok tab8 hnt [] [1, 3, 4, 9] (⟨[(1, .ptr 1 0), (3, .i x), (4, .i ((k : Nat) : Int)), (9, .i ((k : Nat) : Int))], [(1, ⟨26, .fix [.sl (.ints c.up), .sl (.ints c.down), .i c.value, .i c.time, .i c.proc, .sl (.marks c.marks)]⟩)], [1, 999]⟩)
          (True ∧ (True ∧ True)) (by kernel_rfl)
          ⟨trivial, ⟨trivial, trivial⟩⟩ ?_
        refine W.LA cok tab8 hnt [] (⟨[(1, .ptr 1 0), (3, .i (x + ((List.getD c.up k 0) - (List.getD c.down k 0)))), (4, .i ((k : Nat) : Int)), (9, .i ((k : Nat) : Int)), (12, .i x), (13, .ptr 1 0), (14, .sl (.ints c.up)), (15, .i ((k : Nat) : Int)), (16, .ep [.i (List.getD c.up k 0)]), (17, .i (List.getD c.up k 0)), (18, .ptr 1 1), (19, .sl (.ints c.down)), (20, .i ((k : Nat) : Int)), (21, .ep [.i (List.getD c.down k 0)]), (22, .i (List.getD c.down k 0)), (23, .i ((List.getD c.up k 0) - (List.getD c.down k 0))), (24, .i (x + ((List.getD c.up k 0) - (List.getD c.down k 0))))], [(1, ⟨26, .fix [.sl (.ints c.up), .sl (.ints c.down), .i c.value, .i c.time, .i c.proc, .sl (.marks c.marks)]⟩)], [1, 999]⟩)
          (True ∧ (True ∧ (True ∧ (True ∧ ((True ∧ (True ∧ ((0 ≤ ((k : Nat) : Int)) ∧ (((k : Nat) : Int) < (((List.length c.up) : Nat) : Int))))) ∧ (True ∧ (True ∧ (True ∧ (True ∧ ((True ∧ (True ∧ ((0 ≤ ((k : Nat) : Int)) ∧ (((k : Nat) : Int) < (((List.length c.down) : Nat) : Int))))) ∧ (True ∧ ((True ∧ (True ∧ (Fits .i64 ((List.getD c.up k 0) - (List.getD c.down k 0))))) ∧ ((True ∧ (True ∧ (Fits .i64 (x + ((List.getD c.up k 0) - (List.getD c.down k 0)))))) ∧ (True ∧ True)))))))))))))) (by kernel_rfl) (by kernel_rfl)
          ⟨trivial, ⟨trivial, ⟨trivial, ⟨trivial, ⟨⟨trivial, ⟨trivial, ⟨(by omega), (by omega)⟩⟩⟩, ⟨trivial, ⟨trivial, ⟨trivial, ⟨trivial, ⟨⟨trivial, ⟨trivial, ⟨(by omega), (by omega)⟩⟩⟩, ⟨trivial, ⟨⟨trivial, ⟨trivial, (by exact fits_i64 (by (first | omega | (simp only [List.length_append, List.length_cons, List.length_nil, List.length_take, List.length_drop, List.length_set, List.length_replicate, List.length_map] at *; omega) | assumption)) (by (first | omega | (simp only [List.length_append, List.length_cons, List.length_nil, List.length_take, List.length_drop, List.length_set, List.length_replicate, List.length_map] at *; omega) | assumption)))⟩⟩, ⟨⟨trivial, ⟨trivial, (by exact fits_i64 (by (first | omega | (simp only [List.length_append, List.length_cons, List.length_nil, List.length_take, List.length_drop, List.length_set, List.length_replicate, List.length_map] at *; omega) | assumption)) (by (first | omega | (simp only [List.length_append, List.length_cons, List.length_nil, List.length_take, List.length_drop, List.length_set, List.length_replicate, List.length_map] at *; omega) | assumption)))⟩⟩, ⟨trivial, trivial⟩⟩⟩⟩⟩⟩⟩⟩⟩⟩⟩⟩⟩⟩ ?_
        refine blockQ_normal (thenQ_normal ?_)
        refine W.L cok tab8 hnt [] (⟨[(1, .ptr 1 0), (3, .i (x + ((List.getD c.up k 0) - (List.getD c.down k 0)))), (4, .i ((k : Nat) : Int)), (9, .i (((k + 1) : Nat) : Int)), (12, .i x), (13, .ptr 1 0), (14, .sl (.ints c.up)), (15, .i ((k : Nat) : Int)), (16, .ep [.i (List.getD c.up k 0)]), (17, .i (List.getD c.up k 0)), (18, .ptr 1 1), (19, .sl (.ints c.down)), (20, .i ((k : Nat) : Int)), (21, .ep [.i (List.getD c.down k 0)]), (22, .i (List.getD c.down k 0)), (23, .i ((List.getD c.up k 0) - (List.getD c.down k 0))), (24, .i (x + ((List.getD c.up k 0) - (List.getD c.down k 0)))), (25, .i (((k + 1) : Nat) : Int))], [(1, ⟨26, .fix [.sl (.ints c.up), .sl (.ints c.down), .i c.value, .i c.time, .i c.proc, .sl (.marks c.marks)]⟩)], [1, 999]⟩)
          ((True ∧ (True ∧ (Fits .i64 (((k + 1) : Nat) : Int)))) ∧ (True ∧ True)) (by kernel_rfl)
          ⟨⟨trivial, ⟨trivial, (by exact fits_i64 (by omega) (by omega))⟩⟩, ⟨trivial, trivial⟩⟩ ?_
        refine thenQ_normal ?_
        refine ⟨((x + ((List.getD c.up k 0) - (List.getD c.down k 0))), (k + 1)), (show ((k + 1) ≤ 3) ∧ ((x + ((List.getD c.up k 0) - (List.getD c.down k 0))) = sumN (k + 1) (fun jj => c.up.getD jj 0 - c.down.getD jj 0)) from ⟨(by first | assumption | omega | rfl | (intro _ hjj; omega) | (simp; done) | (simp; omega)), (by rw [hx]; simp only [sumN]; try omega)⟩), (show 3 - (k + 1) < 3 - k from (by first | omega | (simp_all; omega))), ?_⟩
        exact Sub.of [] (@cast (((((1 : Nat) = 1) ∧ (((0 : Nat) = 0) ∧ ((1 : Nat) ∈ ([1, 999] : List Nat)))) ∧ (((.int .i64 (x + ((List.getD c.up k 0) - (List.getD c.down k 0))) : Value) = .int .i64 (x + ((List.getD c.up k 0) - (List.getD c.down k 0)))) ∧ (((.int .i64 (((k + 1) : Nat) : Int) : Value) = .int .i64 (((k + 1) : Nat) : Int)) ∧ True))) ∧ (((((26 : Nat) = 26) ∧ ((((.ints c.up : Dat) = .ints c.up) ∧ (((.ints c.down : Dat) = .ints c.down) ∧ (((.int .i64 c.value : Value) = .int .i64 c.value) ∧ (((.int .i64 c.time : Value) = .int .i64 c.time) ∧ (((.int .i64 c.proc : Value) = .int .i64 c.proc) ∧ (((.marks c.marks : Dat) = .marks c.marks) ∧ True)))))) ∧ ((1 : Nat) ∈ ([1, 999] : List Nat)))) ∧ True) ∧ ((true = true) ∧ (true = true)))) _ (by kernel_rfl) ⟨⟨⟨rfl, ⟨rfl, (by decide)⟩⟩, ⟨rfl, ⟨rfl, trivial⟩⟩⟩, ⟨⟨⟨rfl, ⟨⟨rfl, ⟨rfl, ⟨rfl, ⟨rfl, ⟨rfl, ⟨rfl, trivial⟩⟩⟩⟩⟩⟩, (by decide)⟩⟩, trivial⟩, ⟨rfl, rfl⟩⟩⟩)
      · intro n10
        refine W.exit (thenQ_exit (thenQ_exit (blockQ_hit ?_)))
        refine thenQ_normal ?_
        refine W.K cok tab8 hnt [] [2] (⟨[(2, .i x)], [(1, ⟨26, .fix [.sl (.ints c.up), .sl (.ints c.down), .i c.value, .i c.time, .i c.proc, .sl (.marks c.marks)]⟩)], [1, 999]⟩)
          (True ∧ (True ∧ True)) (by kernel_rfl)
          ⟨trivial, ⟨trivial, trivial⟩⟩ ?_
        refine W.ret ?_
        exact endQ_ret (.i x) (by kernel_rfl) (@cast ((.int .i64 x : Value) = .int .i64 (totalOf c)) _ (by kernel_rfl) (congrArg (Value.int .i64) (by unfold totalOf; rw [not_g n7, hx, show k = 3 by omega]; try rfl)))
theorem ent8 : Entr prog 8 := ⟨_, func8, rfl, by decide⟩

end Go.Proofs.Try
