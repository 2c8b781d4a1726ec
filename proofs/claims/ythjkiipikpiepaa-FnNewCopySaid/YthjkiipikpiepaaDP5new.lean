import Derived.Test.YthjkiipikpiepaaDS
import Derived.Test.YthjkiipikpiepaaM9
import Derived.Test.YthjkiipikpiepaaDP10
set_option linter.unusedSimpArgs false
set_option linter.unusedVariables false
namespace Go.Proofs.Try
open Go.Ab Go.RowKit
/-- laws.equalCopy@new -/
def fs5new : FnS := fnS [.a [some .ints, some .ints, none, none, none, some .marks], .a [some .ints, some .ints, none, none, none, some .marks]] [.copy, .copy] (fun _ (a, b, _) => (.b ((((decide (a.up = b.up) && decide (a.down = b.down)) && decide (a.value = b.value)) && decide (a.time = b.time)) && decide (a.proc = b.proc)), [], (a.marks.length = 0) ∧ (b.marks.length = 0)))
abbrev T5new : Tab := lk [(10, fs10)]
theorem tab5new : TabOK prog T5new := (TabOK.cons ok10 ent10 TabOK.nil)
set_option maxRecDepth 100000 in
set_option maxHeartbeats 1000000 in
theorem ok5new : FnOK prog 5 fs5new := by
  refine FnOK.mk cok func5 rfl rfl rfl ?_
  rintro fl ⟨(a : CopyD), (b : CopyD), _⟩ hpre F hnt0 _
  have hnt : F.nt = 64 := hnt0.trans ntmps5
  replace hpre : (a.marks.length = 0) ∧ (b.marks.length = 0) := hpre
  obtain ⟨ha, hb⟩ := hpre
  refine W.to (⟨[(0, .agg [.sl (.ints a.up), .sl (.ints a.down), .i a.value, .i a.time, .i a.proc, .sl (.marks a.marks)]), (1, .agg [.sl (.ints b.up), .sl (.ints b.down), .i b.value, .i b.time, .i b.proc, .sl (.marks b.marks)])], [], [999]⟩) rfl ?_
  refine W.lenA 0 0 [.sl (.ints a.up), .sl (.ints a.down), .i a.value, .i a.time, .i a.proc, .sl (.marks a.marks)] (.ints a.up) (by kernel_rfl) (by kernel_rfl) ?_
  intro hl_a_up; replace hl_a_up : List.length a.up ≤ 9223372036854775807 := hl_a_up
  refine W.lenA 0 1 [.sl (.ints a.up), .sl (.ints a.down), .i a.value, .i a.time, .i a.proc, .sl (.marks a.marks)] (.ints a.down) (by kernel_rfl) (by kernel_rfl) ?_
  intro hl_a_down; replace hl_a_down : List.length a.down ≤ 9223372036854775807 := hl_a_down
  refine W.lenA 0 5 [.sl (.ints a.up), .sl (.ints a.down), .i a.value, .i a.time, .i a.proc, .sl (.marks a.marks)] (.marks a.marks) (by kernel_rfl) (by kernel_rfl) ?_
  intro hl_a_marks; replace hl_a_marks : List.length a.marks ≤ 9223372036854775807 := hl_a_marks
  refine W.lenA 1 0 [.sl (.ints b.up), .sl (.ints b.down), .i b.value, .i b.time, .i b.proc, .sl (.marks b.marks)] (.ints b.up) (by kernel_rfl) (by kernel_rfl) ?_
  intro hl_b_up; replace hl_b_up : List.length b.up ≤ 9223372036854775807 := hl_b_up
  refine W.lenA 1 1 [.sl (.ints b.up), .sl (.ints b.down), .i b.value, .i b.time, .i b.proc, .sl (.marks b.marks)] (.ints b.down) (by kernel_rfl) (by kernel_rfl) ?_
  intro hl_b_down; replace hl_b_down : List.length b.down ≤ 9223372036854775807 := hl_b_down
  refine W.lenA 1 5 [.sl (.ints b.up), .sl (.ints b.down), .i b.value, .i b.time, .i b.proc, .sl (.marks b.marks)] (.marks b.marks) (by kernel_rfl) (by kernel_rfl) ?_
  intro hl_b_marks; replace hl_b_marks : List.length b.marks ≤ 9223372036854775807 := hl_b_marks
  refine W.K cok tab5new hnt [] [2, 3] (⟨[(2, .ptr 2 0), (3, .ptr 3 0)], [(2, ⟨26, .fix [.sl (.ints a.up), .sl (.ints a.down), .i a.value, .i a.time, .i a.proc, .sl (.marks a.marks)]⟩), (3, ⟨26, .fix [.sl (.ints b.up), .sl (.ints b.down), .i b.value, .i b.time, .i b.proc, .sl (.marks b.marks)]⟩)], [3, 2, 999]⟩)
    (True ∧ (True ∧ (True ∧ True))) (by kernel_rfl)
    ⟨trivial, ⟨trivial, ⟨trivial, trivial⟩⟩⟩ ?_
  refine W.seq ?_
  refine W.K cok tab5new hnt [] [2, 3, 12] (⟨[(2, .ptr 2 0), (3, .ptr 3 0), (12, .b (decide ((((List.length a.marks) : Nat) : Int) ≠ (((List.length b.marks) : Nat) : Int))))], [(2, ⟨26, .fix [.sl (.ints a.up), .sl (.ints a.down), .i a.value, .i a.time, .i a.proc, .sl (.marks a.marks)]⟩), (3, ⟨26, .fix [.sl (.ints b.up), .sl (.ints b.down), .i b.value, .i b.time, .i b.proc, .sl (.marks b.marks)]⟩)], [3, 2, 999]⟩)
    (True ∧ (True ∧ (True ∧ (True ∧ (True ∧ (True ∧ ((True ∧ (True ∧ True)) ∧ True))))))) (by kernel_rfl)
    ⟨trivial, ⟨trivial, ⟨trivial, ⟨trivial, ⟨trivial, ⟨trivial, ⟨⟨trivial, ⟨trivial, trivial⟩⟩, trivial⟩⟩⟩⟩⟩⟩⟩ ?_
  refine W.ifP ((((List.length a.marks) : Nat) : Int) ≠ (((List.length b.marks) : Nat) : Int)) (.b (decide ((((List.length a.marks) : Nat) : Int) ≠ (((List.length b.marks) : Nat) : Int)))) (by kernel_rfl) rfl trivial ?_ ?_
  · intro h12
    exact (show False from (by omega)).elim
  · intro n12
    refine W.skip (thenQ_normal ?_)
    refine W.seq ?_
    refine W.K cok tab5new hnt [] [2, 3, 5] (⟨[(2, .ptr 2 0), (3, .ptr 3 0), (5, .i (0 : Int))], [(2, ⟨26, .fix [.sl (.ints a.up), .sl (.ints a.down), .i a.value, .i a.time, .i a.proc, .sl (.marks a.marks)]⟩), (3, ⟨26, .fix [.sl (.ints b.up), .sl (.ints b.down), .i b.value, .i b.time, .i b.proc, .sl (.marks b.marks)]⟩)], [3, 2, 999]⟩)
      (True ∧ True) (by kernel_rfl)
      ⟨trivial, trivial⟩ ?_
    refine W.block ?_
    refine W.loop (ι := Nat) (fun (i : Nat) => (⟨[(2, .ptr 2 0), (3, .ptr 3 0), (5, .i ((i : Nat) : Int))], [(2, ⟨26, .fix [.sl (.ints a.up), .sl (.ints a.down), .i a.value, .i a.time, .i a.proc, .sl (.marks a.marks)]⟩), (3, ⟨26, .fix [.sl (.ints b.up), .sl (.ints b.down), .i b.value, .i b.time, .i b.proc, .sl (.marks b.marks)]⟩)], [2, 3, 999]⟩ : St))
      (fun (i : Nat) => (i = 0))
      (fun (i : Nat) => (0 : Nat)) (0) ?_ ?_ ?_
    · exact (show (0 = 0) from (by first | assumption | omega | rfl | (intro _ hjj; omega) | (simp; done) | (simp; omega)))
    · exact Sub.of [] (@cast (((((2 : Nat) = 2) ∧ (((0 : Nat) = 0) ∧ ((2 : Nat) ∈ ([2, 3, 999] : List Nat)))) ∧ ((((3 : Nat) = 3) ∧ (((0 : Nat) = 0) ∧ ((3 : Nat) ∈ ([2, 3, 999] : List Nat)))) ∧ (((.int .i64 (0 : Int) : Value) = .int .i64 ((0 : Nat) : Int)) ∧ True))) ∧ (((((26 : Nat) = 26) ∧ ((((.ints a.up : Dat) = .ints a.up) ∧ (((.ints a.down : Dat) = .ints a.down) ∧ (((.int .i64 a.value : Value) = .int .i64 a.value) ∧ (((.int .i64 a.time : Value) = .int .i64 a.time) ∧ (((.int .i64 a.proc : Value) = .int .i64 a.proc) ∧ (((.marks a.marks : Dat) = .marks a.marks) ∧ True)))))) ∧ ((2 : Nat) ∈ ([2, 3, 999] : List Nat)))) ∧ ((((26 : Nat) = 26) ∧ ((((.ints b.up : Dat) = .ints b.up) ∧ (((.ints b.down : Dat) = .ints b.down) ∧ (((.int .i64 b.value : Value) = .int .i64 b.value) ∧ (((.int .i64 b.time : Value) = .int .i64 b.time) ∧ (((.int .i64 b.proc : Value) = .int .i64 b.proc) ∧ (((.marks b.marks : Dat) = .marks b.marks) ∧ True)))))) ∧ ((3 : Nat) ∈ ([2, 3, 999] : List Nat)))) ∧ True)) ∧ ((true = true) ∧ (true = true)))) _ (by kernel_rfl) ⟨⟨⟨rfl, ⟨rfl, (by decide)⟩⟩, ⟨⟨rfl, ⟨rfl, (by decide)⟩⟩, ⟨(congrArg (Value.int .i64) (by first | rfl | omega | assumption | simp | simp_all)), trivial⟩⟩⟩, ⟨⟨⟨rfl, ⟨⟨rfl, ⟨rfl, ⟨rfl, ⟨rfl, ⟨rfl, ⟨rfl, trivial⟩⟩⟩⟩⟩⟩, (by decide)⟩⟩, ⟨⟨rfl, ⟨⟨rfl, ⟨rfl, ⟨rfl, ⟨rfl, ⟨rfl, ⟨rfl, trivial⟩⟩⟩⟩⟩⟩, (by decide)⟩⟩, trivial⟩⟩, ⟨rfl, rfl⟩⟩⟩)
    · rintro i hC0
      have hC : (i = 0) := hC0
      clear hC0
      obtain hi := hC
      refine W.to (⟨[(2, .ptr 2 0), (3, .ptr 3 0), (5, .i ((i : Nat) : Int))], [(2, ⟨26, .fix [.sl (.ints a.up), .sl (.ints a.down), .i a.value, .i a.time, .i a.proc, .sl (.marks a.marks)]⟩), (3, ⟨26, .fix [.sl (.ints b.up), .sl (.ints b.down), .i b.value, .i b.time, .i b.proc, .sl (.marks b.marks)]⟩)], [2, 3, 999]⟩) rfl ?_
      refine W.seq ?_
      refine W.K cok tab5new hnt [] [2, 3, 5, 17] (⟨[(2, .ptr 2 0), (3, .ptr 3 0), (5, .i ((i : Nat) : Int)), (17, .b (decide (((i : Nat) : Int) < (((List.length a.marks) : Nat) : Int))))], [(2, ⟨26, .fix [.sl (.ints a.up), .sl (.ints a.down), .i a.value, .i a.time, .i a.proc, .sl (.marks a.marks)]⟩), (3, ⟨26, .fix [.sl (.ints b.up), .sl (.ints b.down), .i b.value, .i b.time, .i b.proc, .sl (.marks b.marks)]⟩)], [2, 3, 999]⟩)
        (True ∧ (True ∧ (True ∧ (True ∧ ((True ∧ (True ∧ True)) ∧ True))))) (by kernel_rfl)
        ⟨trivial, ⟨trivial, ⟨trivial, ⟨trivial, ⟨⟨trivial, ⟨trivial, trivial⟩⟩, trivial⟩⟩⟩⟩⟩ ?_
      refine W.ifP (((i : Nat) : Int) < (((List.length a.marks) : Nat) : Int)) (.b (decide (((i : Nat) : Int) < (((List.length a.marks) : Nat) : Int)))) (by kernel_rfl) rfl trivial ?_ ?_
      · intro h17
        exact (show False from (by omega)).elim
      · intro n17
        refine W.exit (thenQ_exit (thenQ_exit (blockQ_hit ?_)))
        refine thenQ_normal ?_
        refine W.K cok tab5new hnt [] [4] (⟨[(4, .b (((((decide (a.up = b.up)) && (decide (a.down = b.down))) && (decide (a.value = b.value))) && (decide (a.time = b.time))) && (decide (a.proc = b.proc))))], [(2, ⟨26, .fix [.sl (.ints a.up), .sl (.ints a.down), .i a.value, .i a.time, .i a.proc, .sl (.marks a.marks)]⟩), (3, ⟨26, .fix [.sl (.ints b.up), .sl (.ints b.down), .i b.value, .i b.time, .i b.proc, .sl (.marks b.marks)]⟩)], [2, 3, 999]⟩)
          (True ∧ (True ∧ (True ∧ (True ∧ ((True ∧ ((True ∧ (True ∧ True)) ∧ True)) ∧ (True ∧ (((decide (a.up = b.up)) = true → True) ∧ (((decide (a.up = b.up)) = true → (((decide (a.up = b.up)) = true) ∧ True)) ∧ (((decide (a.up = b.up)) = true → True) ∧ (((decide (a.up = b.up)) = true → (((decide (a.up = b.up)) = true) ∧ True)) ∧ (((decide (a.up = b.up)) = true → (True ∧ (((((decide (a.up = b.up)) = true) ∧ True) ∧ ((((decide (a.up = b.up)) = true) ∧ True) ∧ True)) ∧ True))) ∧ ((True ∧ (((decide (a.up = b.up)) = true → ((decide (a.up = b.up)) = true) ∧ True) ∧ ((decide (a.up = b.up)) = false → True))) ∧ (True ∧ ((((decide (a.up = b.up)) && (decide (a.down = b.down))) = true → True) ∧ ((((decide (a.up = b.up)) && (decide (a.down = b.down))) = true → ((((decide (a.up = b.up)) && (decide (a.down = b.down))) = true) ∧ True)) ∧ ((((decide (a.up = b.up)) && (decide (a.down = b.down))) = true → True) ∧ ((((decide (a.up = b.up)) && (decide (a.down = b.down))) = true → ((((decide (a.up = b.up)) && (decide (a.down = b.down))) = true) ∧ True)) ∧ ((((decide (a.up = b.up)) && (decide (a.down = b.down))) = true → (((((decide (a.up = b.up)) && (decide (a.down = b.down))) = true) ∧ True) ∧ (((((decide (a.up = b.up)) && (decide (a.down = b.down))) = true) ∧ True) ∧ True))) ∧ ((True ∧ ((((decide (a.up = b.up)) && (decide (a.down = b.down))) = true → (((decide (a.up = b.up)) && (decide (a.down = b.down))) = true) ∧ True) ∧ (((decide (a.up = b.up)) && (decide (a.down = b.down))) = false → True))) ∧ (True ∧ (((((decide (a.up = b.up)) && (decide (a.down = b.down))) && (decide (a.value = b.value))) = true → True) ∧ (((((decide (a.up = b.up)) && (decide (a.down = b.down))) && (decide (a.value = b.value))) = true → (((((decide (a.up = b.up)) && (decide (a.down = b.down))) && (decide (a.value = b.value))) = true) ∧ True)) ∧ (((((decide (a.up = b.up)) && (decide (a.down = b.down))) && (decide (a.value = b.value))) = true → True) ∧ (((((decide (a.up = b.up)) && (decide (a.down = b.down))) && (decide (a.value = b.value))) = true → (((((decide (a.up = b.up)) && (decide (a.down = b.down))) && (decide (a.value = b.value))) = true) ∧ True)) ∧ (((((decide (a.up = b.up)) && (decide (a.down = b.down))) && (decide (a.value = b.value))) = true → ((((((decide (a.up = b.up)) && (decide (a.down = b.down))) && (decide (a.value = b.value))) = true) ∧ True) ∧ ((((((decide (a.up = b.up)) && (decide (a.down = b.down))) && (decide (a.value = b.value))) = true) ∧ True) ∧ True))) ∧ ((True ∧ (((((decide (a.up = b.up)) && (decide (a.down = b.down))) && (decide (a.value = b.value))) = true → ((((decide (a.up = b.up)) && (decide (a.down = b.down))) && (decide (a.value = b.value))) = true) ∧ True) ∧ ((((decide (a.up = b.up)) && (decide (a.down = b.down))) && (decide (a.value = b.value))) = false → True))) ∧ (True ∧ ((((((decide (a.up = b.up)) && (decide (a.down = b.down))) && (decide (a.value = b.value))) && (decide (a.time = b.time))) = true → True) ∧ ((((((decide (a.up = b.up)) && (decide (a.down = b.down))) && (decide (a.value = b.value))) && (decide (a.time = b.time))) = true → ((((((decide (a.up = b.up)) && (decide (a.down = b.down))) && (decide (a.value = b.value))) && (decide (a.time = b.time))) = true) ∧ True)) ∧ ((((((decide (a.up = b.up)) && (decide (a.down = b.down))) && (decide (a.value = b.value))) && (decide (a.time = b.time))) = true → True) ∧ ((((((decide (a.up = b.up)) && (decide (a.down = b.down))) && (decide (a.value = b.value))) && (decide (a.time = b.time))) = true → ((((((decide (a.up = b.up)) && (decide (a.down = b.down))) && (decide (a.value = b.value))) && (decide (a.time = b.time))) = true) ∧ True)) ∧ ((((((decide (a.up = b.up)) && (decide (a.down = b.down))) && (decide (a.value = b.value))) && (decide (a.time = b.time))) = true → (((((((decide (a.up = b.up)) && (decide (a.down = b.down))) && (decide (a.value = b.value))) && (decide (a.time = b.time))) = true) ∧ True) ∧ (((((((decide (a.up = b.up)) && (decide (a.down = b.down))) && (decide (a.value = b.value))) && (decide (a.time = b.time))) = true) ∧ True) ∧ True))) ∧ ((True ∧ ((((((decide (a.up = b.up)) && (decide (a.down = b.down))) && (decide (a.value = b.value))) && (decide (a.time = b.time))) = true → (((((decide (a.up = b.up)) && (decide (a.down = b.down))) && (decide (a.value = b.value))) && (decide (a.time = b.time))) = true) ∧ True) ∧ (((((decide (a.up = b.up)) && (decide (a.down = b.down))) && (decide (a.value = b.value))) && (decide (a.time = b.time))) = false → True))) ∧ (True ∧ True)))))))))))))))))))))))))))))))))) (by kernel_rfl)
          ⟨trivial, ⟨trivial, ⟨trivial, ⟨trivial, ⟨⟨trivial, ⟨⟨trivial, ⟨trivial, trivial⟩⟩, trivial⟩⟩, ⟨trivial, ⟨(fun _ => trivial), ⟨(fun hG => ⟨hG, trivial⟩), ⟨(fun _ => trivial), ⟨(fun hG => ⟨hG, trivial⟩), ⟨(fun hG => ⟨trivial, ⟨⟨⟨hG, trivial⟩, ⟨⟨hG, trivial⟩, trivial⟩⟩, trivial⟩⟩), ⟨⟨trivial, ⟨(fun hp => ⟨hp, trivial⟩), (fun _ => trivial)⟩⟩, ⟨trivial, ⟨(fun _ => trivial), ⟨(fun hG => ⟨hG, trivial⟩), ⟨(fun _ => trivial), ⟨(fun hG => ⟨hG, trivial⟩), ⟨(fun hG => ⟨⟨hG, trivial⟩, ⟨⟨hG, trivial⟩, trivial⟩⟩), ⟨⟨trivial, ⟨(fun hp => ⟨hp, trivial⟩), (fun _ => trivial)⟩⟩, ⟨trivial, ⟨(fun _ => trivial), ⟨(fun hG => ⟨hG, trivial⟩), ⟨(fun _ => trivial), ⟨(fun hG => ⟨hG, trivial⟩), ⟨(fun hG => ⟨⟨hG, trivial⟩, ⟨⟨hG, trivial⟩, trivial⟩⟩), ⟨⟨trivial, ⟨(fun hp => ⟨hp, trivial⟩), (fun _ => trivial)⟩⟩, ⟨trivial, ⟨(fun _ => trivial), ⟨(fun hG => ⟨hG, trivial⟩), ⟨(fun _ => trivial), ⟨(fun hG => ⟨hG, trivial⟩), ⟨(fun hG => ⟨⟨hG, trivial⟩, ⟨⟨hG, trivial⟩, trivial⟩⟩), ⟨⟨trivial, ⟨(fun hp => ⟨hp, trivial⟩), (fun _ => trivial)⟩⟩, ⟨trivial, trivial⟩⟩⟩⟩⟩⟩⟩⟩⟩⟩⟩⟩⟩⟩⟩⟩⟩⟩⟩⟩⟩⟩⟩⟩⟩⟩⟩⟩⟩⟩⟩⟩⟩⟩ ?_
        refine W.ret ?_
        exact endQ_ret (.b (((((decide (a.up = b.up)) && (decide (a.down = b.down))) && (decide (a.value = b.value))) && (decide (a.time = b.time))) && (decide (a.proc = b.proc)))) (by kernel_rfl) (@cast ((.bool (((((decide (a.up = b.up)) && (decide (a.down = b.down))) && (decide (a.value = b.value))) && (decide (a.time = b.time))) && (decide (a.proc = b.proc))) : Value) = .bool ((((decide (a.up = b.up) && decide (a.down = b.down)) && decide (a.value = b.value)) && decide (a.time = b.time)) && decide (a.proc = b.proc))) _ (by kernel_rfl) (congrArg Value.bool (by first | rfl | simp_all)))
theorem ent5new : Entr prog 5 := ⟨_, func5, rfl, by decide⟩

end Go.Proofs.Try
