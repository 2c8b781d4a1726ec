import Derived.Test.YthjkiipikpiepaaDS
import Derived.Test.YthjkiipikpiepaaM9
import Derived.Test.YthjkiipikpiepaaDP7
import Derived.Test.YthjkiipikpiepaaDP16zero
import Derived.Test.YthjkiipikpiepaaDP17zero
set_option linter.unusedSimpArgs false
set_option linter.unusedVariables false
namespace Go.Proofs.Try
open Go.Ab Go.RowKit
/-- impl.ValuesOf@0 -/
def fs9zero : FnS := fnS [.a [some .ints, some .ints, none, none, none, some .marks]] [.copy] (fun _ (c, _) => (.sl (.ints ([] : List Int)), [], (validCopy c = true) ∧ (c.marks.length = 0)))
abbrev T9zero : Tab := lk [(7, fs7), (16, fs16zero), (17, fs17zero)]
theorem tab9zero : TabOK prog T9zero := (TabOK.cons ok7 ent7 (TabOK.cons ok16zero ent16zero (TabOK.cons ok17zero ent17zero TabOK.nil)))
set_option maxRecDepth 100000 in
set_option maxHeartbeats 1000000 in
theorem ok9zero : FnOK prog 9 fs9zero := by
  refine FnOK.mk cok func9 rfl rfl rfl ?_
  rintro fl ⟨(c : CopyD), _⟩ hpre F hnt0 _
  have hnt : F.nt = 31 := hnt0.trans ntmps9
  replace hpre : (validCopy c = true) ∧ (c.marks.length = 0) := hpre
  obtain ⟨hv, hc⟩ := hpre
  refine W.to (⟨[(0, .agg [.sl (.ints c.up), .sl (.ints c.down), .i c.value, .i c.time, .i c.proc, .sl (.marks c.marks)])], [], [999]⟩) rfl ?_
  refine W.lenA 0 0 [.sl (.ints c.up), .sl (.ints c.down), .i c.value, .i c.time, .i c.proc, .sl (.marks c.marks)] (.ints c.up) (by kernel_rfl) (by kernel_rfl) ?_
  intro hl_c_up; replace hl_c_up : List.length c.up ≤ 9223372036854775807 := hl_c_up
  refine W.lenA 0 1 [.sl (.ints c.up), .sl (.ints c.down), .i c.value, .i c.time, .i c.proc, .sl (.marks c.marks)] (.ints c.down) (by kernel_rfl) (by kernel_rfl) ?_
  intro hl_c_down; replace hl_c_down : List.length c.down ≤ 9223372036854775807 := hl_c_down
  refine W.lenA 0 5 [.sl (.ints c.up), .sl (.ints c.down), .i c.value, .i c.time, .i c.proc, .sl (.marks c.marks)] (.marks c.marks) (by kernel_rfl) (by kernel_rfl) ?_
  intro hl_c_marks; replace hl_c_marks : List.length c.marks ≤ 9223372036854775807 := hl_c_marks
  refine W.K cok tab9zero hnt [] [1] (⟨[(1, .ptr 1 0)], [(1, ⟨26, .fix [.sl (.ints c.up), .sl (.ints c.down), .i c.value, .i c.time, .i c.proc, .sl (.marks c.marks)]⟩)], [1, 999]⟩)
    (True ∧ (True ∧ True)) (by kernel_rfl)
    ⟨trivial, ⟨trivial, trivial⟩⟩ ?_
  refine W.K cok tab9zero hnt [6] [1, 3] (⟨[(1, .ptr 1 0), (3, .own 6 (List.length ([] : List Int)))], [(1, ⟨26, .fix [.sl (.ints c.up), .sl (.ints c.down), .i c.value, .i c.time, .i c.proc, .sl (.marks c.marks)]⟩), (6, ⟨3, .row (.ints ([] : List Int))⟩)], [6, 1, 999]⟩)
    (True ∧ (True ∧ True)) (by kernel_rfl)
    ⟨trivial, ⟨trivial, trivial⟩⟩ ?_
  refine W.seq ?_
  refine W.K cok tab9zero hnt [] [1, 3, 9] (⟨[(1, .ptr 1 0), (3, .own 6 (List.length ([] : List Int))), (9, .b (!(validCopy c)))], [(1, ⟨26, .fix [.sl (.ints c.up), .sl (.ints c.down), .i c.value, .i c.time, .i c.proc, .sl (.marks c.marks)]⟩), (6, ⟨3, .row (.ints ([] : List Int))⟩)], [6, 1, 999]⟩)
    (True ∧ ((True ∧ (((True ∧ (True ∧ (True ∧ (True ∧ (True ∧ (True ∧ (True ∧ True))))))) ∧ True) ∧ True)) ∧ (True ∧ True))) (by kernel_rfl)
    ⟨trivial, ⟨⟨trivial, ⟨⟨⟨trivial, ⟨trivial, ⟨trivial, ⟨trivial, ⟨trivial, ⟨trivial, ⟨trivial, trivial⟩⟩⟩⟩⟩⟩⟩, trivial⟩, trivial⟩⟩, ⟨trivial, trivial⟩⟩⟩ ?_
  refine W.if' (!(validCopy c)) (.b (!(validCopy c))) (by kernel_rfl) rfl trivial ?_ ?_
  · intro h9
    exact (show False from (by rw [hv] at h9; cases h9)).elim
  · intro n9
    refine W.skip (thenQ_normal ?_)
    refine W.seq ?_
    refine W.K cok tab9zero hnt [] [3, 12, 13, 14] (⟨[(3, .own 6 (List.length ([] : List Int))), (12, .sl (.marks c.marks)), (13, .i (((List.length c.marks) : Nat) : Int)), (14, .i (0 : Int))], [(1, ⟨26, .fix [.sl (.ints c.up), .sl (.ints c.down), .i c.value, .i c.time, .i c.proc, .sl (.marks c.marks)]⟩), (6, ⟨3, .row (.ints ([] : List Int))⟩)], [6, 1, 999]⟩)
      (True ∧ (True ∧ (True ∧ (True ∧ True)))) (by kernel_rfl)
      ⟨trivial, ⟨trivial, ⟨trivial, ⟨trivial, trivial⟩⟩⟩⟩ ?_
    refine W.block ?_
    refine W.loop (ι := Nat × (List Int)) (fun (x : Nat × (List Int)) => match x with | (i, o) => (⟨[(3, .own 6 (List.length o)), (12, .sl (.marks c.marks)), (13, .i (((List.length c.marks) : Nat) : Int)), (14, .i ((i : Nat) : Int))], [(6, ⟨3, .row (.ints o)⟩)], [6, 999]⟩ : St))
      (fun (x : Nat × (List Int)) => match x with | (i, o) => (i = 0) ∧ (o = []))
      (fun (x : Nat × (List Int)) => match x with | (i, o) => (0 : Nat)) (0, ([] : List Int)) ?_ ?_ ?_
    · exact (show (0 = 0) ∧ (([] : List Int) = []) from ⟨(by first | assumption | omega | rfl | (intro _ hjj; omega) | (simp; done) | (simp; omega)), (by rfl)⟩)
    · exact Sub.of [] (@cast (((((6 : Nat) = 6) ∧ (((List.length ([] : List Int)) = (List.length ([] : List Int))) ∧ ((6 : Nat) ∈ ([6, 999] : List Nat)))) ∧ (((.marks c.marks : Dat) = .marks c.marks) ∧ (((.int .i64 (((List.length c.marks) : Nat) : Int) : Value) = .int .i64 (((List.length c.marks) : Nat) : Int)) ∧ (((.int .i64 (0 : Int) : Value) = .int .i64 ((0 : Nat) : Int)) ∧ True)))) ∧ (((((3 : Nat) = 3) ∧ (((.ints ([] : List Int) : Dat) = .ints ([] : List Int)) ∧ ((6 : Nat) ∈ ([6, 999] : List Nat)))) ∧ True) ∧ ((true = true) ∧ (true = true)))) _ (by kernel_rfl) ⟨⟨⟨rfl, ⟨rfl, (by decide)⟩⟩, ⟨rfl, ⟨rfl, ⟨(congrArg (Value.int .i64) (by first | rfl | omega | assumption | simp | simp_all)), trivial⟩⟩⟩⟩, ⟨⟨⟨rfl, ⟨rfl, (by decide)⟩⟩, trivial⟩, ⟨rfl, rfl⟩⟩⟩)
    · rintro ⟨i, o⟩ hC0
      have hC : (i = 0) ∧ (o = []) := hC0
      clear hC0
      obtain ⟨hi, ho⟩ := hC
      refine W.to (⟨[(3, .own 6 (List.length o)), (12, .sl (.marks c.marks)), (13, .i (((List.length c.marks) : Nat) : Int)), (14, .i ((i : Nat) : Int))], [(6, ⟨3, .row (.ints o)⟩)], [6, 999]⟩) rfl ?_
      refine W.K cok tab9zero hnt [] [3, 12, 13, 14, 15] (⟨[(3, .own 6 (List.length o)), (12, .sl (.marks c.marks)), (13, .i (((List.length c.marks) : Nat) : Int)), (14, .i ((i : Nat) : Int)), (15, .b (decide (((i : Nat) : Int) < (((List.length c.marks) : Nat) : Int))))], [(6, ⟨3, .row (.ints o)⟩)], [6, 999]⟩)
        ((True ∧ (True ∧ True)) ∧ True) (by kernel_rfl)
        ⟨⟨trivial, ⟨trivial, trivial⟩⟩, trivial⟩ ?_
      refine W.seq ?_
      refine W.ifP (((i : Nat) : Int) < (((List.length c.marks) : Nat) : Int)) (.b (decide (((i : Nat) : Int) < (((List.length c.marks) : Nat) : Int)))) (by kernel_rfl) rfl trivial ?_ ?_
      · intro h15
        exact (show False from (by omega)).elim
      · intro n15
        refine W.exit (thenQ_exit (thenQ_exit (blockQ_hit ?_)))
        refine thenQ_normal ?_
        refine W.K cok tab9zero hnt [] [3] (⟨[(3, .own 6 (List.length o))], [(6, ⟨3, .row (.ints o)⟩)], [6, 999]⟩)
          (True ∧ ((True ∧ (((True ∧ ((List.length o) = (List.length o))) ∧ True) ∧ (o.length = 0))) ∧ True)) (by kernel_rfl)
          ⟨trivial, ⟨⟨trivial, ⟨⟨⟨trivial, rfl⟩, trivial⟩, (by rw [ho]; rfl)⟩⟩, trivial⟩⟩ ?_
        refine W.subS [] (⟨[(3, .sl (.ints o))], [], [999]⟩) (@cast (((((List.length o) = (List.length o)) ∧ (((.ints o : Dat) = .ints o) ∧ ((6 : Nat) ∉ ([] : List Nat)))) ∧ True) ∧ (True ∧ ((true = true) ∧ (true = true)))) _ (by kernel_rfl) ⟨⟨⟨rfl, ⟨rfl, (by decide)⟩⟩, trivial⟩, ⟨trivial, ⟨rfl, rfl⟩⟩⟩) ?_
        refine W.K cok tab9zero hnt [] [2] (⟨[(2, .sl (.ints o))], [], [999]⟩)
          (True ∧ ((True ∧ ((True ∧ True) ∧ (o.length = 0))) ∧ (True ∧ True))) (by kernel_rfl)
          ⟨trivial, ⟨⟨trivial, ⟨⟨trivial, trivial⟩, (by rw [ho]; rfl)⟩⟩, ⟨trivial, trivial⟩⟩⟩ ?_
        refine W.ret ?_
        exact endQ_ret (.sl (.ints o)) (by kernel_rfl) (@cast ((.ints o : Dat) = .ints ([] : List Int)) _ (by kernel_rfl) (congrArg Dat.ints (by rw [ho])))
theorem ent9zero : Entr prog 9 := ⟨_, func9, rfl, by decide⟩

end Go.Proofs.Try
