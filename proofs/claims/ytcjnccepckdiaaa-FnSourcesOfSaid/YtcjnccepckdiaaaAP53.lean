import Derived.Test.YtcjnccepckdiaaaAS
import Derived.Test.YtcjnccepckdiaaaM5
import Derived.Test.YtcjnccepckdiaaaAP16
import Derived.Test.YtcjnccepckdiaaaAP107
set_option linter.unusedSimpArgs false
set_option linter.unusedVariables false
namespace Go.Proofs.Try
open Go.Ab Go.RowKit
/-- impl.SourcesOf -/
def fs53 : FnS := fnS [.s .calls] [.calls] (fun _ (h, _) => (.sl (.ints (sourcesOf h)), [], True))
abbrev T53 : Tab := lk [(16, fs16), (107, fs107)]
theorem tab53 : TabOK prog T53 := (TabOK.cons ok16 ent16 (TabOK.cons ok107 ent107 TabOK.nil))
set_option maxRecDepth 100000 in
set_option maxHeartbeats 1000000 in
theorem ok53 : FnOK prog 53 fs53 := by
  refine FnOK.mk func53 rfl rfl rfl ?_
  rintro fl ⟨(h : List CallD), _⟩ hpre F hnt0 _
  have hnt : F.nt = 28 := hnt0.trans ntmps53
  clear hpre
  refine W.to (⟨[(0, .sl (.calls h))], [], [999]⟩) rfl ?_
  refine W.lenOf 0 (.calls h) (by kernel_rfl) ?_
  intro hl_h; replace hl_h : List.length h ≤ 9223372036854775807 := hl_h
  refine W.K cok tab53 hnt [] [0] (⟨[(0, .sl (.calls h))], [], [999]⟩)
    (True ∧ True) (by kernel_rfl)
    ⟨trivial, trivial⟩ ?_
  refine W.K cok tab53 hnt [6] [0, 3] (⟨[(0, .sl (.calls h)), (3, .own 6 (List.length ([] : List Int)))], [(6, ⟨3, .row (.ints ([] : List Int))⟩)], [6, 999]⟩)
    (True ∧ (True ∧ True)) (by kernel_rfl)
    ⟨trivial, ⟨trivial, trivial⟩⟩ ?_
  refine W.seq ?_
  refine W.K cok tab53 hnt [] [0, 3, 9] (⟨[(0, .sl (.calls h)), (3, .own 6 (List.length ([] : List Int))), (9, .b (!(oneWriter h)))], [(6, ⟨3, .row (.ints ([] : List Int))⟩)], [6, 999]⟩)
    (True ∧ ((True ∧ ((True ∧ True) ∧ True)) ∧ (True ∧ True))) (by kernel_rfl)
    ⟨trivial, ⟨⟨trivial, ⟨⟨trivial, trivial⟩, trivial⟩⟩, ⟨trivial, trivial⟩⟩⟩ ?_
  refine W.if' (!(oneWriter h)) (.b (!(oneWriter h))) (by kernel_rfl) rfl trivial ?_ ?_
  · intro h9
    refine W.K cok tab53 hnt [] [2] (⟨[(2, .own 6 (List.length ([] : List Int)))], [(6, ⟨3, .row (.ints ([] : List Int))⟩)], [6, 999]⟩)
      (True ∧ (True ∧ True)) (by kernel_rfl)
      ⟨trivial, ⟨trivial, trivial⟩⟩ ?_
    refine W.ret (thenQ_ret ?_)
    exact endQ_ret (.own 6 (List.length ([] : List Int))) (by kernel_rfl) (@cast (((List.length ([] : List Int)) = (List.length ([] : List Int))) ∧ (((.ints ([] : List Int) : Dat) = .ints (sourcesOf h)) ∧ ((6 : Nat) ∉ ([] : List Nat)))) _ (by kernel_rfl) ⟨rfl, ⟨(congrArg Dat.ints (by unfold sourcesOf; rw [not_f h9]; rfl)), (by decide)⟩⟩)
  · intro n9
    refine W.skip (thenQ_normal ?_)
    refine W.seq ?_
    refine W.K cok tab53 hnt [] [0, 3, 11, 12, 13] (⟨[(0, .sl (.calls h)), (3, .own 6 (List.length ([] : List Int))), (11, .sl (.calls h)), (12, .i (((List.length h) : Nat) : Int)), (13, .i (0 : Int))], [(6, ⟨3, .row (.ints ([] : List Int))⟩)], [6, 999]⟩)
      (True ∧ (True ∧ (True ∧ True))) (by kernel_rfl)
      ⟨trivial, ⟨trivial, ⟨trivial, trivial⟩⟩⟩ ?_
    refine W.block ?_
    refine W.loop (ι := (List Int) × Nat) (fun (x : (List Int) × Nat) => match x with | (o, i) => (⟨[(0, .sl (.calls h)), (3, .own 6 (List.length o)), (11, .sl (.calls h)), (12, .i (((List.length h) : Nat) : Int)), (13, .i ((i : Nat) : Int))], [(6, ⟨3, .row (.ints o)⟩)], [6, 999]⟩ : St))
      (fun (x : (List Int) × Nat) => match x with | (o, i) => (i ≤ h.length) ∧ (o = srcs h (h.take i)))
      (fun (x : (List Int) × Nat) => match x with | (o, i) => (h.length - i : Nat)) (([] : List Int), 0) ?_ ?_ ?_
    · exact (show (0 ≤ h.length) ∧ (([] : List Int) = srcs h (h.take 0)) from ⟨(by first | assumption | omega | rfl | (intro _ hjj; omega) | (simp; done) | (simp; omega)), (by rfl)⟩)
    · exact Sub.of [] (@cast ((((.calls h : Dat) = .calls h) ∧ ((((6 : Nat) = 6) ∧ (((List.length ([] : List Int)) = (List.length ([] : List Int))) ∧ ((6 : Nat) ∈ ([6, 999] : List Nat)))) ∧ (((.calls h : Dat) = .calls h) ∧ (((.int .i64 (((List.length h) : Nat) : Int) : Value) = .int .i64 (((List.length h) : Nat) : Int)) ∧ (((.int .i64 (0 : Int) : Value) = .int .i64 ((0 : Nat) : Int)) ∧ True))))) ∧ (((((3 : Nat) = 3) ∧ (((.ints ([] : List Int) : Dat) = .ints ([] : List Int)) ∧ ((6 : Nat) ∈ ([6, 999] : List Nat)))) ∧ True) ∧ ((true = true) ∧ (true = true)))) _ (by kernel_rfl) ⟨⟨rfl, ⟨⟨rfl, ⟨rfl, (by decide)⟩⟩, ⟨rfl, ⟨rfl, ⟨(congrArg (Value.int .i64) (by first | rfl | omega | assumption | simp | simp_all)), trivial⟩⟩⟩⟩⟩, ⟨⟨⟨rfl, ⟨rfl, (by decide)⟩⟩, trivial⟩, ⟨rfl, rfl⟩⟩⟩)
    · rintro ⟨o, i⟩ hC0
      have hC : (i ≤ h.length) ∧ (o = srcs h (h.take i)) := hC0
      clear hC0
      obtain ⟨hi, ho⟩ := hC
      refine W.to (⟨[(0, .sl (.calls h)), (3, .own 6 (List.length o)), (11, .sl (.calls h)), (12, .i (((List.length h) : Nat) : Int)), (13, .i ((i : Nat) : Int))], [(6, ⟨3, .row (.ints o)⟩)], [6, 999]⟩) rfl ?_
      have hv6 := (valid_iff.1 (oneWriter_iff.1 (not_g n9)).1).1
      have hol : o.length ≤ i := by rw [ho]; exact srcs_len h h i
      refine W.K cok tab53 hnt [] [0, 3, 11, 12, 13, 14] (⟨[(0, .sl (.calls h)), (3, .own 6 (List.length o)), (11, .sl (.calls h)), (12, .i (((List.length h) : Nat) : Int)), (13, .i ((i : Nat) : Int)), (14, .b (decide (((i : Nat) : Int) < (((List.length h) : Nat) : Int))))], [(6, ⟨3, .row (.ints o)⟩)], [6, 999]⟩)
        ((True ∧ (True ∧ True)) ∧ True) (by kernel_rfl)
        ⟨⟨trivial, ⟨trivial, trivial⟩⟩, trivial⟩ ?_
      refine W.seq ?_
      refine W.ifP (((i : Nat) : Int) < (((List.length h) : Nat) : Int)) (.b (decide (((i : Nat) : Int) < (((List.length h) : Nat) : Int)))) (by kernel_rfl) rfl trivial ?_ ?_
      · intro h14
        refine W.skip (thenQ_normal ?_)
        refine W.seq ?_
        refine W.block ?_
        refine W.K cok tab53 hnt [] [0, 3, 5, 11, 12, 13] (⟨[(0, .sl (.calls h)), (3, .own 6 (List.length o)), (5, .ptr 5 0), (11, .sl (.calls h)), (12, .i (((List.length h) : Nat) : Int)), (13, .i ((i : Nat) : Int))], [(5, ⟨27, .fix [.i ((List.getD h i default).proc), .i ((List.getD h i default).obj), .i ((List.getD h i default).kind), .i ((List.getD h i default).arg), .i ((List.getD h i default).ret), .i ((List.getD h i default).frm), .i ((List.getD h i default).to)]⟩), (6, ⟨3, .row (.ints o)⟩)], [5, 6, 999]⟩)
          ((True ∧ (True ∧ ((0 ≤ ((i : Nat) : Int)) ∧ (((i : Nat) : Int) < (((List.length h) : Nat) : Int))))) ∧ (True ∧ (True ∧ ((True ∧ True) ∧ True)))) (by kernel_rfl)
          ⟨⟨trivial, ⟨trivial, ⟨(by omega), (by omega)⟩⟩⟩, ⟨trivial, ⟨trivial, ⟨⟨trivial, trivial⟩, trivial⟩⟩⟩⟩ ?_
        refine W.K cok tab53 hnt [] [0, 3, 5, 11, 12, 13, 19] (⟨[(0, .sl (.calls h)), (3, .own 6 (List.length o)), (5, .ptr 5 0), (11, .sl (.calls h)), (12, .i (((List.length h) : Nat) : Int)), (13, .i ((i : Nat) : Int)), (19, .b (decide (((List.getD h i default).kind) = (2 : Int))))], [(5, ⟨27, .fix [.i ((List.getD h i default).proc), .i ((List.getD h i default).obj), .i ((List.getD h i default).kind), .i ((List.getD h i default).arg), .i ((List.getD h i default).ret), .i ((List.getD h i default).frm), .i ((List.getD h i default).to)]⟩), (6, ⟨3, .row (.ints o)⟩)], [5, 6, 999]⟩)
          (True ∧ (True ∧ ((True ∧ (True ∧ True)) ∧ True))) (by kernel_rfl)
          ⟨trivial, ⟨trivial, ⟨⟨trivial, ⟨trivial, trivial⟩⟩, trivial⟩⟩⟩ ?_
        refine W.ifP (((List.getD h i default).kind) = (2 : Int)) (.b (decide (((List.getD h i default).kind) = (2 : Int)))) (by kernel_rfl) rfl trivial ?_ ?_
        · intro h19
          refine W.L cok tab53 hnt [25] (⟨[(0, .sl (.calls h)), (3, .own 25 (List.length (o ++ ([(sourceR h (List.getD h i default).ret)])))), (5, .ptr 5 0), (11, .sl (.calls h)), (12, .i (((List.length h) : Nat) : Int)), (13, .i ((i : Nat) : Int)), (19, .b (decide (((List.getD h i default).kind) = (2 : Int)))), (20, .own 6 (List.length o)), (21, .sl (.calls h)), (22, .agg [.i ((List.getD h i default).proc), .i ((List.getD h i default).obj), .i ((List.getD h i default).kind), .i ((List.getD h i default).arg), .i ((List.getD h i default).ret), .i ((List.getD h i default).frm), .i ((List.getD h i default).to)]), (23, .i (sourceR h (List.getD h i default).ret)), (24, .sl (.ints ([(sourceR h (List.getD h i default).ret)]))), (25, .own 25 (List.length (o ++ ([(sourceR h (List.getD h i default).ret)]))))], [(5, ⟨27, .fix [.i ((List.getD h i default).proc), .i ((List.getD h i default).obj), .i ((List.getD h i default).kind), .i ((List.getD h i default).arg), .i ((List.getD h i default).ret), .i ((List.getD h i default).frm), .i ((List.getD h i default).to)]⟩), (25, ⟨3, .row (.ints (o ++ ([(sourceR h (List.getD h i default).ret)])))⟩)], [25, 24, 5, 6, 999]⟩)
            (True ∧ (True ∧ (True ∧ ((True ∧ ((True ∧ (True ∧ True)) ∧ True)) ∧ ((True ∧ True) ∧ (((True ∧ ((List.length o) = (List.length o))) ∧ (True ∧ (((List.length o) + (List.length ([(sourceR h (List.getD h i default).ret)]))) * 8 ≤ 140737488355328))) ∧ (True ∧ True))))))) (by kernel_rfl)
            ⟨trivial, ⟨trivial, ⟨trivial, ⟨⟨trivial, ⟨⟨trivial, ⟨trivial, trivial⟩⟩, trivial⟩⟩, ⟨⟨trivial, trivial⟩, ⟨⟨⟨trivial, rfl⟩, ⟨trivial, (by (first | omega | (simp only [List.length_append, List.length_cons, List.length_nil, List.length_take, List.length_drop, List.length_set, List.length_replicate, List.length_map] at *; omega) | assumption))⟩⟩, ⟨trivial, trivial⟩⟩⟩⟩⟩⟩⟩ ?_
          refine blockQ_normal (thenQ_normal ?_)
          refine W.L cok tab53 hnt [] (⟨[(0, .sl (.calls h)), (3, .own 25 (List.length (o ++ ([(sourceR h (List.getD h i default).ret)])))), (5, .ptr 5 0), (11, .sl (.calls h)), (12, .i (((List.length h) : Nat) : Int)), (13, .i (((i + 1) : Nat) : Int)), (19, .b (decide (((List.getD h i default).kind) = (2 : Int)))), (20, .own 6 (List.length o)), (21, .sl (.calls h)), (22, .agg [.i ((List.getD h i default).proc), .i ((List.getD h i default).obj), .i ((List.getD h i default).kind), .i ((List.getD h i default).arg), .i ((List.getD h i default).ret), .i ((List.getD h i default).frm), .i ((List.getD h i default).to)]), (23, .i (sourceR h (List.getD h i default).ret)), (24, .sl (.ints ([(sourceR h (List.getD h i default).ret)]))), (25, .own 25 (List.length (o ++ ([(sourceR h (List.getD h i default).ret)])))), (26, .i (((i + 1) : Nat) : Int))], [(5, ⟨27, .fix [.i ((List.getD h i default).proc), .i ((List.getD h i default).obj), .i ((List.getD h i default).kind), .i ((List.getD h i default).arg), .i ((List.getD h i default).ret), .i ((List.getD h i default).frm), .i ((List.getD h i default).to)]⟩), (25, ⟨3, .row (.ints (o ++ ([(sourceR h (List.getD h i default).ret)])))⟩)], [25, 24, 5, 6, 999]⟩)
            ((True ∧ (True ∧ (Fits .i64 (((i + 1) : Nat) : Int)))) ∧ (True ∧ True)) (by kernel_rfl)
            ⟨⟨trivial, ⟨trivial, (by exact fits_i64 (by omega) (by omega))⟩⟩, ⟨trivial, trivial⟩⟩ ?_
          refine thenQ_normal ?_
          refine ⟨((o ++ ([(sourceR h (List.getD h i default).ret)])), (i + 1)), (show ((i + 1) ≤ h.length) ∧ ((o ++ ([(sourceR h (List.getD h i default).ret)])) = srcs h (h.take (i + 1))) from ⟨(by first | assumption | omega | rfl | (intro _ hjj; omega) | (simp; done) | (simp; omega)), (by first | (rw [srcs_take (by omega), if_pos (show (h.getD i default).kind = 2 from h19), ho]; try simp only [Int.toNat_natCast]) | (rw [srcs_take (by omega), if_neg (show ¬ (h.getD i default).kind = 2 from n19), ho, List.append_nil]))⟩), (show h.length - (i + 1) < h.length - i from (by first | omega | (simp_all; omega))), ?_⟩
          exact Sub.of [(6, 25)] (@cast ((((.calls h : Dat) = .calls h) ∧ ((((25 : Nat) = 25) ∧ (((List.length (o ++ ([(sourceR h (List.getD h i default).ret)]))) = (List.length (o ++ ([(sourceR h (List.getD h i default).ret)])))) ∧ ((6 : Nat) ∈ ([6, 999] : List Nat)))) ∧ (((.calls h : Dat) = .calls h) ∧ (((.int .i64 (((List.length h) : Nat) : Int) : Value) = .int .i64 (((List.length h) : Nat) : Int)) ∧ (((.int .i64 (((i + 1) : Nat) : Int) : Value) = .int .i64 (((i + 1) : Nat) : Int)) ∧ True))))) ∧ (((((3 : Nat) = 3) ∧ (((.ints (o ++ ([(sourceR h (List.getD h i default).ret)])) : Dat) = .ints (o ++ ([(sourceR h (List.getD h i default).ret)]))) ∧ ((6 : Nat) ∈ ([6, 999] : List Nat)))) ∧ True) ∧ ((true = true) ∧ (true = true)))) _ (by kernel_rfl) ⟨⟨rfl, ⟨⟨rfl, ⟨rfl, (by decide)⟩⟩, ⟨rfl, ⟨rfl, ⟨rfl, trivial⟩⟩⟩⟩⟩, ⟨⟨⟨rfl, ⟨rfl, (by decide)⟩⟩, trivial⟩, ⟨rfl, rfl⟩⟩⟩)
        · intro n19
          refine W.skip (blockQ_normal (thenQ_normal ?_))
          refine W.L cok tab53 hnt [] (⟨[(0, .sl (.calls h)), (3, .own 6 (List.length o)), (5, .ptr 5 0), (11, .sl (.calls h)), (12, .i (((List.length h) : Nat) : Int)), (13, .i (((i + 1) : Nat) : Int)), (19, .b (decide (((List.getD h i default).kind) = (2 : Int)))), (26, .i (((i + 1) : Nat) : Int))], [(5, ⟨27, .fix [.i ((List.getD h i default).proc), .i ((List.getD h i default).obj), .i ((List.getD h i default).kind), .i ((List.getD h i default).arg), .i ((List.getD h i default).ret), .i ((List.getD h i default).frm), .i ((List.getD h i default).to)]⟩), (6, ⟨3, .row (.ints o)⟩)], [5, 6, 999]⟩)
            ((True ∧ (True ∧ (Fits .i64 (((i + 1) : Nat) : Int)))) ∧ (True ∧ True)) (by kernel_rfl)
            ⟨⟨trivial, ⟨trivial, (by exact fits_i64 (by omega) (by omega))⟩⟩, ⟨trivial, trivial⟩⟩ ?_
          refine thenQ_normal ?_
          refine ⟨(o, (i + 1)), (show ((i + 1) ≤ h.length) ∧ (o = srcs h (h.take (i + 1))) from ⟨(by first | assumption | omega | rfl | (intro _ hjj; omega) | (simp; done) | (simp; omega)), (by first | (rw [srcs_take (by omega), if_pos (show (h.getD i default).kind = 2 from h19), ho]; try simp only [Int.toNat_natCast]) | (rw [srcs_take (by omega), if_neg (show ¬ (h.getD i default).kind = 2 from n19), ho, List.append_nil]))⟩), (show h.length - (i + 1) < h.length - i from (by first | omega | (simp_all; omega))), ?_⟩
          exact Sub.of [] (@cast ((((.calls h : Dat) = .calls h) ∧ ((((6 : Nat) = 6) ∧ (((List.length o) = (List.length o)) ∧ ((6 : Nat) ∈ ([6, 999] : List Nat)))) ∧ (((.calls h : Dat) = .calls h) ∧ (((.int .i64 (((List.length h) : Nat) : Int) : Value) = .int .i64 (((List.length h) : Nat) : Int)) ∧ (((.int .i64 (((i + 1) : Nat) : Int) : Value) = .int .i64 (((i + 1) : Nat) : Int)) ∧ True))))) ∧ (((((3 : Nat) = 3) ∧ (((.ints o : Dat) = .ints o) ∧ ((6 : Nat) ∈ ([6, 999] : List Nat)))) ∧ True) ∧ ((true = true) ∧ (true = true)))) _ (by kernel_rfl) ⟨⟨rfl, ⟨⟨rfl, ⟨rfl, (by decide)⟩⟩, ⟨rfl, ⟨rfl, ⟨rfl, trivial⟩⟩⟩⟩⟩, ⟨⟨⟨rfl, ⟨rfl, (by decide)⟩⟩, trivial⟩, ⟨rfl, rfl⟩⟩⟩)
      · intro n14
        refine W.exit (thenQ_exit (thenQ_exit (blockQ_hit ?_)))
        refine thenQ_normal ?_
        refine W.K cok tab53 hnt [] [2] (⟨[(2, .own 6 (List.length o))], [(6, ⟨3, .row (.ints o)⟩)], [6, 999]⟩)
          (True ∧ (True ∧ True)) (by kernel_rfl)
          ⟨trivial, ⟨trivial, trivial⟩⟩ ?_
        refine W.subS [] (⟨[(2, .sl (.ints o))], [], [999]⟩) (@cast (((((List.length o) = (List.length o)) ∧ (((.ints o : Dat) = .ints o) ∧ ((6 : Nat) ∉ ([] : List Nat)))) ∧ True) ∧ (True ∧ ((true = true) ∧ (true = true)))) _ (by kernel_rfl) ⟨⟨⟨rfl, ⟨rfl, (by decide)⟩⟩, trivial⟩, ⟨trivial, ⟨rfl, rfl⟩⟩⟩) ?_
        refine W.ret ?_
        exact endQ_ret (.sl (.ints o)) (by kernel_rfl) (@cast ((.ints o : Dat) = .ints (sourcesOf h)) _ (by kernel_rfl) (congrArg Dat.ints (by rw [sources_eq (not_g n9), ho, show i = h.length by omega, List.take_length])))
theorem ent53 : Entr prog 53 := ⟨_, func53, rfl, by decide⟩

end Go.Proofs.Try
