import Derived.Test.YtcjnccepckdiaaaAS
import Derived.Test.YtcjnccepckdiaaaM5
import Derived.Test.YtcjnccepckdiaaaAP65
import Derived.Test.YtcjnccepckdiaaaAP108
set_option linter.unusedSimpArgs false
set_option linter.unusedVariables false
namespace Go.Proofs.Try
open Go.Ab Go.RowKit
/-- spec.SourcesOf -/
def fs54 : FnS := fnS [.s .calls] [.calls] (fun _ (h, _) => (.sl (.ints (sourcesOf h)), [], True))
abbrev T54 : Tab := lk [(65, fs65), (108, fs108)]
theorem tab54 : TabOK prog T54 := (TabOK.cons ok65 ent65 (TabOK.cons ok108 ent108 TabOK.nil))
set_option maxRecDepth 100000 in
set_option maxHeartbeats 1000000 in
theorem ok54 : FnOK prog 54 fs54 := by
  refine FnOK.mk func54 rfl rfl rfl ?_
  rintro fl ⟨(h : List CallD), _⟩ hpre F hnt0 _
  have hnt : F.nt = 28 := hnt0.trans ntmps54
  clear hpre
  refine W.to (⟨[(0, .sl (.calls h))], [], [999]⟩) rfl ?_
  refine W.lenOf 0 (.calls h) (by kernel_rfl) ?_
  intro hl_h; replace hl_h : List.length h ≤ 9223372036854775807 := hl_h
  refine W.K cok tab54 hnt [] [0] (⟨[(0, .sl (.calls h))], [], [999]⟩)
    (True ∧ True) (by kernel_rfl)
    ⟨trivial, trivial⟩ ?_
  refine W.seq ?_
  refine W.K cok tab54 hnt [] [0, 7] (⟨[(0, .sl (.calls h)), (7, .b (!(oneWriter h)))], [], [999]⟩)
    (True ∧ ((True ∧ ((True ∧ True) ∧ True)) ∧ (True ∧ True))) (by kernel_rfl)
    ⟨trivial, ⟨⟨trivial, ⟨⟨trivial, trivial⟩, trivial⟩⟩, ⟨trivial, trivial⟩⟩⟩ ?_
  refine W.if' (!(oneWriter h)) (.b (!(oneWriter h))) (by kernel_rfl) rfl trivial ?_ ?_
  · intro h7
    refine W.K cok tab54 hnt [] [2] (⟨[(2, .v (.slice none 0 0))], [], [999]⟩)
      (True ∧ True) (by kernel_rfl)
      ⟨trivial, trivial⟩ ?_
    refine W.ret (thenQ_ret ?_)
    exact endQ_ret (.v (.slice none 0 0)) (by kernel_rfl) (@cast (((Value.slice none 0 0 : Value) = .slice none 0 0) ∧ ((Dat.ints (sourcesOf h)).len = 0)) _ (by kernel_rfl) ⟨rfl, (by show List.length (sourcesOf h) = 0; unfold sourcesOf; rw [not_f h7]; rfl)⟩)
  · intro n7
    refine W.skip (thenQ_normal ?_)
    refine W.K cok tab54 hnt [8] [0, 3] (⟨[(0, .sl (.calls h)), (3, .own 8 (List.length ([] : List Int)))], [(8, ⟨3, .row (.ints ([] : List Int))⟩)], [8, 999]⟩)
      (True ∧ (True ∧ True)) (by kernel_rfl)
      ⟨trivial, ⟨trivial, trivial⟩⟩ ?_
    refine W.seq ?_
    refine W.K cok tab54 hnt [] [0, 3, 4] (⟨[(0, .sl (.calls h)), (3, .own 8 (List.length ([] : List Int))), (4, .i (0 : Int))], [(8, ⟨3, .row (.ints ([] : List Int))⟩)], [8, 999]⟩)
      (True ∧ True) (by kernel_rfl)
      ⟨trivial, trivial⟩ ?_
    refine W.block ?_
    refine W.loop (ι := (List Int) × Nat) (fun (x : (List Int) × Nat) => match x with | (o, i) => (⟨[(0, .sl (.calls h)), (3, .own 8 (List.length o)), (4, .i ((i : Nat) : Int))], [(8, ⟨3, .row (.ints o)⟩)], [8, 999]⟩ : St))
      (fun (x : (List Int) × Nat) => match x with | (o, i) => (i ≤ h.length) ∧ (o = srcs h (h.take i)))
      (fun (x : (List Int) × Nat) => match x with | (o, i) => (h.length - i : Nat)) (([] : List Int), 0) ?_ ?_ ?_
    · exact (show (0 ≤ h.length) ∧ (([] : List Int) = srcs h (h.take 0)) from ⟨(by first | assumption | omega | rfl | (intro _ hjj; omega) | (simp; done) | (simp; omega)), (by rfl)⟩)
    · exact Sub.of [] (@cast ((((.calls h : Dat) = .calls h) ∧ ((((8 : Nat) = 8) ∧ (((List.length ([] : List Int)) = (List.length ([] : List Int))) ∧ ((8 : Nat) ∈ ([8, 999] : List Nat)))) ∧ (((.int .i64 (0 : Int) : Value) = .int .i64 ((0 : Nat) : Int)) ∧ True))) ∧ (((((3 : Nat) = 3) ∧ (((.ints ([] : List Int) : Dat) = .ints ([] : List Int)) ∧ ((8 : Nat) ∈ ([8, 999] : List Nat)))) ∧ True) ∧ ((true = true) ∧ (true = true)))) _ (by kernel_rfl) ⟨⟨rfl, ⟨⟨rfl, ⟨rfl, (by decide)⟩⟩, ⟨(congrArg (Value.int .i64) (by first | rfl | omega | assumption | simp | simp_all)), trivial⟩⟩⟩, ⟨⟨⟨rfl, ⟨rfl, (by decide)⟩⟩, trivial⟩, ⟨rfl, rfl⟩⟩⟩)
    · rintro ⟨o, i⟩ hC0
      have hC : (i ≤ h.length) ∧ (o = srcs h (h.take i)) := hC0
      clear hC0
      obtain ⟨hi, ho⟩ := hC
      refine W.to (⟨[(0, .sl (.calls h)), (3, .own 8 (List.length o)), (4, .i ((i : Nat) : Int))], [(8, ⟨3, .row (.ints o)⟩)], [8, 999]⟩) rfl ?_
      have hv6 := (valid_iff.1 (oneWriter_iff.1 (not_g n7)).1).1
      have hol : o.length ≤ i := by rw [ho]; exact srcs_len h h i
      refine W.seq ?_
      refine W.K cok tab54 hnt [] [0, 3, 4, 12] (⟨[(0, .sl (.calls h)), (3, .own 8 (List.length o)), (4, .i ((i : Nat) : Int)), (12, .b (decide (((i : Nat) : Int) < (((List.length h) : Nat) : Int))))], [(8, ⟨3, .row (.ints o)⟩)], [8, 999]⟩)
        (True ∧ (True ∧ (True ∧ ((True ∧ (True ∧ True)) ∧ True)))) (by kernel_rfl)
        ⟨trivial, ⟨trivial, ⟨trivial, ⟨⟨trivial, ⟨trivial, trivial⟩⟩, trivial⟩⟩⟩⟩ ?_
      refine W.ifP (((i : Nat) : Int) < (((List.length h) : Nat) : Int)) (.b (decide (((i : Nat) : Int) < (((List.length h) : Nat) : Int)))) (by kernel_rfl) rfl trivial ?_ ?_
      · intro h12
        refine W.skip (thenQ_normal ?_)
        refine W.seq ?_
        refine W.block ?_
        refine W.K cok tab54 hnt [] [0, 3, 4, 20] (⟨[(0, .sl (.calls h)), (3, .own 8 (List.length o)), (4, .i ((i : Nat) : Int)), (20, .b (decide (((List.getD h i default).kind) = (2 : Int))))], [(8, ⟨3, .row (.ints o)⟩)], [8, 999]⟩)
          (True ∧ (True ∧ ((True ∧ (True ∧ ((0 ≤ ((i : Nat) : Int)) ∧ (((i : Nat) : Int) < (((List.length h) : Nat) : Int))))) ∧ (True ∧ (True ∧ ((True ∧ (True ∧ True)) ∧ True)))))) (by kernel_rfl)
          ⟨trivial, ⟨trivial, ⟨⟨trivial, ⟨trivial, ⟨(by omega), (by omega)⟩⟩⟩, ⟨trivial, ⟨trivial, ⟨⟨trivial, ⟨trivial, trivial⟩⟩, trivial⟩⟩⟩⟩⟩⟩ ?_
        refine W.ifP (((List.getD h i default).kind) = (2 : Int)) (.b (decide (((List.getD h i default).kind) = (2 : Int)))) (by kernel_rfl) rfl trivial ?_ ?_
        · intro h20
          refine W.L cok tab54 hnt [26] (⟨[(0, .sl (.calls h)), (3, .own 26 (List.length (o ++ ([(sourceR h (h.getD ((i : Nat) : Int).toNat default).ret)])))), (4, .i ((i : Nat) : Int)), (20, .b (decide (((List.getD h i default).kind) = (2 : Int)))), (21, .own 8 (List.length o)), (22, .sl (.calls h)), (23, .i ((i : Nat) : Int)), (24, .i (sourceR h (h.getD ((i : Nat) : Int).toNat default).ret)), (25, .sl (.ints ([(sourceR h (h.getD ((i : Nat) : Int).toNat default).ret)]))), (26, .own 26 (List.length (o ++ ([(sourceR h (h.getD ((i : Nat) : Int).toNat default).ret)]))))], [(26, ⟨3, .row (.ints (o ++ ([(sourceR h (h.getD ((i : Nat) : Int).toNat default).ret)])))⟩)], [26, 25, 8, 999]⟩)
            (True ∧ (True ∧ (True ∧ ((True ∧ ((True ∧ (True ∧ True)) ∧ (0 ≤ ((i : Nat) : Int) ∧ ((i : Nat) : Int) < h.length))) ∧ ((True ∧ True) ∧ (((True ∧ ((List.length o) = (List.length o))) ∧ (True ∧ (((List.length o) + (List.length ([(sourceR h (h.getD ((i : Nat) : Int).toNat default).ret)]))) * 8 ≤ 140737488355328))) ∧ (True ∧ True))))))) (by kernel_rfl)
            ⟨trivial, ⟨trivial, ⟨trivial, ⟨⟨trivial, ⟨⟨trivial, ⟨trivial, trivial⟩⟩, (by omega)⟩⟩, ⟨⟨trivial, trivial⟩, ⟨⟨⟨trivial, rfl⟩, ⟨trivial, (by (first | omega | (simp only [List.length_append, List.length_cons, List.length_nil, List.length_take, List.length_drop, List.length_set, List.length_replicate, List.length_map] at *; omega) | assumption))⟩⟩, ⟨trivial, trivial⟩⟩⟩⟩⟩⟩⟩ ?_
          refine blockQ_normal (thenQ_normal ?_)
          refine W.L cok tab54 hnt [] (⟨[(0, .sl (.calls h)), (3, .own 26 (List.length (o ++ ([(sourceR h (h.getD ((i : Nat) : Int).toNat default).ret)])))), (4, .i (((i + 1) : Nat) : Int)), (13, .i ((i : Nat) : Int)), (14, .i (((i + 1) : Nat) : Int)), (20, .b (decide (((List.getD h i default).kind) = (2 : Int)))), (21, .own 8 (List.length o)), (22, .sl (.calls h)), (23, .i ((i : Nat) : Int)), (24, .i (sourceR h (h.getD ((i : Nat) : Int).toNat default).ret)), (25, .sl (.ints ([(sourceR h (h.getD ((i : Nat) : Int).toNat default).ret)]))), (26, .own 26 (List.length (o ++ ([(sourceR h (h.getD ((i : Nat) : Int).toNat default).ret)]))))], [(26, ⟨3, .row (.ints (o ++ ([(sourceR h (h.getD ((i : Nat) : Int).toNat default).ret)])))⟩)], [26, 25, 8, 999]⟩)
            (True ∧ ((True ∧ (True ∧ (Fits .i64 (((i + 1) : Nat) : Int)))) ∧ (True ∧ True))) (by kernel_rfl)
            ⟨trivial, ⟨⟨trivial, ⟨trivial, (by exact fits_i64 (by omega) (by omega))⟩⟩, ⟨trivial, trivial⟩⟩⟩ ?_
          refine thenQ_normal ?_
          refine ⟨((o ++ ([(sourceR h (h.getD ((i : Nat) : Int).toNat default).ret)])), (i + 1)), (show ((i + 1) ≤ h.length) ∧ ((o ++ ([(sourceR h (h.getD ((i : Nat) : Int).toNat default).ret)])) = srcs h (h.take (i + 1))) from ⟨(by first | assumption | omega | rfl | (intro _ hjj; omega) | (simp; done) | (simp; omega)), (by first | (rw [srcs_take (by omega), if_pos (show (h.getD i default).kind = 2 from h20), ho]; try simp only [Int.toNat_natCast]) | (rw [srcs_take (by omega), if_neg (show ¬ (h.getD i default).kind = 2 from n20), ho, List.append_nil]))⟩), (show h.length - (i + 1) < h.length - i from (by first | omega | (simp_all; omega))), ?_⟩
          exact Sub.of [(8, 26)] (@cast ((((.calls h : Dat) = .calls h) ∧ ((((26 : Nat) = 26) ∧ (((List.length (o ++ ([(sourceR h (h.getD ((i : Nat) : Int).toNat default).ret)]))) = (List.length (o ++ ([(sourceR h (h.getD ((i : Nat) : Int).toNat default).ret)])))) ∧ ((8 : Nat) ∈ ([8, 999] : List Nat)))) ∧ (((.int .i64 (((i + 1) : Nat) : Int) : Value) = .int .i64 (((i + 1) : Nat) : Int)) ∧ True))) ∧ (((((3 : Nat) = 3) ∧ (((.ints (o ++ ([(sourceR h (h.getD ((i : Nat) : Int).toNat default).ret)])) : Dat) = .ints (o ++ ([(sourceR h (h.getD ((i : Nat) : Int).toNat default).ret)]))) ∧ ((8 : Nat) ∈ ([8, 999] : List Nat)))) ∧ True) ∧ ((true = true) ∧ (true = true)))) _ (by kernel_rfl) ⟨⟨rfl, ⟨⟨rfl, ⟨rfl, (by decide)⟩⟩, ⟨rfl, trivial⟩⟩⟩, ⟨⟨⟨rfl, ⟨rfl, (by decide)⟩⟩, trivial⟩, ⟨rfl, rfl⟩⟩⟩)
        · intro n20
          refine W.skip (blockQ_normal (thenQ_normal ?_))
          refine W.L cok tab54 hnt [] (⟨[(0, .sl (.calls h)), (3, .own 8 (List.length o)), (4, .i (((i + 1) : Nat) : Int)), (13, .i ((i : Nat) : Int)), (14, .i (((i + 1) : Nat) : Int)), (20, .b (decide (((List.getD h i default).kind) = (2 : Int))))], [(8, ⟨3, .row (.ints o)⟩)], [8, 999]⟩)
            (True ∧ ((True ∧ (True ∧ (Fits .i64 (((i + 1) : Nat) : Int)))) ∧ (True ∧ True))) (by kernel_rfl)
            ⟨trivial, ⟨⟨trivial, ⟨trivial, (by exact fits_i64 (by omega) (by omega))⟩⟩, ⟨trivial, trivial⟩⟩⟩ ?_
          refine thenQ_normal ?_
          refine ⟨(o, (i + 1)), (show ((i + 1) ≤ h.length) ∧ (o = srcs h (h.take (i + 1))) from ⟨(by first | assumption | omega | rfl | (intro _ hjj; omega) | (simp; done) | (simp; omega)), (by first | (rw [srcs_take (by omega), if_pos (show (h.getD i default).kind = 2 from h20), ho]; try simp only [Int.toNat_natCast]) | (rw [srcs_take (by omega), if_neg (show ¬ (h.getD i default).kind = 2 from n20), ho, List.append_nil]))⟩), (show h.length - (i + 1) < h.length - i from (by first | omega | (simp_all; omega))), ?_⟩
          exact Sub.of [] (@cast ((((.calls h : Dat) = .calls h) ∧ ((((8 : Nat) = 8) ∧ (((List.length o) = (List.length o)) ∧ ((8 : Nat) ∈ ([8, 999] : List Nat)))) ∧ (((.int .i64 (((i + 1) : Nat) : Int) : Value) = .int .i64 (((i + 1) : Nat) : Int)) ∧ True))) ∧ (((((3 : Nat) = 3) ∧ (((.ints o : Dat) = .ints o) ∧ ((8 : Nat) ∈ ([8, 999] : List Nat)))) ∧ True) ∧ ((true = true) ∧ (true = true)))) _ (by kernel_rfl) ⟨⟨rfl, ⟨⟨rfl, ⟨rfl, (by decide)⟩⟩, ⟨rfl, trivial⟩⟩⟩, ⟨⟨⟨rfl, ⟨rfl, (by decide)⟩⟩, trivial⟩, ⟨rfl, rfl⟩⟩⟩)
      · intro n12
        refine W.exit (thenQ_exit (thenQ_exit (blockQ_hit ?_)))
        refine thenQ_normal ?_
        refine W.K cok tab54 hnt [] [2] (⟨[(2, .own 8 (List.length o))], [(8, ⟨3, .row (.ints o)⟩)], [8, 999]⟩)
          (True ∧ (True ∧ True)) (by kernel_rfl)
          ⟨trivial, ⟨trivial, trivial⟩⟩ ?_
        refine W.subS [] (⟨[(2, .sl (.ints o))], [], [999]⟩) (@cast (((((List.length o) = (List.length o)) ∧ (((.ints o : Dat) = .ints o) ∧ ((8 : Nat) ∉ ([] : List Nat)))) ∧ True) ∧ (True ∧ ((true = true) ∧ (true = true)))) _ (by kernel_rfl) ⟨⟨⟨rfl, ⟨rfl, (by decide)⟩⟩, trivial⟩, ⟨trivial, ⟨rfl, rfl⟩⟩⟩) ?_
        refine W.ret ?_
        exact endQ_ret (.sl (.ints o)) (by kernel_rfl) (@cast ((.ints o : Dat) = .ints (sourcesOf h)) _ (by kernel_rfl) (congrArg Dat.ints (by rw [sources_eq (not_g n7), ho, show i = h.length by omega, List.take_length])))
theorem ent54 : Entr prog 54 := ⟨_, func54, rfl, by decide⟩

end Go.Proofs.Try
