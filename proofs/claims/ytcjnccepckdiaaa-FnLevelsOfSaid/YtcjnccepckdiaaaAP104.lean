import Derived.Test.YtcjnccepckdiaaaAS
import Derived.Test.YtcjnccepckdiaaaM4
import Derived.Test.YtcjnccepckdiaaaAP113
set_option linter.unusedSimpArgs false
set_option linter.unusedVariables false
namespace Go.Proofs.Try
open Go.Ab Go.RowKit
/-- spec.levels -/
def fs104 : FnS := fnS [.s .calls] [.calls] (fun _ (h, _) => (.sl (.ints (levOf h)), [], (validHistory h = true)))
abbrev T104 : Tab := lk [(113, fs113)]
theorem tab104 : TabOK prog T104 := (TabOK.cons ok113 ent113 TabOK.nil)
set_option maxRecDepth 100000 in
set_option maxHeartbeats 1000000 in
theorem ok104 : FnOK prog 104 fs104 := by
  refine FnOK.mk func104 rfl rfl rfl ?_
  rintro fl ⟨(h : List CallD), _⟩ hpre F hnt0 _
  have hnt : F.nt = 51 := hnt0.trans ntmps104
  replace hpre : (validHistory h = true) := hpre
  have hv := hpre
  refine W.to (⟨[(0, .sl (.calls h))], [], [999]⟩) rfl ?_
  have hv6 := (valid_iff.1 hv).1
  refine W.lenOf 0 (.calls h) (by kernel_rfl) ?_
  intro hl_h; replace hl_h : List.length h ≤ 9223372036854775807 := hl_h
  refine W.K cok tab104 hnt [] [0] (⟨[(0, .sl (.calls h))], [], [999]⟩)
    (True ∧ True) (by kernel_rfl)
    ⟨trivial, trivial⟩ ?_
  refine W.K cok tab104 hnt [9] [0, 3] (⟨[(0, .sl (.calls h)), (3, .own 9 (List.length (List.replicate (List.length h) (0 : Int))))], [(9, ⟨3, .row (.ints (List.replicate (List.length h) (0 : Int)))⟩)], [9, 999]⟩)
    (True ∧ (True ∧ ((True ∧ (True ∧ (((((List.length h) : Nat) : Int) = (((List.length h) : Nat) : Int)) ∧ ((0 ≤ (((List.length h) : Nat) : Int)) ∧ ((((List.length h) : Nat) : Int) * 8 ≤ 281474976710656))))) ∧ (True ∧ True)))) (by kernel_rfl)
    ⟨trivial, ⟨trivial, ⟨⟨trivial, ⟨trivial, ⟨rfl, ⟨(by omega), (by omega)⟩⟩⟩⟩, ⟨trivial, trivial⟩⟩⟩⟩ ?_
  refine W.seq ?_
  refine W.K cok tab104 hnt [] [0, 3, 4] (⟨[(0, .sl (.calls h)), (3, .own 9 (List.length (List.replicate (List.length h) (0 : Int)))), (4, .i (0 : Int))], [(9, ⟨3, .row (.ints (List.replicate (List.length h) (0 : Int)))⟩)], [9, 999]⟩)
    (True ∧ True) (by kernel_rfl)
    ⟨trivial, trivial⟩ ?_
  refine W.block ?_
  refine W.loop (ι := (List Int) × Nat) (fun (x : (List Int) × Nat) => match x with | (o, r) => (⟨[(0, .sl (.calls h)), (3, .own 9 (List.length o)), (4, .i ((r : Nat) : Int))], [(9, ⟨3, .row (.ints o)⟩)], [9, 999]⟩ : St))
    (fun (x : (List Int) × Nat) => match x with | (o, r) => (r ≤ h.length) ∧ (Rd h r 0 o))
    (fun (x : (List Int) × Nat) => match x with | (o, r) => (h.length - r : Nat)) ((List.replicate (List.length h) (0 : Int)), 0) ?_ ?_ ?_
  · exact (show (0 ≤ h.length) ∧ (Rd h 0 0 (List.replicate (List.length h) (0 : Int))) from ⟨(by first | assumption | omega | rfl | (intro _ hjj; omega) | (simp; done) | (simp; omega)), (by exact Rd.start)⟩)
  · exact Sub.of [] (@cast ((((.calls h : Dat) = .calls h) ∧ ((((9 : Nat) = 9) ∧ (((List.length (List.replicate (List.length h) (0 : Int))) = (List.length (List.replicate (List.length h) (0 : Int)))) ∧ ((9 : Nat) ∈ ([9, 999] : List Nat)))) ∧ (((.int .i64 (0 : Int) : Value) = .int .i64 ((0 : Nat) : Int)) ∧ True))) ∧ (((((3 : Nat) = 3) ∧ (((.ints (List.replicate (List.length h) (0 : Int)) : Dat) = .ints (List.replicate (List.length h) (0 : Int))) ∧ ((9 : Nat) ∈ ([9, 999] : List Nat)))) ∧ True) ∧ ((true = true) ∧ (true = true)))) _ (by kernel_rfl) ⟨⟨rfl, ⟨⟨rfl, ⟨rfl, (by decide)⟩⟩, ⟨(congrArg (Value.int .i64) (by first | rfl | omega | assumption | simp | simp_all)), trivial⟩⟩⟩, ⟨⟨⟨rfl, ⟨rfl, (by decide)⟩⟩, trivial⟩, ⟨rfl, rfl⟩⟩⟩)
  · rintro ⟨o, r⟩ hC0
    have hC : (r ≤ h.length) ∧ (Rd h r 0 o) := hC0
    clear hC0
    obtain ⟨hr, ho⟩ := hC
    refine W.to (⟨[(0, .sl (.calls h)), (3, .own 9 (List.length o)), (4, .i ((r : Nat) : Int))], [(9, ⟨3, .row (.ints o)⟩)], [9, 999]⟩) rfl ?_
    refine W.seq ?_
    refine W.K cok tab104 hnt [] [0, 3, 4, 13] (⟨[(0, .sl (.calls h)), (3, .own 9 (List.length o)), (4, .i ((r : Nat) : Int)), (13, .b (decide (((r : Nat) : Int) < (((List.length h) : Nat) : Int))))], [(9, ⟨3, .row (.ints o)⟩)], [9, 999]⟩)
      (True ∧ (True ∧ (True ∧ ((True ∧ (True ∧ True)) ∧ True)))) (by kernel_rfl)
      ⟨trivial, ⟨trivial, ⟨trivial, ⟨⟨trivial, ⟨trivial, trivial⟩⟩, trivial⟩⟩⟩⟩ ?_
    refine W.ifP (((r : Nat) : Int) < (((List.length h) : Nat) : Int)) (.b (decide (((r : Nat) : Int) < (((List.length h) : Nat) : Int)))) (by kernel_rfl) rfl trivial ?_ ?_
    · intro h13
      refine W.skip (thenQ_normal ?_)
      refine W.seq ?_
      refine W.block ?_
      refine W.K cok tab104 hnt [] [0, 3, 4, 5] (⟨[(0, .sl (.calls h)), (3, .own 9 (List.length o)), (4, .i ((r : Nat) : Int)), (5, .i (0 : Int))], [(9, ⟨3, .row (.ints o)⟩)], [9, 999]⟩)
        (True ∧ True) (by kernel_rfl)
        ⟨trivial, trivial⟩ ?_
      refine W.block ?_
      refine W.loop (ι := Nat × (List Int)) (fun (x : Nat × (List Int)) => match x with | (i, x) => (⟨[(0, .sl (.calls h)), (3, .own 9 (List.length x)), (4, .i ((r : Nat) : Int)), (5, .i ((i : Nat) : Int))], [(9, ⟨3, .row (.ints x)⟩)], [9, 999]⟩ : St))
        (fun (x : Nat × (List Int)) => match x with | (i, x) => (i ≤ h.length) ∧ (Rd h r i x))
        (fun (x : Nat × (List Int)) => match x with | (i, x) => (h.length - i : Nat)) (0, o) ?_ ?_ ?_
      · exact (show (0 ≤ h.length) ∧ (Rd h r 0 o) from ⟨(by first | assumption | omega | rfl | (intro _ hjj; omega) | (simp; done) | (simp; omega)), (by exact ho)⟩)
      · exact Sub.of [] (@cast ((((.calls h : Dat) = .calls h) ∧ ((((9 : Nat) = 9) ∧ (((List.length o) = (List.length o)) ∧ ((9 : Nat) ∈ ([9, 999] : List Nat)))) ∧ (((.int .i64 ((r : Nat) : Int) : Value) = .int .i64 ((r : Nat) : Int)) ∧ (((.int .i64 (0 : Int) : Value) = .int .i64 ((0 : Nat) : Int)) ∧ True)))) ∧ (((((3 : Nat) = 3) ∧ (((.ints o : Dat) = .ints o) ∧ ((9 : Nat) ∈ ([9, 999] : List Nat)))) ∧ True) ∧ ((true = true) ∧ (true = true)))) _ (by kernel_rfl) ⟨⟨rfl, ⟨⟨rfl, ⟨rfl, (by decide)⟩⟩, ⟨rfl, ⟨(congrArg (Value.int .i64) (by first | rfl | omega | assumption | simp | simp_all)), trivial⟩⟩⟩⟩, ⟨⟨⟨rfl, ⟨rfl, (by decide)⟩⟩, trivial⟩, ⟨rfl, rfl⟩⟩⟩)
      · rintro ⟨i, x⟩ hC0
        have hC : (i ≤ h.length) ∧ (Rd h r i x) := hC0
        clear hC0
        obtain ⟨hi, hx⟩ := hC
        refine W.to (⟨[(0, .sl (.calls h)), (3, .own 9 (List.length x)), (4, .i ((r : Nat) : Int)), (5, .i ((i : Nat) : Int))], [(9, ⟨3, .row (.ints x)⟩)], [9, 999]⟩) rfl ?_
        refine W.seq ?_
        refine W.K cok tab104 hnt [] [0, 3, 4, 5, 19] (⟨[(0, .sl (.calls h)), (3, .own 9 (List.length x)), (4, .i ((r : Nat) : Int)), (5, .i ((i : Nat) : Int)), (19, .b (decide (((i : Nat) : Int) < (((List.length h) : Nat) : Int))))], [(9, ⟨3, .row (.ints x)⟩)], [9, 999]⟩)
          (True ∧ (True ∧ (True ∧ ((True ∧ (True ∧ True)) ∧ True)))) (by kernel_rfl)
          ⟨trivial, ⟨trivial, ⟨trivial, ⟨⟨trivial, ⟨trivial, trivial⟩⟩, trivial⟩⟩⟩⟩ ?_
        refine W.ifP (((i : Nat) : Int) < (((List.length h) : Nat) : Int)) (.b (decide (((i : Nat) : Int) < (((List.length h) : Nat) : Int)))) (by kernel_rfl) rfl trivial ?_ ?_
        · intro h19
          refine W.skip (thenQ_normal ?_)
          refine W.seq ?_
          refine W.block ?_
          refine W.K cok tab104 hnt [] [0, 3, 4, 5, 6] (⟨[(0, .sl (.calls h)), (3, .own 9 (List.length x)), (4, .i ((r : Nat) : Int)), (5, .i ((i : Nat) : Int)), (6, .i (0 : Int))], [(9, ⟨3, .row (.ints x)⟩)], [9, 999]⟩)
            (True ∧ True) (by kernel_rfl)
            ⟨trivial, trivial⟩ ?_
          refine W.block ?_
          refine W.loop (ι := Nat × (List Int)) (fun (x : Nat × (List Int)) => match x with | (k, y) => (⟨[(0, .sl (.calls h)), (3, .own 9 (List.length y)), (4, .i ((r : Nat) : Int)), (5, .i ((i : Nat) : Int)), (6, .i ((k : Nat) : Int))], [(9, ⟨3, .row (.ints y)⟩)], [9, 999]⟩ : St))
            (fun (x : Nat × (List Int)) => match x with | (k, y) => (k ≤ h.length) ∧ (RdK h r i k y))
            (fun (x : Nat × (List Int)) => match x with | (k, y) => (h.length - k : Nat)) (0, x) ?_ ?_ ?_
          · exact (show (0 ≤ h.length) ∧ (RdK h r i 0 x) from ⟨(by first | assumption | omega | rfl | (intro _ hjj; omega) | (simp; done) | (simp; omega)), (by exact RdK.start hx)⟩)
          · exact Sub.of [] (@cast ((((.calls h : Dat) = .calls h) ∧ ((((9 : Nat) = 9) ∧ (((List.length x) = (List.length x)) ∧ ((9 : Nat) ∈ ([9, 999] : List Nat)))) ∧ (((.int .i64 ((r : Nat) : Int) : Value) = .int .i64 ((r : Nat) : Int)) ∧ (((.int .i64 ((i : Nat) : Int) : Value) = .int .i64 ((i : Nat) : Int)) ∧ (((.int .i64 (0 : Int) : Value) = .int .i64 ((0 : Nat) : Int)) ∧ True))))) ∧ (((((3 : Nat) = 3) ∧ (((.ints x : Dat) = .ints x) ∧ ((9 : Nat) ∈ ([9, 999] : List Nat)))) ∧ True) ∧ ((true = true) ∧ (true = true)))) _ (by kernel_rfl) ⟨⟨rfl, ⟨⟨rfl, ⟨rfl, (by decide)⟩⟩, ⟨rfl, ⟨rfl, ⟨(congrArg (Value.int .i64) (by first | rfl | omega | assumption | simp | simp_all)), trivial⟩⟩⟩⟩⟩, ⟨⟨⟨rfl, ⟨rfl, (by decide)⟩⟩, trivial⟩, ⟨rfl, rfl⟩⟩⟩)
          · rintro ⟨k, y⟩ hC0
            have hC : (k ≤ h.length) ∧ (RdK h r i k y) := hC0
            clear hC0
            obtain ⟨hk, hy⟩ := hC
            refine W.to (⟨[(0, .sl (.calls h)), (3, .own 9 (List.length y)), (4, .i ((r : Nat) : Int)), (5, .i ((i : Nat) : Int)), (6, .i ((k : Nat) : Int))], [(9, ⟨3, .row (.ints y)⟩)], [9, 999]⟩) rfl ?_
            have hyl := hy.1.1
            have hyk : k < h.length → 0 ≤ y.getD k 0 ∧ y.getD k 0 ≤ 31 := fun hkl => by have h1 := hy.1.2 k hkl; have h2 := lev_bnd h k; omega
            refine W.seq ?_
            refine W.K cok tab104 hnt [] [0, 3, 4, 5, 6, 25] (⟨[(0, .sl (.calls h)), (3, .own 9 (List.length y)), (4, .i ((r : Nat) : Int)), (5, .i ((i : Nat) : Int)), (6, .i ((k : Nat) : Int)), (25, .b (decide (((k : Nat) : Int) < (((List.length h) : Nat) : Int))))], [(9, ⟨3, .row (.ints y)⟩)], [9, 999]⟩)
              (True ∧ (True ∧ (True ∧ ((True ∧ (True ∧ True)) ∧ True)))) (by kernel_rfl)
              ⟨trivial, ⟨trivial, ⟨trivial, ⟨⟨trivial, ⟨trivial, trivial⟩⟩, trivial⟩⟩⟩⟩ ?_
            refine W.ifP (((k : Nat) : Int) < (((List.length h) : Nat) : Int)) (.b (decide (((k : Nat) : Int) < (((List.length h) : Nat) : Int)))) (by kernel_rfl) rfl trivial ?_ ?_
            · intro h25
              refine W.skip (thenQ_normal ?_)
              refine W.seq ?_
              refine W.block ?_
              refine W.KA cok tab104 hnt [] [0, 3, 4, 5, 6, 36] (⟨[(0, .sl (.calls h)), (3, .own 9 (List.length y)), (4, .i ((r : Nat) : Int)), (5, .i ((i : Nat) : Int)), (6, .i ((k : Nat) : Int)), (36, .b (isBefore (List.getD h k default) (List.getD h i default)))], [(9, ⟨3, .row (.ints y)⟩)], [9, 999]⟩)
                (True ∧ (True ∧ ((True ∧ (True ∧ ((0 ≤ ((k : Nat) : Int)) ∧ (((k : Nat) : Int) < (((List.length h) : Nat) : Int))))) ∧ (True ∧ (True ∧ (True ∧ ((True ∧ (True ∧ ((0 ≤ ((i : Nat) : Int)) ∧ (((i : Nat) : Int) < (((List.length h) : Nat) : Int))))) ∧ (True ∧ ((True ∧ ((True ∧ (True ∧ True)) ∧ True)) ∧ True))))))))) (by kernel_rfl) (by kernel_rfl)
                ⟨trivial, ⟨trivial, ⟨⟨trivial, ⟨trivial, ⟨(by omega), (by omega)⟩⟩⟩, ⟨trivial, ⟨trivial, ⟨trivial, ⟨⟨trivial, ⟨trivial, ⟨(by omega), (by omega)⟩⟩⟩, ⟨trivial, ⟨⟨trivial, ⟨⟨trivial, ⟨trivial, trivial⟩⟩, trivial⟩⟩, trivial⟩⟩⟩⟩⟩⟩⟩⟩⟩ ?_
              refine W.if' (isBefore (List.getD h k default) (List.getD h i default)) (.b (isBefore (List.getD h k default) (List.getD h i default))) (by kernel_rfl) rfl trivial ?_ ?_
              · intro h36
                refine W.LA cok tab104 hnt [] (⟨[(0, .sl (.calls h)), (3, .own 9 (List.length y)), (4, .i ((r : Nat) : Int)), (5, .i ((i : Nat) : Int)), (6, .i ((k : Nat) : Int)), (36, .b (isBefore (List.getD h k default) (List.getD h i default))), (37, .own 9 (List.length y)), (38, .i ((i : Nat) : Int)), (39, .own 9 (List.length y)), (40, .i ((i : Nat) : Int)), (41, .pel 9 1 i 0), (42, .i (List.getD y i 0)), (43, .own 9 (List.length y)), (44, .i ((k : Nat) : Int)), (45, .pel 9 1 k 0), (46, .i (List.getD y k 0)), (47, .i ((List.getD y k 0) + (1 : Int))), (48, .i (max (List.getD y i 0) ((List.getD y k 0) + (1 : Int)))), (49, .pel 9 1 i 0)], [(9, ⟨3, .row (.ints (List.set y i (max (List.getD y i 0) ((List.getD y k 0) + (1 : Int)))))⟩)], [9, 999]⟩)
                  (True ∧ (True ∧ (True ∧ (True ∧ ((True ∧ (True ∧ ((0 ≤ ((i : Nat) : Int)) ∧ (((i : Nat) : Int) < (((List.length y) : Nat) : Int))))) ∧ ((True ∧ (i < (List.length y))) ∧ (True ∧ (True ∧ ((True ∧ (True ∧ ((0 ≤ ((k : Nat) : Int)) ∧ (((k : Nat) : Int) < (((List.length y) : Nat) : Int))))) ∧ ((True ∧ (k < (List.length y))) ∧ ((True ∧ (True ∧ (Fits .i64 ((List.getD y k 0) + (1 : Int))))) ∧ ((True ∧ True) ∧ ((True ∧ (True ∧ ((0 ≤ ((i : Nat) : Int)) ∧ (((i : Nat) : Int) < (((List.length y) : Nat) : Int))))) ∧ ((True ∧ (True ∧ (i < (List.length y)))) ∧ True)))))))))))))) (by kernel_rfl) (by kernel_rfl)
                  ⟨trivial, ⟨trivial, ⟨trivial, ⟨trivial, ⟨⟨trivial, ⟨trivial, ⟨(by omega), (by omega)⟩⟩⟩, ⟨⟨trivial, (by omega)⟩, ⟨trivial, ⟨trivial, ⟨⟨trivial, ⟨trivial, ⟨(by omega), (by omega)⟩⟩⟩, ⟨⟨trivial, (by omega)⟩, ⟨⟨trivial, ⟨trivial, (by have := hyk (by omega); exact fits_i64 (by omega) (by omega))⟩⟩, ⟨⟨trivial, trivial⟩, ⟨⟨trivial, ⟨trivial, ⟨(by omega), (by omega)⟩⟩⟩, ⟨⟨trivial, ⟨trivial, (by omega)⟩⟩, trivial⟩⟩⟩⟩⟩⟩⟩⟩⟩⟩⟩⟩⟩⟩ ?_
                refine blockQ_normal (thenQ_normal ?_)
                refine W.L cok tab104 hnt [] (⟨[(0, .sl (.calls h)), (3, .own 9 (List.length y)), (4, .i ((r : Nat) : Int)), (5, .i ((i : Nat) : Int)), (6, .i (((k + 1) : Nat) : Int)), (26, .i ((k : Nat) : Int)), (27, .i (((k + 1) : Nat) : Int)), (36, .b (isBefore (List.getD h k default) (List.getD h i default))), (37, .own 9 (List.length y)), (38, .i ((i : Nat) : Int)), (39, .own 9 (List.length y)), (40, .i ((i : Nat) : Int)), (41, .pel 9 1 i 0), (42, .i (List.getD y i 0)), (43, .own 9 (List.length y)), (44, .i ((k : Nat) : Int)), (45, .pel 9 1 k 0), (46, .i (List.getD y k 0)), (47, .i ((List.getD y k 0) + (1 : Int))), (48, .i (max (List.getD y i 0) ((List.getD y k 0) + (1 : Int)))), (49, .pel 9 1 i 0)], [(9, ⟨3, .row (.ints (List.set y i (max (List.getD y i 0) ((List.getD y k 0) + (1 : Int)))))⟩)], [9, 999]⟩)
                  (True ∧ ((True ∧ (True ∧ (Fits .i64 (((k + 1) : Nat) : Int)))) ∧ (True ∧ True))) (by kernel_rfl)
                  ⟨trivial, ⟨⟨trivial, ⟨trivial, (by exact fits_i64 (by omega) (by omega))⟩⟩, ⟨trivial, trivial⟩⟩⟩ ?_
                refine thenQ_normal ?_
                refine ⟨((k + 1), (List.set y i (max (List.getD y i 0) ((List.getD y k 0) + (1 : Int))))), (show ((k + 1) ≤ h.length) ∧ (RdK h r i (k + 1) (List.set y i (max (List.getD y i 0) ((List.getD y k 0) + (1 : Int))))) from ⟨(by first | assumption | omega | rfl | (intro _ hjj; omega) | (simp; done) | (simp; omega)), (by first | exact hy.skip n36 | exact hy.set hv (by omega) (by omega) h36)⟩), (show h.length - (k + 1) < h.length - k from (by first | omega | (simp_all; omega))), ?_⟩
                exact Sub.of [] (@cast ((((.calls h : Dat) = .calls h) ∧ ((((9 : Nat) = 9) ∧ (((List.length y) = (List.length (List.set y i (max (List.getD y i 0) ((List.getD y k 0) + (1 : Int)))))) ∧ ((9 : Nat) ∈ ([9, 999] : List Nat)))) ∧ (((.int .i64 ((r : Nat) : Int) : Value) = .int .i64 ((r : Nat) : Int)) ∧ (((.int .i64 ((i : Nat) : Int) : Value) = .int .i64 ((i : Nat) : Int)) ∧ (((.int .i64 (((k + 1) : Nat) : Int) : Value) = .int .i64 (((k + 1) : Nat) : Int)) ∧ True))))) ∧ (((((3 : Nat) = 3) ∧ (((.ints (List.set y i (max (List.getD y i 0) ((List.getD y k 0) + (1 : Int)))) : Dat) = .ints (List.set y i (max (List.getD y i 0) ((List.getD y k 0) + (1 : Int))))) ∧ ((9 : Nat) ∈ ([9, 999] : List Nat)))) ∧ True) ∧ ((true = true) ∧ (true = true)))) _ (by kernel_rfl) ⟨⟨rfl, ⟨⟨rfl, ⟨(by first | rfl | omega | assumption | (symm; assumption) | simp | simp_all), (by decide)⟩⟩, ⟨rfl, ⟨rfl, ⟨rfl, trivial⟩⟩⟩⟩⟩, ⟨⟨⟨rfl, ⟨rfl, (by decide)⟩⟩, trivial⟩, ⟨rfl, rfl⟩⟩⟩)
              · intro n36
                refine W.skip (blockQ_normal (thenQ_normal ?_))
                refine W.L cok tab104 hnt [] (⟨[(0, .sl (.calls h)), (3, .own 9 (List.length y)), (4, .i ((r : Nat) : Int)), (5, .i ((i : Nat) : Int)), (6, .i (((k + 1) : Nat) : Int)), (26, .i ((k : Nat) : Int)), (27, .i (((k + 1) : Nat) : Int)), (36, .b (isBefore (List.getD h k default) (List.getD h i default)))], [(9, ⟨3, .row (.ints y)⟩)], [9, 999]⟩)
                  (True ∧ ((True ∧ (True ∧ (Fits .i64 (((k + 1) : Nat) : Int)))) ∧ (True ∧ True))) (by kernel_rfl)
                  ⟨trivial, ⟨⟨trivial, ⟨trivial, (by exact fits_i64 (by omega) (by omega))⟩⟩, ⟨trivial, trivial⟩⟩⟩ ?_
                refine thenQ_normal ?_
                refine ⟨((k + 1), y), (show ((k + 1) ≤ h.length) ∧ (RdK h r i (k + 1) y) from ⟨(by first | assumption | omega | rfl | (intro _ hjj; omega) | (simp; done) | (simp; omega)), (by first | exact hy.skip n36 | exact hy.set hv (by omega) (by omega) h36)⟩), (show h.length - (k + 1) < h.length - k from (by first | omega | (simp_all; omega))), ?_⟩
                exact Sub.of [] (@cast ((((.calls h : Dat) = .calls h) ∧ ((((9 : Nat) = 9) ∧ (((List.length y) = (List.length y)) ∧ ((9 : Nat) ∈ ([9, 999] : List Nat)))) ∧ (((.int .i64 ((r : Nat) : Int) : Value) = .int .i64 ((r : Nat) : Int)) ∧ (((.int .i64 ((i : Nat) : Int) : Value) = .int .i64 ((i : Nat) : Int)) ∧ (((.int .i64 (((k + 1) : Nat) : Int) : Value) = .int .i64 (((k + 1) : Nat) : Int)) ∧ True))))) ∧ (((((3 : Nat) = 3) ∧ (((.ints y : Dat) = .ints y) ∧ ((9 : Nat) ∈ ([9, 999] : List Nat)))) ∧ True) ∧ ((true = true) ∧ (true = true)))) _ (by kernel_rfl) ⟨⟨rfl, ⟨⟨rfl, ⟨rfl, (by decide)⟩⟩, ⟨rfl, ⟨rfl, ⟨rfl, trivial⟩⟩⟩⟩⟩, ⟨⟨⟨rfl, ⟨rfl, (by decide)⟩⟩, trivial⟩, ⟨rfl, rfl⟩⟩⟩)
            · intro n25
              refine W.exit (thenQ_exit (thenQ_exit (blockQ_hit ?_)))
              refine blockQ_normal (thenQ_normal ?_)
              refine W.L cok tab104 hnt [] (⟨[(0, .sl (.calls h)), (3, .own 9 (List.length y)), (4, .i ((r : Nat) : Int)), (5, .i (((i + 1) : Nat) : Int)), (6, .i ((k : Nat) : Int)), (20, .i ((i : Nat) : Int)), (21, .i (((i + 1) : Nat) : Int)), (25, .b (decide (((k : Nat) : Int) < (((List.length h) : Nat) : Int))))], [(9, ⟨3, .row (.ints y)⟩)], [9, 999]⟩)
                (True ∧ ((True ∧ (True ∧ (Fits .i64 (((i + 1) : Nat) : Int)))) ∧ (True ∧ True))) (by kernel_rfl)
                ⟨trivial, ⟨⟨trivial, ⟨trivial, (by exact fits_i64 (by omega) (by omega))⟩⟩, ⟨trivial, trivial⟩⟩⟩ ?_
              refine thenQ_normal ?_
              refine ⟨((i + 1), y), (show ((i + 1) ≤ h.length) ∧ (Rd h r (i + 1) y) from ⟨(by first | assumption | omega | rfl | (intro _ hjj; omega) | (simp; done) | (simp; omega)), (by exact RdK.done hv (by rw [show h.length = k by omega]; exact hy) (by omega))⟩), (show h.length - (i + 1) < h.length - i from (by first | omega | (simp_all; omega))), ?_⟩
              exact Sub.of [] (@cast ((((.calls h : Dat) = .calls h) ∧ ((((9 : Nat) = 9) ∧ (((List.length y) = (List.length y)) ∧ ((9 : Nat) ∈ ([9, 999] : List Nat)))) ∧ (((.int .i64 ((r : Nat) : Int) : Value) = .int .i64 ((r : Nat) : Int)) ∧ (((.int .i64 (((i + 1) : Nat) : Int) : Value) = .int .i64 (((i + 1) : Nat) : Int)) ∧ True)))) ∧ (((((3 : Nat) = 3) ∧ (((.ints y : Dat) = .ints y) ∧ ((9 : Nat) ∈ ([9, 999] : List Nat)))) ∧ True) ∧ ((true = true) ∧ (true = true)))) _ (by kernel_rfl) ⟨⟨rfl, ⟨⟨rfl, ⟨rfl, (by decide)⟩⟩, ⟨rfl, ⟨rfl, trivial⟩⟩⟩⟩, ⟨⟨⟨rfl, ⟨rfl, (by decide)⟩⟩, trivial⟩, ⟨rfl, rfl⟩⟩⟩)
        · intro n19
          refine W.exit (thenQ_exit (thenQ_exit (blockQ_hit ?_)))
          refine blockQ_normal (thenQ_normal ?_)
          refine W.L cok tab104 hnt [] (⟨[(0, .sl (.calls h)), (3, .own 9 (List.length x)), (4, .i (((r + 1) : Nat) : Int)), (5, .i ((i : Nat) : Int)), (14, .i ((r : Nat) : Int)), (15, .i (((r + 1) : Nat) : Int)), (19, .b (decide (((i : Nat) : Int) < (((List.length h) : Nat) : Int))))], [(9, ⟨3, .row (.ints x)⟩)], [9, 999]⟩)
            (True ∧ ((True ∧ (True ∧ (Fits .i64 (((r + 1) : Nat) : Int)))) ∧ (True ∧ True))) (by kernel_rfl)
            ⟨trivial, ⟨⟨trivial, ⟨trivial, (by exact fits_i64 (by omega) (by omega))⟩⟩, ⟨trivial, trivial⟩⟩⟩ ?_
          refine thenQ_normal ?_
          refine ⟨(x, (r + 1)), (show ((r + 1) ≤ h.length) ∧ (Rd h (r + 1) 0 x) from ⟨(by first | assumption | omega | rfl | (intro _ hjj; omega) | (simp; done) | (simp; omega)), (by exact Rd.next (by rw [show h.length = i by omega]; exact hx))⟩), (show h.length - (r + 1) < h.length - r from (by first | omega | (simp_all; omega))), ?_⟩
          exact Sub.of [] (@cast ((((.calls h : Dat) = .calls h) ∧ ((((9 : Nat) = 9) ∧ (((List.length x) = (List.length x)) ∧ ((9 : Nat) ∈ ([9, 999] : List Nat)))) ∧ (((.int .i64 (((r + 1) : Nat) : Int) : Value) = .int .i64 (((r + 1) : Nat) : Int)) ∧ True))) ∧ (((((3 : Nat) = 3) ∧ (((.ints x : Dat) = .ints x) ∧ ((9 : Nat) ∈ ([9, 999] : List Nat)))) ∧ True) ∧ ((true = true) ∧ (true = true)))) _ (by kernel_rfl) ⟨⟨rfl, ⟨⟨rfl, ⟨rfl, (by decide)⟩⟩, ⟨rfl, trivial⟩⟩⟩, ⟨⟨⟨rfl, ⟨rfl, (by decide)⟩⟩, trivial⟩, ⟨rfl, rfl⟩⟩⟩)
    · intro n13
      refine W.exit (thenQ_exit (thenQ_exit (blockQ_hit ?_)))
      refine thenQ_normal ?_
      refine W.K cok tab104 hnt [] [2] (⟨[(2, .own 9 (List.length o))], [(9, ⟨3, .row (.ints o)⟩)], [9, 999]⟩)
        (True ∧ (True ∧ True)) (by kernel_rfl)
        ⟨trivial, ⟨trivial, trivial⟩⟩ ?_
      refine W.subS [] (⟨[(2, .sl (.ints o))], [], [999]⟩) (@cast (((((List.length o) = (List.length o)) ∧ (((.ints o : Dat) = .ints o) ∧ ((9 : Nat) ∉ ([] : List Nat)))) ∧ True) ∧ (True ∧ ((true = true) ∧ (true = true)))) _ (by kernel_rfl) ⟨⟨⟨rfl, ⟨rfl, (by decide)⟩⟩, trivial⟩, ⟨trivial, ⟨rfl, rfl⟩⟩⟩) ?_
      refine W.ret ?_
      exact endQ_ret (.sl (.ints o)) (by kernel_rfl) (@cast ((.ints o : Dat) = .ints (levOf h)) _ (by kernel_rfl) (congrArg Dat.ints (by exact Rd.end hv ho (by omega))))
theorem ent104 : Entr prog 104 := ⟨_, func104, rfl, by decide⟩

end Go.Proofs.Try
