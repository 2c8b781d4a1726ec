import Derived.Test.YtggcajkjoaichaaIF4S0
import Derived.Test.YtggcajkjoaichaaIF4S4
import Derived.Test.YtggcajkjoaichaaIF4S3
import Derived.Test.YtggcajkjoaichaaIF4S1
import Derived.Test.YtggcajkjoaichaaIF4S2
set_option linter.unusedSimpArgs false
set_option linter.unusedVariables false
namespace Go.Proofs.Try
open Go.Ab Go.RowKit
def fs45 : FnS := fnS [.o, .s .calls, .s .ints] [.str, .calls, .ints] (fun _ (s, h, o, _) => (.b (runsB s h o), [], (isObject s = true) ∧ (validHistory h = true) ∧ (inH h o) ∧ (o.length ≤ 6)))
abbrev T45 : Tab := lk [(51, fs51)]
theorem tab45 : TabOK prog T45 := (TabOK.cons ok51 ent51 TabOK.nil)
set_option maxRecDepth 100000 in
set_option maxHeartbeats 1000000 in
theorem ok45 : FnOK prog 45 fs45 := by
  refine FnOK.mk cok func45 rfl rfl rfl ?_
  rintro fl ⟨(s : ByteArray), (h : List CallD), (o : List Int), _⟩ hpre F hnt0 _
  have hnt : F.nt = 46 := hnt0.trans ntmps45
  replace hpre : (isObject s = true) ∧ (validHistory h = true) ∧ (inH h o) ∧ (o.length ≤ 6) := hpre
  obtain ⟨hs, hv, ho, h6⟩ := hpre
  refine W.to (⟨[(0, .v (.string s)), (1, .sl (.calls h)), (2, .sl (.ints o))], [], [999]⟩) rfl ?_
  refine W.lenOf 1 (.calls h) (by kernel_rfl) ?_
  intro hl_h; replace hl_h : List.length h ≤ 9223372036854775807 := hl_h
  refine W.lenOf 2 (.ints o) (by kernel_rfl) ?_
  intro hl_o; replace hl_o : List.length o ≤ 9223372036854775807 := hl_o
  refine W.K cok tab45 hnt [] [0, 1, 2] (⟨[(0, .v (.string s)), (1, .sl (.calls h)), (2, .sl (.ints o))], [], [999]⟩)
    (True ∧ True) (by kernel_rfl)
    ⟨trivial, trivial⟩ ?_
  refine W.K cok tab45 hnt [14] [0, 1, 2, 7] (⟨[(0, .v (.string s)), (1, .sl (.calls h)), (2, .sl (.ints o)), (7, .own 14 (List.length ([([] : List Int), ([] : List Int)])))], [(14, ⟨24, .row (.intss ([([] : List Int), ([] : List Int)]))⟩)], [14, 13, 12, 999]⟩)
    (True ∧ (True ∧ ((True ∧ (True ∧ True)) ∧ (True ∧ True)))) (by kernel_rfl)
    ⟨trivial, ⟨trivial, ⟨⟨trivial, ⟨trivial, trivial⟩⟩, ⟨trivial, trivial⟩⟩⟩⟩ ?_
  refine W.seq ?_
  refine W.K cok tab45 hnt [] [0, 1, 2, 7, 8] (⟨[(0, .v (.string s)), (1, .sl (.calls h)), (2, .sl (.ints o)), (7, .own 14 (List.length ([([] : List Int), ([] : List Int)]))), (8, .i (0 : Int))], [(14, ⟨24, .row (.intss ([([] : List Int), ([] : List Int)]))⟩)], [14, 13, 12, 999]⟩)
    (True ∧ True) (by kernel_rfl)
    ⟨trivial, trivial⟩ ?_
  refine W.block ?_
  refine W.loop (ι := Nat × (List (List Int))) (fun (x : Nat × (List (List Int))) => match x with | (i, ss) => (⟨[(0, .v (.string s)), (1, .sl (.calls h)), (2, .sl (.ints o)), (7, .own 14 (List.length ss)), (8, .i ((i : Nat) : Int))], [(14, ⟨24, .row (.intss ss)⟩)], [14, 999]⟩ : St))
    (fun (x : Nat × (List (List Int))) => match x with | (i, ss) => (i ≤ o.length) ∧ (ss = sts s h o i) ∧ (∀ j, j < i → okAt s h o j = true))
    (fun (x : Nat × (List (List Int))) => match x with | (i, ss) => (o.length - i : Nat)) (0, ([([] : List Int), ([] : List Int)])) ?_ ?_ ?_
  · exact (show (0 ≤ o.length) ∧ (([([] : List Int), ([] : List Int)]) = sts s h o 0) ∧ (∀ j, j < 0 → okAt s h o j = true) from ⟨(by first | assumption | omega | rfl | (intro _ hjj; omega) | (simp; done) | (simp; omega)), (by rfl), (by exact upto_zero)⟩)
  · exact Sub.of [] (@cast (((((.string s) : Value) = (.string s)) ∧ (((.calls h : Dat) = .calls h) ∧ (((.ints o : Dat) = .ints o) ∧ ((((14 : Nat) = 14) ∧ (((List.length ([([] : List Int), ([] : List Int)])) = (List.length ([([] : List Int), ([] : List Int)]))) ∧ ((14 : Nat) ∈ ([14, 999] : List Nat)))) ∧ (((.int .i64 (0 : Int) : Value) = .int .i64 ((0 : Nat) : Int)) ∧ True))))) ∧ (((((24 : Nat) = 24) ∧ (((.intss ([([] : List Int), ([] : List Int)]) : Dat) = .intss ([([] : List Int), ([] : List Int)])) ∧ ((14 : Nat) ∈ ([14, 999] : List Nat)))) ∧ True) ∧ ((true = true) ∧ (true = true)))) _ (by kernel_rfl) ⟨⟨rfl, ⟨rfl, ⟨rfl, ⟨⟨rfl, ⟨rfl, (by decide)⟩⟩, ⟨(congrArg (Value.int .i64) (by first | rfl | omega | assumption | simp | simp_all)), trivial⟩⟩⟩⟩⟩, ⟨⟨⟨rfl, ⟨rfl, (by decide)⟩⟩, trivial⟩, ⟨rfl, rfl⟩⟩⟩)
  · rintro ⟨i, ss⟩ hC0
    have hC : (i ≤ o.length) ∧ (ss = sts s h o i) ∧ (∀ j, j < i → okAt s h o j = true) := hC0
    clear hC0
    obtain ⟨hi, hss, hA⟩ := hC
    refine W.to (⟨[(0, .v (.string s)), (1, .sl (.calls h)), (2, .sl (.ints o)), (7, .own 14 (List.length ss)), (8, .i ((i : Nat) : Int))], [(14, ⟨24, .row (.intss ss)⟩)], [14, 999]⟩) rfl ?_
    have hsl : ss.length = 2 := by rw [hss]; exact sts_len s h o i
    have hri := ho i
    have hcl := fun hi => isCall_iff.1 (ord_call hv ho (i := i) hi)
    unfold ordAt callAt at hcl
    refine W.seq ?_
    refine W.K cok tab45 hnt [] [0, 1, 2, 7, 8, 18] (⟨[(0, .v (.string s)), (1, .sl (.calls h)), (2, .sl (.ints o)), (7, .own 14 (List.length ss)), (8, .i ((i : Nat) : Int)), (18, .b (decide (((i : Nat) : Int) < (((List.length o) : Nat) : Int))))], [(14, ⟨24, .row (.intss ss)⟩)], [14, 999]⟩)
      (True ∧ (True ∧ (True ∧ ((True ∧ (True ∧ True)) ∧ True)))) (by kernel_rfl)
      ⟨trivial, ⟨trivial, ⟨trivial, ⟨⟨trivial, ⟨trivial, trivial⟩⟩, trivial⟩⟩⟩⟩ ?_
    refine W.ifP (((i : Nat) : Int) < (((List.length o) : Nat) : Int)) (.b (decide (((i : Nat) : Int) < (((List.length o) : Nat) : Int)))) (by kernel_rfl) rfl trivial ?_ ?_
    · intro h18
      refine W.skip (thenQ_normal ?_)
      refine W.seq ?_
      refine W.block ?_
      refine W.K cok tab45 hnt [] [0, 1, 2, 7, 8, 9] (⟨[(0, .v (.string s)), (1, .sl (.calls h)), (2, .sl (.ints o)), (7, .own 14 (List.length ss)), (8, .i ((i : Nat) : Int)), (9, .ptr 9 0)], [(9, ⟨36, .fix [.i ((List.getD h (Int.toNat (List.getD o i 0)) default).proc), .i ((List.getD h (Int.toNat (List.getD o i 0)) default).obj), .i ((List.getD h (Int.toNat (List.getD o i 0)) default).kind), .i ((List.getD h (Int.toNat (List.getD o i 0)) default).arg), .i ((List.getD h (Int.toNat (List.getD o i 0)) default).ret), .i ((List.getD h (Int.toNat (List.getD o i 0)) default).frm), .i ((List.getD h (Int.toNat (List.getD o i 0)) default).to)]⟩), (14, ⟨24, .row (.intss ss)⟩)], [9, 14, 999]⟩)
        (True ∧ (True ∧ (True ∧ ((True ∧ (True ∧ ((0 ≤ ((i : Nat) : Int)) ∧ (((i : Nat) : Int) < (((List.length o) : Nat) : Int))))) ∧ (True ∧ ((True ∧ (True ∧ ((0 ≤ (List.getD o i 0)) ∧ ((List.getD o i 0) < (((List.length h) : Nat) : Int))))) ∧ (True ∧ (True ∧ ((True ∧ True) ∧ True))))))))) (by kernel_rfl)
        ⟨trivial, ⟨trivial, ⟨trivial, ⟨⟨trivial, ⟨trivial, ⟨(by omega), (by have hh := hcl (by omega); omega)⟩⟩⟩, ⟨trivial, ⟨⟨trivial, ⟨trivial, ⟨(by (first | omega | (simp only [List.length_append, List.length_cons, List.length_nil, List.length_take, List.length_drop, List.length_set, List.length_replicate, List.length_map] at *; omega) | assumption)), (by have hh := hcl (by omega); omega)⟩⟩⟩, ⟨trivial, ⟨trivial, ⟨⟨trivial, trivial⟩, trivial⟩⟩⟩⟩⟩⟩⟩⟩⟩ ?_
      refine W.KA cok tab45 hnt [] [0, 1, 2, 7, 8, 9, 10, 11] (⟨[(0, .v (.string s)), (1, .sl (.calls h)), (2, .sl (.ints o)), (7, .own 14 (List.length ss)), (8, .i ((i : Nat) : Int)), (9, .ptr 9 0), (10, .sl (.ints ((specStep s (List.getD ss (Int.toNat ((List.getD h (Int.toNat (List.getD o i 0)) default).obj)) []) (List.getD h (Int.toNat (List.getD o i 0)) default)).1))), (11, .b ((specStep s (List.getD ss (Int.toNat ((List.getD h (Int.toNat (List.getD o i 0)) default).obj)) []) (List.getD h (Int.toNat (List.getD o i 0)) default)).2))], [(9, ⟨36, .fix [.i ((List.getD h (Int.toNat (List.getD o i 0)) default).proc), .i ((List.getD h (Int.toNat (List.getD o i 0)) default).obj), .i ((List.getD h (Int.toNat (List.getD o i 0)) default).kind), .i ((List.getD h (Int.toNat (List.getD o i 0)) default).arg), .i ((List.getD h (Int.toNat (List.getD o i 0)) default).ret), .i ((List.getD h (Int.toNat (List.getD o i 0)) default).frm), .i ((List.getD h (Int.toNat (List.getD o i 0)) default).to)]⟩), (14, ⟨24, .row (.intss ss)⟩)], [9, 14, 999]⟩)
        (True ∧ (True ∧ (True ∧ (True ∧ ((True ∧ (True ∧ ((0 ≤ ((List.getD h (Int.toNat (List.getD o i 0)) default).obj)) ∧ (((List.getD h (Int.toNat (List.getD o i 0)) default).obj) < (((List.length ss) : Nat) : Int))))) ∧ ((True ∧ ((Int.toNat ((List.getD h (Int.toNat (List.getD o i 0)) default).obj)) < (List.length ss))) ∧ (True ∧ ((True ∧ ((True ∧ (True ∧ (True ∧ True))) ∧ (((List.getD ss (Int.toNat ((List.getD h (Int.toNat (List.getD o i 0)) default).obj)) []).length ≤ 1000000) ∧ ((∀ x ∈ (List.getD ss (Int.toNat ((List.getD h (Int.toNat (List.getD o i 0)) default).obj)) []), -1000000000 ≤ x ∧ x ≤ 1000000000) ∧ (-1000000000 ≤ (List.getD h (Int.toNat (List.getD o i 0)) default).arg ∧ (List.getD h (Int.toNat (List.getD o i 0)) default).arg ≤ 1000000000))))) ∧ (True ∧ (True ∧ (True ∧ (True ∧ (True ∧ True))))))))))))) (by kernel_rfl) (by kernel_rfl)
        ⟨trivial, ⟨trivial, ⟨trivial, ⟨trivial, ⟨⟨trivial, ⟨trivial, ⟨(by have hh := hcl (by omega); omega), (by have hh := hcl (by omega); omega)⟩⟩⟩, ⟨⟨trivial, (by have hh := hcl (by omega); omega)⟩, ⟨trivial, ⟨⟨trivial, ⟨⟨trivial, ⟨trivial, ⟨trivial, trivial⟩⟩⟩, ⟨(by have hh := (sts_at hs hv ho (i := i) (by omega) (by omega)).2.1; unfold ordAt callAt at hh; rw [hss]; omega), ⟨(by have hh := (sts_at hs hv ho (i := i) (by omega) (by omega)).2.2; unfold ordAt callAt at hh; rw [hss]; intro x hx; have := hh x hx; omega), (by have hh := hcl (by omega); omega)⟩⟩⟩⟩, ⟨trivial, ⟨trivial, ⟨trivial, ⟨trivial, ⟨trivial, trivial⟩⟩⟩⟩⟩⟩⟩⟩⟩⟩⟩⟩⟩ ?_
      refine W.seq ?_
      refine W.K cok tab45 hnt [] [0, 1, 2, 7, 8, 9, 10, 40] (⟨[(0, .v (.string s)), (1, .sl (.calls h)), (2, .sl (.ints o)), (7, .own 14 (List.length ss)), (8, .i ((i : Nat) : Int)), (9, .ptr 9 0), (10, .sl (.ints ((specStep s (List.getD ss (Int.toNat ((List.getD h (Int.toNat (List.getD o i 0)) default).obj)) []) (List.getD h (Int.toNat (List.getD o i 0)) default)).1))), (40, .b (!((specStep s (List.getD ss (Int.toNat ((List.getD h (Int.toNat (List.getD o i 0)) default).obj)) []) (List.getD h (Int.toNat (List.getD o i 0)) default)).2)))], [(9, ⟨36, .fix [.i ((List.getD h (Int.toNat (List.getD o i 0)) default).proc), .i ((List.getD h (Int.toNat (List.getD o i 0)) default).obj), .i ((List.getD h (Int.toNat (List.getD o i 0)) default).kind), .i ((List.getD h (Int.toNat (List.getD o i 0)) default).arg), .i ((List.getD h (Int.toNat (List.getD o i 0)) default).ret), .i ((List.getD h (Int.toNat (List.getD o i 0)) default).frm), .i ((List.getD h (Int.toNat (List.getD o i 0)) default).to)]⟩), (14, ⟨24, .row (.intss ss)⟩)], [9, 14, 999]⟩)
        (True ∧ (True ∧ True)) (by kernel_rfl)
        ⟨trivial, ⟨trivial, trivial⟩⟩ ?_
      refine W.if' (!((specStep s (List.getD ss (Int.toNat ((List.getD h (Int.toNat (List.getD o i 0)) default).obj)) []) (List.getD h (Int.toNat (List.getD o i 0)) default)).2)) (.b (!((specStep s (List.getD ss (Int.toNat ((List.getD h (Int.toNat (List.getD o i 0)) default).obj)) []) (List.getD h (Int.toNat (List.getD o i 0)) default)).2))) (by kernel_rfl) rfl trivial ?_ ?_
      · intro h40
        refine W.K cok tab45 hnt [] [6] (⟨[(6, .b false)], [(9, ⟨36, .fix [.i ((List.getD h (Int.toNat (List.getD o i 0)) default).proc), .i ((List.getD h (Int.toNat (List.getD o i 0)) default).obj), .i ((List.getD h (Int.toNat (List.getD o i 0)) default).kind), .i ((List.getD h (Int.toNat (List.getD o i 0)) default).arg), .i ((List.getD h (Int.toNat (List.getD o i 0)) default).ret), .i ((List.getD h (Int.toNat (List.getD o i 0)) default).frm), .i ((List.getD h (Int.toNat (List.getD o i 0)) default).to)]⟩), (14, ⟨24, .row (.intss ss)⟩)], [9, 14, 999]⟩)
          (True ∧ True) (by kernel_rfl)
          ⟨trivial, trivial⟩ ?_
        refine W.ret (thenQ_ret (blockQ_ret (thenQ_ret (thenQ_ret (blockQ_ret (thenQ_ret ?_))))))
        exact endQ_ret (.b false) (by kernel_rfl) (@cast ((.bool false : Value) = .bool (runsB s h o)) _ (by kernel_rfl) (congrArg Value.bool (by exact (allN_false (i := i) (by omega) (by rw [hss] at h40; exact not_f h40)).symm)))
      · intro n40
        refine W.skip (thenQ_normal ?_)
        refine W.L cok tab45 hnt [] (⟨[(0, .v (.string s)), (1, .sl (.calls h)), (2, .sl (.ints o)), (7, .own 14 (List.length ss)), (8, .i ((i : Nat) : Int)), (9, .ptr 9 0), (10, .sl (.ints ((specStep s (List.getD ss (Int.toNat ((List.getD h (Int.toNat (List.getD o i 0)) default).obj)) []) (List.getD h (Int.toNat (List.getD o i 0)) default)).1))), (40, .b (!((specStep s (List.getD ss (Int.toNat ((List.getD h (Int.toNat (List.getD o i 0)) default).obj)) []) (List.getD h (Int.toNat (List.getD o i 0)) default)).2))), (41, .own 14 (List.length ss)), (42, .ptr 9 1), (43, .i ((List.getD h (Int.toNat (List.getD o i 0)) default).obj)), (44, .sl (.ints ((specStep s (List.getD ss (Int.toNat ((List.getD h (Int.toNat (List.getD o i 0)) default).obj)) []) (List.getD h (Int.toNat (List.getD o i 0)) default)).1))), (45, .pel 14 1 (Int.toNat ((List.getD h (Int.toNat (List.getD o i 0)) default).obj)) 0)], [(9, ⟨36, .fix [.i ((List.getD h (Int.toNat (List.getD o i 0)) default).proc), .i ((List.getD h (Int.toNat (List.getD o i 0)) default).obj), .i ((List.getD h (Int.toNat (List.getD o i 0)) default).kind), .i ((List.getD h (Int.toNat (List.getD o i 0)) default).arg), .i ((List.getD h (Int.toNat (List.getD o i 0)) default).ret), .i ((List.getD h (Int.toNat (List.getD o i 0)) default).frm), .i ((List.getD h (Int.toNat (List.getD o i 0)) default).to)]⟩), (14, ⟨24, .row (.intss (List.set ss (Int.toNat ((List.getD h (Int.toNat (List.getD o i 0)) default).obj)) ((specStep s (List.getD ss (Int.toNat ((List.getD h (Int.toNat (List.getD o i 0)) default).obj)) []) (List.getD h (Int.toNat (List.getD o i 0)) default)).1)))⟩)], [9, 14, 999]⟩)
          (True ∧ (True ∧ (True ∧ (True ∧ ((True ∧ (True ∧ ((0 ≤ ((List.getD h (Int.toNat (List.getD o i 0)) default).obj)) ∧ (((List.getD h (Int.toNat (List.getD o i 0)) default).obj) < (((List.length ss) : Nat) : Int))))) ∧ ((True ∧ (True ∧ ((Int.toNat ((List.getD h (Int.toNat (List.getD o i 0)) default).obj)) < (List.length ss)))) ∧ True)))))) (by kernel_rfl)
          ⟨trivial, ⟨trivial, ⟨trivial, ⟨trivial, ⟨⟨trivial, ⟨trivial, ⟨(by have hh := hcl (by omega); omega), (by have hh := hcl (by omega); omega)⟩⟩⟩, ⟨⟨trivial, ⟨trivial, (by have hh := hcl (by omega); omega)⟩⟩, trivial⟩⟩⟩⟩⟩⟩ ?_
        refine blockQ_normal (thenQ_normal ?_)
        refine W.L cok tab45 hnt [] (⟨[(0, .v (.string s)), (1, .sl (.calls h)), (2, .sl (.ints o)), (7, .own 14 (List.length ss)), (8, .i (((i + 1) : Nat) : Int)), (9, .ptr 9 0), (10, .sl (.ints ((specStep s (List.getD ss (Int.toNat ((List.getD h (Int.toNat (List.getD o i 0)) default).obj)) []) (List.getD h (Int.toNat (List.getD o i 0)) default)).1))), (19, .i ((i : Nat) : Int)), (20, .i (((i + 1) : Nat) : Int)), (40, .b (!((specStep s (List.getD ss (Int.toNat ((List.getD h (Int.toNat (List.getD o i 0)) default).obj)) []) (List.getD h (Int.toNat (List.getD o i 0)) default)).2))), (41, .own 14 (List.length ss)), (42, .ptr 9 1), (43, .i ((List.getD h (Int.toNat (List.getD o i 0)) default).obj)), (44, .sl (.ints ((specStep s (List.getD ss (Int.toNat ((List.getD h (Int.toNat (List.getD o i 0)) default).obj)) []) (List.getD h (Int.toNat (List.getD o i 0)) default)).1))), (45, .pel 14 1 (Int.toNat ((List.getD h (Int.toNat (List.getD o i 0)) default).obj)) 0)], [(9, ⟨36, .fix [.i ((List.getD h (Int.toNat (List.getD o i 0)) default).proc), .i ((List.getD h (Int.toNat (List.getD o i 0)) default).obj), .i ((List.getD h (Int.toNat (List.getD o i 0)) default).kind), .i ((List.getD h (Int.toNat (List.getD o i 0)) default).arg), .i ((List.getD h (Int.toNat (List.getD o i 0)) default).ret), .i ((List.getD h (Int.toNat (List.getD o i 0)) default).frm), .i ((List.getD h (Int.toNat (List.getD o i 0)) default).to)]⟩), (14, ⟨24, .row (.intss (List.set ss (Int.toNat ((List.getD h (Int.toNat (List.getD o i 0)) default).obj)) ((specStep s (List.getD ss (Int.toNat ((List.getD h (Int.toNat (List.getD o i 0)) default).obj)) []) (List.getD h (Int.toNat (List.getD o i 0)) default)).1)))⟩)], [9, 14, 999]⟩)
          (True ∧ ((True ∧ (True ∧ (Fits .i64 (((i + 1) : Nat) : Int)))) ∧ (True ∧ True))) (by kernel_rfl)
          ⟨trivial, ⟨⟨trivial, ⟨trivial, (by exact fits_i64 (by omega) (by omega))⟩⟩, ⟨trivial, trivial⟩⟩⟩ ?_
        refine thenQ_normal ?_
        refine ⟨((i + 1), (List.set ss (Int.toNat ((List.getD h (Int.toNat (List.getD o i 0)) default).obj)) ((specStep s (List.getD ss (Int.toNat ((List.getD h (Int.toNat (List.getD o i 0)) default).obj)) []) (List.getD h (Int.toNat (List.getD o i 0)) default)).1))), (show ((i + 1) ≤ o.length) ∧ ((List.set ss (Int.toNat ((List.getD h (Int.toNat (List.getD o i 0)) default).obj)) ((specStep s (List.getD ss (Int.toNat ((List.getD h (Int.toNat (List.getD o i 0)) default).obj)) []) (List.getD h (Int.toNat (List.getD o i 0)) default)).1)) = sts s h o (i + 1)) ∧ (∀ j, j < (i + 1) → okAt s h o j = true) from ⟨(by first | assumption | omega | rfl | (intro _ hjj; omega) | (simp; done) | (simp; omega)), (by rw [hss]; rfl), (by exact upto_succ hA (by rw [hss] at n40; exact not_g n40))⟩), (show o.length - (i + 1) < o.length - i from (by first | omega | (simp_all; omega))), ?_⟩
        exact Sub.of [] (@cast (((((.string s) : Value) = (.string s)) ∧ (((.calls h : Dat) = .calls h) ∧ (((.ints o : Dat) = .ints o) ∧ ((((14 : Nat) = 14) ∧ (((List.length ss) = (List.length (List.set ss (Int.toNat ((List.getD h (Int.toNat (List.getD o i 0)) default).obj)) ((specStep s (List.getD ss (Int.toNat ((List.getD h (Int.toNat (List.getD o i 0)) default).obj)) []) (List.getD h (Int.toNat (List.getD o i 0)) default)).1)))) ∧ ((14 : Nat) ∈ ([14, 999] : List Nat)))) ∧ (((.int .i64 (((i + 1) : Nat) : Int) : Value) = .int .i64 (((i + 1) : Nat) : Int)) ∧ True))))) ∧ (((((24 : Nat) = 24) ∧ (((.intss (List.set ss (Int.toNat ((List.getD h (Int.toNat (List.getD o i 0)) default).obj)) ((specStep s (List.getD ss (Int.toNat ((List.getD h (Int.toNat (List.getD o i 0)) default).obj)) []) (List.getD h (Int.toNat (List.getD o i 0)) default)).1)) : Dat) = .intss (List.set ss (Int.toNat ((List.getD h (Int.toNat (List.getD o i 0)) default).obj)) ((specStep s (List.getD ss (Int.toNat ((List.getD h (Int.toNat (List.getD o i 0)) default).obj)) []) (List.getD h (Int.toNat (List.getD o i 0)) default)).1))) ∧ ((14 : Nat) ∈ ([14, 999] : List Nat)))) ∧ True) ∧ ((true = true) ∧ (true = true)))) _ (by kernel_rfl) ⟨⟨rfl, ⟨rfl, ⟨rfl, ⟨⟨rfl, ⟨(by first | rfl | omega | assumption | (symm; assumption) | simp | simp_all), (by decide)⟩⟩, ⟨rfl, trivial⟩⟩⟩⟩⟩, ⟨⟨⟨rfl, ⟨rfl, (by decide)⟩⟩, trivial⟩, ⟨rfl, rfl⟩⟩⟩)
    · intro n18
      refine W.exit (thenQ_exit (thenQ_exit (blockQ_hit ?_)))
      refine thenQ_normal ?_
      refine W.K cok tab45 hnt [] [6] (⟨[(6, .b true)], [(14, ⟨24, .row (.intss ss)⟩)], [14, 999]⟩)
        (True ∧ True) (by kernel_rfl)
        ⟨trivial, trivial⟩ ?_
      refine W.ret ?_
      exact endQ_ret (.b true) (by kernel_rfl) (@cast ((.bool true : Value) = .bool (runsB s h o)) _ (by kernel_rfl) (congrArg Value.bool (by exact (allN_true (fun j hj => hA j (by omega))).symm)))
theorem ent45 : Entr prog 45 := ⟨_, func45, rfl, by decide⟩
end Go.Proofs.Try

set_option linter.unusedSimpArgs false
set_option linter.unusedVariables false
namespace Go.Proofs.Try
open Go.Ab Go.RowKit
def fs16 : FnS := fnS [.o, .s .calls, .s .ints, .o] [.str, .calls, .ints, .int] (fun _ (s, h, o, z, _) => (.tup [.sl (.ints ((behind s h o z).1)), .b ((behind s h o z).2)], [], True))
abbrev T16 : Tab := lk [(42, fs42), (43, fs43), (44, fs44), (45, fs45), (50, fs50), (51, fs51)]
theorem tab16 : TabOK prog T16 := (TabOK.cons ok42 ent42 (TabOK.cons ok43 ent43 (TabOK.cons ok44 ent44 (TabOK.cons ok45 ent45 (TabOK.cons ok50 ent50 (TabOK.cons ok51 ent51 TabOK.nil))))))
set_option maxRecDepth 100000 in
set_option maxHeartbeats 1000000 in
theorem ok16 : FnOK prog 16 fs16 := by
  refine FnOK.mk cok func16 rfl rfl rfl ?_
  rintro fl ⟨(s : ByteArray), (h : List CallD), (o : List Int), (z : Int), _⟩ hpre F hnt0 _
  have hnt : F.nt = 75 := hnt0.trans ntmps16
  clear hpre
  refine W.to (⟨[(0, .v (.string s)), (1, .sl (.calls h)), (2, .sl (.ints o)), (3, .i z)], [], [999]⟩) rfl ?_
  refine W.lenOf 1 (.calls h) (by kernel_rfl) ?_
  intro hl_h; replace hl_h : List.length h ≤ 9223372036854775807 := hl_h
  refine W.lenOf 2 (.ints o) (by kernel_rfl) ?_
  intro hl_o; replace hl_o : List.length o ≤ 9223372036854775807 := hl_o
  refine W.K cok tab16 hnt [] [0, 1, 2, 3] (⟨[(0, .v (.string s)), (1, .sl (.calls h)), (2, .sl (.ints o)), (3, .i z)], [], [999]⟩)
    (True ∧ (True ∧ True)) (by kernel_rfl)
    ⟨trivial, ⟨trivial, trivial⟩⟩ ?_
  refine W.seq ?_
  refine W.K cok tab16 hnt [] [0, 1, 2, 3, 40] (⟨[(0, .v (.string s)), (1, .sl (.calls h)), (2, .sl (.ints o)), (3, .i z), (40, .b (((((!(isObject s)) || (!(validHistory h))) || (!(isOrd o (((List.length h) : Nat) : Int)))) || (!(runsB s h o))) || (!(within z (0 : Int) (1 : Int)))))], [], [999]⟩)
    (True ∧ ((True ∧ ((True ∧ True) ∧ True)) ∧ (True ∧ (True ∧ (((!(!(isObject s))) = true → True) ∧ (((!(!(isObject s))) = true → (True ∧ (((((!(!(isObject s))) = true) ∧ True) ∧ True) ∧ True))) ∧ (((!(!(isObject s))) = true → (((!(!(isObject s))) = true) ∧ True)) ∧ ((True ∧ (((!(isObject s)) = true → True) ∧ ((!(isObject s)) = false → ((!(!(isObject s))) = true) ∧ True))) ∧ (True ∧ (((!((!(isObject s)) || (!(validHistory h)))) = true → True) ∧ (((!((!(isObject s)) || (!(validHistory h)))) = true → (((!((!(isObject s)) || (!(validHistory h)))) = true) ∧ True)) ∧ (((!((!(isObject s)) || (!(validHistory h)))) = true → True) ∧ (((!((!(isObject s)) || (!(validHistory h)))) = true → (True ∧ (((((!((!(isObject s)) || (!(validHistory h)))) = true) ∧ True) ∧ ((((!((!(isObject s)) || (!(validHistory h)))) = true) ∧ True) ∧ True)) ∧ (0 ≤ (((List.length h) : Nat) : Int) ∧ (((List.length h) : Nat) : Int) ≤ 9223372036854775807)))) ∧ (((!((!(isObject s)) || (!(validHistory h)))) = true → (((!((!(isObject s)) || (!(validHistory h)))) = true) ∧ True)) ∧ ((True ∧ ((((!(isObject s)) || (!(validHistory h))) = true → True) ∧ (((!(isObject s)) || (!(validHistory h))) = false → ((!((!(isObject s)) || (!(validHistory h)))) = true) ∧ True))) ∧ (True ∧ (((!(((!(isObject s)) || (!(validHistory h))) || (!(isOrd o (((List.length h) : Nat) : Int))))) = true → True) ∧ (((!(((!(isObject s)) || (!(validHistory h))) || (!(isOrd o (((List.length h) : Nat) : Int))))) = true → True) ∧ (((!(((!(isObject s)) || (!(validHistory h))) || (!(isOrd o (((List.length h) : Nat) : Int))))) = true → True) ∧ (((!(((!(isObject s)) || (!(validHistory h))) || (!(isOrd o (((List.length h) : Nat) : Int))))) = true → (True ∧ (((((!(((!(isObject s)) || (!(validHistory h))) || (!(isOrd o (((List.length h) : Nat) : Int))))) = true) ∧ True) ∧ ((((!(((!(isObject s)) || (!(validHistory h))) || (!(isOrd o (((List.length h) : Nat) : Int))))) = true) ∧ True) ∧ ((((!(((!(isObject s)) || (!(validHistory h))) || (!(isOrd o (((List.length h) : Nat) : Int))))) = true) ∧ True) ∧ True))) ∧ ((isObject s = true) ∧ ((validHistory h = true) ∧ ((inH h o) ∧ (o.length ≤ 6))))))) ∧ (((!(((!(isObject s)) || (!(validHistory h))) || (!(isOrd o (((List.length h) : Nat) : Int))))) = true → (((!(((!(isObject s)) || (!(validHistory h))) || (!(isOrd o (((List.length h) : Nat) : Int))))) = true) ∧ True)) ∧ ((True ∧ (((((!(isObject s)) || (!(validHistory h))) || (!(isOrd o (((List.length h) : Nat) : Int)))) = true → True) ∧ ((((!(isObject s)) || (!(validHistory h))) || (!(isOrd o (((List.length h) : Nat) : Int)))) = false → ((!(((!(isObject s)) || (!(validHistory h))) || (!(isOrd o (((List.length h) : Nat) : Int))))) = true) ∧ True))) ∧ (True ∧ (((!((((!(isObject s)) || (!(validHistory h))) || (!(isOrd o (((List.length h) : Nat) : Int)))) || (!(runsB s h o)))) = true → True) ∧ (((!((((!(isObject s)) || (!(validHistory h))) || (!(isOrd o (((List.length h) : Nat) : Int)))) || (!(runsB s h o)))) = true → (True ∧ (((((!((((!(isObject s)) || (!(validHistory h))) || (!(isOrd o (((List.length h) : Nat) : Int)))) || (!(runsB s h o)))) = true) ∧ True) ∧ (True ∧ (True ∧ True))) ∧ True))) ∧ (((!((((!(isObject s)) || (!(validHistory h))) || (!(isOrd o (((List.length h) : Nat) : Int)))) || (!(runsB s h o)))) = true → (((!((((!(isObject s)) || (!(validHistory h))) || (!(isOrd o (((List.length h) : Nat) : Int)))) || (!(runsB s h o)))) = true) ∧ True)) ∧ ((True ∧ ((((((!(isObject s)) || (!(validHistory h))) || (!(isOrd o (((List.length h) : Nat) : Int)))) || (!(runsB s h o))) = true → True) ∧ (((((!(isObject s)) || (!(validHistory h))) || (!(isOrd o (((List.length h) : Nat) : Int)))) || (!(runsB s h o))) = false → ((!((((!(isObject s)) || (!(validHistory h))) || (!(isOrd o (((List.length h) : Nat) : Int)))) || (!(runsB s h o)))) = true) ∧ True))) ∧ True))))))))))))))))))))))))))) (by kernel_rfl)
    ⟨trivial, ⟨⟨trivial, ⟨⟨trivial, trivial⟩, trivial⟩⟩, ⟨trivial, ⟨trivial, ⟨(fun _ => trivial), ⟨(fun hG => ⟨trivial, ⟨⟨⟨hG, trivial⟩, trivial⟩, trivial⟩⟩), ⟨(fun hG => ⟨hG, trivial⟩), ⟨⟨trivial, ⟨(fun _ => trivial), (fun hp => ⟨(not_t hp), trivial⟩)⟩⟩, ⟨trivial, ⟨(fun _ => trivial), ⟨(fun hG => ⟨hG, trivial⟩), ⟨(fun _ => trivial), ⟨(fun hG => ⟨trivial, ⟨⟨⟨hG, trivial⟩, ⟨⟨hG, trivial⟩, trivial⟩⟩, (by omega)⟩⟩), ⟨(fun hG => ⟨hG, trivial⟩), ⟨⟨trivial, ⟨(fun _ => trivial), (fun hp => ⟨(not_t hp), trivial⟩)⟩⟩, ⟨trivial, ⟨(fun _ => trivial), ⟨(fun _ => trivial), ⟨(fun _ => trivial), ⟨(fun hG => ⟨trivial, ⟨⟨⟨hG, trivial⟩, ⟨⟨hG, trivial⟩, ⟨⟨hG, trivial⟩, trivial⟩⟩⟩, ⟨(by have h9 := hG; simp only [Bool.not_eq_true', Bool.or_eq_false_iff, Bool.not_eq_false'] at h9; exact h9.1.1), ⟨(by have h9 := hG; simp only [Bool.not_eq_true', Bool.or_eq_false_iff, Bool.not_eq_false'] at h9; exact h9.1.2), ⟨(by have h9 := hG; simp only [Bool.not_eq_true', Bool.or_eq_false_iff, Bool.not_eq_false'] at h9; exact ord_inH h9.2), (by have h9 := hG; simp only [Bool.not_eq_true', Bool.or_eq_false_iff, Bool.not_eq_false'] at h9; have h1 := isOrd_len h9.2; have h2 := (valid_iff.1 h9.1.2).1; omega)⟩⟩⟩⟩⟩), ⟨(fun hG => ⟨hG, trivial⟩), ⟨⟨trivial, ⟨(fun _ => trivial), (fun hp => ⟨(not_t hp), trivial⟩)⟩⟩, ⟨trivial, ⟨(fun _ => trivial), ⟨(fun hG => ⟨trivial, ⟨⟨⟨hG, trivial⟩, ⟨trivial, ⟨trivial, trivial⟩⟩⟩, trivial⟩⟩), ⟨(fun hG => ⟨hG, trivial⟩), ⟨⟨trivial, ⟨(fun _ => trivial), (fun hp => ⟨(not_t hp), trivial⟩)⟩⟩, trivial⟩⟩⟩⟩⟩⟩⟩⟩⟩⟩⟩⟩⟩⟩⟩⟩⟩⟩⟩⟩⟩⟩⟩⟩⟩⟩⟩ ?_
  refine W.if' (((((!(isObject s)) || (!(validHistory h))) || (!(isOrd o (((List.length h) : Nat) : Int)))) || (!(runsB s h o))) || (!(within z (0 : Int) (1 : Int)))) (.b (((((!(isObject s)) || (!(validHistory h))) || (!(isOrd o (((List.length h) : Nat) : Int)))) || (!(runsB s h o))) || (!(within z (0 : Int) (1 : Int))))) (by kernel_rfl) rfl trivial ?_ ?_
  · intro h40
    refine W.K cok tab16 hnt [] [8, 9] (⟨[(8, .v (.slice none 0 0)), (9, .b false)], [], [999]⟩)
      (True ∧ (True ∧ True)) (by kernel_rfl)
      ⟨trivial, ⟨trivial, trivial⟩⟩ ?_
    refine W.ret (thenQ_ret ?_)
    exact endQ_ret (.tup [.v (.slice none 0 0), .b false]) (by kernel_rfl) (@cast ((((Value.slice none 0 0 : Value) = .slice none 0 0) ∧ ((Dat.ints ((behind s h o z).1)).len = 0)) ∧ (((.bool false : Value) = .bool ((behind s h o z).2)) ∧ True)) _ (by kernel_rfl) ⟨⟨rfl, (by show List.length ((behind s h o z).1) = 0; rw [behind_no (spec_guard h40)]; try rfl)⟩, ⟨(congrArg Value.bool (by rw [behind_no (spec_guard h40)]; try rfl)), trivial⟩⟩)
  · intro n40
    have hgd := guard_ok (spec_guard n40)
    obtain ⟨hs, hv, hio, h6, hrn⟩ := right_ok hgd.1
    have ho := ord_inH hio
    refine W.skip (thenQ_normal ?_)
    refine W.K cok tab16 hnt [] [0, 1, 2, 3, 10] (⟨[(0, .v (.string s)), (1, .sl (.calls h)), (2, .sl (.ints o)), (3, .i z), (10, .sl (.ints ([] : List Int)))], [], [41, 999]⟩)
      (True ∧ (True ∧ True)) (by kernel_rfl)
      ⟨trivial, ⟨trivial, trivial⟩⟩ ?_
    refine W.seq ?_
    refine W.K cok tab16 hnt [] [0, 1, 2, 3, 10, 11] (⟨[(0, .v (.string s)), (1, .sl (.calls h)), (2, .sl (.ints o)), (3, .i z), (10, .sl (.ints ([] : List Int))), (11, .i (0 : Int))], [], [41, 999]⟩)
      (True ∧ True) (by kernel_rfl)
      ⟨trivial, trivial⟩ ?_
    refine W.block ?_
    refine W.loop (ι := Nat × (List Int)) (fun (x : Nat × (List Int)) => match x with | (i, l) => (⟨[(0, .v (.string s)), (1, .sl (.calls h)), (2, .sl (.ints o)), (3, .i z), (10, .sl (.ints l)), (11, .i ((i : Nat) : Int))], [], [999]⟩ : St))
      (fun (x : Nat × (List Int)) => match x with | (i, l) => (i ≤ o.length) ∧ (l = (sts s h o i).getD z.toNat []))
      (fun (x : Nat × (List Int)) => match x with | (i, l) => (o.length - i : Nat)) (0, ([] : List Int)) ?_ ?_ ?_
    · exact (show (0 ≤ o.length) ∧ (([] : List Int) = (sts s h o 0).getD z.toNat []) from ⟨(by first | assumption | omega | rfl | (intro _ hjj; omega) | (simp; done) | (simp; omega)), (by exact sts_zero hgd.2)⟩)
    · exact Sub.of [] (@cast (((((.string s) : Value) = (.string s)) ∧ (((.calls h : Dat) = .calls h) ∧ (((.ints o : Dat) = .ints o) ∧ (((.int .i64 z : Value) = .int .i64 z) ∧ (((.ints ([] : List Int) : Dat) = .ints ([] : List Int)) ∧ (((.int .i64 (0 : Int) : Value) = .int .i64 ((0 : Nat) : Int)) ∧ True)))))) ∧ (True ∧ ((true = true) ∧ (true = true)))) _ (by kernel_rfl) ⟨⟨rfl, ⟨rfl, ⟨rfl, ⟨rfl, ⟨rfl, ⟨(congrArg (Value.int .i64) (by first | rfl | omega | assumption | simp | simp_all)), trivial⟩⟩⟩⟩⟩⟩, ⟨trivial, ⟨rfl, rfl⟩⟩⟩)
    · rintro ⟨i, l⟩ hC0
      have hC : (i ≤ o.length) ∧ (l = (sts s h o i).getD z.toNat []) := hC0
      clear hC0
      obtain ⟨hi, hl⟩ := hC
      refine W.to (⟨[(0, .v (.string s)), (1, .sl (.calls h)), (2, .sl (.ints o)), (3, .i z), (10, .sl (.ints l)), (11, .i ((i : Nat) : Int))], [], [999]⟩) rfl ?_
      have hri := ho i
      have hoc := fun hi => ord_call hv ho (i := i) hi
      have hcl := fun hi => isCall_iff.1 (hoc hi)
      have hx2 := inRange_iff.1 hgd.2
      have hso := fun (hi : i < o.length) => sts_ok hs hv ho (i := i) (by omega) (by omega) _ (getD_mem (sts s h o i) [] (show z.toNat < _ by rw [sts_len]; omega))
      unfold ordAt callAt at hcl
      refine W.seq ?_
      refine W.K cok tab16 hnt [] [0, 1, 2, 3, 10, 11, 45] (⟨[(0, .v (.string s)), (1, .sl (.calls h)), (2, .sl (.ints o)), (3, .i z), (10, .sl (.ints l)), (11, .i ((i : Nat) : Int)), (45, .b (decide (((i : Nat) : Int) < (((List.length o) : Nat) : Int))))], [], [999]⟩)
        (True ∧ (True ∧ (True ∧ ((True ∧ (True ∧ True)) ∧ True)))) (by kernel_rfl)
        ⟨trivial, ⟨trivial, ⟨trivial, ⟨⟨trivial, ⟨trivial, trivial⟩⟩, trivial⟩⟩⟩⟩ ?_
      refine W.ifP (((i : Nat) : Int) < (((List.length o) : Nat) : Int)) (.b (decide (((i : Nat) : Int) < (((List.length o) : Nat) : Int)))) (by kernel_rfl) rfl trivial ?_ ?_
      · intro h45
        refine W.skip (thenQ_normal ?_)
        refine W.seq ?_
        refine W.block ?_
        refine W.K cok tab16 hnt [] [0, 1, 2, 3, 10, 11, 57] (⟨[(0, .v (.string s)), (1, .sl (.calls h)), (2, .sl (.ints o)), (3, .i z), (10, .sl (.ints l)), (11, .i ((i : Nat) : Int)), (57, .b (decide (((List.getD h (Int.toNat (List.getD o i 0)) default).obj) = z)))], [], [999]⟩)
          (True ∧ (True ∧ (True ∧ ((True ∧ (True ∧ ((0 ≤ ((i : Nat) : Int)) ∧ (((i : Nat) : Int) < (((List.length o) : Nat) : Int))))) ∧ (True ∧ ((True ∧ (True ∧ ((0 ≤ (List.getD o i 0)) ∧ ((List.getD o i 0) < (((List.length h) : Nat) : Int))))) ∧ (True ∧ (True ∧ (True ∧ ((True ∧ (True ∧ True)) ∧ True)))))))))) (by kernel_rfl)
          ⟨trivial, ⟨trivial, ⟨trivial, ⟨⟨trivial, ⟨trivial, ⟨(by omega), (by omega)⟩⟩⟩, ⟨trivial, ⟨⟨trivial, ⟨trivial, ⟨(by (first | omega | (simp only [List.length_append, List.length_cons, List.length_nil, List.length_take, List.length_drop, List.length_set, List.length_replicate, List.length_map] at *; omega) | assumption)), (by (first | omega | (simp only [List.length_append, List.length_cons, List.length_nil, List.length_take, List.length_drop, List.length_set, List.length_replicate, List.length_map] at *; omega) | assumption))⟩⟩⟩, ⟨trivial, ⟨trivial, ⟨trivial, ⟨⟨trivial, ⟨trivial, trivial⟩⟩, trivial⟩⟩⟩⟩⟩⟩⟩⟩⟩⟩ ?_
        refine W.ifP (((List.getD h (Int.toNat (List.getD o i 0)) default).obj) = z) (.b (decide (((List.getD h (Int.toNat (List.getD o i 0)) default).obj) = z))) (by kernel_rfl) rfl trivial ?_ ?_
        · intro h57
          refine W.K cok tab16 hnt [] [0, 1, 2, 3, 11, 12] (⟨[(0, .v (.string s)), (1, .sl (.calls h)), (2, .sl (.ints o)), (3, .i z), (11, .i ((i : Nat) : Int)), (12, .sl (.ints ((specStep s l (List.getD h (Int.toNat (List.getD o i 0)) default)).1)))], [], [999]⟩)
            (True ∧ (True ∧ (True ∧ (True ∧ (True ∧ ((True ∧ (True ∧ ((0 ≤ ((i : Nat) : Int)) ∧ (((i : Nat) : Int) < (((List.length o) : Nat) : Int))))) ∧ (True ∧ ((True ∧ (True ∧ ((0 ≤ (List.getD o i 0)) ∧ ((List.getD o i 0) < (((List.length h) : Nat) : Int))))) ∧ (True ∧ ((True ∧ ((True ∧ (True ∧ (True ∧ True))) ∧ ((l.length ≤ 1000000) ∧ ((∀ x ∈ l, -1000000000 ≤ x ∧ x ≤ 1000000000) ∧ (-1000000000 ≤ (List.getD h (Int.toNat (List.getD o i 0)) default).arg ∧ (List.getD h (Int.toNat (List.getD o i 0)) default).arg ≤ 1000000000))))) ∧ (True ∧ (True ∧ (True ∧ (True ∧ (True ∧ True))))))))))))))) (by kernel_rfl)
            ⟨trivial, ⟨trivial, ⟨trivial, ⟨trivial, ⟨trivial, ⟨⟨trivial, ⟨trivial, ⟨(by omega), (by omega)⟩⟩⟩, ⟨trivial, ⟨⟨trivial, ⟨trivial, ⟨(by (first | omega | (simp only [List.length_append, List.length_cons, List.length_nil, List.length_take, List.length_drop, List.length_set, List.length_replicate, List.length_map] at *; omega) | assumption)), (by (first | omega | (simp only [List.length_append, List.length_cons, List.length_nil, List.length_take, List.length_drop, List.length_set, List.length_replicate, List.length_map] at *; omega) | assumption))⟩⟩⟩, ⟨trivial, ⟨⟨trivial, ⟨⟨trivial, ⟨trivial, ⟨trivial, trivial⟩⟩⟩, ⟨(by have h9 := (hso (by omega)).2.1; rw [hl]; omega), ⟨(by have h9 := (hso (by omega)).2.2; rw [hl]; intro y hy; have := h9 y hy; omega), (by have hh := hcl (by omega); omega)⟩⟩⟩⟩, ⟨trivial, ⟨trivial, ⟨trivial, ⟨trivial, ⟨trivial, trivial⟩⟩⟩⟩⟩⟩⟩⟩⟩⟩⟩⟩⟩⟩⟩ ?_
          refine W.L cok tab16 hnt [71] (⟨[(0, .v (.string s)), (1, .sl (.calls h)), (2, .sl (.ints o)), (3, .i z), (10, .sl (.ints ((specStep s l (List.getD h (Int.toNat (List.getD o i 0)) default)).1))), (11, .i ((i : Nat) : Int)), (12, .sl (.ints ((specStep s l (List.getD h (Int.toNat (List.getD o i 0)) default)).1))), (71, .own 71 (List.length ([] : List Int))), (72, .sl (.ints ((specStep s l (List.getD h (Int.toNat (List.getD o i 0)) default)).1))), (73, .sl (.ints ((specStep s l (List.getD h (Int.toNat (List.getD o i 0)) default)).1)))], [], [73, 71, 999]⟩)
            (True ∧ (True ∧ (((True ∧ ((List.length ([] : List Int)) = (List.length ([] : List Int)))) ∧ (True ∧ (((List.length ([] : List Int)) + (List.length ((specStep s l (List.getD h (Int.toNat (List.getD o i 0)) default)).1))) * 8 ≤ 140737488355328))) ∧ (True ∧ True)))) (by kernel_rfl)
            ⟨trivial, ⟨trivial, ⟨⟨⟨trivial, rfl⟩, ⟨trivial, (by have h9 := (hso (by omega)).2.1; rw [← hl] at h9; have h8 := specStep_len s l (List.getD h (Int.toNat (List.getD o i 0)) default); have e0 : ([] : List Int).length = 0 := rfl; omega)⟩⟩, ⟨trivial, trivial⟩⟩⟩⟩ ?_
          refine blockQ_normal (thenQ_normal ?_)
          refine W.L cok tab16 hnt [] (⟨[(0, .v (.string s)), (1, .sl (.calls h)), (2, .sl (.ints o)), (3, .i z), (10, .sl (.ints ((specStep s l (List.getD h (Int.toNat (List.getD o i 0)) default)).1))), (11, .i (((i + 1) : Nat) : Int)), (12, .sl (.ints ((specStep s l (List.getD h (Int.toNat (List.getD o i 0)) default)).1))), (46, .i ((i : Nat) : Int)), (47, .i (((i + 1) : Nat) : Int)), (71, .own 71 (List.length ([] : List Int))), (72, .sl (.ints ((specStep s l (List.getD h (Int.toNat (List.getD o i 0)) default)).1))), (73, .sl (.ints ((specStep s l (List.getD h (Int.toNat (List.getD o i 0)) default)).1)))], [], [73, 71, 999]⟩)
            (True ∧ ((True ∧ (True ∧ (Fits .i64 (((i + 1) : Nat) : Int)))) ∧ (True ∧ True))) (by kernel_rfl)
            ⟨trivial, ⟨⟨trivial, ⟨trivial, (by exact fits_i64 (by omega) (by omega))⟩⟩, ⟨trivial, trivial⟩⟩⟩ ?_
          refine thenQ_normal ?_
          refine ⟨((i + 1), ((specStep s l (List.getD h (Int.toNat (List.getD o i 0)) default)).1)), (show ((i + 1) ≤ o.length) ∧ (((specStep s l (List.getD h (Int.toNat (List.getD o i 0)) default)).1) = (sts s h o (i + 1)).getD z.toNat []) from ⟨(by first | assumption | omega | rfl | (intro _ hjj; omega) | (simp; done) | (simp; omega)), (by first | (rw [hl]; exact (sts_same hgd.2 (hoc (by omega)) (by unfold ordAt callAt; omega)).symm) | (rw [hl]; exact (sts_other hgd.2 (hoc (by omega)) (by unfold ordAt callAt; omega)).symm))⟩), (show o.length - (i + 1) < o.length - i from (by first | omega | (simp_all; omega))), ?_⟩
          exact Sub.of [] (@cast (((((.string s) : Value) = (.string s)) ∧ (((.calls h : Dat) = .calls h) ∧ (((.ints o : Dat) = .ints o) ∧ (((.int .i64 z : Value) = .int .i64 z) ∧ (((.ints ((specStep s l (List.getD h (Int.toNat (List.getD o i 0)) default)).1) : Dat) = .ints ((specStep s l (List.getD h (Int.toNat (List.getD o i 0)) default)).1)) ∧ (((.int .i64 (((i + 1) : Nat) : Int) : Value) = .int .i64 (((i + 1) : Nat) : Int)) ∧ True)))))) ∧ (True ∧ ((true = true) ∧ (true = true)))) _ (by kernel_rfl) ⟨⟨rfl, ⟨rfl, ⟨rfl, ⟨rfl, ⟨rfl, ⟨rfl, trivial⟩⟩⟩⟩⟩⟩, ⟨trivial, ⟨rfl, rfl⟩⟩⟩)
        · intro n57
          refine W.skip (blockQ_normal (thenQ_normal ?_))
          refine W.L cok tab16 hnt [] (⟨[(0, .v (.string s)), (1, .sl (.calls h)), (2, .sl (.ints o)), (3, .i z), (10, .sl (.ints l)), (11, .i (((i + 1) : Nat) : Int)), (46, .i ((i : Nat) : Int)), (47, .i (((i + 1) : Nat) : Int)), (57, .b (decide (((List.getD h (Int.toNat (List.getD o i 0)) default).obj) = z)))], [], [999]⟩)
            (True ∧ ((True ∧ (True ∧ (Fits .i64 (((i + 1) : Nat) : Int)))) ∧ (True ∧ True))) (by kernel_rfl)
            ⟨trivial, ⟨⟨trivial, ⟨trivial, (by exact fits_i64 (by omega) (by omega))⟩⟩, ⟨trivial, trivial⟩⟩⟩ ?_
          refine thenQ_normal ?_
          refine ⟨((i + 1), l), (show ((i + 1) ≤ o.length) ∧ (l = (sts s h o (i + 1)).getD z.toNat []) from ⟨(by first | assumption | omega | rfl | (intro _ hjj; omega) | (simp; done) | (simp; omega)), (by first | (rw [hl]; exact (sts_same hgd.2 (hoc (by omega)) (by unfold ordAt callAt; omega)).symm) | (rw [hl]; exact (sts_other hgd.2 (hoc (by omega)) (by unfold ordAt callAt; omega)).symm))⟩), (show o.length - (i + 1) < o.length - i from (by first | omega | (simp_all; omega))), ?_⟩
          exact Sub.of [] (@cast (((((.string s) : Value) = (.string s)) ∧ (((.calls h : Dat) = .calls h) ∧ (((.ints o : Dat) = .ints o) ∧ (((.int .i64 z : Value) = .int .i64 z) ∧ (((.ints l : Dat) = .ints l) ∧ (((.int .i64 (((i + 1) : Nat) : Int) : Value) = .int .i64 (((i + 1) : Nat) : Int)) ∧ True)))))) ∧ (True ∧ ((true = true) ∧ (true = true)))) _ (by kernel_rfl) ⟨⟨rfl, ⟨rfl, ⟨rfl, ⟨rfl, ⟨rfl, ⟨rfl, trivial⟩⟩⟩⟩⟩⟩, ⟨trivial, ⟨rfl, rfl⟩⟩⟩)
      · intro n45
        refine W.exit (thenQ_exit (thenQ_exit (blockQ_hit ?_)))
        refine thenQ_normal ?_
        refine W.K cok tab16 hnt [] [8, 9] (⟨[(8, .sl (.ints l)), (9, .b true)], [], [999]⟩)
          (True ∧ (True ∧ (True ∧ True))) (by kernel_rfl)
          ⟨trivial, ⟨trivial, ⟨trivial, trivial⟩⟩⟩ ?_
        refine W.ret ?_
        exact endQ_ret (.tup [.sl (.ints l), .b true]) (by kernel_rfl) (@cast (((.ints l : Dat) = .ints ((behind s h o z).1)) ∧ (((.bool true : Value) = .bool ((behind s h o z).2)) ∧ True)) _ (by kernel_rfl) ⟨(congrArg Dat.ints (by rw [behind_yes (spec_guard n40)] <;> first | rfl | (rw [hl, show i = o.length by omega]))), ⟨(congrArg Value.bool (by rw [behind_yes (spec_guard n40)] <;> first | rfl | (rw [hl, show i = o.length by omega]))), trivial⟩⟩)
theorem ent16 : Entr prog 16 := ⟨_, func16, rfl, by decide⟩
end Go.Proofs.Try

set_option linter.unusedSimpArgs false
set_option linter.unusedVariables false
namespace Go.Proofs.Try
open Go.Ab Go.RowKit
def fs14 : FnS := fnS [.s .ints, .s .ints] [.ints, .ints] (fun _ (a, b, _) => (.b (decide (a = b)), [], True))
abbrev T14 : Tab := lk []
theorem tab14 : TabOK prog T14 := TabOK.nil
set_option maxRecDepth 100000 in
set_option maxHeartbeats 1000000 in
theorem ok14 : FnOK prog 14 fs14 := by
  refine FnOK.mk cok func14 rfl rfl rfl ?_
  rintro fl ⟨(a : List Int), (b : List Int), _⟩ hpre F hnt0 _
  have hnt : F.nt = 26 := hnt0.trans ntmps14
  clear hpre
  refine W.to (⟨[(0, .sl (.ints a)), (1, .sl (.ints b))], [], [999]⟩) rfl ?_
  refine W.lenOf 0 (.ints a) (by kernel_rfl) ?_
  intro hl_a; replace hl_a : List.length a ≤ 9223372036854775807 := hl_a
  refine W.lenOf 1 (.ints b) (by kernel_rfl) ?_
  intro hl_b; replace hl_b : List.length b ≤ 9223372036854775807 := hl_b
  refine W.K cok tab14 hnt [] [0, 1] (⟨[(0, .sl (.ints a)), (1, .sl (.ints b))], [], [999]⟩)
    (True ∧ True) (by kernel_rfl)
    ⟨trivial, trivial⟩ ?_
  refine W.seq ?_
  refine W.K cok tab14 hnt [] [0, 1, 10] (⟨[(0, .sl (.ints a)), (1, .sl (.ints b)), (10, .b (decide ((((List.length a) : Nat) : Int) ≠ (((List.length b) : Nat) : Int))))], [], [999]⟩)
    (True ∧ (True ∧ (True ∧ (True ∧ ((True ∧ (True ∧ True)) ∧ True))))) (by kernel_rfl)
    ⟨trivial, ⟨trivial, ⟨trivial, ⟨trivial, ⟨⟨trivial, ⟨trivial, trivial⟩⟩, trivial⟩⟩⟩⟩⟩ ?_
  refine W.ifP ((((List.length a) : Nat) : Int) ≠ (((List.length b) : Nat) : Int)) (.b (decide ((((List.length a) : Nat) : Int) ≠ (((List.length b) : Nat) : Int)))) (by kernel_rfl) rfl trivial ?_ ?_
  · intro h10
    refine W.K cok tab14 hnt [] [4] (⟨[(4, .b false)], [], [999]⟩)
      (True ∧ True) (by kernel_rfl)
      ⟨trivial, trivial⟩ ?_
    refine W.ret (thenQ_ret ?_)
    exact endQ_ret (.b false) (by kernel_rfl) (@cast ((.bool false : Value) = .bool (decide (a = b))) _ (by kernel_rfl) (congrArg Value.bool (by symm; exact decide_eq_false (fun e => h10 (by rw [e])))))
  · intro n10
    refine W.skip (thenQ_normal ?_)
    refine W.seq ?_
    refine W.K cok tab14 hnt [] [0, 1, 5] (⟨[(0, .sl (.ints a)), (1, .sl (.ints b)), (5, .i (0 : Int))], [], [999]⟩)
      (True ∧ True) (by kernel_rfl)
      ⟨trivial, trivial⟩ ?_
    refine W.block ?_
    refine W.loop (ι := Nat) (fun (i : Nat) => (⟨[(0, .sl (.ints a)), (1, .sl (.ints b)), (5, .i ((i : Nat) : Int))], [], [999]⟩ : St))
      (fun (i : Nat) => (i ≤ a.length) ∧ (∀ j, j < i → a.getD j 0 = b.getD j 0))
      (fun (i : Nat) => (a.length - i : Nat)) (0) ?_ ?_ ?_
    · exact (show (0 ≤ a.length) ∧ (∀ j, j < 0 → a.getD j 0 = b.getD j 0) from ⟨(by first | assumption | omega | rfl | (intro _ hjj; omega) | (simp; done) | (simp; omega)), (by exact upto_zero)⟩)
    · exact Sub.of [] (@cast ((((.ints a : Dat) = .ints a) ∧ (((.ints b : Dat) = .ints b) ∧ (((.int .i64 (0 : Int) : Value) = .int .i64 ((0 : Nat) : Int)) ∧ True))) ∧ (True ∧ ((true = true) ∧ (true = true)))) _ (by kernel_rfl) ⟨⟨rfl, ⟨rfl, ⟨(congrArg (Value.int .i64) (by first | rfl | omega | assumption | simp | simp_all)), trivial⟩⟩⟩, ⟨trivial, ⟨rfl, rfl⟩⟩⟩)
    · rintro i hC0
      have hC : (i ≤ a.length) ∧ (∀ j, j < i → a.getD j 0 = b.getD j 0) := hC0
      clear hC0
      obtain ⟨hi, hA⟩ := hC
      refine W.to (⟨[(0, .sl (.ints a)), (1, .sl (.ints b)), (5, .i ((i : Nat) : Int))], [], [999]⟩) rfl ?_
      refine W.seq ?_
      refine W.K cok tab14 hnt [] [0, 1, 5, 14] (⟨[(0, .sl (.ints a)), (1, .sl (.ints b)), (5, .i ((i : Nat) : Int)), (14, .b (decide (((i : Nat) : Int) < (((List.length a) : Nat) : Int))))], [], [999]⟩)
        (True ∧ (True ∧ (True ∧ ((True ∧ (True ∧ True)) ∧ True)))) (by kernel_rfl)
        ⟨trivial, ⟨trivial, ⟨trivial, ⟨⟨trivial, ⟨trivial, trivial⟩⟩, trivial⟩⟩⟩⟩ ?_
      refine W.ifP (((i : Nat) : Int) < (((List.length a) : Nat) : Int)) (.b (decide (((i : Nat) : Int) < (((List.length a) : Nat) : Int)))) (by kernel_rfl) rfl trivial ?_ ?_
      · intro h14
        refine W.skip (thenQ_normal ?_)
        refine W.seq ?_
        refine W.block ?_
        refine W.KA cok tab14 hnt [] [0, 1, 5, 25] (⟨[(0, .sl (.ints a)), (1, .sl (.ints b)), (5, .i ((i : Nat) : Int)), (25, .b (decide ((List.getD a i 0) ≠ (List.getD b i 0))))], [], [999]⟩)
          (True ∧ (True ∧ ((True ∧ (True ∧ ((0 ≤ ((i : Nat) : Int)) ∧ (((i : Nat) : Int) < (((List.length a) : Nat) : Int))))) ∧ (True ∧ (True ∧ (True ∧ ((True ∧ (True ∧ ((0 ≤ ((i : Nat) : Int)) ∧ (((i : Nat) : Int) < (((List.length b) : Nat) : Int))))) ∧ (True ∧ ((True ∧ (True ∧ True)) ∧ True))))))))) (by kernel_rfl) (by kernel_rfl)
          ⟨trivial, ⟨trivial, ⟨⟨trivial, ⟨trivial, ⟨(by omega), (by omega)⟩⟩⟩, ⟨trivial, ⟨trivial, ⟨trivial, ⟨⟨trivial, ⟨trivial, ⟨(by omega), (by omega)⟩⟩⟩, ⟨trivial, ⟨⟨trivial, ⟨trivial, trivial⟩⟩, trivial⟩⟩⟩⟩⟩⟩⟩⟩⟩ ?_
        refine W.ifP ((List.getD a i 0) ≠ (List.getD b i 0)) (.b (decide ((List.getD a i 0) ≠ (List.getD b i 0)))) (by kernel_rfl) rfl trivial ?_ ?_
        · intro h25
          refine W.K cok tab14 hnt [] [4] (⟨[(4, .b false)], [], [999]⟩)
            (True ∧ True) (by kernel_rfl)
            ⟨trivial, trivial⟩ ?_
          refine W.ret (blockQ_ret (thenQ_ret (thenQ_ret (blockQ_ret (thenQ_ret ?_)))))
          exact endQ_ret (.b false) (by kernel_rfl) (@cast ((.bool false : Value) = .bool (decide (a = b))) _ (by kernel_rfl) (congrArg Value.bool (by symm; exact decide_eq_false (fun e => h25 (by rw [e])))))
        · intro n25
          refine W.skip (blockQ_normal (thenQ_normal ?_))
          refine W.L cok tab14 hnt [] (⟨[(0, .sl (.ints a)), (1, .sl (.ints b)), (5, .i (((i + 1) : Nat) : Int)), (15, .i ((i : Nat) : Int)), (16, .i (((i + 1) : Nat) : Int)), (25, .b (decide ((List.getD a i 0) ≠ (List.getD b i 0))))], [], [999]⟩)
            (True ∧ ((True ∧ (True ∧ (Fits .i64 (((i + 1) : Nat) : Int)))) ∧ (True ∧ True))) (by kernel_rfl)
            ⟨trivial, ⟨⟨trivial, ⟨trivial, (by exact fits_i64 (by omega) (by omega))⟩⟩, ⟨trivial, trivial⟩⟩⟩ ?_
          refine thenQ_normal ?_
          refine ⟨((i + 1)), (show ((i + 1) ≤ a.length) ∧ (∀ j, j < (i + 1) → a.getD j 0 = b.getD j 0) from ⟨(by first | assumption | omega | rfl | (intro _ hjj; omega) | (simp; done) | (simp; omega)), (by exact upto_succ hA (Decidable.not_not.1 n25))⟩), (show a.length - (i + 1) < a.length - i from (by first | omega | (simp_all; omega))), ?_⟩
          exact Sub.of [] (@cast ((((.ints a : Dat) = .ints a) ∧ (((.ints b : Dat) = .ints b) ∧ (((.int .i64 (((i + 1) : Nat) : Int) : Value) = .int .i64 (((i + 1) : Nat) : Int)) ∧ True))) ∧ (True ∧ ((true = true) ∧ (true = true)))) _ (by kernel_rfl) ⟨⟨rfl, ⟨rfl, ⟨rfl, trivial⟩⟩⟩, ⟨trivial, ⟨rfl, rfl⟩⟩⟩)
      · intro n14
        refine W.exit (thenQ_exit (thenQ_exit (blockQ_hit ?_)))
        refine thenQ_normal ?_
        refine W.K cok tab14 hnt [] [4] (⟨[(4, .b true)], [], [999]⟩)
          (True ∧ True) (by kernel_rfl)
          ⟨trivial, trivial⟩ ?_
        refine W.ret ?_
        exact endQ_ret (.b true) (by kernel_rfl) (@cast ((.bool true : Value) = .bool (decide (a = b))) _ (by kernel_rfl) (congrArg Value.bool (by symm; exact decide_eq_true (ints_ext (by omega) (fun j hj => hA j (by omega))))))
theorem ent14 : Entr prog 14 := ⟨_, func14, rfl, by decide⟩
end Go.Proofs.Try

set_option linter.unusedSimpArgs false
set_option linter.unusedVariables false
namespace Go.Proofs.Try
open Go.Ab Go.RowKit
def fs52 : FnS := fnS [.o, .s .ints] [.str, .ints] (fun _ (s, l, _) => (.b (isObject s && isSt s l), [], True))
abbrev T52 : Tab := lk [(39, fs39), (48, fs48), (69, fs69), (70, fs70)]
theorem tab52 : TabOK prog T52 := (TabOK.cons ok39 ent39 (TabOK.cons ok48 ent48 (TabOK.cons ok69 ent69 (TabOK.cons ok70 ent70 TabOK.nil))))
set_option maxRecDepth 100000 in
set_option maxHeartbeats 1000000 in
theorem ok52 : FnOK prog 52 fs52 := by
  refine FnOK.mk cok func52 rfl rfl rfl ?_
  rintro fl ⟨(s : ByteArray), (l : List Int), _⟩ hpre F hnt0 _
  have hnt : F.nt = 46 := hnt0.trans ntmps52
  clear hpre
  refine W.to (⟨[(0, .v (.string s)), (1, .sl (.ints l))], [], [999]⟩) rfl ?_
  refine W.lenOf 1 (.ints l) (by kernel_rfl) ?_
  intro hl_l; replace hl_l : List.length l ≤ 9223372036854775807 := hl_l
  refine W.K cok tab52 hnt [] [0, 1] (⟨[(0, .v (.string s)), (1, .sl (.ints l))], [], [999]⟩)
    (True ∧ True) (by kernel_rfl)
    ⟨trivial, trivial⟩ ?_
  refine W.seq ?_
  refine W.K cok tab52 hnt [] [0, 1, 7, 8, 9] (⟨[(0, .v (.string s)), (1, .sl (.ints l)), (7, .sl (.ints l)), (8, .i (((List.length l) : Nat) : Int)), (9, .i (0 : Int))], [], [999]⟩)
    (True ∧ (True ∧ (True ∧ True))) (by kernel_rfl)
    ⟨trivial, ⟨trivial, ⟨trivial, trivial⟩⟩⟩ ?_
  refine W.block ?_
  refine W.loop (ι := Nat) (fun (i : Nat) => (⟨[(0, .v (.string s)), (1, .sl (.ints l)), (7, .sl (.ints l)), (8, .i (((List.length l) : Nat) : Int)), (9, .i ((i : Nat) : Int))], [], [999]⟩ : St))
    (fun (i : Nat) => (i ≤ l.length) ∧ (∀ j, j < i → stAt s l j = true))
    (fun (i : Nat) => (l.length - i : Nat)) (0) ?_ ?_ ?_
  · exact (show (0 ≤ l.length) ∧ (∀ j, j < 0 → stAt s l j = true) from ⟨(by first | assumption | omega | rfl | (intro _ hjj; omega) | (simp; done) | (simp; omega)), (by exact upto_zero)⟩)
  · exact Sub.of [] (@cast (((((.string s) : Value) = (.string s)) ∧ (((.ints l : Dat) = .ints l) ∧ (((.ints l : Dat) = .ints l) ∧ (((.int .i64 (((List.length l) : Nat) : Int) : Value) = .int .i64 (((List.length l) : Nat) : Int)) ∧ (((.int .i64 (0 : Int) : Value) = .int .i64 ((0 : Nat) : Int)) ∧ True))))) ∧ (True ∧ ((true = true) ∧ (true = true)))) _ (by kernel_rfl) ⟨⟨rfl, ⟨rfl, ⟨rfl, ⟨rfl, ⟨(congrArg (Value.int .i64) (by first | rfl | omega | assumption | simp | simp_all)), trivial⟩⟩⟩⟩⟩, ⟨trivial, ⟨rfl, rfl⟩⟩⟩)
  · rintro i hC0
    have hC : (i ≤ l.length) ∧ (∀ j, j < i → stAt s l j = true) := hC0
    clear hC0
    obtain ⟨hi, hA⟩ := hC
    refine W.to (⟨[(0, .v (.string s)), (1, .sl (.ints l)), (7, .sl (.ints l)), (8, .i (((List.length l) : Nat) : Int)), (9, .i ((i : Nat) : Int))], [], [999]⟩) rfl ?_
    refine W.K cok tab52 hnt [] [0, 1, 7, 8, 9, 10] (⟨[(0, .v (.string s)), (1, .sl (.ints l)), (7, .sl (.ints l)), (8, .i (((List.length l) : Nat) : Int)), (9, .i ((i : Nat) : Int)), (10, .b (decide (((i : Nat) : Int) < (((List.length l) : Nat) : Int))))], [], [999]⟩)
      ((True ∧ (True ∧ True)) ∧ True) (by kernel_rfl)
      ⟨⟨trivial, ⟨trivial, trivial⟩⟩, trivial⟩ ?_
    refine W.seq ?_
    refine W.ifP (((i : Nat) : Int) < (((List.length l) : Nat) : Int)) (.b (decide (((i : Nat) : Int) < (((List.length l) : Nat) : Int)))) (by kernel_rfl) rfl trivial ?_ ?_
    · intro h10
      refine W.skip (thenQ_normal ?_)
      refine W.seq ?_
      refine W.block ?_
      refine W.K cok tab52 hnt [] [0, 1, 5, 6, 7, 8, 9] (⟨[(0, .v (.string s)), (1, .sl (.ints l)), (5, .i ((i : Nat) : Int)), (6, .i (List.getD l i 0)), (7, .sl (.ints l)), (8, .i (((List.length l) : Nat) : Int)), (9, .i ((i : Nat) : Int))], [], [999]⟩)
        (True ∧ ((True ∧ (True ∧ ((0 ≤ ((i : Nat) : Int)) ∧ (((i : Nat) : Int) < (((List.length l) : Nat) : Int))))) ∧ (True ∧ (True ∧ (True ∧ True))))) (by kernel_rfl)
        ⟨trivial, ⟨⟨trivial, ⟨trivial, ⟨(by omega), (by omega)⟩⟩⟩, ⟨trivial, ⟨trivial, ⟨trivial, trivial⟩⟩⟩⟩⟩ ?_
      refine W.K cok tab52 hnt [] [0, 1, 7, 8, 9, 27] (⟨[(0, .v (.string s)), (1, .sl (.ints l)), (7, .sl (.ints l)), (8, .i (((List.length l) : Nat) : Int)), (9, .i ((i : Nat) : Int)), (27, .b ((!(within (List.getD l i 0) (0 : Int) (20 : Int))) || ((eqS s nSet) && (hasInt (List.take i l) (List.getD l i 0)))))], [], [999]⟩)
        (True ∧ ((True ∧ ((True ∧ (True ∧ (True ∧ True))) ∧ True)) ∧ (True ∧ (True ∧ (((!(!(within (List.getD l i 0) (0 : Int) (20 : Int)))) = true → True) ∧ (((!(!(within (List.getD l i 0) (0 : Int) (20 : Int)))) = true → ((((!(!(within (List.getD l i 0) (0 : Int) (20 : Int)))) = true) ∧ True) ∧ (True ∧ True))) ∧ (((!(!(within (List.getD l i 0) (0 : Int) (20 : Int)))) = true → True) ∧ ((((!(!(within (List.getD l i 0) (0 : Int) (20 : Int)))) && ((!(!(within (List.getD l i 0) (0 : Int) (20 : Int)))) && (eqS s nSet))) = true → True) ∧ ((((!(!(within (List.getD l i 0) (0 : Int) (20 : Int)))) && ((!(!(within (List.getD l i 0) (0 : Int) (20 : Int)))) && (eqS s nSet))) = true → True) ∧ ((((!(!(within (List.getD l i 0) (0 : Int) (20 : Int)))) && ((!(!(within (List.getD l i 0) (0 : Int) (20 : Int)))) && (eqS s nSet))) = true → (((((!(!(within (List.getD l i 0) (0 : Int) (20 : Int)))) && ((!(!(within (List.getD l i 0) (0 : Int) (20 : Int)))) && (eqS s nSet))) = true) ∧ True) ∧ (True ∧ (((((!(!(within (List.getD l i 0) (0 : Int) (20 : Int)))) && ((!(!(within (List.getD l i 0) (0 : Int) (20 : Int)))) && (eqS s nSet))) = true) ∧ True) ∧ ((0 ≤ (0 : Int)) ∧ (((0 : Int) ≤ ((i : Nat) : Int)) ∧ (((i : Nat) : Int) ≤ (((List.length l) : Nat) : Int)))))))) ∧ ((((!(!(within (List.getD l i 0) (0 : Int) (20 : Int)))) && ((!(!(within (List.getD l i 0) (0 : Int) (20 : Int)))) && (eqS s nSet))) = true → True) ∧ ((((!(!(within (List.getD l i 0) (0 : Int) (20 : Int)))) && ((!(!(within (List.getD l i 0) (0 : Int) (20 : Int)))) && (eqS s nSet))) = true → (True ∧ ((((((!(!(within (List.getD l i 0) (0 : Int) (20 : Int)))) && ((!(!(within (List.getD l i 0) (0 : Int) (20 : Int)))) && (eqS s nSet))) = true) ∧ True) ∧ (((((!(!(within (List.getD l i 0) (0 : Int) (20 : Int)))) && ((!(!(within (List.getD l i 0) (0 : Int) (20 : Int)))) && (eqS s nSet))) = true) ∧ True) ∧ True)) ∧ True))) ∧ (((!(!(within (List.getD l i 0) (0 : Int) (20 : Int)))) = true → ((((!(!(within (List.getD l i 0) (0 : Int) (20 : Int)))) = true) ∧ (((!(!(within (List.getD l i 0) (0 : Int) (20 : Int)))) = true) ∧ True)) ∧ (((eqS s nSet) = true → (((!(!(within (List.getD l i 0) (0 : Int) (20 : Int)))) && ((!(!(within (List.getD l i 0) (0 : Int) (20 : Int)))) && (eqS s nSet))) = true) ∧ True) ∧ ((eqS s nSet) = false → True)))) ∧ ((True ∧ (((!(within (List.getD l i 0) (0 : Int) (20 : Int))) = true → True) ∧ ((!(within (List.getD l i 0) (0 : Int) (20 : Int))) = false → ((!(!(within (List.getD l i 0) (0 : Int) (20 : Int)))) = true) ∧ True))) ∧ True)))))))))))))) (by kernel_rfl)
        ⟨trivial, ⟨⟨trivial, ⟨⟨trivial, ⟨trivial, ⟨trivial, trivial⟩⟩⟩, trivial⟩⟩, ⟨trivial, ⟨trivial, ⟨(fun _ => trivial), ⟨(fun hG => ⟨⟨hG, trivial⟩, ⟨trivial, trivial⟩⟩), ⟨(fun _ => trivial), ⟨(fun _ => trivial), ⟨(fun _ => trivial), ⟨(fun hG => ⟨⟨hG, trivial⟩, ⟨trivial, ⟨⟨hG, trivial⟩, ⟨(by omega), ⟨(by omega), (by omega)⟩⟩⟩⟩⟩), ⟨(fun _ => trivial), ⟨(fun hG => ⟨trivial, ⟨⟨⟨hG, trivial⟩, ⟨⟨hG, trivial⟩, trivial⟩⟩, trivial⟩⟩), ⟨(fun hG => ⟨⟨hG, ⟨hG, trivial⟩⟩, ⟨(fun hp => ⟨(and_t hG (and_t hG hp)), trivial⟩), (fun _ => trivial)⟩⟩), ⟨⟨trivial, ⟨(fun _ => trivial), (fun hp => ⟨(not_t hp), trivial⟩)⟩⟩, trivial⟩⟩⟩⟩⟩⟩⟩⟩⟩⟩⟩⟩⟩⟩ ?_
      refine W.if' ((!(within (List.getD l i 0) (0 : Int) (20 : Int))) || ((eqS s nSet) && (hasInt (List.take i l) (List.getD l i 0)))) (.b ((!(within (List.getD l i 0) (0 : Int) (20 : Int))) || ((eqS s nSet) && (hasInt (List.take i l) (List.getD l i 0))))) (by kernel_rfl) rfl trivial ?_ ?_
      · intro h27
        refine W.K cok tab52 hnt [] [4] (⟨[(4, .b false)], [], [999]⟩)
          (True ∧ True) (by kernel_rfl)
          ⟨trivial, trivial⟩ ?_
        refine W.ret (blockQ_ret (thenQ_ret (thenQ_ret (blockQ_ret (thenQ_ret ?_)))))
        exact endQ_ret (.b false) (by kernel_rfl) (@cast ((.bool false : Value) = .bool (isObject s && isSt s l)) _ (by kernel_rfl) (congrArg Value.bool (by rw [stI_no (i := i) (by omega) h27, Bool.and_false])))
      · intro n27
        refine W.skip (blockQ_normal (thenQ_normal ?_))
        refine W.L cok tab52 hnt [] (⟨[(0, .v (.string s)), (1, .sl (.ints l)), (7, .sl (.ints l)), (8, .i (((List.length l) : Nat) : Int)), (9, .i (((i + 1) : Nat) : Int)), (27, .b ((!(within (List.getD l i 0) (0 : Int) (20 : Int))) || ((eqS s nSet) && (hasInt (List.take i l) (List.getD l i 0))))), (28, .i (((i + 1) : Nat) : Int))], [], [999]⟩)
          ((True ∧ (True ∧ (Fits .i64 (((i + 1) : Nat) : Int)))) ∧ (True ∧ True)) (by kernel_rfl)
          ⟨⟨trivial, ⟨trivial, (by exact fits_i64 (by omega) (by omega))⟩⟩, ⟨trivial, trivial⟩⟩ ?_
        refine thenQ_normal ?_
        refine ⟨((i + 1)), (show ((i + 1) ≤ l.length) ∧ (∀ j, j < (i + 1) → stAt s l j = true) from ⟨(by first | assumption | omega | rfl | (intro _ hjj; omega) | (simp; done) | (simp; omega)), (by exact upto_succ hA (stI_ok n27))⟩), (show l.length - (i + 1) < l.length - i from (by first | omega | (simp_all; omega))), ?_⟩
        exact Sub.of [] (@cast (((((.string s) : Value) = (.string s)) ∧ (((.ints l : Dat) = .ints l) ∧ (((.ints l : Dat) = .ints l) ∧ (((.int .i64 (((List.length l) : Nat) : Int) : Value) = .int .i64 (((List.length l) : Nat) : Int)) ∧ (((.int .i64 (((i + 1) : Nat) : Int) : Value) = .int .i64 (((i + 1) : Nat) : Int)) ∧ True))))) ∧ (True ∧ ((true = true) ∧ (true = true)))) _ (by kernel_rfl) ⟨⟨rfl, ⟨rfl, ⟨rfl, ⟨rfl, ⟨rfl, trivial⟩⟩⟩⟩⟩, ⟨trivial, ⟨rfl, rfl⟩⟩⟩)
    · intro n10
      refine W.exit (thenQ_exit (thenQ_exit (blockQ_hit ?_)))
      refine thenQ_normal ?_
      refine W.K cok tab52 hnt [] [4] (⟨[(4, .b (((isObject s) && (decide ((((List.length l) : Nat) : Int) ≤ (20 : Int)))) && ((!(isSingle s)) || (decide ((((List.length l) : Nat) : Int) ≤ (1 : Int))))))], [], [999]⟩)
        (True ∧ ((True ∧ ((True ∧ True) ∧ True)) ∧ (True ∧ (((isObject s) = true → True) ∧ (((isObject s) = true → (((isObject s) = true) ∧ True)) ∧ (((isObject s) = true → ((((isObject s) = true) ∧ True) ∧ (True ∧ True))) ∧ ((True ∧ (((isObject s) = true → ((isObject s) = true) ∧ True) ∧ ((isObject s) = false → True))) ∧ (True ∧ ((((isObject s) && (decide ((((List.length l) : Nat) : Int) ≤ (20 : Int)))) = true → True) ∧ ((((isObject s) && (decide ((((List.length l) : Nat) : Int) ≤ (20 : Int)))) = true → (True ∧ ((((((isObject s) && (decide ((((List.length l) : Nat) : Int) ≤ (20 : Int)))) = true) ∧ True) ∧ True) ∧ True))) ∧ ((((isObject s) && (decide ((((List.length l) : Nat) : Int) ≤ (20 : Int)))) = true → ((((isObject s) && (decide ((((List.length l) : Nat) : Int) ≤ (20 : Int)))) = true) ∧ True)) ∧ ((((isObject s) && (decide ((((List.length l) : Nat) : Int) ≤ (20 : Int)))) = true → True) ∧ (((((isObject s) && (decide ((((List.length l) : Nat) : Int) ≤ (20 : Int)))) && (((isObject s) && (decide ((((List.length l) : Nat) : Int) ≤ (20 : Int)))) && (!(!(isSingle s))))) = true → True) ∧ (((((isObject s) && (decide ((((List.length l) : Nat) : Int) ≤ (20 : Int)))) && (((isObject s) && (decide ((((List.length l) : Nat) : Int) ≤ (20 : Int)))) && (!(!(isSingle s))))) = true → (((((isObject s) && (decide ((((List.length l) : Nat) : Int) ≤ (20 : Int)))) && (((isObject s) && (decide ((((List.length l) : Nat) : Int) ≤ (20 : Int)))) && (!(!(isSingle s))))) = true) ∧ True)) ∧ (((((isObject s) && (decide ((((List.length l) : Nat) : Int) ≤ (20 : Int)))) && (((isObject s) && (decide ((((List.length l) : Nat) : Int) ≤ (20 : Int)))) && (!(!(isSingle s))))) = true → ((((((isObject s) && (decide ((((List.length l) : Nat) : Int) ≤ (20 : Int)))) && (((isObject s) && (decide ((((List.length l) : Nat) : Int) ≤ (20 : Int)))) && (!(!(isSingle s))))) = true) ∧ True) ∧ (True ∧ True))) ∧ ((((isObject s) && (decide ((((List.length l) : Nat) : Int) ≤ (20 : Int)))) = true → (((((isObject s) && (decide ((((List.length l) : Nat) : Int) ≤ (20 : Int)))) = true) ∧ ((((isObject s) && (decide ((((List.length l) : Nat) : Int) ≤ (20 : Int)))) = true) ∧ True)) ∧ (((!(isSingle s)) = true → True) ∧ ((!(isSingle s)) = false → ((((isObject s) && (decide ((((List.length l) : Nat) : Int) ≤ (20 : Int)))) && (((isObject s) && (decide ((((List.length l) : Nat) : Int) ≤ (20 : Int)))) && (!(!(isSingle s))))) = true) ∧ True)))) ∧ ((True ∧ ((((isObject s) && (decide ((((List.length l) : Nat) : Int) ≤ (20 : Int)))) = true → (((isObject s) && (decide ((((List.length l) : Nat) : Int) ≤ (20 : Int)))) = true) ∧ True) ∧ (((isObject s) && (decide ((((List.length l) : Nat) : Int) ≤ (20 : Int)))) = false → True))) ∧ (True ∧ True)))))))))))))))))) (by kernel_rfl)
        ⟨trivial, ⟨⟨trivial, ⟨⟨trivial, trivial⟩, trivial⟩⟩, ⟨trivial, ⟨(fun _ => trivial), ⟨(fun hG => ⟨hG, trivial⟩), ⟨(fun hG => ⟨⟨hG, trivial⟩, ⟨trivial, trivial⟩⟩), ⟨⟨trivial, ⟨(fun hp => ⟨hp, trivial⟩), (fun _ => trivial)⟩⟩, ⟨trivial, ⟨(fun _ => trivial), ⟨(fun hG => ⟨trivial, ⟨⟨⟨hG, trivial⟩, trivial⟩, trivial⟩⟩), ⟨(fun hG => ⟨hG, trivial⟩), ⟨(fun _ => trivial), ⟨(fun _ => trivial), ⟨(fun hG => ⟨hG, trivial⟩), ⟨(fun hG => ⟨⟨hG, trivial⟩, ⟨trivial, trivial⟩⟩), ⟨(fun hG => ⟨⟨hG, ⟨hG, trivial⟩⟩, ⟨(fun _ => trivial), (fun hp => ⟨(and_t hG (and_t hG (not_t hp))), trivial⟩)⟩⟩), ⟨⟨trivial, ⟨(fun hp => ⟨hp, trivial⟩), (fun _ => trivial)⟩⟩, ⟨trivial, trivial⟩⟩⟩⟩⟩⟩⟩⟩⟩⟩⟩⟩⟩⟩⟩⟩⟩⟩ ?_
      refine W.ret ?_
      exact endQ_ret (.b (((isObject s) && (decide ((((List.length l) : Nat) : Int) ≤ (20 : Int)))) && ((!(isSingle s)) || (decide ((((List.length l) : Nat) : Int) ≤ (1 : Int)))))) (by kernel_rfl) (@cast ((.bool (((isObject s) && (decide ((((List.length l) : Nat) : Int) ≤ (20 : Int)))) && ((!(isSingle s)) || (decide ((((List.length l) : Nat) : Int) ≤ (1 : Int))))) : Value) = .bool (isObject s && isSt s l)) _ (by kernel_rfl) (congrArg Value.bool (by exact stI_end (allN_true (fun j hj => hA j (by omega))))))
theorem ent52 : Entr prog 52 := ⟨_, func52, rfl, by decide⟩
end Go.Proofs.Try

set_option linter.unusedSimpArgs false
set_option linter.unusedVariables false
namespace Go.Proofs.Try
open Go.Ab Go.RowKit
def fs17 : FnS := fnS [.o, .s .ints, .o] [.str, .ints, .call] (fun _ (s, l, c, _) => (.tup [.sl (.ints ((stepObject s l c).1)), .b ((stepObject s l c).2)], [], True))
abbrev T17 : Tab := lk [(12, fs12), (52, fs52), (53, fs53)]
theorem tab17 : TabOK prog T17 := (TabOK.cons ok12 ent12 (TabOK.cons ok52 ent52 (TabOK.cons ok53 ent53 TabOK.nil)))
set_option maxRecDepth 100000 in
set_option maxHeartbeats 1000000 in
theorem ok17 : FnOK prog 17 fs17 := by
  refine FnOK.mk cok func17 rfl rfl rfl ?_
  rintro fl ⟨(s : ByteArray), (l : List Int), (c : CallD), _⟩ hpre F hnt0 _
  have hnt : F.nt = 32 := hnt0.trans ntmps17
  clear hpre
  refine W.to (⟨[(0, .v (.string s)), (1, .sl (.ints l)), (2, .agg [.i c.proc, .i c.obj, .i c.kind, .i c.arg, .i c.ret, .i c.frm, .i c.to])], [], [999]⟩) rfl ?_
  refine W.lenOf 1 (.ints l) (by kernel_rfl) ?_
  intro hl_l; replace hl_l : List.length l ≤ 9223372036854775807 := hl_l
  refine W.K cok tab17 hnt [] [0, 1, 5] (⟨[(0, .v (.string s)), (1, .sl (.ints l)), (5, .ptr 5 0)], [(5, ⟨36, .fix [.i c.proc, .i c.obj, .i c.kind, .i c.arg, .i c.ret, .i c.frm, .i c.to]⟩)], [5, 999]⟩)
    (True ∧ (True ∧ (True ∧ True))) (by kernel_rfl)
    ⟨trivial, ⟨trivial, ⟨trivial, trivial⟩⟩⟩ ?_
  refine W.seq ?_
  refine W.K cok tab17 hnt [] [0, 1, 5, 19] (⟨[(0, .v (.string s)), (1, .sl (.ints l)), (5, .ptr 5 0), (19, .b ((!(isObject s && isSt s l)) || (!(validHistory ([c])))))], [(5, ⟨36, .fix [.i c.proc, .i c.obj, .i c.kind, .i c.arg, .i c.ret, .i c.frm, .i c.to]⟩)], [16, 5, 999]⟩)
    (True ∧ (True ∧ ((True ∧ ((True ∧ (True ∧ True)) ∧ True)) ∧ (True ∧ (True ∧ (((!(!(isObject s && isSt s l))) = true → True) ∧ (((!(!(isObject s && isSt s l))) = true → ((((!(!(isObject s && isSt s l))) = true) ∧ True) ∧ True)) ∧ (((!(!(isObject s && isSt s l))) = true → (True ∧ (((((!(!(isObject s && isSt s l))) = true) ∧ True) ∧ True) ∧ True))) ∧ (((!(!(isObject s && isSt s l))) = true → (((!(!(isObject s && isSt s l))) = true) ∧ True)) ∧ ((True ∧ (((!(isObject s && isSt s l)) = true → True) ∧ ((!(isObject s && isSt s l)) = false → ((!(!(isObject s && isSt s l))) = true) ∧ True))) ∧ True)))))))))) (by kernel_rfl)
    ⟨trivial, ⟨trivial, ⟨⟨trivial, ⟨⟨trivial, ⟨trivial, trivial⟩⟩, trivial⟩⟩, ⟨trivial, ⟨trivial, ⟨(fun _ => trivial), ⟨(fun hG => ⟨⟨hG, trivial⟩, trivial⟩), ⟨(fun hG => ⟨trivial, ⟨⟨⟨hG, trivial⟩, trivial⟩, trivial⟩⟩), ⟨(fun hG => ⟨hG, trivial⟩), ⟨⟨trivial, ⟨(fun _ => trivial), (fun hp => ⟨(not_t hp), trivial⟩)⟩⟩, trivial⟩⟩⟩⟩⟩⟩⟩⟩⟩⟩ ?_
  refine W.if' ((!(isObject s && isSt s l)) || (!(validHistory ([c])))) (.b ((!(isObject s && isSt s l)) || (!(validHistory ([c]))))) (by kernel_rfl) rfl trivial ?_ ?_
  · intro h19
    refine W.K cok tab17 hnt [] [6, 7] (⟨[(6, .v (.slice none 0 0)), (7, .b false)], [(5, ⟨36, .fix [.i c.proc, .i c.obj, .i c.kind, .i c.arg, .i c.ret, .i c.frm, .i c.to]⟩)], [16, 5, 999]⟩)
      (True ∧ (True ∧ True)) (by kernel_rfl)
      ⟨trivial, ⟨trivial, trivial⟩⟩ ?_
    refine W.ret (thenQ_ret ?_)
    exact endQ_ret (.tup [.v (.slice none 0 0), .b false]) (by kernel_rfl) (@cast ((((Value.slice none 0 0 : Value) = .slice none 0 0) ∧ ((Dat.ints ((stepObject s l c).1)).len = 0)) ∧ (((.bool false : Value) = .bool ((stepObject s l c).2)) ∧ True)) _ (by kernel_rfl) ⟨⟨rfl, (by show List.length ((stepObject s l c).1) = 0; rw [so_no h19]; try rfl)⟩, ⟨(congrArg Value.bool (by rw [so_no h19]; try rfl)), trivial⟩⟩)
  · intro n19
    refine W.skip (thenQ_normal ?_)
    refine W.K cok tab17 hnt [] [5, 8, 9] (⟨[(5, .ptr 5 0), (8, .sl (.ints ((iStep s l c).1))), (9, .i ((iStep s l c).2))], [(5, ⟨36, .fix [.i c.proc, .i c.obj, .i c.kind, .i c.arg, .i c.ret, .i c.frm, .i c.to]⟩)], [16, 5, 999]⟩)
      (True ∧ (True ∧ (True ∧ ((True ∧ ((True ∧ (True ∧ (True ∧ True))) ∧ ((∀ j, j < l.length → 0 ≤ l.getD j 0 ∧ l.getD j 0 ≤ 20) ∧ ((0 ≤ c.arg ∧ c.arg ≤ 3) ∧ (l.length ≤ 20))))) ∧ (True ∧ (True ∧ (True ∧ (True ∧ (True ∧ True))))))))) (by kernel_rfl)
      ⟨trivial, ⟨trivial, ⟨trivial, ⟨⟨trivial, ⟨⟨trivial, ⟨trivial, ⟨trivial, trivial⟩⟩⟩, ⟨(by exact (st_iff (and_r (and_l (so_ok n19)))).2.2), ⟨(by have := isCall_iff.1 (and_r (so_ok n19)); omega), (by exact (st_iff (and_r (and_l (so_ok n19)))).1)⟩⟩⟩⟩, ⟨trivial, ⟨trivial, ⟨trivial, ⟨trivial, ⟨trivial, trivial⟩⟩⟩⟩⟩⟩⟩⟩⟩ ?_
    refine W.KA cok tab17 hnt [] [6, 7] (⟨[(6, .sl (.ints ((iStep s l c).1))), (7, .b (decide (((iStep s l c).2) = c.ret)))], [(5, ⟨36, .fix [.i c.proc, .i c.obj, .i c.kind, .i c.arg, .i c.ret, .i c.frm, .i c.to]⟩)], [16, 5, 999]⟩)
      (True ∧ (True ∧ (True ∧ (True ∧ ((True ∧ (True ∧ True)) ∧ (True ∧ (True ∧ True))))))) (by kernel_rfl) (by kernel_rfl)
      ⟨trivial, ⟨trivial, ⟨trivial, ⟨trivial, ⟨⟨trivial, ⟨trivial, trivial⟩⟩, ⟨trivial, ⟨trivial, trivial⟩⟩⟩⟩⟩⟩⟩ ?_
    refine W.ret ?_
    exact endQ_ret (.tup [.sl (.ints ((iStep s l c).1)), .b (decide (((iStep s l c).2) = c.ret))]) (by kernel_rfl) (@cast (((.ints ((iStep s l c).1) : Dat) = .ints ((stepObject s l c).1)) ∧ (((.bool (decide (((iStep s l c).2) = c.ret)) : Value) = .bool ((stepObject s l c).2)) ∧ True)) _ (by kernel_rfl) ⟨(congrArg Dat.ints (by rw [so_yes (so_ok n19)]; first | exact (step_eq (so_ok n19)).1 | (rw [dec_comm]; exact (step_eq (so_ok n19)).2))), ⟨(congrArg Value.bool (by rw [so_yes (so_ok n19)]; first | exact (step_eq (so_ok n19)).1 | (rw [dec_comm]; exact (step_eq (so_ok n19)).2))), trivial⟩⟩)
theorem ent17 : Entr prog 17 := ⟨_, func17, rfl, by decide⟩
end Go.Proofs.Try

set_option linter.unusedSimpArgs false
set_option linter.unusedVariables false
namespace Go.Proofs.Try
open Go.Ab Go.RowKit
def pre36 : List AV → List AV → Prop := preP [.bytes] [] (fun (code, _) _ => True)
def rel36 : RelS := relP [.bytes] [] (ι := (List UInt8)) (fun (code, _) _ l => True) (fun (code, _) _ l => (.ptr 0 0, [⟨69, .fix [.sl (.bytes l), .i (0 : Int)]⟩], []))
abbrev T36 : Tab := lk []
theorem tab36 : TabOK prog T36 := TabOK.nil
set_option maxRecDepth 100000 in
set_option maxHeartbeats 1000000 in
theorem rok36 : RelOK prog 36 none [.s .bytes] pre36 rel36 := by
  refine RelOK.mk cok func36 rfl rfl rfl ?_
  rintro ⟨(code : List UInt8), _⟩ _ hpre F hnt0
  have hnt : F.nt = 11 := hnt0.trans ntmps36
  clear hpre
  refine W.to (⟨[(0, .sl (.bytes code))], [], [998, 999]⟩) rfl ?_
  refine W.K cok tab36 hnt [] [0] (⟨[(0, .sl (.bytes code))], [], [998, 999]⟩)
    (True ∧ True) (by kernel_rfl)
    ⟨trivial, trivial⟩ ?_
  refine W.seq ?_
  refine W.K cok tab36 hnt [] [0, 5] (⟨[(0, .sl (.bytes code)), (5, .b (decide ((2000 : Int) < (((List.length code) : Nat) : Int))))], [], [998, 999]⟩)
    (True ∧ (True ∧ ((True ∧ (True ∧ True)) ∧ True))) (by kernel_rfl)
    ⟨trivial, ⟨trivial, ⟨⟨trivial, ⟨trivial, trivial⟩⟩, trivial⟩⟩⟩ ?_
  refine W.ifP ((2000 : Int) < (((List.length code) : Nat) : Int)) (.b (decide ((2000 : Int) < (((List.length code) : Nat) : Int)))) (by kernel_rfl) rfl trivial ?_ ?_
  · intro h5
    refine W.L cok tab36 hnt [] (⟨[(0, .sl (.bytes (List.take 2000 code))), (5, .b (decide ((2000 : Int) < (((List.length code) : Nat) : Int)))), (6, .sl (.bytes code)), (7, .sl (.bytes (List.take 2000 code)))], [], [998, 999]⟩)
      (True ∧ ((True ∧ (True ∧ (True ∧ ((0 ≤ (0 : Int)) ∧ (((0 : Int) ≤ (2000 : Int)) ∧ ((2000 : Int) ≤ (((List.length code) : Nat) : Int))))))) ∧ (True ∧ True))) (by kernel_rfl)
      ⟨trivial, ⟨⟨trivial, ⟨trivial, ⟨trivial, ⟨(by omega), ⟨(by omega), (by omega)⟩⟩⟩⟩⟩, ⟨trivial, trivial⟩⟩⟩ ?_
    refine thenQ_normal ?_
    refine W.K cok tab36 hnt [] [2] (⟨[(2, .ptr 10 0)], [(10, ⟨69, .fix [.sl (.bytes (List.take 2000 code)), .i (0 : Int)]⟩)], [10, 998, 999]⟩)
      (True ∧ ((True ∧ True) ∧ (True ∧ (True ∧ True)))) (by kernel_rfl)
      ⟨trivial, ⟨⟨trivial, trivial⟩, ⟨trivial, ⟨trivial, trivial⟩⟩⟩⟩ ?_
    refine W.ret ?_
    exact endP_ret ((List.take 2000 code)) (show True from trivial) [(0, 10)] (.ptr 10 0) (by kernel_rfl) (@cast ((((10 : Nat) = 10) ∧ (((0 : Nat) = 0) ∧ ((0 : Nat) ∈ ([0] : List Nat)))) ∧ (((((69 : Nat) = 69) ∧ ((((.bytes (List.take 2000 code) : Dat) = .bytes (List.take 2000 code)) ∧ (((.int .i64 (0 : Int) : Value) = .int .i64 (0 : Int)) ∧ True)) ∧ ((0 : Nat) ∈ ([0] : List Nat)))) ∧ True) ∧ ((true = true) ∧ (((([] : List Nat) = []) ∧ True) ∧ (false = true → (10 : Nat) = 998))))) _ (by kernel_rfl) ⟨⟨rfl, ⟨rfl, (by decide)⟩⟩, ⟨⟨⟨rfl, ⟨⟨rfl, ⟨rfl, trivial⟩⟩, (by decide)⟩⟩, trivial⟩, ⟨rfl, ⟨⟨rfl, trivial⟩, (fun h => by cases h)⟩⟩⟩⟩)
  · intro n5
    refine W.skip (thenQ_normal ?_)
    refine W.K cok tab36 hnt [] [2] (⟨[(2, .ptr 10 0)], [(10, ⟨69, .fix [.sl (.bytes code), .i (0 : Int)]⟩)], [10, 998, 999]⟩)
      (True ∧ ((True ∧ True) ∧ (True ∧ (True ∧ True)))) (by kernel_rfl)
      ⟨trivial, ⟨⟨trivial, trivial⟩, ⟨trivial, ⟨trivial, trivial⟩⟩⟩⟩ ?_
    refine W.ret ?_
    exact endP_ret (code) (show True from trivial) [(0, 10)] (.ptr 10 0) (by kernel_rfl) (@cast ((((10 : Nat) = 10) ∧ (((0 : Nat) = 0) ∧ ((0 : Nat) ∈ ([0] : List Nat)))) ∧ (((((69 : Nat) = 69) ∧ ((((.bytes code : Dat) = .bytes code) ∧ (((.int .i64 (0 : Int) : Value) = .int .i64 (0 : Int)) ∧ True)) ∧ ((0 : Nat) ∈ ([0] : List Nat)))) ∧ True) ∧ ((true = true) ∧ (((([] : List Nat) = []) ∧ True) ∧ (false = true → (10 : Nat) = 998))))) _ (by kernel_rfl) ⟨⟨rfl, ⟨rfl, (by decide)⟩⟩, ⟨⟨⟨rfl, ⟨⟨rfl, ⟨rfl, trivial⟩⟩, (by decide)⟩⟩, trivial⟩, ⟨rfl, ⟨⟨rfl, trivial⟩, (fun h => by cases h)⟩⟩⟩⟩)
theorem ent36 : Entr prog 36 := ⟨_, func36, rfl, by decide⟩
end Go.Proofs.Try
