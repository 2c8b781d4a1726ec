import Derived.Test.YtggcajkjoaichaaIF3S0
import Derived.Test.YtggcajkjoaichaaIF3S1
import Derived.Test.YtggcajkjoaichaaIF3S6
import Derived.Test.YtggcajkjoaichaaIF3S4
import Derived.Test.YtggcajkjoaichaaIF3S5
set_option linter.unusedSimpArgs false
set_option linter.unusedVariables false
namespace Go.Proofs.Try
open Go.Ab Go.RowKit
/-- spec.runs -/
def fs45 : FnS := fnS [.o, .s .calls, .s .ints] [.str, .calls, .ints] (fun _ (s, h, o, _) => (.b (runsB s h o), [], (isObject s = true) ∧ (validHistory h = true) ∧ (inH h o) ∧ (o.length ≤ 6)))
abbrev T45 : Tab := lk [(51, fs51)]
theorem tab45 : TabOK prog T45 := (TabOK.cons ok51 ent51 TabOK.nil)
set_option maxRecDepth 100000 in
set_option maxHeartbeats 1000000 in
theorem ok45 : FnOK prog 45 fs45 := by
  refine FnOK.mk cok func45 rfl rfl rfl ?_
  rintro fl ⟨(s : ByteArray), (h : List CallD), (o : List Int), _⟩ hpre F hnt0 _
  have hnt : F.nt = 46 := hnt0.trans ntmps45
  replace hpre : (isObject s = true) ∧ (validHistory h = true) ∧ (inH h o) ∧ (o.length ≤ 6) := hpre
  obtain ⟨hs, hv, ho, h6⟩ := hpre
  refine W.to (⟨[(0, .v (.string s)), (1, .sl (.calls h)), (2, .sl (.ints o))], [], [999]⟩) rfl ?_
  refine W.lenOf 1 (.calls h) (by kernel_rfl) ?_
  intro hl_h; replace hl_h : List.length h ≤ 9223372036854775807 := hl_h
  refine W.lenOf 2 (.ints o) (by kernel_rfl) ?_
  intro hl_o; replace hl_o : List.length o ≤ 9223372036854775807 := hl_o
  refine W.K cok tab45 hnt [] [0, 1, 2] (⟨[(0, .v (.string s)), (1, .sl (.calls h)), (2, .sl (.ints o))], [], [999]⟩)
    (True ∧ True) (by kernel_rfl)
    ⟨trivial, trivial⟩ ?_
  refine W.K cok tab45 hnt [14] [0, 1, 2, 7] (⟨[(0, .v (.string s)), (1, .sl (.calls h)), (2, .sl (.ints o)), (7, .own 14 (List.length ([([] : List Int), ([] : List Int)])))], [(14, ⟨24, .row (.intss ([([] : List Int), ([] : List Int)]))⟩)], [14, 13, 12, 999]⟩)
    (True ∧ (True ∧ ((True ∧ (True ∧ True)) ∧ (True ∧ True)))) (by kernel_rfl)
    ⟨trivial, ⟨trivial, ⟨⟨trivial, ⟨trivial, trivial⟩⟩, ⟨trivial, trivial⟩⟩⟩⟩ ?_
  refine W.seq ?_
  refine W.K cok tab45 hnt [] [0, 1, 2, 7, 8] (⟨[(0, .v (.string s)), (1, .sl (.calls h)), (2, .sl (.ints o)), (7, .own 14 (List.length ([([] : List Int), ([] : List Int)]))), (8, .i (0 : Int))], [(14, ⟨24, .row (.intss ([([] : List Int), ([] : List Int)]))⟩)], [14, 13, 12, 999]⟩)
    (True ∧ True) (by kernel_rfl)
    ⟨trivial, trivial⟩ ?_
  refine W.block ?_
  refine W.loop (ι := Nat × (List (List Int))) (fun (x : Nat × (List (List Int))) => match x with | (i, ss) => (⟨[(0, .v (.string s)), (1, .sl (.calls h)), (2, .sl (.ints o)), (7, .own 14 (List.length ss)), (8, .i ((i : Nat) : Int))], [(14, ⟨24, .row (.intss ss)⟩)], [14, 999]⟩ : St))
    (fun (x : Nat × (List (List Int))) => match x with | (i, ss) => (i ≤ o.length) ∧ (ss = sts s h o i) ∧ (∀ j, j < i → okAt s h o j = true))
    (fun (x : Nat × (List (List Int))) => match x with | (i, ss) => (o.length - i : Nat)) (0, ([([] : List Int), ([] : List Int)])) ?_ ?_ ?_
  · exact (show (0 ≤ o.length) ∧ (([([] : List Int), ([] : List Int)]) = sts s h o 0) ∧ (∀ j, j < 0 → okAt s h o j = true) from ⟨(by first | assumption | omega | rfl | (intro _ hjj; omega) | (simp; done) | (simp; omega)), (by rfl), (by exact upto_zero)⟩)
  · exact Sub.of [] (@cast (((((.string s) : Value) = (.string s)) ∧ (((.calls h : Dat) = .calls h) ∧ (((.ints o : Dat) = .ints o) ∧ ((((14 : Nat) = 14) ∧ (((List.length ([([] : List Int), ([] : List Int)])) = (List.length ([([] : List Int), ([] : List Int)]))) ∧ ((14 : Nat) ∈ ([14, 999] : List Nat)))) ∧ (((.int .i64 (0 : Int) : Value) = .int .i64 ((0 : Nat) : Int)) ∧ True))))) ∧ (((((24 : Nat) = 24) ∧ (((.intss ([([] : List Int), ([] : List Int)]) : Dat) = .intss ([([] : List Int), ([] : List Int)])) ∧ ((14 : Nat) ∈ ([14, 999] : List Nat)))) ∧ True) ∧ ((true = true) ∧ (true = true)))) _ (by kernel_rfl) ⟨⟨rfl, ⟨rfl, ⟨rfl, ⟨⟨rfl, ⟨rfl, (by decide)⟩⟩, ⟨(congrArg (Value.int .i64) (by first | rfl | omega | assumption | simp | simp_all)), trivial⟩⟩⟩⟩⟩, ⟨⟨⟨rfl, ⟨rfl, (by decide)⟩⟩, trivial⟩, ⟨rfl, rfl⟩⟩⟩)
  · rintro ⟨i, ss⟩ hC0
    have hC : (i ≤ o.length) ∧ (ss = sts s h o i) ∧ (∀ j, j < i → okAt s h o j = true) := hC0
    clear hC0
    obtain ⟨hi, hss, hA⟩ := hC
    refine W.to (⟨[(0, .v (.string s)), (1, .sl (.calls h)), (2, .sl (.ints o)), (7, .own 14 (List.length ss)), (8, .i ((i : Nat) : Int))], [(14, ⟨24, .row (.intss ss)⟩)], [14, 999]⟩) rfl ?_
    have hsl : ss.length = 2 := by rw [hss]; exact sts_len s h o i
    have hri := ho i
    have hcl := fun hi => isCall_iff.1 (ord_call hv ho (i := i) hi)
    unfold ordAt callAt at hcl
    refine W.seq ?_
    refine W.K cok tab45 hnt [] [0, 1, 2, 7, 8, 18] (⟨[(0, .v (.string s)), (1, .sl (.calls h)), (2, .sl (.ints o)), (7, .own 14 (List.length ss)), (8, .i ((i : Nat) : Int)), (18, .b (decide (((i : Nat) : Int) < (((List.length o) : Nat) : Int))))], [(14, ⟨24, .row (.intss ss)⟩)], [14, 999]⟩)
      (True ∧ (True ∧ (True ∧ ((True ∧ (True ∧ True)) ∧ True)))) (by kernel_rfl)
      ⟨trivial, ⟨trivial, ⟨trivial, ⟨⟨trivial, ⟨trivial, trivial⟩⟩, trivial⟩⟩⟩⟩ ?_
    refine W.ifP (((i : Nat) : Int) < (((List.length o) : Nat) : Int)) (.b (decide (((i : Nat) : Int) < (((List.length o) : Nat) : Int)))) (by kernel_rfl) rfl trivial ?_ ?_
    · intro h18
      refine W.skip (thenQ_normal ?_)
      refine W.seq ?_
      refine W.block ?_
      refine W.K cok tab45 hnt [] [0, 1, 2, 7, 8, 9] (⟨[(0, .v (.string s)), (1, .sl (.calls h)), (2, .sl (.ints o)), (7, .own 14 (List.length ss)), (8, .i ((i : Nat) : Int)), (9, .ptr 9 0)], [(9, ⟨36, .fix [.i ((List.getD h (Int.toNat (List.getD o i 0)) default).proc), .i ((List.getD h (Int.toNat (List.getD o i 0)) default).obj), .i ((List.getD h (Int.toNat (List.getD o i 0)) default).kind), .i ((List.getD h (Int.toNat (List.getD o i 0)) default).arg), .i ((List.getD h (Int.toNat (List.getD o i 0)) default).ret), .i ((List.getD h (Int.toNat (List.getD o i 0)) default).frm), .i ((List.getD h (Int.toNat (List.getD o i 0)) default).to)]⟩), (14, ⟨24, .row (.intss ss)⟩)], [9, 14, 999]⟩)
        (True ∧ (True ∧ (True ∧ ((True ∧ (True ∧ ((0 ≤ ((i : Nat) : Int)) ∧ (((i : Nat) : Int) < (((List.length o) : Nat) : Int))))) ∧ (True ∧ ((True ∧ (True ∧ ((0 ≤ (List.getD o i 0)) ∧ ((List.getD o i 0) < (((List.length h) : Nat) : Int))))) ∧ (True ∧ (True ∧ ((True ∧ True) ∧ True))))))))) (by kernel_rfl)
        ⟨trivial, ⟨trivial, ⟨trivial, ⟨⟨trivial, ⟨trivial, ⟨(by omega), (by have hh := hcl (by omega); omega)⟩⟩⟩, ⟨trivial, ⟨⟨trivial, ⟨trivial, ⟨(by (first | omega | (simp only [List.length_append, List.length_cons, List.length_nil, List.length_take, List.length_drop, List.length_set, List.length_replicate, List.length_map] at *; omega) | assumption)), (by have hh := hcl (by omega); omega)⟩⟩⟩, ⟨trivial, ⟨trivial, ⟨⟨trivial, trivial⟩, trivial⟩⟩⟩⟩⟩⟩⟩⟩⟩ ?_
      refine W.KA cok tab45 hnt [] [0, 1, 2, 7, 8, 9, 10, 11] (⟨[(0, .v (.string s)), (1, .sl (.calls h)), (2, .sl (.ints o)), (7, .own 14 (List.length ss)), (8, .i ((i : Nat) : Int)), (9, .ptr 9 0), (10, .sl (.ints ((specStep s (List.getD ss (Int.toNat ((List.getD h (Int.toNat (List.getD o i 0)) default).obj)) []) (List.getD h (Int.toNat (List.getD o i 0)) default)).1))), (11, .b ((specStep s (List.getD ss (Int.toNat ((List.getD h (Int.toNat (List.getD o i 0)) default).obj)) []) (List.getD h (Int.toNat (List.getD o i 0)) default)).2))], [(9, ⟨36, .fix [.i ((List.getD h (Int.toNat (List.getD o i 0)) default).proc), .i ((List.getD h (Int.toNat (List.getD o i 0)) default).obj), .i ((List.getD h (Int.toNat (List.getD o i 0)) default).kind), .i ((List.getD h (Int.toNat (List.getD o i 0)) default).arg), .i ((List.getD h (Int.toNat (List.getD o i 0)) default).ret), .i ((List.getD h (Int.toNat (List.getD o i 0)) default).frm), .i ((List.getD h (Int.toNat (List.getD o i 0)) default).to)]⟩), (14, ⟨24, .row (.intss ss)⟩)], [9, 14, 999]⟩)
        (True ∧ (True ∧ (True ∧ (True ∧ ((True ∧ (True ∧ ((0 ≤ ((List.getD h (Int.toNat (List.getD o i 0)) default).obj)) ∧ (((List.getD h (Int.toNat (List.getD o i 0)) default).obj) < (((List.length ss) : Nat) : Int))))) ∧ ((True ∧ ((Int.toNat ((List.getD h (Int.toNat (List.getD o i 0)) default).obj)) < (List.length ss))) ∧ (True ∧ ((True ∧ ((True ∧ (True ∧ (True ∧ True))) ∧ (((List.getD ss (Int.toNat ((List.getD h (Int.toNat (List.getD o i 0)) default).obj)) []).length ≤ 1000000) ∧ ((∀ x ∈ (List.getD ss (Int.toNat ((List.getD h (Int.toNat (List.getD o i 0)) default).obj)) []), -1000000000 ≤ x ∧ x ≤ 1000000000) ∧ (-1000000000 ≤ (List.getD h (Int.toNat (List.getD o i 0)) default).arg ∧ (List.getD h (Int.toNat (List.getD o i 0)) default).arg ≤ 1000000000))))) ∧ (True ∧ (True ∧ (True ∧ (True ∧ (True ∧ True))))))))))))) (by kernel_rfl) (by kernel_rfl)
        ⟨trivial, ⟨trivial, ⟨trivial, ⟨trivial, ⟨⟨trivial, ⟨trivial, ⟨(by have hh := hcl (by omega); omega), (by have hh := hcl (by omega); omega)⟩⟩⟩, ⟨⟨trivial, (by have hh := hcl (by omega); omega)⟩, ⟨trivial, ⟨⟨trivial, ⟨⟨trivial, ⟨trivial, ⟨trivial, trivial⟩⟩⟩, ⟨(by have hh := (sts_at hs hv ho (i := i) (by omega) (by omega)).2.1; unfold ordAt callAt at hh; rw [hss]; omega), ⟨(by have hh := (sts_at hs hv ho (i := i) (by omega) (by omega)).2.2; unfold ordAt callAt at hh; rw [hss]; intro x hx; have := hh x hx; omega), (by have hh := hcl (by omega); omega)⟩⟩⟩⟩, ⟨trivial, ⟨trivial, ⟨trivial, ⟨trivial, ⟨trivial, trivial⟩⟩⟩⟩⟩⟩⟩⟩⟩⟩⟩⟩⟩ ?_
      refine W.seq ?_
      refine W.K cok tab45 hnt [] [0, 1, 2, 7, 8, 9, 10, 40] (⟨[(0, .v (.string s)), (1, .sl (.calls h)), (2, .sl (.ints o)), (7, .own 14 (List.length ss)), (8, .i ((i : Nat) : Int)), (9, .ptr 9 0), (10, .sl (.ints ((specStep s (List.getD ss (Int.toNat ((List.getD h (Int.toNat (List.getD o i 0)) default).obj)) []) (List.getD h (Int.toNat (List.getD o i 0)) default)).1))), (40, .b (!((specStep s (List.getD ss (Int.toNat ((List.getD h (Int.toNat (List.getD o i 0)) default).obj)) []) (List.getD h (Int.toNat (List.getD o i 0)) default)).2)))], [(9, ⟨36, .fix [.i ((List.getD h (Int.toNat (List.getD o i 0)) default).proc), .i ((List.getD h (Int.toNat (List.getD o i 0)) default).obj), .i ((List.getD h (Int.toNat (List.getD o i 0)) default).kind), .i ((List.getD h (Int.toNat (List.getD o i 0)) default).arg), .i ((List.getD h (Int.toNat (List.getD o i 0)) default).ret), .i ((List.getD h (Int.toNat (List.getD o i 0)) default).frm), .i ((List.getD h (Int.toNat (List.getD o i 0)) default).to)]⟩), (14, ⟨24, .row (.intss ss)⟩)], [9, 14, 999]⟩)
        (True ∧ (True ∧ True)) (by kernel_rfl)
        ⟨trivial, ⟨trivial, trivial⟩⟩ ?_
      refine W.if' (!((specStep s (List.getD ss (Int.toNat ((List.getD h (Int.toNat (List.getD o i 0)) default).obj)) []) (List.getD h (Int.toNat (List.getD o i 0)) default)).2)) (.b (!((specStep s (List.getD ss (Int.toNat ((List.getD h (Int.toNat (List.getD o i 0)) default).obj)) []) (List.getD h (Int.toNat (List.getD o i 0)) default)).2))) (by kernel_rfl) rfl trivial ?_ ?_
      · intro h40
        refine W.K cok tab45 hnt [] [6] (⟨[(6, .b false)], [(9, ⟨36, .fix [.i ((List.getD h (Int.toNat (List.getD o i 0)) default).proc), .i ((List.getD h (Int.toNat (List.getD o i 0)) default).obj), .i ((List.getD h (Int.toNat (List.getD o i 0)) default).kind), .i ((List.getD h (Int.toNat (List.getD o i 0)) default).arg), .i ((List.getD h (Int.toNat (List.getD o i 0)) default).ret), .i ((List.getD h (Int.toNat (List.getD o i 0)) default).frm), .i ((List.getD h (Int.toNat (List.getD o i 0)) default).to)]⟩), (14, ⟨24, .row (.intss ss)⟩)], [9, 14, 999]⟩)
          (True ∧ True) (by kernel_rfl)
          ⟨trivial, trivial⟩ ?_
        refine W.ret (thenQ_ret (blockQ_ret (thenQ_ret (thenQ_ret (blockQ_ret (thenQ_ret ?_))))))
        exact endQ_ret (.b false) (by kernel_rfl) (@cast ((.bool false : Value) = .bool (runsB s h o)) _ (by kernel_rfl) (congrArg Value.bool (by exact (allN_false (i := i) (by omega) (by rw [hss] at h40; exact not_f h40)).symm)))
      · intro n40
        refine W.skip (thenQ_normal ?_)
        refine W.L cok tab45 hnt [] (⟨[(0, .v (.string s)), (1, .sl (.calls h)), (2, .sl (.ints o)), (7, .own 14 (List.length ss)), (8, .i ((i : Nat) : Int)), (9, .ptr 9 0), (10, .sl (.ints ((specStep s (List.getD ss (Int.toNat ((List.getD h (Int.toNat (List.getD o i 0)) default).obj)) []) (List.getD h (Int.toNat (List.getD o i 0)) default)).1))), (40, .b (!((specStep s (List.getD ss (Int.toNat ((List.getD h (Int.toNat (List.getD o i 0)) default).obj)) []) (List.getD h (Int.toNat (List.getD o i 0)) default)).2))), (41, .own 14 (List.length ss)), (42, .ptr 9 1), (43, .i ((List.getD h (Int.toNat (List.getD o i 0)) default).obj)), (44, .sl (.ints ((specStep s (List.getD ss (Int.toNat ((List.getD h (Int.toNat (List.getD o i 0)) default).obj)) []) (List.getD h (Int.toNat (List.getD o i 0)) default)).1))), (45, .pel 14 1 (Int.toNat ((List.getD h (Int.toNat (List.getD o i 0)) default).obj)) 0)], [(9, ⟨36, .fix [.i ((List.getD h (Int.toNat (List.getD o i 0)) default).proc), .i ((List.getD h (Int.toNat (List.getD o i 0)) default).obj), .i ((List.getD h (Int.toNat (List.getD o i 0)) default).kind), .i ((List.getD h (Int.toNat (List.getD o i 0)) default).arg), .i ((List.getD h (Int.toNat (List.getD o i 0)) default).ret), .i ((List.getD h (Int.toNat (List.getD o i 0)) default).frm), .i ((List.getD h (Int.toNat (List.getD o i 0)) default).to)]⟩), (14, ⟨24, .row (.intss (List.set ss (Int.toNat ((List.getD h (Int.toNat (List.getD o i 0)) default).obj)) ((specStep s (List.getD ss (Int.toNat ((List.getD h (Int.toNat (List.getD o i 0)) default).obj)) []) (List.getD h (Int.toNat (List.getD o i 0)) default)).1)))⟩)], [9, 14, 999]⟩)
          (True ∧ (True ∧ (True ∧ (True ∧ ((True ∧ (True ∧ ((0 ≤ ((List.getD h (Int.toNat (List.getD o i 0)) default).obj)) ∧ (((List.getD h (Int.toNat (List.getD o i 0)) default).obj) < (((List.length ss) : Nat) : Int))))) ∧ ((True ∧ (True ∧ ((Int.toNat ((List.getD h (Int.toNat (List.getD o i 0)) default).obj)) < (List.length ss)))) ∧ True)))))) (by kernel_rfl)
          ⟨trivial, ⟨trivial, ⟨trivial, ⟨trivial, ⟨⟨trivial, ⟨trivial, ⟨(by have hh := hcl (by omega); omega), (by have hh := hcl (by omega); omega)⟩⟩⟩, ⟨⟨trivial, ⟨trivial, (by have hh := hcl (by omega); omega)⟩⟩, trivial⟩⟩⟩⟩⟩⟩ ?_
        refine blockQ_normal (thenQ_normal ?_)
        refine W.L cok tab45 hnt [] (⟨[(0, .v (.string s)), (1, .sl (.calls h)), (2, .sl (.ints o)), (7, .own 14 (List.length ss)), (8, .i (((i + 1) : Nat) : Int)), (9, .ptr 9 0), (10, .sl (.ints ((specStep s (List.getD ss (Int.toNat ((List.getD h (Int.toNat (List.getD o i 0)) default).obj)) []) (List.getD h (Int.toNat (List.getD o i 0)) default)).1))), (19, .i ((i : Nat) : Int)), (20, .i (((i + 1) : Nat) : Int)), (40, .b (!((specStep s (List.getD ss (Int.toNat ((List.getD h (Int.toNat (List.getD o i 0)) default).obj)) []) (List.getD h (Int.toNat (List.getD o i 0)) default)).2))), (41, .own 14 (List.length ss)), (42, .ptr 9 1), (43, .i ((List.getD h (Int.toNat (List.getD o i 0)) default).obj)), (44, .sl (.ints ((specStep s (List.getD ss (Int.toNat ((List.getD h (Int.toNat (List.getD o i 0)) default).obj)) []) (List.getD h (Int.toNat (List.getD o i 0)) default)).1))), (45, .pel 14 1 (Int.toNat ((List.getD h (Int.toNat (List.getD o i 0)) default).obj)) 0)], [(9, ⟨36, .fix [.i ((List.getD h (Int.toNat (List.getD o i 0)) default).proc), .i ((List.getD h (Int.toNat (List.getD o i 0)) default).obj), .i ((List.getD h (Int.toNat (List.getD o i 0)) default).kind), .i ((List.getD h (Int.toNat (List.getD o i 0)) default).arg), .i ((List.getD h (Int.toNat (List.getD o i 0)) default).ret), .i ((List.getD h (Int.toNat (List.getD o i 0)) default).frm), .i ((List.getD h (Int.toNat (List.getD o i 0)) default).to)]⟩), (14, ⟨24, .row (.intss (List.set ss (Int.toNat ((List.getD h (Int.toNat (List.getD o i 0)) default).obj)) ((specStep s (List.getD ss (Int.toNat ((List.getD h (Int.toNat (List.getD o i 0)) default).obj)) []) (List.getD h (Int.toNat (List.getD o i 0)) default)).1)))⟩)], [9, 14, 999]⟩)
          (True ∧ ((True ∧ (True ∧ (Fits .i64 (((i + 1) : Nat) : Int)))) ∧ (True ∧ True))) (by kernel_rfl)
          ⟨trivial, ⟨⟨trivial, ⟨trivial, (by exact fits_i64 (by omega) (by omega))⟩⟩, ⟨trivial, trivial⟩⟩⟩ ?_
        refine thenQ_normal ?_
        refine ⟨((i + 1), (List.set ss (Int.toNat ((List.getD h (Int.toNat (List.getD o i 0)) default).obj)) ((specStep s (List.getD ss (Int.toNat ((List.getD h (Int.toNat (List.getD o i 0)) default).obj)) []) (List.getD h (Int.toNat (List.getD o i 0)) default)).1))), (show ((i + 1) ≤ o.length) ∧ ((List.set ss (Int.toNat ((List.getD h (Int.toNat (List.getD o i 0)) default).obj)) ((specStep s (List.getD ss (Int.toNat ((List.getD h (Int.toNat (List.getD o i 0)) default).obj)) []) (List.getD h (Int.toNat (List.getD o i 0)) default)).1)) = sts s h o (i + 1)) ∧ (∀ j, j < (i + 1) → okAt s h o j = true) from ⟨(by first | assumption | omega | rfl | (intro _ hjj; omega) | (simp; done) | (simp; omega)), (by rw [hss]; rfl), (by exact upto_succ hA (by rw [hss] at n40; exact not_g n40))⟩), (show o.length - (i + 1) < o.length - i from (by first | omega | (simp_all; omega))), ?_⟩
        exact Sub.of [] (@cast (((((.string s) : Value) = (.string s)) ∧ (((.calls h : Dat) = .calls h) ∧ (((.ints o : Dat) = .ints o) ∧ ((((14 : Nat) = 14) ∧ (((List.length ss) = (List.length (List.set ss (Int.toNat ((List.getD h (Int.toNat (List.getD o i 0)) default).obj)) ((specStep s (List.getD ss (Int.toNat ((List.getD h (Int.toNat (List.getD o i 0)) default).obj)) []) (List.getD h (Int.toNat (List.getD o i 0)) default)).1)))) ∧ ((14 : Nat) ∈ ([14, 999] : List Nat)))) ∧ (((.int .i64 (((i + 1) : Nat) : Int) : Value) = .int .i64 (((i + 1) : Nat) : Int)) ∧ True))))) ∧ (((((24 : Nat) = 24) ∧ (((.intss (List.set ss (Int.toNat ((List.getD h (Int.toNat (List.getD o i 0)) default).obj)) ((specStep s (List.getD ss (Int.toNat ((List.getD h (Int.toNat (List.getD o i 0)) default).obj)) []) (List.getD h (Int.toNat (List.getD o i 0)) default)).1)) : Dat) = .intss (List.set ss (Int.toNat ((List.getD h (Int.toNat (List.getD o i 0)) default).obj)) ((specStep s (List.getD ss (Int.toNat ((List.getD h (Int.toNat (List.getD o i 0)) default).obj)) []) (List.getD h (Int.toNat (List.getD o i 0)) default)).1))) ∧ ((14 : Nat) ∈ ([14, 999] : List Nat)))) ∧ True) ∧ ((true = true) ∧ (true = true)))) _ (by kernel_rfl) ⟨⟨rfl, ⟨rfl, ⟨rfl, ⟨⟨rfl, ⟨(by first | rfl | omega | assumption | (symm; assumption) | simp | simp_all), (by decide)⟩⟩, ⟨rfl, trivial⟩⟩⟩⟩⟩, ⟨⟨⟨rfl, ⟨rfl, (by decide)⟩⟩, trivial⟩, ⟨rfl, rfl⟩⟩⟩)
    · intro n18
      refine W.exit (thenQ_exit (thenQ_exit (blockQ_hit ?_)))
      refine thenQ_normal ?_
      refine W.K cok tab45 hnt [] [6] (⟨[(6, .b true)], [(14, ⟨24, .row (.intss ss)⟩)], [14, 999]⟩)
        (True ∧ True) (by kernel_rfl)
        ⟨trivial, trivial⟩ ?_
      refine W.ret ?_
      exact endQ_ret (.b true) (by kernel_rfl) (@cast ((.bool true : Value) = .bool (runsB s h o)) _ (by kernel_rfl) (congrArg Value.bool (by exact (allN_true (fun j hj => hA j (by omega))).symm)))
theorem ent45 : Entr prog 45 := ⟨_, func45, rfl, by decide⟩

end Go.Proofs.Try

set_option linter.unusedSimpArgs false
set_option linter.unusedVariables false
namespace Go.Proofs.Try
open Go.Ab Go.RowKit
/-- spec.IsRight -/
def fs11 : FnS := fnS [.o, .s .calls, .s .ints] [.str, .calls, .ints] (fun _ (s, h, o, _) => (.b (rightB s h o), [], True))
abbrev T11 : Tab := lk [(42, fs42), (43, fs43), (44, fs44), (45, fs45)]
theorem tab11 : TabOK prog T11 := (TabOK.cons ok42 ent42 (TabOK.cons ok43 ent43 (TabOK.cons ok44 ent44 (TabOK.cons ok45 ent45 TabOK.nil))))
set_option maxRecDepth 100000 in
set_option maxHeartbeats 1000000 in
theorem ok11 : FnOK prog 11 fs11 := by
  refine FnOK.mk cok func11 rfl rfl rfl ?_
  rintro fl ⟨(s : ByteArray), (h : List CallD), (o : List Int), _⟩ hpre F hnt0 _
  have hnt : F.nt = 25 := hnt0.trans ntmps11
  clear hpre
  refine W.to (⟨[(0, .v (.string s)), (1, .sl (.calls h)), (2, .sl (.ints o))], [], [999]⟩) rfl ?_
  refine W.lenOf 1 (.calls h) (by kernel_rfl) ?_
  intro hl_h; replace hl_h : List.length h ≤ 9223372036854775807 := hl_h
  refine W.lenOf 2 (.ints o) (by kernel_rfl) ?_
  intro hl_o; replace hl_o : List.length o ≤ 9223372036854775807 := hl_o
  refine W.K cok tab11 hnt [] [0, 1, 2] (⟨[(0, .v (.string s)), (1, .sl (.calls h)), (2, .sl (.ints o))], [], [999]⟩)
    (True ∧ True) (by kernel_rfl)
    ⟨trivial, trivial⟩ ?_
  refine W.K cok tab11 hnt [] [6] (⟨[(6, .b ((((isObject s) && (validHistory h)) && (isOrd o (((List.length h) : Nat) : Int))) && (runsB s h o)))], [], [999]⟩)
    (True ∧ ((True ∧ ((True ∧ True) ∧ True)) ∧ (True ∧ (((isObject s) = true → True) ∧ (((isObject s) = true → (True ∧ (((((isObject s) = true) ∧ True) ∧ True) ∧ True))) ∧ ((True ∧ (((isObject s) = true → ((isObject s) = true) ∧ True) ∧ ((isObject s) = false → True))) ∧ (True ∧ ((((isObject s) && (validHistory h)) = true → True) ∧ ((((isObject s) && (validHistory h)) = true → ((((isObject s) && (validHistory h)) = true) ∧ True)) ∧ ((((isObject s) && (validHistory h)) = true → True) ∧ ((((isObject s) && (validHistory h)) = true → (True ∧ ((((((isObject s) && (validHistory h)) = true) ∧ True) ∧ (((((isObject s) && (validHistory h)) = true) ∧ True) ∧ True)) ∧ (0 ≤ (((List.length h) : Nat) : Int) ∧ (((List.length h) : Nat) : Int) ≤ 9223372036854775807)))) ∧ ((True ∧ ((((isObject s) && (validHistory h)) = true → (((isObject s) && (validHistory h)) = true) ∧ True) ∧ (((isObject s) && (validHistory h)) = false → True))) ∧ (True ∧ (((((isObject s) && (validHistory h)) && (isOrd o (((List.length h) : Nat) : Int))) = true → True) ∧ (((((isObject s) && (validHistory h)) && (isOrd o (((List.length h) : Nat) : Int))) = true → True) ∧ (((((isObject s) && (validHistory h)) && (isOrd o (((List.length h) : Nat) : Int))) = true → True) ∧ (((((isObject s) && (validHistory h)) && (isOrd o (((List.length h) : Nat) : Int))) = true → (True ∧ (((((((isObject s) && (validHistory h)) && (isOrd o (((List.length h) : Nat) : Int))) = true) ∧ True) ∧ ((((((isObject s) && (validHistory h)) && (isOrd o (((List.length h) : Nat) : Int))) = true) ∧ True) ∧ ((((((isObject s) && (validHistory h)) && (isOrd o (((List.length h) : Nat) : Int))) = true) ∧ True) ∧ True))) ∧ ((isObject s = true) ∧ ((validHistory h = true) ∧ ((inH h o) ∧ (o.length ≤ 6))))))) ∧ ((True ∧ (((((isObject s) && (validHistory h)) && (isOrd o (((List.length h) : Nat) : Int))) = true → ((((isObject s) && (validHistory h)) && (isOrd o (((List.length h) : Nat) : Int))) = true) ∧ True) ∧ ((((isObject s) && (validHistory h)) && (isOrd o (((List.length h) : Nat) : Int))) = false → True))) ∧ (True ∧ True))))))))))))))))))) (by kernel_rfl)
    ⟨trivial, ⟨⟨trivial, ⟨⟨trivial, trivial⟩, trivial⟩⟩, ⟨trivial, ⟨(fun _ => trivial), ⟨(fun hG => ⟨trivial, ⟨⟨⟨hG, trivial⟩, trivial⟩, trivial⟩⟩), ⟨⟨trivial, ⟨(fun hp => ⟨hp, trivial⟩), (fun _ => trivial)⟩⟩, ⟨trivial, ⟨(fun _ => trivial), ⟨(fun hG => ⟨hG, trivial⟩), ⟨(fun _ => trivial), ⟨(fun hG => ⟨trivial, ⟨⟨⟨hG, trivial⟩, ⟨⟨hG, trivial⟩, trivial⟩⟩, (by omega)⟩⟩), ⟨⟨trivial, ⟨(fun hp => ⟨hp, trivial⟩), (fun _ => trivial)⟩⟩, ⟨trivial, ⟨(fun _ => trivial), ⟨(fun _ => trivial), ⟨(fun _ => trivial), ⟨(fun hG => ⟨trivial, ⟨⟨⟨hG, trivial⟩, ⟨⟨hG, trivial⟩, ⟨⟨hG, trivial⟩, trivial⟩⟩⟩, ⟨(by have h9 := hG; simp only [Bool.and_eq_true] at h9; exact h9.1.1), ⟨(by have h9 := hG; simp only [Bool.and_eq_true] at h9; exact h9.1.2), ⟨(by have h9 := hG; simp only [Bool.and_eq_true] at h9; exact ord_inH h9.2), (by have h9 := hG; simp only [Bool.and_eq_true] at h9; have h1 := isOrd_len h9.2; have h2 := (valid_iff.1 h9.1.2).1; omega)⟩⟩⟩⟩⟩), ⟨⟨trivial, ⟨(fun hp => ⟨hp, trivial⟩), (fun _ => trivial)⟩⟩, ⟨trivial, trivial⟩⟩⟩⟩⟩⟩⟩⟩⟩⟩⟩⟩⟩⟩⟩⟩⟩⟩⟩ ?_
  refine W.ret ?_
  exact endQ_ret (.b ((((isObject s) && (validHistory h)) && (isOrd o (((List.length h) : Nat) : Int))) && (runsB s h o))) (by kernel_rfl) (@cast ((.bool ((((isObject s) && (validHistory h)) && (isOrd o (((List.length h) : Nat) : Int))) && (runsB s h o)) : Value) = .bool (rightB s h o)) _ (by kernel_rfl) (congrArg Value.bool (by unfold rightB; rfl)))
theorem ent11 : Entr prog 11 := ⟨_, func11, rfl, by decide⟩

end Go.Proofs.Try

set_option linter.unusedSimpArgs false
set_option linter.unusedVariables false
namespace Go.Proofs.Try
open Go.Ab Go.RowKit
/-- impl.StateBehind -/
def fs13 : FnS := fnS [.o, .s .calls, .s .ints, .o] [.str, .calls, .ints, .int] (fun _ (s, h, o, z, _) => (.tup [.sl (.ints ((behind s h o z).1)), .b ((behind s h o z).2)], [], True))
abbrev T13 : Tab := lk [(10, fs10), (41, fs41), (48, fs48)]
theorem tab13 : TabOK prog T13 := (TabOK.cons ok10 ent10 (TabOK.cons ok41 ent41 (TabOK.cons ok48 ent48 TabOK.nil)))
set_option maxRecDepth 100000 in
set_option maxHeartbeats 1000000 in
theorem ok13 : FnOK prog 13 fs13 := by
  refine FnOK.mk cok func13 rfl rfl rfl ?_
  rintro fl ⟨(s : ByteArray), (h : List CallD), (o : List Int), (z : Int), _⟩ hpre F hnt0 _
  have hnt : F.nt = 32 := hnt0.trans ntmps13
  clear hpre
  refine W.to (⟨[(0, .v (.string s)), (1, .sl (.calls h)), (2, .sl (.ints o)), (3, .i z)], [], [999]⟩) rfl ?_
  refine W.lenOf 1 (.calls h) (by kernel_rfl) ?_
  intro hl_h; replace hl_h : List.length h ≤ 9223372036854775807 := hl_h
  refine W.lenOf 2 (.ints o) (by kernel_rfl) ?_
  intro hl_o; replace hl_o : List.length o ≤ 9223372036854775807 := hl_o
  refine W.K cok tab13 hnt [] [0, 1, 2, 3] (⟨[(0, .v (.string s)), (1, .sl (.calls h)), (2, .sl (.ints o)), (3, .i z)], [], [999]⟩)
    (True ∧ (True ∧ True)) (by kernel_rfl)
    ⟨trivial, ⟨trivial, trivial⟩⟩ ?_
  refine W.seq ?_
  refine W.K cok tab13 hnt [] [0, 1, 2, 3, 21] (⟨[(0, .v (.string s)), (1, .sl (.calls h)), (2, .sl (.ints o)), (3, .i z), (21, .b ((!(rightB s h o)) || (!(within z (0 : Int) (1 : Int)))))], [], [999]⟩)
    (True ∧ (True ∧ (True ∧ ((True ∧ ((True ∧ (True ∧ (True ∧ True))) ∧ True)) ∧ (True ∧ (True ∧ (((!(!(rightB s h o))) = true → True) ∧ (((!(!(rightB s h o))) = true → (True ∧ (((((!(!(rightB s h o))) = true) ∧ True) ∧ (True ∧ (True ∧ True))) ∧ True))) ∧ (((!(!(rightB s h o))) = true → (((!(!(rightB s h o))) = true) ∧ True)) ∧ ((True ∧ (((!(rightB s h o)) = true → True) ∧ ((!(rightB s h o)) = false → ((!(!(rightB s h o))) = true) ∧ True))) ∧ True)))))))))) (by kernel_rfl)
    ⟨trivial, ⟨trivial, ⟨trivial, ⟨⟨trivial, ⟨⟨trivial, ⟨trivial, ⟨trivial, trivial⟩⟩⟩, trivial⟩⟩, ⟨trivial, ⟨trivial, ⟨(fun _ => trivial), ⟨(fun hG => ⟨trivial, ⟨⟨⟨hG, trivial⟩, ⟨trivial, ⟨trivial, trivial⟩⟩⟩, trivial⟩⟩), ⟨(fun hG => ⟨hG, trivial⟩), ⟨⟨trivial, ⟨(fun _ => trivial), (fun hp => ⟨(not_t hp), trivial⟩)⟩⟩, trivial⟩⟩⟩⟩⟩⟩⟩⟩⟩⟩ ?_
  refine W.if' ((!(rightB s h o)) || (!(within z (0 : Int) (1 : Int)))) (.b ((!(rightB s h o)) || (!(within z (0 : Int) (1 : Int))))) (by kernel_rfl) rfl trivial ?_ ?_
  · intro h21
    refine W.K cok tab13 hnt [] [8, 9] (⟨[(8, .v (.slice none 0 0)), (9, .b false)], [], [999]⟩)
      (True ∧ (True ∧ True)) (by kernel_rfl)
      ⟨trivial, ⟨trivial, trivial⟩⟩ ?_
    refine W.ret (thenQ_ret ?_)
    exact endQ_ret (.tup [.v (.slice none 0 0), .b false]) (by kernel_rfl) (@cast ((((Value.slice none 0 0 : Value) = .slice none 0 0) ∧ ((Dat.ints ((behind s h o z).1)).len = 0)) ∧ (((.bool false : Value) = .bool ((behind s h o z).2)) ∧ True)) _ (by kernel_rfl) ⟨⟨rfl, (by show List.length ((behind s h o z).1) = 0; rw [behind_no h21]; try rfl)⟩, ⟨(congrArg Value.bool (by rw [behind_no h21]; try rfl)), trivial⟩⟩)
  · intro n21
    refine W.skip (thenQ_normal ?_)
    refine W.K cok tab13 hnt [] [3, 10] (⟨[(3, .i z), (10, .ptr 10 0)], [(10, ⟨53, .row (.intss ([List.getD ((playedR s h o).1) 0 [], List.getD ((playedR s h o).1) 1 []]))⟩)], [10, 999]⟩)
      (True ∧ (True ∧ (True ∧ ((True ∧ ((True ∧ (True ∧ (True ∧ True))) ∧ ((isObject s = true) ∧ ((validHistory h = true) ∧ ((inH h o) ∧ (o.length ≤ 6)))))) ∧ (True ∧ (True ∧ (True ∧ (True ∧ ((True ∧ (True ∧ ((List.length ([[], []] : List (List Int))) = 2))) ∧ (True ∧ True)))))))))) (by kernel_rfl)
      ⟨trivial, ⟨trivial, ⟨trivial, ⟨⟨trivial, ⟨⟨trivial, ⟨trivial, ⟨trivial, trivial⟩⟩⟩, ⟨(by exact (right_ok (not_g (or_l n21))).1), ⟨(by exact (right_ok (not_g (or_l n21))).2.1), ⟨(by exact ord_inH (right_ok (not_g (or_l n21))).2.2.1), (by exact (right_ok (not_g (or_l n21))).2.2.2.1)⟩⟩⟩⟩⟩, ⟨trivial, ⟨trivial, ⟨trivial, ⟨trivial, ⟨⟨trivial, ⟨trivial, (by rfl)⟩⟩, ⟨trivial, trivial⟩⟩⟩⟩⟩⟩⟩⟩⟩⟩ ?_
    refine W.K cok tab13 hnt [] [8, 9] (⟨[(8, .sl (.ints (List.getD ([List.getD ((playedR s h o).1) 0 [], List.getD ((playedR s h o).1) 1 []]) (Int.toNat z) []))), (9, .b true)], [(10, ⟨53, .row (.intss ([List.getD ((playedR s h o).1) 0 [], List.getD ((playedR s h o).1) 1 []]))⟩)], [10, 999]⟩)
      (True ∧ ((True ∧ (True ∧ ((0 ≤ z) ∧ (z < 2)))) ∧ ((True ∧ ((Int.toNat z) < (List.length ([List.getD ((playedR s h o).1) 0 [], List.getD ((playedR s h o).1) 1 []])))) ∧ (True ∧ (True ∧ True))))) (by kernel_rfl)
      ⟨trivial, ⟨⟨trivial, ⟨trivial, ⟨(by have := inRange_iff.1 (not_g (or_r n21)); omega), (by have := inRange_iff.1 (not_g (or_r n21)); omega)⟩⟩⟩, ⟨⟨trivial, (by first | rfl | omega | (have := inRange_iff.1 (not_g (or_r n21)); omega) | (have := inRange_iff.1 (not_g (or_r n21)); simp; omega))⟩, ⟨trivial, ⟨trivial, trivial⟩⟩⟩⟩⟩ ?_
    refine W.ret ?_
    exact endQ_ret (.tup [.sl (.ints (List.getD ([List.getD ((playedR s h o).1) 0 [], List.getD ((playedR s h o).1) 1 []]) (Int.toNat z) [])), .b true]) (by kernel_rfl) (@cast (((.ints (List.getD ([List.getD ((playedR s h o).1) 0 [], List.getD ((playedR s h o).1) 1 []]) (Int.toNat z) []) : Dat) = .ints ((behind s h o z).1)) ∧ (((.bool true : Value) = .bool ((behind s h o z).2)) ∧ True)) _ (by kernel_rfl) ⟨(congrArg Dat.ints (by rw [behind_yes n21] <;> first | rfl | (exact behind_get (not_g (or_l n21)) (not_g (or_r n21))))), ⟨(congrArg Value.bool (by rw [behind_yes n21] <;> first | rfl | (exact behind_get (not_g (or_l n21)) (not_g (or_r n21))))), trivial⟩⟩)
theorem ent13 : Entr prog 13 := ⟨_, func13, rfl, by decide⟩

end Go.Proofs.Try

set_option linter.unusedSimpArgs false
set_option linter.unusedVariables false
namespace Go.Proofs.Try
open Go.Ab Go.RowKit
/-- laws.equalInts -/
def fs14 : FnS := fnS [.s .ints, .s .ints] [.ints, .ints] (fun _ (a, b, _) => (.b (decide (a = b)), [], True))
abbrev T14 : Tab := lk []
theorem tab14 : TabOK prog T14 := TabOK.nil
set_option maxRecDepth 100000 in
set_option maxHeartbeats 1000000 in
theorem ok14 : FnOK prog 14 fs14 := by
  refine FnOK.mk cok func14 rfl rfl rfl ?_
  rintro fl ⟨(a : List Int), (b : List Int), _⟩ hpre F hnt0 _
  have hnt : F.nt = 26 := hnt0.trans ntmps14
  clear hpre
  refine W.to (⟨[(0, .sl (.ints a)), (1, .sl (.ints b))], [], [999]⟩) rfl ?_
  refine W.lenOf 0 (.ints a) (by kernel_rfl) ?_
  intro hl_a; replace hl_a : List.length a ≤ 9223372036854775807 := hl_a
  refine W.lenOf 1 (.ints b) (by kernel_rfl) ?_
  intro hl_b; replace hl_b : List.length b ≤ 9223372036854775807 := hl_b
  refine W.K cok tab14 hnt [] [0, 1] (⟨[(0, .sl (.ints a)), (1, .sl (.ints b))], [], [999]⟩)
    (True ∧ True) (by kernel_rfl)
    ⟨trivial, trivial⟩ ?_
  refine W.seq ?_
  refine W.K cok tab14 hnt [] [0, 1, 10] (⟨[(0, .sl (.ints a)), (1, .sl (.ints b)), (10, .b (decide ((((List.length a) : Nat) : Int) ≠ (((List.length b) : Nat) : Int))))], [], [999]⟩)
    (True ∧ (True ∧ (True ∧ (True ∧ ((True ∧ (True ∧ True)) ∧ True))))) (by kernel_rfl)
    ⟨trivial, ⟨trivial, ⟨trivial, ⟨trivial, ⟨⟨trivial, ⟨trivial, trivial⟩⟩, trivial⟩⟩⟩⟩⟩ ?_
  refine W.ifP ((((List.length a) : Nat) : Int) ≠ (((List.length b) : Nat) : Int)) (.b (decide ((((List.length a) : Nat) : Int) ≠ (((List.length b) : Nat) : Int)))) (by kernel_rfl) rfl trivial ?_ ?_
  · intro h10
    refine W.K cok tab14 hnt [] [4] (⟨[(4, .b false)], [], [999]⟩)
      (True ∧ True) (by kernel_rfl)
      ⟨trivial, trivial⟩ ?_
    refine W.ret (thenQ_ret ?_)
    exact endQ_ret (.b false) (by kernel_rfl) (@cast ((.bool false : Value) = .bool (decide (a = b))) _ (by kernel_rfl) (congrArg Value.bool (by symm; exact decide_eq_false (fun e => h10 (by rw [e])))))
  · intro n10
    refine W.skip (thenQ_normal ?_)
    refine W.seq ?_
    refine W.K cok tab14 hnt [] [0, 1, 5] (⟨[(0, .sl (.ints a)), (1, .sl (.ints b)), (5, .i (0 : Int))], [], [999]⟩)
      (True ∧ True) (by kernel_rfl)
      ⟨trivial, trivial⟩ ?_
    refine W.block ?_
    refine W.loop (ι := Nat) (fun (i : Nat) => (⟨[(0, .sl (.ints a)), (1, .sl (.ints b)), (5, .i ((i : Nat) : Int))], [], [999]⟩ : St))
      (fun (i : Nat) => (i ≤ a.length) ∧ (∀ j, j < i → a.getD j 0 = b.getD j 0))
      (fun (i : Nat) => (a.length - i : Nat)) (0) ?_ ?_ ?_
    · exact (show (0 ≤ a.length) ∧ (∀ j, j < 0 → a.getD j 0 = b.getD j 0) from ⟨(by first | assumption | omega | rfl | (intro _ hjj; omega) | (simp; done) | (simp; omega)), (by exact upto_zero)⟩)
    · exact Sub.of [] (@cast ((((.ints a : Dat) = .ints a) ∧ (((.ints b : Dat) = .ints b) ∧ (((.int .i64 (0 : Int) : Value) = .int .i64 ((0 : Nat) : Int)) ∧ True))) ∧ (True ∧ ((true = true) ∧ (true = true)))) _ (by kernel_rfl) ⟨⟨rfl, ⟨rfl, ⟨(congrArg (Value.int .i64) (by first | rfl | omega | assumption | simp | simp_all)), trivial⟩⟩⟩, ⟨trivial, ⟨rfl, rfl⟩⟩⟩)
    · rintro i hC0
      have hC : (i ≤ a.length) ∧ (∀ j, j < i → a.getD j 0 = b.getD j 0) := hC0
      clear hC0
      obtain ⟨hi, hA⟩ := hC
      refine W.to (⟨[(0, .sl (.ints a)), (1, .sl (.ints b)), (5, .i ((i : Nat) : Int))], [], [999]⟩) rfl ?_
      refine W.seq ?_
      refine W.K cok tab14 hnt [] [0, 1, 5, 14] (⟨[(0, .sl (.ints a)), (1, .sl (.ints b)), (5, .i ((i : Nat) : Int)), (14, .b (decide (((i : Nat) : Int) < (((List.length a) : Nat) : Int))))], [], [999]⟩)
        (True ∧ (True ∧ (True ∧ ((True ∧ (True ∧ True)) ∧ True)))) (by kernel_rfl)
        ⟨trivial, ⟨trivial, ⟨trivial, ⟨⟨trivial, ⟨trivial, trivial⟩⟩, trivial⟩⟩⟩⟩ ?_
      refine W.ifP (((i : Nat) : Int) < (((List.length a) : Nat) : Int)) (.b (decide (((i : Nat) : Int) < (((List.length a) : Nat) : Int)))) (by kernel_rfl) rfl trivial ?_ ?_
      · intro h14
        refine W.skip (thenQ_normal ?_)
        refine W.seq ?_
        refine W.block ?_
        refine W.KA cok tab14 hnt [] [0, 1, 5, 25] (⟨[(0, .sl (.ints a)), (1, .sl (.ints b)), (5, .i ((i : Nat) : Int)), (25, .b (decide ((List.getD a i 0) ≠ (List.getD b i 0))))], [], [999]⟩)
          (True ∧ (True ∧ ((True ∧ (True ∧ ((0 ≤ ((i : Nat) : Int)) ∧ (((i : Nat) : Int) < (((List.length a) : Nat) : Int))))) ∧ (True ∧ (True ∧ (True ∧ ((True ∧ (True ∧ ((0 ≤ ((i : Nat) : Int)) ∧ (((i : Nat) : Int) < (((List.length b) : Nat) : Int))))) ∧ (True ∧ ((True ∧ (True ∧ True)) ∧ True))))))))) (by kernel_rfl) (by kernel_rfl)
          ⟨trivial, ⟨trivial, ⟨⟨trivial, ⟨trivial, ⟨(by omega), (by omega)⟩⟩⟩, ⟨trivial, ⟨trivial, ⟨trivial, ⟨⟨trivial, ⟨trivial, ⟨(by omega), (by omega)⟩⟩⟩, ⟨trivial, ⟨⟨trivial, ⟨trivial, trivial⟩⟩, trivial⟩⟩⟩⟩⟩⟩⟩⟩⟩ ?_
        refine W.ifP ((List.getD a i 0) ≠ (List.getD b i 0)) (.b (decide ((List.getD a i 0) ≠ (List.getD b i 0)))) (by kernel_rfl) rfl trivial ?_ ?_
        · intro h25
          refine W.K cok tab14 hnt [] [4] (⟨[(4, .b false)], [], [999]⟩)
            (True ∧ True) (by kernel_rfl)
            ⟨trivial, trivial⟩ ?_
          refine W.ret (blockQ_ret (thenQ_ret (thenQ_ret (blockQ_ret (thenQ_ret ?_)))))
          exact endQ_ret (.b false) (by kernel_rfl) (@cast ((.bool false : Value) = .bool (decide (a = b))) _ (by kernel_rfl) (congrArg Value.bool (by symm; exact decide_eq_false (fun e => h25 (by rw [e])))))
        · intro n25
          refine W.skip (blockQ_normal (thenQ_normal ?_))
          refine W.L cok tab14 hnt [] (⟨[(0, .sl (.ints a)), (1, .sl (.ints b)), (5, .i (((i + 1) : Nat) : Int)), (15, .i ((i : Nat) : Int)), (16, .i (((i + 1) : Nat) : Int)), (25, .b (decide ((List.getD a i 0) ≠ (List.getD b i 0))))], [], [999]⟩)
            (True ∧ ((True ∧ (True ∧ (Fits .i64 (((i + 1) : Nat) : Int)))) ∧ (True ∧ True))) (by kernel_rfl)
            ⟨trivial, ⟨⟨trivial, ⟨trivial, (by exact fits_i64 (by omega) (by omega))⟩⟩, ⟨trivial, trivial⟩⟩⟩ ?_
          refine thenQ_normal ?_
          refine ⟨((i + 1)), (show ((i + 1) ≤ a.length) ∧ (∀ j, j < (i + 1) → a.getD j 0 = b.getD j 0) from ⟨(by first | assumption | omega | rfl | (intro _ hjj; omega) | (simp; done) | (simp; omega)), (by exact upto_succ hA (Decidable.not_not.1 n25))⟩), (show a.length - (i + 1) < a.length - i from (by first | omega | (simp_all; omega))), ?_⟩
          exact Sub.of [] (@cast ((((.ints a : Dat) = .ints a) ∧ (((.ints b : Dat) = .ints b) ∧ (((.int .i64 (((i + 1) : Nat) : Int) : Value) = .int .i64 (((i + 1) : Nat) : Int)) ∧ True))) ∧ (True ∧ ((true = true) ∧ (true = true)))) _ (by kernel_rfl) ⟨⟨rfl, ⟨rfl, ⟨rfl, trivial⟩⟩⟩, ⟨trivial, ⟨rfl, rfl⟩⟩⟩)
      · intro n14
        refine W.exit (thenQ_exit (thenQ_exit (blockQ_hit ?_)))
        refine thenQ_normal ?_
        refine W.K cok tab14 hnt [] [4] (⟨[(4, .b true)], [], [999]⟩)
          (True ∧ True) (by kernel_rfl)
          ⟨trivial, trivial⟩ ?_
        refine W.ret ?_
        exact endQ_ret (.b true) (by kernel_rfl) (@cast ((.bool true : Value) = .bool (decide (a = b))) _ (by kernel_rfl) (congrArg Value.bool (by symm; exact decide_eq_true (ints_ext (by omega) (fun j hj => hA j (by omega))))))
theorem ent14 : Entr prog 14 := ⟨_, func14, rfl, by decide⟩

end Go.Proofs.Try

set_option linter.unusedSimpArgs false
set_option linter.unusedVariables false
namespace Go.Proofs.Try
open Go.Ab Go.RowKit
/-- spec.newReader -/
def pre36 : List AV → List AV → Prop := preP [.bytes] [] (fun (code, _) _ => True)
def rel36 : RelS := relP [.bytes] [] (ι := (List UInt8)) (fun (code, _) _ l => True) (fun (code, _) _ l => (.ptr 0 0, [⟨69, .fix [.sl (.bytes l), .i (0 : Int)]⟩], []))
abbrev T36 : Tab := lk []
theorem tab36 : TabOK prog T36 := TabOK.nil
set_option maxRecDepth 100000 in
set_option maxHeartbeats 1000000 in
theorem rok36 : RelOK prog 36 none [.s .bytes] pre36 rel36 := by
  refine RelOK.mk cok func36 rfl rfl rfl ?_
  rintro ⟨(code : List UInt8), _⟩ _ hpre F hnt0
  have hnt : F.nt = 11 := hnt0.trans ntmps36
  clear hpre
  refine W.to (⟨[(0, .sl (.bytes code))], [], [998, 999]⟩) rfl ?_
  refine W.K cok tab36 hnt [] [0] (⟨[(0, .sl (.bytes code))], [], [998, 999]⟩)
    (True ∧ True) (by kernel_rfl)
    ⟨trivial, trivial⟩ ?_
  refine W.seq ?_
  refine W.K cok tab36 hnt [] [0, 5] (⟨[(0, .sl (.bytes code)), (5, .b (decide ((2000 : Int) < (((List.length code) : Nat) : Int))))], [], [998, 999]⟩)
    (True ∧ (True ∧ ((True ∧ (True ∧ True)) ∧ True))) (by kernel_rfl)
    ⟨trivial, ⟨trivial, ⟨⟨trivial, ⟨trivial, trivial⟩⟩, trivial⟩⟩⟩ ?_
  refine W.ifP ((2000 : Int) < (((List.length code) : Nat) : Int)) (.b (decide ((2000 : Int) < (((List.length code) : Nat) : Int)))) (by kernel_rfl) rfl trivial ?_ ?_
  · intro h5
    refine W.L cok tab36 hnt [] (⟨[(0, .sl (.bytes (List.take 2000 code))), (5, .b (decide ((2000 : Int) < (((List.length code) : Nat) : Int)))), (6, .sl (.bytes code)), (7, .sl (.bytes (List.take 2000 code)))], [], [998, 999]⟩)
      (True ∧ ((True ∧ (True ∧ (True ∧ ((0 ≤ (0 : Int)) ∧ (((0 : Int) ≤ (2000 : Int)) ∧ ((2000 : Int) ≤ (((List.length code) : Nat) : Int))))))) ∧ (True ∧ True))) (by kernel_rfl)
      ⟨trivial, ⟨⟨trivial, ⟨trivial, ⟨trivial, ⟨(by omega), ⟨(by omega), (by omega)⟩⟩⟩⟩⟩, ⟨trivial, trivial⟩⟩⟩ ?_
    refine thenQ_normal ?_
    refine W.K cok tab36 hnt [] [2] (⟨[(2, .ptr 10 0)], [(10, ⟨69, .fix [.sl (.bytes (List.take 2000 code)), .i (0 : Int)]⟩)], [10, 998, 999]⟩)
      (True ∧ ((True ∧ True) ∧ (True ∧ (True ∧ True)))) (by kernel_rfl)
      ⟨trivial, ⟨⟨trivial, trivial⟩, ⟨trivial, ⟨trivial, trivial⟩⟩⟩⟩ ?_
    refine W.ret ?_
    exact endP_ret ((List.take 2000 code)) (show True from trivial) [(0, 10)] (.ptr 10 0) (by kernel_rfl) (@cast ((((10 : Nat) = 10) ∧ (((0 : Nat) = 0) ∧ ((0 : Nat) ∈ ([0] : List Nat)))) ∧ (((((69 : Nat) = 69) ∧ ((((.bytes (List.take 2000 code) : Dat) = .bytes (List.take 2000 code)) ∧ (((.int .i64 (0 : Int) : Value) = .int .i64 (0 : Int)) ∧ True)) ∧ ((0 : Nat) ∈ ([0] : List Nat)))) ∧ True) ∧ ((true = true) ∧ (((([] : List Nat) = []) ∧ True) ∧ (false = true → (10 : Nat) = 998))))) _ (by kernel_rfl) ⟨⟨rfl, ⟨rfl, (by decide)⟩⟩, ⟨⟨⟨rfl, ⟨⟨rfl, ⟨rfl, trivial⟩⟩, (by decide)⟩⟩, trivial⟩, ⟨rfl, ⟨⟨rfl, trivial⟩, (fun h => by cases h)⟩⟩⟩⟩)
  · intro n5
    refine W.skip (thenQ_normal ?_)
    refine W.K cok tab36 hnt [] [2] (⟨[(2, .ptr 10 0)], [(10, ⟨69, .fix [.sl (.bytes code), .i (0 : Int)]⟩)], [10, 998, 999]⟩)
      (True ∧ ((True ∧ True) ∧ (True ∧ (True ∧ True)))) (by kernel_rfl)
      ⟨trivial, ⟨⟨trivial, trivial⟩, ⟨trivial, ⟨trivial, trivial⟩⟩⟩⟩ ?_
    refine W.ret ?_
    exact endP_ret (code) (show True from trivial) [(0, 10)] (.ptr 10 0) (by kernel_rfl) (@cast ((((10 : Nat) = 10) ∧ (((0 : Nat) = 0) ∧ ((0 : Nat) ∈ ([0] : List Nat)))) ∧ (((((69 : Nat) = 69) ∧ ((((.bytes code : Dat) = .bytes code) ∧ (((.int .i64 (0 : Int) : Value) = .int .i64 (0 : Int)) ∧ True)) ∧ ((0 : Nat) ∈ ([0] : List Nat)))) ∧ True) ∧ ((true = true) ∧ (((([] : List Nat) = []) ∧ True) ∧ (false = true → (10 : Nat) = 998))))) _ (by kernel_rfl) ⟨⟨rfl, ⟨rfl, (by decide)⟩⟩, ⟨⟨⟨rfl, ⟨⟨rfl, ⟨rfl, trivial⟩⟩, (by decide)⟩⟩, trivial⟩, ⟨rfl, ⟨⟨rfl, trivial⟩, (fun h => by cases h)⟩⟩⟩⟩)
theorem ent36 : Entr prog 36 := ⟨_, func36, rfl, by decide⟩

end Go.Proofs.Try

set_option linter.unusedSimpArgs false
set_option linter.unusedVariables false
namespace Go.Proofs.Try
open Go.Ab Go.RowKit
/-- (*spec.reader).pick -/
def pre68 : List AV → List AV → Prop := preP [.int] [.bytes, .int] (fun (n, _) (l, p, _) => (0 ≤ p ∧ p ≤ 1000000))
def rel68 : RelS := relP [.int] [.bytes, .int] (ι := Int × Int) (fun (n, _) (l, p, _) (v, q) => (0 ≤ v ∧ v < max n 1) ∧ (q = p + 1)) (fun (n, _) (l, p, _) (v, q) => (.i v, [], [.sl (.bytes l), .i q]))
abbrev T68 : Tab := lk []
theorem tab68 : TabOK prog T68 := TabOK.nil
set_option maxRecDepth 100000 in
set_option maxHeartbeats 1000000 in
theorem rok68 : RelOK prog 68 (some 69) [.o] pre68 rel68 := by
  refine RelOK.mk cok func68 rfl rfl rfl ?_
  rintro ⟨(n : Int), _⟩ ⟨(l : List UInt8), (p : Int), _⟩ hpre F hnt0
  have hnt : F.nt = 99 := hnt0.trans ntmps68
  replace hpre : (0 ≤ p ∧ p ≤ 1000000) := hpre
  have hp := hpre
  refine W.to (⟨[(0, .ptr 998 0), (1, .i n)], [(998, ⟨69, .fix [.sl (.bytes l), .i p]⟩)], [998, 999]⟩) rfl ?_
  have hu : ∀ i : Nat, ((UInt8.toNat (List.getD l i default) : Nat) : Int) ≤ 255 := fun i => by have := (List.getD l i default).toNat_lt; omega
  refine W.K cok tab68 hnt [] [0, 1] (⟨[(0, .ptr 998 0), (1, .i n)], [(998, ⟨69, .fix [.sl (.bytes l), .i p]⟩)], [998, 999]⟩)
    (True ∧ True) (by kernel_rfl)
    ⟨trivial, trivial⟩ ?_
  refine W.K cok tab68 hnt [] [0, 1] (⟨[(0, .ptr 998 0), (1, .i n)], [(998, ⟨69, .fix [.sl (.bytes l), .i (p + (1 : Int))]⟩)], [998, 999]⟩)
    (True ∧ (True ∧ (True ∧ (True ∧ (True ∧ ((True ∧ (True ∧ (Fits .i64 (p + (1 : Int))))) ∧ (True ∧ (True ∧ ((True ∧ True) ∧ True))))))))) (by kernel_rfl)
    ⟨trivial, ⟨trivial, ⟨trivial, ⟨trivial, ⟨trivial, ⟨⟨trivial, ⟨trivial, (by exact fits_i64 (by omega) (by omega))⟩⟩, ⟨trivial, ⟨trivial, ⟨⟨trivial, trivial⟩, trivial⟩⟩⟩⟩⟩⟩⟩⟩⟩ ?_
  refine W.seq ?_
  refine W.K cok tab68 hnt [] [0, 1, 24] (⟨[(0, .ptr 998 0), (1, .i n), (24, .b ((decide (n < (1 : Int))) || (decide ((((List.length l) : Nat) : Int) = (0 : Int)))))], [(998, ⟨69, .fix [.sl (.bytes l), .i (p + (1 : Int))]⟩)], [998, 999]⟩)
    (True ∧ ((True ∧ (True ∧ True)) ∧ (True ∧ (((!(decide (n < (1 : Int)))) = true → True) ∧ (((!(decide (n < (1 : Int)))) = true → (((!(decide (n < (1 : Int)))) = true) ∧ True)) ∧ (((!(decide (n < (1 : Int)))) = true → (((!(decide (n < (1 : Int)))) = true) ∧ True)) ∧ (((!(decide (n < (1 : Int)))) = true → (((!(decide (n < (1 : Int)))) = true) ∧ True)) ∧ (((!(decide (n < (1 : Int)))) = true → (((!(decide (n < (1 : Int)))) = true) ∧ True)) ∧ (((!(decide (n < (1 : Int)))) = true → ((((!(decide (n < (1 : Int)))) = true) ∧ True) ∧ (True ∧ True))) ∧ ((True ∧ (((decide (n < (1 : Int))) = true → True) ∧ ((decide (n < (1 : Int))) = false → ((!(decide (n < (1 : Int)))) = true) ∧ True))) ∧ True)))))))))) (by kernel_rfl)
    ⟨trivial, ⟨⟨trivial, ⟨trivial, trivial⟩⟩, ⟨trivial, ⟨(fun _ => trivial), ⟨(fun hG => ⟨hG, trivial⟩), ⟨(fun hG => ⟨hG, trivial⟩), ⟨(fun hG => ⟨hG, trivial⟩), ⟨(fun hG => ⟨hG, trivial⟩), ⟨(fun hG => ⟨⟨hG, trivial⟩, ⟨trivial, trivial⟩⟩), ⟨⟨trivial, ⟨(fun _ => trivial), (fun hp => ⟨(not_t hp), trivial⟩)⟩⟩, trivial⟩⟩⟩⟩⟩⟩⟩⟩⟩⟩ ?_
  refine W.if' ((decide (n < (1 : Int))) || (decide ((((List.length l) : Nat) : Int) = (0 : Int)))) (.b ((decide (n < (1 : Int))) || (decide ((((List.length l) : Nat) : Int) = (0 : Int))))) (by kernel_rfl) rfl trivial ?_ ?_
  · intro h24
    refine W.K cok tab68 hnt [] [4] (⟨[(4, .i (0 : Int))], [(998, ⟨69, .fix [.sl (.bytes l), .i (p + (1 : Int))]⟩)], [998, 999]⟩)
      (True ∧ True) (by kernel_rfl)
      ⟨trivial, trivial⟩ ?_
    refine W.ret (thenQ_ret ?_)
    exact endP_ret ((0 : Int), (p + (1 : Int))) (show (0 ≤ (0 : Int) ∧ (0 : Int) < max n 1) ∧ ((p + (1 : Int)) = p + 1) from ⟨(by omega), (by first | assumption | omega | rfl | (simp; done) | (simp; omega))⟩) [(0, 998)] (.i (0 : Int)) (by kernel_rfl) (@cast (((.int .i64 (0 : Int) : Value) = .int .i64 (0 : Int)) ∧ (((((69 : Nat) = 69) ∧ ((((.bytes l : Dat) = .bytes l) ∧ (((.int .i64 (p + (1 : Int)) : Value) = .int .i64 (p + (1 : Int))) ∧ True)) ∧ ((0 : Nat) ∈ ([0] : List Nat)))) ∧ True) ∧ ((true = true) ∧ (((([] : List Nat) = []) ∧ True) ∧ (true = true → (998 : Nat) = 998))))) _ (by kernel_rfl) ⟨rfl, ⟨⟨⟨rfl, ⟨⟨rfl, ⟨rfl, trivial⟩⟩, (by decide)⟩⟩, trivial⟩, ⟨rfl, ⟨⟨rfl, trivial⟩, (fun _ => rfl)⟩⟩⟩⟩)
  · intro n24
    have n24_0 : ¬ (n < (1 : Int)) := of_decide_eq_false (or_l n24)
    have n24_1 : ¬ ((((List.length l) : Nat) : Int) = (0 : Int)) := of_decide_eq_false (or_r n24)
    refine W.skip (thenQ_normal ?_)
    refine W.K cok tab68 hnt [] [0, 1, 5] (⟨[(0, .ptr 998 0), (1, .i n), (5, .i ((p + (1 : Int)) - (1 : Int)))], [(998, ⟨69, .fix [.sl (.bytes l), .i (p + (1 : Int))]⟩)], [998, 999]⟩)
      (True ∧ (True ∧ (True ∧ (True ∧ ((True ∧ (True ∧ (Fits .i64 ((p + (1 : Int)) - (1 : Int))))) ∧ (True ∧ True)))))) (by kernel_rfl)
      ⟨trivial, ⟨trivial, ⟨trivial, ⟨trivial, ⟨⟨trivial, ⟨trivial, (by exact fits_i64 (by omega) (by omega))⟩⟩, ⟨trivial, trivial⟩⟩⟩⟩⟩⟩ ?_
    refine W.seq ?_
    refine W.K cok tab68 hnt [] [0, 1, 5, 36] (⟨[(0, .ptr 998 0), (1, .i n), (5, .i ((p + (1 : Int)) - (1 : Int))), (36, .b (decide (((p + (1 : Int)) - (1 : Int)) < (((List.length l) : Nat) : Int))))], [(998, ⟨69, .fix [.sl (.bytes l), .i (p + (1 : Int))]⟩)], [998, 999]⟩)
      (True ∧ (True ∧ (True ∧ (True ∧ (True ∧ (True ∧ ((True ∧ (True ∧ True)) ∧ True))))))) (by kernel_rfl)
      ⟨trivial, ⟨trivial, ⟨trivial, ⟨trivial, ⟨trivial, ⟨trivial, ⟨⟨trivial, ⟨trivial, trivial⟩⟩, trivial⟩⟩⟩⟩⟩⟩⟩ ?_
    refine W.ifP (((p + (1 : Int)) - (1 : Int)) < (((List.length l) : Nat) : Int)) (.b (decide (((p + (1 : Int)) - (1 : Int)) < (((List.length l) : Nat) : Int)))) (by kernel_rfl) rfl trivial ?_ ?_
    · intro h36
      have hu1 := hu (Int.toNat (p + 1 - 1))
      refine W.K cok tab68 hnt [] [4] (⟨[(4, .i (Int.tmod (((UInt8.toNat (List.getD l (Int.toNat ((p + (1 : Int)) - (1 : Int))) default)) : Nat) : Int) n))], [(998, ⟨69, .fix [.sl (.bytes l), .i (p + (1 : Int))]⟩)], [998, 999]⟩)
        (True ∧ (True ∧ (True ∧ (True ∧ (True ∧ ((True ∧ (True ∧ ((0 ≤ ((p + (1 : Int)) - (1 : Int))) ∧ (((p + (1 : Int)) - (1 : Int)) < (((List.length l) : Nat) : Int))))) ∧ (True ∧ ((True ∧ (Fits .i64 (((UInt8.toNat (List.getD l (Int.toNat ((p + (1 : Int)) - (1 : Int))) default)) : Nat) : Int))) ∧ (True ∧ ((True ∧ (True ∧ (n ≠ 0))) ∧ (True ∧ True))))))))))) (by kernel_rfl)
        ⟨trivial, ⟨trivial, ⟨trivial, ⟨trivial, ⟨trivial, ⟨⟨trivial, ⟨trivial, ⟨(by omega), (by omega)⟩⟩⟩, ⟨trivial, ⟨⟨trivial, (by exact fits_i64 (by (first | omega | (simp only [List.length_append, List.length_cons, List.length_nil, List.length_take, List.length_drop, List.length_set, List.length_replicate, List.length_map] at *; omega) | assumption)) (by (first | omega | (simp only [List.length_append, List.length_cons, List.length_nil, List.length_take, List.length_drop, List.length_set, List.length_replicate, List.length_map] at *; omega) | assumption)))⟩, ⟨trivial, ⟨⟨trivial, ⟨trivial, (by omega)⟩⟩, ⟨trivial, trivial⟩⟩⟩⟩⟩⟩⟩⟩⟩⟩⟩ ?_
      refine W.ret (thenQ_ret ?_)
      exact endP_ret ((Int.tmod (((UInt8.toNat (List.getD l (Int.toNat ((p + (1 : Int)) - (1 : Int))) default)) : Nat) : Int) n), (p + (1 : Int))) (show (0 ≤ (Int.tmod (((UInt8.toNat (List.getD l (Int.toNat ((p + (1 : Int)) - (1 : Int))) default)) : Nat) : Int) n) ∧ (Int.tmod (((UInt8.toNat (List.getD l (Int.toNat ((p + (1 : Int)) - (1 : Int))) default)) : Nat) : Int) n) < max n 1) ∧ ((p + (1 : Int)) = p + 1) from ⟨(by exact ⟨Int.tmod_nonneg _ (by omega), by have := Int.tmod_lt_of_pos ((UInt8.toNat (List.getD l (Int.toNat (p + 1 - 1)) default) : Nat) : Int) (show 0 < n by omega); omega⟩), (by first | assumption | omega | rfl | (simp; done) | (simp; omega))⟩) [(0, 998)] (.i (Int.tmod (((UInt8.toNat (List.getD l (Int.toNat ((p + (1 : Int)) - (1 : Int))) default)) : Nat) : Int) n)) (by kernel_rfl) (@cast (((.int .i64 (Int.tmod (((UInt8.toNat (List.getD l (Int.toNat ((p + (1 : Int)) - (1 : Int))) default)) : Nat) : Int) n) : Value) = .int .i64 (Int.tmod (((UInt8.toNat (List.getD l (Int.toNat ((p + (1 : Int)) - (1 : Int))) default)) : Nat) : Int) n)) ∧ (((((69 : Nat) = 69) ∧ ((((.bytes l : Dat) = .bytes l) ∧ (((.int .i64 (p + (1 : Int)) : Value) = .int .i64 (p + (1 : Int))) ∧ True)) ∧ ((0 : Nat) ∈ ([0] : List Nat)))) ∧ True) ∧ ((true = true) ∧ (((([] : List Nat) = []) ∧ True) ∧ (true = true → (998 : Nat) = 998))))) _ (by kernel_rfl) ⟨rfl, ⟨⟨⟨rfl, ⟨⟨rfl, ⟨rfl, trivial⟩⟩, (by decide)⟩⟩, trivial⟩, ⟨rfl, ⟨⟨rfl, trivial⟩, (fun _ => rfl)⟩⟩⟩⟩)
    · intro n36
      refine W.skip (thenQ_normal ?_)
      have hl0 : 0 < (List.length l : Int) := by omega
      have hm1 := Int.tmod_lt_of_pos (p + 1 - 1) hl0
      have hm2 := Int.tmod_nonneg (List.length l : Int) (show 0 ≤ p + 1 - 1 by omega)
      have hm3 := Int.tmod_lt_of_pos ((p + 1 - 1) * 7 + 3) hl0
      have hm4 := Int.tmod_nonneg (List.length l : Int) (show 0 ≤ (p + 1 - 1) * 7 + 3 by omega)
      have hd1 : 0 ≤ Int.tdiv (p + 1 - 1) (List.length l : Int) := Int.tdiv_nonneg (by omega) (by omega)
      have hd2 : Int.tdiv (p + 1 - 1) (List.length l : Int) ≤ p + 1 - 1 := Int.tdiv_le_self _ (by omega)
      have hu2 := hu (Int.toNat (Int.tmod (p + 1 - 1) (List.length l : Int)))
      have hu3 := hu (Int.toNat (Int.tmod ((p + 1 - 1) * 7 + 3) (List.length l : Int)))
      refine W.KA cok tab68 hnt [] [1, 6] (⟨[(1, .i n), (6, .i (((((((UInt8.toNat (List.getD l (Int.toNat (Int.tmod ((p + (1 : Int)) - (1 : Int)) (((List.length l) : Nat) : Int))) default)) : Nat) : Int) * (131 : Int)) + ((((UInt8.toNat (List.getD l (Int.toNat (Int.tmod ((((p + (1 : Int)) - (1 : Int)) * (7 : Int)) + (3 : Int)) (((List.length l) : Nat) : Int))) default)) : Nat) : Int) * (1117 : Int))) + (((p + (1 : Int)) - (1 : Int)) * (29 : Int))) + ((Int.tdiv ((p + (1 : Int)) - (1 : Int)) (((List.length l) : Nat) : Int)) * (53 : Int))))], [(998, ⟨69, .fix [.sl (.bytes l), .i (p + (1 : Int))]⟩)], [998, 999]⟩)
        (True ∧ (True ∧ (True ∧ (True ∧ (True ∧ (True ∧ (True ∧ (True ∧ (True ∧ (True ∧ ((True ∧ (True ∧ ((((List.length l) : Nat) : Int) ≠ 0))) ∧ ((True ∧ (True ∧ ((0 ≤ (Int.tmod ((p + (1 : Int)) - (1 : Int)) (((List.length l) : Nat) : Int))) ∧ ((Int.tmod ((p + (1 : Int)) - (1 : Int)) (((List.length l) : Nat) : Int)) < (((List.length l) : Nat) : Int))))) ∧ (True ∧ ((True ∧ (Fits .i64 (((UInt8.toNat (List.getD l (Int.toNat (Int.tmod ((p + (1 : Int)) - (1 : Int)) (((List.length l) : Nat) : Int))) default)) : Nat) : Int))) ∧ ((True ∧ (True ∧ (Fits .i64 ((((UInt8.toNat (List.getD l (Int.toNat (Int.tmod ((p + (1 : Int)) - (1 : Int)) (((List.length l) : Nat) : Int))) default)) : Nat) : Int) * (131 : Int))))) ∧ (True ∧ (True ∧ (True ∧ (True ∧ (True ∧ ((True ∧ (True ∧ (Fits .i64 (((p + (1 : Int)) - (1 : Int)) * (7 : Int))))) ∧ ((True ∧ (True ∧ (Fits .i64 ((((p + (1 : Int)) - (1 : Int)) * (7 : Int)) + (3 : Int))))) ∧ (True ∧ (True ∧ (True ∧ (True ∧ (True ∧ ((True ∧ (True ∧ ((((List.length l) : Nat) : Int) ≠ 0))) ∧ ((True ∧ (True ∧ ((0 ≤ (Int.tmod ((((p + (1 : Int)) - (1 : Int)) * (7 : Int)) + (3 : Int)) (((List.length l) : Nat) : Int))) ∧ ((Int.tmod ((((p + (1 : Int)) - (1 : Int)) * (7 : Int)) + (3 : Int)) (((List.length l) : Nat) : Int)) < (((List.length l) : Nat) : Int))))) ∧ (True ∧ ((True ∧ (Fits .i64 (((UInt8.toNat (List.getD l (Int.toNat (Int.tmod ((((p + (1 : Int)) - (1 : Int)) * (7 : Int)) + (3 : Int)) (((List.length l) : Nat) : Int))) default)) : Nat) : Int))) ∧ ((True ∧ (True ∧ (Fits .i64 ((((UInt8.toNat (List.getD l (Int.toNat (Int.tmod ((((p + (1 : Int)) - (1 : Int)) * (7 : Int)) + (3 : Int)) (((List.length l) : Nat) : Int))) default)) : Nat) : Int) * (1117 : Int))))) ∧ ((True ∧ (True ∧ (Fits .i64 (((((UInt8.toNat (List.getD l (Int.toNat (Int.tmod ((p + (1 : Int)) - (1 : Int)) (((List.length l) : Nat) : Int))) default)) : Nat) : Int) * (131 : Int)) + ((((UInt8.toNat (List.getD l (Int.toNat (Int.tmod ((((p + (1 : Int)) - (1 : Int)) * (7 : Int)) + (3 : Int)) (((List.length l) : Nat) : Int))) default)) : Nat) : Int) * (1117 : Int)))))) ∧ (True ∧ ((True ∧ (True ∧ (Fits .i64 (((p + (1 : Int)) - (1 : Int)) * (29 : Int))))) ∧ ((True ∧ (True ∧ (Fits .i64 ((((((UInt8.toNat (List.getD l (Int.toNat (Int.tmod ((p + (1 : Int)) - (1 : Int)) (((List.length l) : Nat) : Int))) default)) : Nat) : Int) * (131 : Int)) + ((((UInt8.toNat (List.getD l (Int.toNat (Int.tmod ((((p + (1 : Int)) - (1 : Int)) * (7 : Int)) + (3 : Int)) (((List.length l) : Nat) : Int))) default)) : Nat) : Int) * (1117 : Int))) + (((p + (1 : Int)) - (1 : Int)) * (29 : Int)))))) ∧ (True ∧ (True ∧ (True ∧ (True ∧ (True ∧ (True ∧ ((True ∧ (True ∧ (((((List.length l) : Nat) : Int) ≠ 0) ∧ (Fits .i64 (Int.tdiv ((p + (1 : Int)) - (1 : Int)) (((List.length l) : Nat) : Int)))))) ∧ ((True ∧ (True ∧ (Fits .i64 ((Int.tdiv ((p + (1 : Int)) - (1 : Int)) (((List.length l) : Nat) : Int)) * (53 : Int))))) ∧ ((True ∧ (True ∧ (Fits .i64 (((((((UInt8.toNat (List.getD l (Int.toNat (Int.tmod ((p + (1 : Int)) - (1 : Int)) (((List.length l) : Nat) : Int))) default)) : Nat) : Int) * (131 : Int)) + ((((UInt8.toNat (List.getD l (Int.toNat (Int.tmod ((((p + (1 : Int)) - (1 : Int)) * (7 : Int)) + (3 : Int)) (((List.length l) : Nat) : Int))) default)) : Nat) : Int) * (1117 : Int))) + (((p + (1 : Int)) - (1 : Int)) * (29 : Int))) + ((Int.tdiv ((p + (1 : Int)) - (1 : Int)) (((List.length l) : Nat) : Int)) * (53 : Int)))))) ∧ (True ∧ True)))))))))))))))))))))))))))))))))))))))))))))) (by kernel_rfl) (by kernel_rfl)
        ⟨trivial, ⟨trivial, ⟨trivial, ⟨trivial, ⟨trivial, ⟨trivial, ⟨trivial, ⟨trivial, ⟨trivial, ⟨trivial, ⟨⟨trivial, ⟨trivial, (by omega)⟩⟩, ⟨⟨trivial, ⟨trivial, ⟨(by omega), (by omega)⟩⟩⟩, ⟨trivial, ⟨⟨trivial, (by exact fits_i64 (by (first | omega | (simp only [List.length_append, List.length_cons, List.length_nil, List.length_take, List.length_drop, List.length_set, List.length_replicate, List.length_map] at *; omega) | assumption)) (by (first | omega | (simp only [List.length_append, List.length_cons, List.length_nil, List.length_take, List.length_drop, List.length_set, List.length_replicate, List.length_map] at *; omega) | assumption)))⟩, ⟨⟨trivial, ⟨trivial, (by exact fits_i64 (by (first | omega | (simp only [List.length_append, List.length_cons, List.length_nil, List.length_take, List.length_drop, List.length_set, List.length_replicate, List.length_map] at *; omega) | assumption)) (by (first | omega | (simp only [List.length_append, List.length_cons, List.length_nil, List.length_take, List.length_drop, List.length_set, List.length_replicate, List.length_map] at *; omega) | assumption)))⟩⟩, ⟨trivial, ⟨trivial, ⟨trivial, ⟨trivial, ⟨trivial, ⟨⟨trivial, ⟨trivial, (by exact fits_i64 (by omega) (by omega))⟩⟩, ⟨⟨trivial, ⟨trivial, (by exact fits_i64 (by omega) (by omega))⟩⟩, ⟨trivial, ⟨trivial, ⟨trivial, ⟨trivial, ⟨trivial, ⟨⟨trivial, ⟨trivial, (by omega)⟩⟩, ⟨⟨trivial, ⟨trivial, ⟨(by omega), (by omega)⟩⟩⟩, ⟨trivial, ⟨⟨trivial, (by exact fits_i64 (by (first | omega | (simp only [List.length_append, List.length_cons, List.length_nil, List.length_take, List.length_drop, List.length_set, List.length_replicate, List.length_map] at *; omega) | assumption)) (by (first | omega | (simp only [List.length_append, List.length_cons, List.length_nil, List.length_take, List.length_drop, List.length_set, List.length_replicate, List.length_map] at *; omega) | assumption)))⟩, ⟨⟨trivial, ⟨trivial, (by exact fits_i64 (by (first | omega | (simp only [List.length_append, List.length_cons, List.length_nil, List.length_take, List.length_drop, List.length_set, List.length_replicate, List.length_map] at *; omega) | assumption)) (by (first | omega | (simp only [List.length_append, List.length_cons, List.length_nil, List.length_take, List.length_drop, List.length_set, List.length_replicate, List.length_map] at *; omega) | assumption)))⟩⟩, ⟨⟨trivial, ⟨trivial, (by exact fits_i64 (by (first | omega | (simp only [List.length_append, List.length_cons, List.length_nil, List.length_take, List.length_drop, List.length_set, List.length_replicate, List.length_map] at *; omega) | assumption)) (by (first | omega | (simp only [List.length_append, List.length_cons, List.length_nil, List.length_take, List.length_drop, List.length_set, List.length_replicate, List.length_map] at *; omega) | assumption)))⟩⟩, ⟨trivial, ⟨⟨trivial, ⟨trivial, (by exact fits_i64 (by omega) (by omega))⟩⟩, ⟨⟨trivial, ⟨trivial, (by exact fits_i64 (by (first | omega | (simp only [List.length_append, List.length_cons, List.length_nil, List.length_take, List.length_drop, List.length_set, List.length_replicate, List.length_map] at *; omega) | assumption)) (by (first | omega | (simp only [List.length_append, List.length_cons, List.length_nil, List.length_take, List.length_drop, List.length_set, List.length_replicate, List.length_map] at *; omega) | assumption)))⟩⟩, ⟨trivial, ⟨trivial, ⟨trivial, ⟨trivial, ⟨trivial, ⟨trivial, ⟨⟨trivial, ⟨trivial, ⟨(by omega), (by exact fits_i64 (by omega) (by omega))⟩⟩⟩, ⟨⟨trivial, ⟨trivial, (by exact fits_i64 (by omega) (by omega))⟩⟩, ⟨⟨trivial, ⟨trivial, (by exact fits_i64 (by (first | omega | (simp only [List.length_append, List.length_cons, List.length_nil, List.length_take, List.length_drop, List.length_set, List.length_replicate, List.length_map] at *; omega) | assumption)) (by (first | omega | (simp only [List.length_append, List.length_cons, List.length_nil, List.length_take, List.length_drop, List.length_set, List.length_replicate, List.length_map] at *; omega) | assumption)))⟩⟩, ⟨trivial, trivial⟩⟩⟩⟩⟩⟩⟩⟩⟩⟩⟩⟩⟩⟩⟩⟩⟩⟩⟩⟩⟩⟩⟩⟩⟩⟩⟩⟩⟩⟩⟩⟩⟩⟩⟩⟩⟩⟩⟩⟩⟩⟩⟩⟩⟩⟩ ?_
      refine W.K cok tab68 hnt [] [1, 6] (⟨[(1, .i n), (6, .i (bitsI .xor .i64 (((((((UInt8.toNat (List.getD l (Int.toNat (Int.tmod ((p + (1 : Int)) - (1 : Int)) (((List.length l) : Nat) : Int))) default)) : Nat) : Int) * (131 : Int)) + ((((UInt8.toNat (List.getD l (Int.toNat (Int.tmod ((((p + (1 : Int)) - (1 : Int)) * (7 : Int)) + (3 : Int)) (((List.length l) : Nat) : Int))) default)) : Nat) : Int) * (1117 : Int))) + (((p + (1 : Int)) - (1 : Int)) * (29 : Int))) + ((Int.tdiv ((p + (1 : Int)) - (1 : Int)) (((List.length l) : Nat) : Int)) * (53 : Int))) (Int.tdiv (((((((UInt8.toNat (List.getD l (Int.toNat (Int.tmod ((p + (1 : Int)) - (1 : Int)) (((List.length l) : Nat) : Int))) default)) : Nat) : Int) * (131 : Int)) + ((((UInt8.toNat (List.getD l (Int.toNat (Int.tmod ((((p + (1 : Int)) - (1 : Int)) * (7 : Int)) + (3 : Int)) (((List.length l) : Nat) : Int))) default)) : Nat) : Int) * (1117 : Int))) + (((p + (1 : Int)) - (1 : Int)) * (29 : Int))) + ((Int.tdiv ((p + (1 : Int)) - (1 : Int)) (((List.length l) : Nat) : Int)) * (53 : Int))) (64 : Int))))], [(998, ⟨69, .fix [.sl (.bytes l), .i (p + (1 : Int))]⟩)], [998, 999]⟩)
        (True ∧ (True ∧ ((True ∧ (True ∧ (((64 : Int) ≠ 0) ∧ (Fits .i64 (Int.tdiv (((((((UInt8.toNat (List.getD l (Int.toNat (Int.tmod ((p + (1 : Int)) - (1 : Int)) (((List.length l) : Nat) : Int))) default)) : Nat) : Int) * (131 : Int)) + ((((UInt8.toNat (List.getD l (Int.toNat (Int.tmod ((((p + (1 : Int)) - (1 : Int)) * (7 : Int)) + (3 : Int)) (((List.length l) : Nat) : Int))) default)) : Nat) : Int) * (1117 : Int))) + (((p + (1 : Int)) - (1 : Int)) * (29 : Int))) + ((Int.tdiv ((p + (1 : Int)) - (1 : Int)) (((List.length l) : Nat) : Int)) * (53 : Int))) (64 : Int)))))) ∧ ((True ∧ (True ∧ True)) ∧ (True ∧ True))))) (by kernel_rfl)
        ⟨trivial, ⟨trivial, ⟨⟨trivial, ⟨trivial, ⟨(by decide), (by exact fits_i64 (Int.le_trans (by omega) (Int.tdiv_nonneg (by omega) (by omega))) (Int.le_trans (Int.tdiv_le_self _ (by omega)) (by omega)))⟩⟩⟩, ⟨⟨trivial, ⟨trivial, trivial⟩⟩, ⟨trivial, trivial⟩⟩⟩⟩⟩ ?_
      refine W.K cok tab68 hnt [] [4] (⟨[(4, .i (Int.tmod (bitsI .xor .i64 (((((((UInt8.toNat (List.getD l (Int.toNat (Int.tmod ((p + (1 : Int)) - (1 : Int)) (((List.length l) : Nat) : Int))) default)) : Nat) : Int) * (131 : Int)) + ((((UInt8.toNat (List.getD l (Int.toNat (Int.tmod ((((p + (1 : Int)) - (1 : Int)) * (7 : Int)) + (3 : Int)) (((List.length l) : Nat) : Int))) default)) : Nat) : Int) * (1117 : Int))) + (((p + (1 : Int)) - (1 : Int)) * (29 : Int))) + ((Int.tdiv ((p + (1 : Int)) - (1 : Int)) (((List.length l) : Nat) : Int)) * (53 : Int))) (Int.tdiv (((((((UInt8.toNat (List.getD l (Int.toNat (Int.tmod ((p + (1 : Int)) - (1 : Int)) (((List.length l) : Nat) : Int))) default)) : Nat) : Int) * (131 : Int)) + ((((UInt8.toNat (List.getD l (Int.toNat (Int.tmod ((((p + (1 : Int)) - (1 : Int)) * (7 : Int)) + (3 : Int)) (((List.length l) : Nat) : Int))) default)) : Nat) : Int) * (1117 : Int))) + (((p + (1 : Int)) - (1 : Int)) * (29 : Int))) + ((Int.tdiv ((p + (1 : Int)) - (1 : Int)) (((List.length l) : Nat) : Int)) * (53 : Int))) (64 : Int))) n))], [(998, ⟨69, .fix [.sl (.bytes l), .i (p + (1 : Int))]⟩)], [998, 999]⟩)
        (True ∧ (True ∧ ((True ∧ (True ∧ (n ≠ 0))) ∧ (True ∧ True)))) (by kernel_rfl)
        ⟨trivial, ⟨trivial, ⟨⟨trivial, ⟨trivial, (by omega)⟩⟩, ⟨trivial, trivial⟩⟩⟩⟩ ?_
      refine W.ret ?_
      exact endP_ret ((Int.tmod (bitsI .xor .i64 (((((((UInt8.toNat (List.getD l (Int.toNat (Int.tmod ((p + (1 : Int)) - (1 : Int)) (((List.length l) : Nat) : Int))) default)) : Nat) : Int) * (131 : Int)) + ((((UInt8.toNat (List.getD l (Int.toNat (Int.tmod ((((p + (1 : Int)) - (1 : Int)) * (7 : Int)) + (3 : Int)) (((List.length l) : Nat) : Int))) default)) : Nat) : Int) * (1117 : Int))) + (((p + (1 : Int)) - (1 : Int)) * (29 : Int))) + ((Int.tdiv ((p + (1 : Int)) - (1 : Int)) (((List.length l) : Nat) : Int)) * (53 : Int))) (Int.tdiv (((((((UInt8.toNat (List.getD l (Int.toNat (Int.tmod ((p + (1 : Int)) - (1 : Int)) (((List.length l) : Nat) : Int))) default)) : Nat) : Int) * (131 : Int)) + ((((UInt8.toNat (List.getD l (Int.toNat (Int.tmod ((((p + (1 : Int)) - (1 : Int)) * (7 : Int)) + (3 : Int)) (((List.length l) : Nat) : Int))) default)) : Nat) : Int) * (1117 : Int))) + (((p + (1 : Int)) - (1 : Int)) * (29 : Int))) + ((Int.tdiv ((p + (1 : Int)) - (1 : Int)) (((List.length l) : Nat) : Int)) * (53 : Int))) (64 : Int))) n), (p + (1 : Int))) (show (0 ≤ (Int.tmod (bitsI .xor .i64 (((((((UInt8.toNat (List.getD l (Int.toNat (Int.tmod ((p + (1 : Int)) - (1 : Int)) (((List.length l) : Nat) : Int))) default)) : Nat) : Int) * (131 : Int)) + ((((UInt8.toNat (List.getD l (Int.toNat (Int.tmod ((((p + (1 : Int)) - (1 : Int)) * (7 : Int)) + (3 : Int)) (((List.length l) : Nat) : Int))) default)) : Nat) : Int) * (1117 : Int))) + (((p + (1 : Int)) - (1 : Int)) * (29 : Int))) + ((Int.tdiv ((p + (1 : Int)) - (1 : Int)) (((List.length l) : Nat) : Int)) * (53 : Int))) (Int.tdiv (((((((UInt8.toNat (List.getD l (Int.toNat (Int.tmod ((p + (1 : Int)) - (1 : Int)) (((List.length l) : Nat) : Int))) default)) : Nat) : Int) * (131 : Int)) + ((((UInt8.toNat (List.getD l (Int.toNat (Int.tmod ((((p + (1 : Int)) - (1 : Int)) * (7 : Int)) + (3 : Int)) (((List.length l) : Nat) : Int))) default)) : Nat) : Int) * (1117 : Int))) + (((p + (1 : Int)) - (1 : Int)) * (29 : Int))) + ((Int.tdiv ((p + (1 : Int)) - (1 : Int)) (((List.length l) : Nat) : Int)) * (53 : Int))) (64 : Int))) n) ∧ (Int.tmod (bitsI .xor .i64 (((((((UInt8.toNat (List.getD l (Int.toNat (Int.tmod ((p + (1 : Int)) - (1 : Int)) (((List.length l) : Nat) : Int))) default)) : Nat) : Int) * (131 : Int)) + ((((UInt8.toNat (List.getD l (Int.toNat (Int.tmod ((((p + (1 : Int)) - (1 : Int)) * (7 : Int)) + (3 : Int)) (((List.length l) : Nat) : Int))) default)) : Nat) : Int) * (1117 : Int))) + (((p + (1 : Int)) - (1 : Int)) * (29 : Int))) + ((Int.tdiv ((p + (1 : Int)) - (1 : Int)) (((List.length l) : Nat) : Int)) * (53 : Int))) (Int.tdiv (((((((UInt8.toNat (List.getD l (Int.toNat (Int.tmod ((p + (1 : Int)) - (1 : Int)) (((List.length l) : Nat) : Int))) default)) : Nat) : Int) * (131 : Int)) + ((((UInt8.toNat (List.getD l (Int.toNat (Int.tmod ((((p + (1 : Int)) - (1 : Int)) * (7 : Int)) + (3 : Int)) (((List.length l) : Nat) : Int))) default)) : Nat) : Int) * (1117 : Int))) + (((p + (1 : Int)) - (1 : Int)) * (29 : Int))) + ((Int.tdiv ((p + (1 : Int)) - (1 : Int)) (((List.length l) : Nat) : Int)) * (53 : Int))) (64 : Int))) n) < max n 1) ∧ ((p + (1 : Int)) = p + 1) from ⟨(by exact ⟨Int.tmod_nonneg _ (xor_nonneg (by omega) (Int.tdiv_nonneg (by omega) (by omega)) (by omega) (Int.le_trans (Int.tdiv_le_self _ (by omega)) (by omega))), by refine Int.lt_of_lt_of_le (Int.tmod_lt_of_pos _ (show 0 < n by omega)) (by omega)⟩), (by first | assumption | omega | rfl | (simp; done) | (simp; omega))⟩) [(0, 998)] (.i (Int.tmod (bitsI .xor .i64 (((((((UInt8.toNat (List.getD l (Int.toNat (Int.tmod ((p + (1 : Int)) - (1 : Int)) (((List.length l) : Nat) : Int))) default)) : Nat) : Int) * (131 : Int)) + ((((UInt8.toNat (List.getD l (Int.toNat (Int.tmod ((((p + (1 : Int)) - (1 : Int)) * (7 : Int)) + (3 : Int)) (((List.length l) : Nat) : Int))) default)) : Nat) : Int) * (1117 : Int))) + (((p + (1 : Int)) - (1 : Int)) * (29 : Int))) + ((Int.tdiv ((p + (1 : Int)) - (1 : Int)) (((List.length l) : Nat) : Int)) * (53 : Int))) (Int.tdiv (((((((UInt8.toNat (List.getD l (Int.toNat (Int.tmod ((p + (1 : Int)) - (1 : Int)) (((List.length l) : Nat) : Int))) default)) : Nat) : Int) * (131 : Int)) + ((((UInt8.toNat (List.getD l (Int.toNat (Int.tmod ((((p + (1 : Int)) - (1 : Int)) * (7 : Int)) + (3 : Int)) (((List.length l) : Nat) : Int))) default)) : Nat) : Int) * (1117 : Int))) + (((p + (1 : Int)) - (1 : Int)) * (29 : Int))) + ((Int.tdiv ((p + (1 : Int)) - (1 : Int)) (((List.length l) : Nat) : Int)) * (53 : Int))) (64 : Int))) n)) (by kernel_rfl) (@cast (((.int .i64 (Int.tmod (bitsI .xor .i64 (((((((UInt8.toNat (List.getD l (Int.toNat (Int.tmod ((p + (1 : Int)) - (1 : Int)) (((List.length l) : Nat) : Int))) default)) : Nat) : Int) * (131 : Int)) + ((((UInt8.toNat (List.getD l (Int.toNat (Int.tmod ((((p + (1 : Int)) - (1 : Int)) * (7 : Int)) + (3 : Int)) (((List.length l) : Nat) : Int))) default)) : Nat) : Int) * (1117 : Int))) + (((p + (1 : Int)) - (1 : Int)) * (29 : Int))) + ((Int.tdiv ((p + (1 : Int)) - (1 : Int)) (((List.length l) : Nat) : Int)) * (53 : Int))) (Int.tdiv (((((((UInt8.toNat (List.getD l (Int.toNat (Int.tmod ((p + (1 : Int)) - (1 : Int)) (((List.length l) : Nat) : Int))) default)) : Nat) : Int) * (131 : Int)) + ((((UInt8.toNat (List.getD l (Int.toNat (Int.tmod ((((p + (1 : Int)) - (1 : Int)) * (7 : Int)) + (3 : Int)) (((List.length l) : Nat) : Int))) default)) : Nat) : Int) * (1117 : Int))) + (((p + (1 : Int)) - (1 : Int)) * (29 : Int))) + ((Int.tdiv ((p + (1 : Int)) - (1 : Int)) (((List.length l) : Nat) : Int)) * (53 : Int))) (64 : Int))) n) : Value) = .int .i64 (Int.tmod (bitsI .xor .i64 (((((((UInt8.toNat (List.getD l (Int.toNat (Int.tmod ((p + (1 : Int)) - (1 : Int)) (((List.length l) : Nat) : Int))) default)) : Nat) : Int) * (131 : Int)) + ((((UInt8.toNat (List.getD l (Int.toNat (Int.tmod ((((p + (1 : Int)) - (1 : Int)) * (7 : Int)) + (3 : Int)) (((List.length l) : Nat) : Int))) default)) : Nat) : Int) * (1117 : Int))) + (((p + (1 : Int)) - (1 : Int)) * (29 : Int))) + ((Int.tdiv ((p + (1 : Int)) - (1 : Int)) (((List.length l) : Nat) : Int)) * (53 : Int))) (Int.tdiv (((((((UInt8.toNat (List.getD l (Int.toNat (Int.tmod ((p + (1 : Int)) - (1 : Int)) (((List.length l) : Nat) : Int))) default)) : Nat) : Int) * (131 : Int)) + ((((UInt8.toNat (List.getD l (Int.toNat (Int.tmod ((((p + (1 : Int)) - (1 : Int)) * (7 : Int)) + (3 : Int)) (((List.length l) : Nat) : Int))) default)) : Nat) : Int) * (1117 : Int))) + (((p + (1 : Int)) - (1 : Int)) * (29 : Int))) + ((Int.tdiv ((p + (1 : Int)) - (1 : Int)) (((List.length l) : Nat) : Int)) * (53 : Int))) (64 : Int))) n)) ∧ (((((69 : Nat) = 69) ∧ ((((.bytes l : Dat) = .bytes l) ∧ (((.int .i64 (p + (1 : Int)) : Value) = .int .i64 (p + (1 : Int))) ∧ True)) ∧ ((0 : Nat) ∈ ([0] : List Nat)))) ∧ True) ∧ ((true = true) ∧ (((([] : List Nat) = []) ∧ True) ∧ (true = true → (998 : Nat) = 998))))) _ (by kernel_rfl) ⟨rfl, ⟨⟨⟨rfl, ⟨⟨rfl, ⟨rfl, trivial⟩⟩, (by decide)⟩⟩, trivial⟩, ⟨rfl, ⟨⟨rfl, trivial⟩, (fun _ => rfl)⟩⟩⟩⟩)
theorem ent68 : Entr prog 68 := ⟨_, func68, rfl, by decide⟩

end Go.Proofs.Try

set_option linter.unusedSimpArgs false
set_option linter.unusedVariables false
namespace Go.Proofs.Try
open Go.Ab Go.RowKit
/-- (*spec.reader).of -/
def pre84 : List AV → List AV → Prop := preP [.strs] [.bytes, .int] (fun (xs, _) (l, p, _) => (0 ≤ p ∧ p ≤ 1000000) ∧ (0 < xs.length) ∧ (xs.length ≤ 1000))
def rel84 : RelS := relP [.strs] [.bytes, .int] (ι := ByteArray × Int) (fun (xs, _) (l, p, _) (v, q) => (v ∈ xs) ∧ (q = p + 1)) (fun (xs, _) (l, p, _) (v, q) => (.v (.string v), [], [.sl (.bytes l), .i q]))
abbrev T84 : Tab := lk []
theorem tab84 : TabOK prog T84 := TabOK.nil
set_option maxRecDepth 100000 in
set_option maxHeartbeats 1000000 in
theorem rok84 : RelOK prog 84 (some 69) [.s .strs] pre84 rel84 := by
  refine RelOK.mk cok func84 rfl rfl rfl ?_
  rintro ⟨(xs : List ByteArray), _⟩ ⟨(l : List UInt8), (p : Int), _⟩ hpre F hnt0
  have hnt : F.nt = 12 := hnt0.trans ntmps84
  replace hpre : (0 ≤ p ∧ p ≤ 1000000) ∧ (0 < xs.length) ∧ (xs.length ≤ 1000) := hpre
  obtain ⟨hp, hx, hx2⟩ := hpre
  refine W.to (⟨[(0, .ptr 998 0), (1, .sl (.strs xs))], [(998, ⟨69, .fix [.sl (.bytes l), .i p]⟩)], [998, 999]⟩) rfl ?_
  refine W.K cok tab84 hnt [] [0, 1] (⟨[(0, .ptr 998 0), (1, .sl (.strs xs))], [(998, ⟨69, .fix [.sl (.bytes l), .i p]⟩)], [998, 999]⟩)
    (True ∧ True) (by kernel_rfl)
    ⟨trivial, trivial⟩ ?_
  refine W.seq (W.wi ?_)
  refine WI.run cok tab84 hnt [] 4 (⟨[(0, .ptr 998 0), (1, .sl (.strs xs)), (5, .sl (.strs xs)), (6, .ptr 998 0), (7, .sl (.strs xs)), (8, .i (((List.length xs) : Nat) : Int))], [(998, ⟨69, .fix [.sl (.bytes l), .i p]⟩)], [998, 999]⟩)
    (True ∧ (True ∧ (True ∧ (True ∧ True)))) (by kernel_rfl)
    ⟨trivial, ⟨trivial, ⟨trivial, ⟨trivial, trivial⟩⟩⟩⟩ ?_
  refine WI.to (⟨[(0, .ptr 998 0), (1, .sl (.strs xs)), (5, .sl (.strs xs)), (6, .ptr 998 0), (7, .sl (.strs xs)), (8, .i (((List.length xs) : Nat) : Int))], [(998, ⟨69, .fix [.sl (.bytes l), .i p]⟩)], [998, 999]⟩) 4 rfl rfl ?_
  refine WI.call [.ptr 998 0, .i (((List.length xs) : Nat) : Int)] [.sl (.bytes l), .i p] [.i (((List.length xs) : Nat) : Int)] [.i (((List.length xs) : Nat) : Int)] (some (69, 998)) (True) (True ∧ True) none rok68 ent68 hnt rfl rfl (wanted_none rfl) (by kernel_rfl) (by kernel_rfl) (by kernel_rfl) ⟨trivial, ⟨trivial, trivial⟩⟩
    (@cast (0 ≤ p ∧ p ≤ 1000000) _ (by kernel_rfl) (by omega)) (Or.inl rfl) rfl ?_
  rintro r bl fx2 hR
  obtain ⟨⟨v9, q9⟩, hq9, rfl, rfl, rfl⟩ := (@cast _ (∃ x : Int × Int, ((0 ≤ x.1 ∧ x.1 < max (((List.length xs) : Nat) : Int) 1) ∧ (x.2 = p + 1)) ∧ r = (.i x.1) ∧ bl = ([]) ∧ fx2 = ([.sl (.bytes l), .i x.2])) (by kernel_rfl) hR)
  clear hR
  replace hq9 : (0 ≤ v9 ∧ v9 < max (((List.length xs) : Nat) : Int) 1) ∧ (q9 = p + 1) := hq9
  obtain ⟨hv9, hq19⟩ := hq9
  refine ⟨by kernel_rfl, WI.to (⟨[(0, .ptr 998 0), (1, .sl (.strs xs)), (5, .sl (.strs xs)), (6, .ptr 998 0), (7, .sl (.strs xs)), (8, .i (((List.length xs) : Nat) : Int)), (9, .i v9)], [(998, ⟨69, .fix [.sl (.bytes l), .i q9]⟩)], [9, 998, 999]⟩) 5 (by kernel_rfl) rfl ?_⟩
  refine WI.run cok tab84 hnt [] 3 (⟨[(0, .ptr 998 0), (1, .sl (.strs xs)), (4, .v (.string (List.getD xs (Int.toNat v9) default))), (5, .sl (.strs xs)), (6, .ptr 998 0), (7, .sl (.strs xs)), (8, .i (((List.length xs) : Nat) : Int)), (9, .i v9), (10, .ep [.v (.string (List.getD xs (Int.toNat v9) default))]), (11, .v (.string (List.getD xs (Int.toNat v9) default)))], [(998, ⟨69, .fix [.sl (.bytes l), .i q9]⟩)], [9, 998, 999]⟩)
    ((True ∧ (True ∧ ((0 ≤ v9) ∧ (v9 < (((List.length xs) : Nat) : Int))))) ∧ (True ∧ (True ∧ True))) (by kernel_rfl)
    ⟨⟨trivial, ⟨trivial, ⟨(by omega), (by omega)⟩⟩⟩, ⟨trivial, ⟨trivial, trivial⟩⟩⟩ ?_
  refine WI.to (⟨[(0, .ptr 998 0), (1, .sl (.strs xs)), (4, .v (.string (List.getD xs (Int.toNat v9) default))), (5, .sl (.strs xs)), (6, .ptr 998 0), (7, .sl (.strs xs)), (8, .i (((List.length xs) : Nat) : Int)), (9, .i v9), (10, .ep [.v (.string (List.getD xs (Int.toNat v9) default))]), (11, .v (.string (List.getD xs (Int.toNat v9) default)))], [(998, ⟨69, .fix [.sl (.bytes l), .i q9]⟩)], [9, 998, 999]⟩) 8 rfl rfl ?_
  refine WI.nil rfl (thenQ_normal ?_)
  refine W.keepE [4] [(4, .v (.string (List.getD xs (Int.toNat v9) default)))] (by kernel_rfl) ?_
  refine W.to (⟨[(4, .v (.string (List.getD xs (Int.toNat v9) default)))], [(998, ⟨69, .fix [.sl (.bytes l), .i q9]⟩)], [9, 998, 999]⟩) rfl ?_
  refine W.ret ?_
  exact endP_ret ((List.getD xs (Int.toNat v9) default), q9) (show ((List.getD xs (Int.toNat v9) default) ∈ xs) ∧ (q9 = p + 1) from ⟨(by exact getD_mem xs default (by omega)), (by first | assumption | omega | rfl | (simp; done) | (simp; omega))⟩) [(0, 998)] (.v (.string (List.getD xs (Int.toNat v9) default))) (by kernel_rfl) (@cast ((((.string (List.getD xs (Int.toNat v9) default)) : Value) = (.string (List.getD xs (Int.toNat v9) default))) ∧ (((((69 : Nat) = 69) ∧ ((((.bytes l : Dat) = .bytes l) ∧ (((.int .i64 q9 : Value) = .int .i64 q9) ∧ True)) ∧ ((0 : Nat) ∈ ([0] : List Nat)))) ∧ True) ∧ ((true = true) ∧ (((([] : List Nat) = []) ∧ True) ∧ (true = true → (998 : Nat) = 998))))) _ (by kernel_rfl) ⟨rfl, ⟨⟨⟨rfl, ⟨⟨rfl, ⟨rfl, trivial⟩⟩, (by decide)⟩⟩, trivial⟩, ⟨rfl, ⟨⟨rfl, trivial⟩, (fun _ => rfl)⟩⟩⟩⟩)
theorem ent84 : Entr prog 84 := ⟨_, func84, rfl, by decide⟩

end Go.Proofs.Try

set_option linter.unusedSimpArgs false
set_option linter.unusedVariables false
namespace Go.Proofs.Try
open Go.Ab Go.RowKit
/-- spec.aName -/
def pre65 : List AV → List AV → Prop := preP [] [.bytes, .int] (fun _ (l, p, _) => (0 ≤ p ∧ p ≤ 1000000))
def rel65 : RelS := relP [] [.bytes, .int] (ι := ByteArray × Int) (fun _ (l, p, _) (v, q) => (q = p + 1)) (fun _ (l, p, _) (v, q) => (.v (.string v), [], [.sl (.bytes l), .i q]))
abbrev T65 : Tab := lk []
theorem tab65 : TabOK prog T65 := TabOK.nil
set_option maxRecDepth 100000 in
set_option maxHeartbeats 1000000 in
theorem rok65 : RelOK prog 65 (some 69) [] pre65 rel65 := by
  refine RelOK.mk cok func65 rfl rfl rfl ?_
  rintro _ ⟨(l : List UInt8), (p : Int), _⟩ hpre F hnt0
  have hnt : F.nt = 6 := hnt0.trans ntmps65
  replace hpre : (0 ≤ p ∧ p ≤ 1000000) := hpre
  have hp := hpre
  refine W.to (⟨[(0, .ptr 998 0)], [(998, ⟨69, .fix [.sl (.bytes l), .i p]⟩)], [998, 999]⟩) rfl ?_
  refine W.K cok tab65 hnt [] [0] (⟨[(0, .ptr 998 0)], [(998, ⟨69, .fix [.sl (.bytes l), .i p]⟩)], [998, 999]⟩)
    (True ∧ True) (by kernel_rfl)
    ⟨trivial, trivial⟩ ?_
  refine W.seq (W.wi ?_)
  refine WI.run cok tab65 hnt [] 2 (⟨[(0, .ptr 998 0), (3, .ptr 998 0), (4, .sl (.strs ([nRegister, nQueue, nStack, nCounter, nSet, nMost, nRegister, nQueue, nStack, nCounter, nSet, nEmpty])))], [(998, ⟨69, .fix [.sl (.bytes l), .i p]⟩)], [4, 998, 999]⟩)
    (True ∧ ((True ∧ (True ∧ (True ∧ (True ∧ (True ∧ (True ∧ (True ∧ (True ∧ (True ∧ (True ∧ (True ∧ (True ∧ True)))))))))))) ∧ True)) (by kernel_rfl)
    ⟨trivial, ⟨⟨trivial, ⟨trivial, ⟨trivial, ⟨trivial, ⟨trivial, ⟨trivial, ⟨trivial, ⟨trivial, ⟨trivial, ⟨trivial, ⟨trivial, ⟨trivial, trivial⟩⟩⟩⟩⟩⟩⟩⟩⟩⟩⟩⟩, trivial⟩⟩ ?_
  refine WI.to (⟨[(0, .ptr 998 0), (3, .ptr 998 0), (4, .sl (.strs ([nRegister, nQueue, nStack, nCounter, nSet, nMost, nRegister, nQueue, nStack, nCounter, nSet, nEmpty])))], [(998, ⟨69, .fix [.sl (.bytes l), .i p]⟩)], [4, 998, 999]⟩) 2 rfl rfl ?_
  refine WI.call [.ptr 998 0, .sl (.strs ([nRegister, nQueue, nStack, nCounter, nSet, nMost, nRegister, nQueue, nStack, nCounter, nSet, nEmpty]))] [.sl (.bytes l), .i p] [.sl (.strs ([nRegister, nQueue, nStack, nCounter, nSet, nMost, nRegister, nQueue, nStack, nCounter, nSet, nEmpty]))] [.sl (.strs ([nRegister, nQueue, nStack, nCounter, nSet, nMost, nRegister, nQueue, nStack, nCounter, nSet, nEmpty]))] (some (69, 998)) (True) (True ∧ True) none rok84 ent84 hnt rfl rfl (wanted_none rfl) (by kernel_rfl) (by kernel_rfl) (by kernel_rfl) ⟨trivial, ⟨trivial, trivial⟩⟩
    (@cast ((0 ≤ p ∧ p ≤ 1000000) ∧ ((0 < ([nRegister, nQueue, nStack, nCounter, nSet, nMost, nRegister, nQueue, nStack, nCounter, nSet, nEmpty]).length) ∧ (([nRegister, nQueue, nStack, nCounter, nSet, nMost, nRegister, nQueue, nStack, nCounter, nSet, nEmpty]).length ≤ 1000))) _ (by kernel_rfl) ⟨(by omega), ⟨(by (first | omega | (simp only [List.length_append, List.length_cons, List.length_nil, List.length_take, List.length_drop, List.length_set, List.length_replicate, List.length_map] at *; omega) | assumption)), (by (first | omega | (simp only [List.length_append, List.length_cons, List.length_nil, List.length_take, List.length_drop, List.length_set, List.length_replicate, List.length_map] at *; omega) | assumption))⟩⟩) (Or.inl rfl) rfl ?_
  rintro r bl fx2 hR
  obtain ⟨⟨v5, q5⟩, hq5, rfl, rfl, rfl⟩ := (@cast _ (∃ x : ByteArray × Int, ((x.1 ∈ ([nRegister, nQueue, nStack, nCounter, nSet, nMost, nRegister, nQueue, nStack, nCounter, nSet, nEmpty])) ∧ (x.2 = p + 1)) ∧ r = (.v (.string x.1)) ∧ bl = ([]) ∧ fx2 = ([.sl (.bytes l), .i x.2])) (by kernel_rfl) hR)
  clear hR
  replace hq5 : (v5 ∈ ([nRegister, nQueue, nStack, nCounter, nSet, nMost, nRegister, nQueue, nStack, nCounter, nSet, nEmpty])) ∧ (q5 = p + 1) := hq5
  obtain ⟨hv5, hq15⟩ := hq5
  simp only [List.mem_cons, List.not_mem_nil, or_false] at hv5
  refine ⟨by kernel_rfl, WI.to (⟨[(0, .ptr 998 0), (3, .ptr 998 0), (4, .sl (.strs ([nRegister, nQueue, nStack, nCounter, nSet, nMost, nRegister, nQueue, nStack, nCounter, nSet, nEmpty]))), (5, .v (.string v5))], [(998, ⟨69, .fix [.sl (.bytes l), .i q5]⟩)], [5, 4, 998, 999]⟩) 3 (by kernel_rfl) rfl ?_⟩
  refine WI.run cok tab65 hnt [] 1 (⟨[(0, .ptr 998 0), (2, .v (.string v5)), (3, .ptr 998 0), (4, .sl (.strs ([nRegister, nQueue, nStack, nCounter, nSet, nMost, nRegister, nQueue, nStack, nCounter, nSet, nEmpty]))), (5, .v (.string v5))], [(998, ⟨69, .fix [.sl (.bytes l), .i q5]⟩)], [5, 4, 998, 999]⟩)
    (True ∧ True) (by kernel_rfl)
    ⟨trivial, trivial⟩ ?_
  refine WI.to (⟨[(0, .ptr 998 0), (2, .v (.string v5)), (3, .ptr 998 0), (4, .sl (.strs ([nRegister, nQueue, nStack, nCounter, nSet, nMost, nRegister, nQueue, nStack, nCounter, nSet, nEmpty]))), (5, .v (.string v5))], [(998, ⟨69, .fix [.sl (.bytes l), .i q5]⟩)], [5, 4, 998, 999]⟩) 4 rfl rfl ?_
  refine WI.nil rfl (thenQ_normal ?_)
  refine W.keepE [2] [(2, .v (.string v5))] (by kernel_rfl) ?_
  refine W.to (⟨[(2, .v (.string v5))], [(998, ⟨69, .fix [.sl (.bytes l), .i q5]⟩)], [5, 4, 998, 999]⟩) rfl ?_
  refine W.ret ?_
  exact endP_ret (v5, q5) (show (q5 = p + 1) from (by first | assumption | omega | rfl | (simp; done) | (simp; omega))) [(0, 998)] (.v (.string v5)) (by kernel_rfl) (@cast ((((.string v5) : Value) = (.string v5)) ∧ (((((69 : Nat) = 69) ∧ ((((.bytes l : Dat) = .bytes l) ∧ (((.int .i64 q5 : Value) = .int .i64 q5) ∧ True)) ∧ ((0 : Nat) ∈ ([0] : List Nat)))) ∧ True) ∧ ((true = true) ∧ (((([] : List Nat) = []) ∧ True) ∧ (true = true → (998 : Nat) = 998))))) _ (by kernel_rfl) ⟨rfl, ⟨⟨⟨rfl, ⟨⟨rfl, ⟨rfl, trivial⟩⟩, (by decide)⟩⟩, trivial⟩, ⟨rfl, ⟨⟨rfl, trivial⟩, (fun _ => rfl)⟩⟩⟩⟩)
theorem ent65 : Entr prog 65 := ⟨_, func65, rfl, by decide⟩

end Go.Proofs.Try

set_option linter.unusedSimpArgs false
set_option linter.unusedVariables false
namespace Go.Proofs.Try
open Go.Ab Go.RowKit
/-- (*spec.reader).one -/
def pre49 : List AV → List AV → Prop := preP [.ints] [.bytes, .int] (fun (xs, _) (l, p, _) => (0 ≤ p ∧ p ≤ 1000000) ∧ (0 < xs.length) ∧ (xs.length ≤ 1000))
def rel49 : RelS := relP [.ints] [.bytes, .int] (ι := Int × Int) (fun (xs, _) (l, p, _) (v, q) => (v ∈ xs) ∧ (q = p + 1)) (fun (xs, _) (l, p, _) (v, q) => (.i v, [], [.sl (.bytes l), .i q]))
abbrev T49 : Tab := lk []
theorem tab49 : TabOK prog T49 := TabOK.nil
set_option maxRecDepth 100000 in
set_option maxHeartbeats 1000000 in
theorem rok49 : RelOK prog 49 (some 69) [.s .ints] pre49 rel49 := by
  refine RelOK.mk cok func49 rfl rfl rfl ?_
  rintro ⟨(xs : List Int), _⟩ ⟨(l : List UInt8), (p : Int), _⟩ hpre F hnt0
  have hnt : F.nt = 12 := hnt0.trans ntmps49
  replace hpre : (0 ≤ p ∧ p ≤ 1000000) ∧ (0 < xs.length) ∧ (xs.length ≤ 1000) := hpre
  obtain ⟨hp, hx, hx2⟩ := hpre
  refine W.to (⟨[(0, .ptr 998 0), (1, .sl (.ints xs))], [(998, ⟨69, .fix [.sl (.bytes l), .i p]⟩)], [998, 999]⟩) rfl ?_
  refine W.K cok tab49 hnt [] [0, 1] (⟨[(0, .ptr 998 0), (1, .sl (.ints xs))], [(998, ⟨69, .fix [.sl (.bytes l), .i p]⟩)], [998, 999]⟩)
    (True ∧ True) (by kernel_rfl)
    ⟨trivial, trivial⟩ ?_
  refine W.seq (W.wi ?_)
  refine WI.run cok tab49 hnt [] 4 (⟨[(0, .ptr 998 0), (1, .sl (.ints xs)), (5, .sl (.ints xs)), (6, .ptr 998 0), (7, .sl (.ints xs)), (8, .i (((List.length xs) : Nat) : Int))], [(998, ⟨69, .fix [.sl (.bytes l), .i p]⟩)], [998, 999]⟩)
    (True ∧ (True ∧ (True ∧ (True ∧ True)))) (by kernel_rfl)
    ⟨trivial, ⟨trivial, ⟨trivial, ⟨trivial, trivial⟩⟩⟩⟩ ?_
  refine WI.to (⟨[(0, .ptr 998 0), (1, .sl (.ints xs)), (5, .sl (.ints xs)), (6, .ptr 998 0), (7, .sl (.ints xs)), (8, .i (((List.length xs) : Nat) : Int))], [(998, ⟨69, .fix [.sl (.bytes l), .i p]⟩)], [998, 999]⟩) 4 rfl rfl ?_
  refine WI.call [.ptr 998 0, .i (((List.length xs) : Nat) : Int)] [.sl (.bytes l), .i p] [.i (((List.length xs) : Nat) : Int)] [.i (((List.length xs) : Nat) : Int)] (some (69, 998)) (True) (True ∧ True) none rok68 ent68 hnt rfl rfl (wanted_none rfl) (by kernel_rfl) (by kernel_rfl) (by kernel_rfl) ⟨trivial, ⟨trivial, trivial⟩⟩
    (@cast (0 ≤ p ∧ p ≤ 1000000) _ (by kernel_rfl) (by omega)) (Or.inl rfl) rfl ?_
  rintro r bl fx2 hR
  obtain ⟨⟨v9, q9⟩, hq9, rfl, rfl, rfl⟩ := (@cast _ (∃ x : Int × Int, ((0 ≤ x.1 ∧ x.1 < max (((List.length xs) : Nat) : Int) 1) ∧ (x.2 = p + 1)) ∧ r = (.i x.1) ∧ bl = ([]) ∧ fx2 = ([.sl (.bytes l), .i x.2])) (by kernel_rfl) hR)
  clear hR
  replace hq9 : (0 ≤ v9 ∧ v9 < max (((List.length xs) : Nat) : Int) 1) ∧ (q9 = p + 1) := hq9
  obtain ⟨hv9, hq19⟩ := hq9
  refine ⟨by kernel_rfl, WI.to (⟨[(0, .ptr 998 0), (1, .sl (.ints xs)), (5, .sl (.ints xs)), (6, .ptr 998 0), (7, .sl (.ints xs)), (8, .i (((List.length xs) : Nat) : Int)), (9, .i v9)], [(998, ⟨69, .fix [.sl (.bytes l), .i q9]⟩)], [9, 998, 999]⟩) 5 (by kernel_rfl) rfl ?_⟩
  refine WI.run cok tab49 hnt [] 3 (⟨[(0, .ptr 998 0), (1, .sl (.ints xs)), (4, .i (List.getD xs (Int.toNat v9) 0)), (5, .sl (.ints xs)), (6, .ptr 998 0), (7, .sl (.ints xs)), (8, .i (((List.length xs) : Nat) : Int)), (9, .i v9), (10, .ep [.i (List.getD xs (Int.toNat v9) 0)]), (11, .i (List.getD xs (Int.toNat v9) 0))], [(998, ⟨69, .fix [.sl (.bytes l), .i q9]⟩)], [9, 998, 999]⟩)
    ((True ∧ (True ∧ ((0 ≤ v9) ∧ (v9 < (((List.length xs) : Nat) : Int))))) ∧ (True ∧ (True ∧ True))) (by kernel_rfl)
    ⟨⟨trivial, ⟨trivial, ⟨(by omega), (by omega)⟩⟩⟩, ⟨trivial, ⟨trivial, trivial⟩⟩⟩ ?_
  refine WI.to (⟨[(0, .ptr 998 0), (1, .sl (.ints xs)), (4, .i (List.getD xs (Int.toNat v9) 0)), (5, .sl (.ints xs)), (6, .ptr 998 0), (7, .sl (.ints xs)), (8, .i (((List.length xs) : Nat) : Int)), (9, .i v9), (10, .ep [.i (List.getD xs (Int.toNat v9) 0)]), (11, .i (List.getD xs (Int.toNat v9) 0))], [(998, ⟨69, .fix [.sl (.bytes l), .i q9]⟩)], [9, 998, 999]⟩) 8 rfl rfl ?_
  refine WI.nil rfl (thenQ_normal ?_)
  refine W.keepE [4] [(4, .i (List.getD xs (Int.toNat v9) 0))] (by kernel_rfl) ?_
  refine W.to (⟨[(4, .i (List.getD xs (Int.toNat v9) 0))], [(998, ⟨69, .fix [.sl (.bytes l), .i q9]⟩)], [9, 998, 999]⟩) rfl ?_
  refine W.ret ?_
  exact endP_ret ((List.getD xs (Int.toNat v9) 0), q9) (show ((List.getD xs (Int.toNat v9) 0) ∈ xs) ∧ (q9 = p + 1) from ⟨(by exact getD_mem xs 0 (by omega)), (by first | assumption | omega | rfl | (simp; done) | (simp; omega))⟩) [(0, 998)] (.i (List.getD xs (Int.toNat v9) 0)) (by kernel_rfl) (@cast (((.int .i64 (List.getD xs (Int.toNat v9) 0) : Value) = .int .i64 (List.getD xs (Int.toNat v9) 0)) ∧ (((((69 : Nat) = 69) ∧ ((((.bytes l : Dat) = .bytes l) ∧ (((.int .i64 q9 : Value) = .int .i64 q9) ∧ True)) ∧ ((0 : Nat) ∈ ([0] : List Nat)))) ∧ True) ∧ ((true = true) ∧ (((([] : List Nat) = []) ∧ True) ∧ (true = true → (998 : Nat) = 998))))) _ (by kernel_rfl) ⟨rfl, ⟨⟨⟨rfl, ⟨⟨rfl, ⟨rfl, trivial⟩⟩, (by decide)⟩⟩, trivial⟩, ⟨rfl, ⟨⟨rfl, trivial⟩, (fun _ => rfl)⟩⟩⟩⟩)
theorem ent49 : Entr prog 49 := ⟨_, func49, rfl, by decide⟩

end Go.Proofs.Try
