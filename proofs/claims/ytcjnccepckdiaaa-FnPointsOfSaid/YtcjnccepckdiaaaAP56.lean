import Derived.Test.YtcjnccepckdiaaaAS
import Derived.Test.YtcjnccepckdiaaaM7
import Derived.Test.YtcjnccepckdiaaaAP19
import Derived.Test.YtcjnccepckdiaaaAP110
set_option linter.unusedSimpArgs false
set_option linter.unusedVariables false
namespace Go.Proofs.Try
open Go.Ab Go.RowKit
/-- impl.PointsOf -/
def fs56 : FnS := fnS [.s .calls, .s .ints] [.calls, .ints] (fun _ (h, l, _) => (.tup [.sl (.ints ((pointsOf h l).1)), .b ((pointsOf h l).2)], [], True))
abbrev T56 : Tab := lk [(19, fs19), (110, fs110)]
theorem tab56 : TabOK prog T56 := (TabOK.cons ok19 ent19 (TabOK.cons ok110 ent110 TabOK.nil))
set_option maxRecDepth 100000 in
set_option maxHeartbeats 1000000 in
theorem ok56 : FnOK prog 56 fs56 := by
  refine FnOK.mk func56 rfl rfl rfl ?_
  rintro fl ⟨(h : List CallD), (l : List Int), _⟩ hpre F hnt0 _
  have hnt : F.nt = 47 := hnt0.trans ntmps56
  clear hpre
  refine W.to (⟨[(0, .sl (.calls h)), (1, .sl (.ints l))], [], [999]⟩) rfl ?_
  refine W.lenOf 0 (.calls h) (by kernel_rfl) ?_
  intro hl_h; replace hl_h : List.length h ≤ 9223372036854775807 := hl_h
  refine W.lenOf 1 (.ints l) (by kernel_rfl) ?_
  intro hl_l; replace hl_l : List.length l ≤ 9223372036854775807 := hl_l
  refine W.K cok tab56 hnt [] [0, 1] (⟨[(0, .sl (.calls h)), (1, .sl (.ints l))], [], [999]⟩)
    (True ∧ (True ∧ True)) (by kernel_rfl)
    ⟨trivial, ⟨trivial, trivial⟩⟩ ?_
  refine W.seq ?_
  refine W.K cok tab56 hnt [] [0, 1, 19] (⟨[(0, .sl (.calls h)), (1, .sl (.ints l)), (19, .b ((!(validHistory h)) || (!(isOrd l (((List.length h) : Nat) : Int)))))], [], [999]⟩)
    (True ∧ ((True ∧ ((True ∧ True) ∧ True)) ∧ (True ∧ (True ∧ (((!(!(validHistory h))) = true → True) ∧ (((!(!(validHistory h))) = true → True) ∧ (((!(!(validHistory h))) = true → (((!(!(validHistory h))) = true) ∧ True)) ∧ (((!(!(validHistory h))) = true → (True ∧ (((((!(!(validHistory h))) = true) ∧ True) ∧ ((((!(!(validHistory h))) = true) ∧ True) ∧ True)) ∧ (0 ≤ (((List.length h) : Nat) : Int) ∧ (((List.length h) : Nat) : Int) ≤ 9223372036854775807)))) ∧ (((!(!(validHistory h))) = true → (((!(!(validHistory h))) = true) ∧ True)) ∧ ((True ∧ (((!(validHistory h)) = true → True) ∧ ((!(validHistory h)) = false → ((!(!(validHistory h))) = true) ∧ True))) ∧ True)))))))))) (by kernel_rfl)
    ⟨trivial, ⟨⟨trivial, ⟨⟨trivial, trivial⟩, trivial⟩⟩, ⟨trivial, ⟨trivial, ⟨(fun _ => trivial), ⟨(fun _ => trivial), ⟨(fun hG => ⟨hG, trivial⟩), ⟨(fun hG => ⟨trivial, ⟨⟨⟨hG, trivial⟩, ⟨⟨hG, trivial⟩, trivial⟩⟩, (by omega)⟩⟩), ⟨(fun hG => ⟨hG, trivial⟩), ⟨⟨trivial, ⟨(fun _ => trivial), (fun hp => ⟨(not_t hp), trivial⟩)⟩⟩, trivial⟩⟩⟩⟩⟩⟩⟩⟩⟩⟩ ?_
  refine W.if' ((!(validHistory h)) || (!(isOrd l (((List.length h) : Nat) : Int)))) (.b ((!(validHistory h)) || (!(isOrd l (((List.length h) : Nat) : Int))))) (by kernel_rfl) rfl trivial ?_ ?_
  · intro h19
    refine W.K cok tab56 hnt [] [4, 5] (⟨[(4, .v (.slice none 0 0)), (5, .b false)], [], [999]⟩)
      (True ∧ (True ∧ True)) (by kernel_rfl)
      ⟨trivial, ⟨trivial, trivial⟩⟩ ?_
    refine W.ret (thenQ_ret ?_)
    exact endQ_ret (.tup [.v (.slice none 0 0), .b false]) (by kernel_rfl) (@cast ((((Value.slice none 0 0 : Value) = .slice none 0 0) ∧ ((Dat.ints ((pointsOf h l).1)).len = 0)) ∧ (((.bool false : Value) = .bool ((pointsOf h l).2)) ∧ True)) _ (by kernel_rfl) ⟨⟨rfl, (by show List.length ((pointsOf h l).1) = 0; rw [points_1 h19]; try rfl)⟩, ⟨(congrArg Value.bool (by rw [points_1 h19]; try rfl)), trivial⟩⟩)
  · intro n19
    refine W.skip (thenQ_normal ?_)
    refine W.K cok tab56 hnt [20] [0, 1, 6, 7] (⟨[(0, .sl (.calls h)), (1, .sl (.ints l)), (6, .own 20 (List.length ([] : List Int))), (7, .i (0 : Int))], [(20, ⟨3, .row (.ints ([] : List Int))⟩)], [20, 999]⟩)
      (True ∧ (True ∧ (True ∧ True))) (by kernel_rfl)
      ⟨trivial, ⟨trivial, ⟨trivial, trivial⟩⟩⟩ ?_
    refine W.seq ?_
    refine W.K cok tab56 hnt [] [0, 6, 7, 21, 22, 23] (⟨[(0, .sl (.calls h)), (6, .own 20 (List.length ([] : List Int))), (7, .i (0 : Int)), (21, .sl (.ints l)), (22, .i (((List.length l) : Nat) : Int)), (23, .i (0 : Int))], [(20, ⟨3, .row (.ints ([] : List Int))⟩)], [20, 999]⟩)
      (True ∧ (True ∧ (True ∧ True))) (by kernel_rfl)
      ⟨trivial, ⟨trivial, ⟨trivial, trivial⟩⟩⟩ ?_
    refine W.block ?_
    refine W.loop (ι := Nat × (List Int) × Int) (fun (x : Nat × (List Int) × Int) => match x with | (i, o, cur) => (⟨[(0, .sl (.calls h)), (6, .own 20 (List.length o)), (7, .i cur), (21, .sl (.ints l)), (22, .i (((List.length l) : Nat) : Int)), (23, .i ((i : Nat) : Int))], [(20, ⟨3, .row (.ints o)⟩)], [20, 999]⟩ : St))
      (fun (x : Nat × (List Int) × Int) => match x with | (i, o, cur) => (i ≤ l.length) ∧ (o = pts h l i) ∧ (cur = curF h l i) ∧ (∀ j, j < i → ptOK h l j = true))
      (fun (x : Nat × (List Int) × Int) => match x with | (i, o, cur) => (l.length - i : Nat)) (0, ([] : List Int), (0 : Int)) ?_ ?_ ?_
    · exact (show (0 ≤ l.length) ∧ (([] : List Int) = pts h l 0) ∧ ((0 : Int) = curF h l 0) ∧ (∀ j, j < 0 → ptOK h l j = true) from ⟨(by first | assumption | omega | rfl | (intro _ hjj; omega) | (simp; done) | (simp; omega)), (by rfl), (by rfl), (by exact upto_zero)⟩)
    · exact Sub.of [] (@cast ((((.calls h : Dat) = .calls h) ∧ ((((20 : Nat) = 20) ∧ (((List.length ([] : List Int)) = (List.length ([] : List Int))) ∧ ((20 : Nat) ∈ ([20, 999] : List Nat)))) ∧ (((.int .i64 (0 : Int) : Value) = .int .i64 (0 : Int)) ∧ (((.ints l : Dat) = .ints l) ∧ (((.int .i64 (((List.length l) : Nat) : Int) : Value) = .int .i64 (((List.length l) : Nat) : Int)) ∧ (((.int .i64 (0 : Int) : Value) = .int .i64 ((0 : Nat) : Int)) ∧ True)))))) ∧ (((((3 : Nat) = 3) ∧ (((.ints ([] : List Int) : Dat) = .ints ([] : List Int)) ∧ ((20 : Nat) ∈ ([20, 999] : List Nat)))) ∧ True) ∧ ((true = true) ∧ (true = true)))) _ (by kernel_rfl) ⟨⟨rfl, ⟨⟨rfl, ⟨rfl, (by decide)⟩⟩, ⟨rfl, ⟨rfl, ⟨rfl, ⟨(congrArg (Value.int .i64) (by first | rfl | omega | assumption | simp | simp_all)), trivial⟩⟩⟩⟩⟩⟩, ⟨⟨⟨rfl, ⟨rfl, (by decide)⟩⟩, trivial⟩, ⟨rfl, rfl⟩⟩⟩)
    · rintro ⟨i, o, cur⟩ hC0
      have hC : (i ≤ l.length) ∧ (o = pts h l i) ∧ (cur = curF h l i) ∧ (∀ j, j < i → ptOK h l j = true) := hC0
      clear hC0
      obtain ⟨hi, ho, hc, hA⟩ := hC
      refine W.to (⟨[(0, .sl (.calls h)), (6, .own 20 (List.length o)), (7, .i cur), (21, .sl (.ints l)), (22, .i (((List.length l) : Nat) : Int)), (23, .i ((i : Nat) : Int))], [(20, ⟨3, .row (.ints o)⟩)], [20, 999]⟩) rfl ?_
      have hol : o.length = i := by rw [ho]; exact pts_len h l i
      have hv : validHistory h = true := not_g (or_l n19)
      have hord : isOrd l ((h.length : Nat) : Int) = true := not_g (or_r n19)
      have hv6 := (valid_iff.1 hv).1
      have hrg := fun (j : Nat) (hj : j < l.length) => isOrd_range hord hj
      have hri := hrg i
      refine W.K cok tab56 hnt [] [0, 6, 7, 21, 22, 23, 24] (⟨[(0, .sl (.calls h)), (6, .own 20 (List.length o)), (7, .i cur), (21, .sl (.ints l)), (22, .i (((List.length l) : Nat) : Int)), (23, .i ((i : Nat) : Int)), (24, .b (decide (((i : Nat) : Int) < (((List.length l) : Nat) : Int))))], [(20, ⟨3, .row (.ints o)⟩)], [20, 999]⟩)
        ((True ∧ (True ∧ True)) ∧ True) (by kernel_rfl)
        ⟨⟨trivial, ⟨trivial, trivial⟩⟩, trivial⟩ ?_
      refine W.seq ?_
      refine W.ifP (((i : Nat) : Int) < (((List.length l) : Nat) : Int)) (.b (decide (((i : Nat) : Int) < (((List.length l) : Nat) : Int)))) (by kernel_rfl) rfl trivial ?_ ?_
      · intro h24
        refine W.skip (thenQ_normal ?_)
        refine W.seq ?_
        refine W.block ?_
        refine W.K cok tab56 hnt [] [0, 6, 7, 9, 21, 22, 23] (⟨[(0, .sl (.calls h)), (6, .own 20 (List.length o)), (7, .i cur), (9, .i (List.getD l i 0)), (21, .sl (.ints l)), (22, .i (((List.length l) : Nat) : Int)), (23, .i ((i : Nat) : Int))], [(20, ⟨3, .row (.ints o)⟩)], [20, 999]⟩)
          ((True ∧ (True ∧ ((0 ≤ ((i : Nat) : Int)) ∧ (((i : Nat) : Int) < (((List.length l) : Nat) : Int))))) ∧ (True ∧ (True ∧ True))) (by kernel_rfl)
          ⟨⟨trivial, ⟨trivial, ⟨(by omega), (by omega)⟩⟩⟩, ⟨trivial, ⟨trivial, trivial⟩⟩⟩ ?_
        refine W.K cok tab56 hnt [] [0, 6, 7, 9, 21, 22, 23] (⟨[(0, .sl (.calls h)), (6, .own 20 (List.length o)), (7, .i (max cur ((List.getD h (Int.toNat (List.getD l i 0)) default).frm))), (9, .i (List.getD l i 0)), (21, .sl (.ints l)), (22, .i (((List.length l) : Nat) : Int)), (23, .i ((i : Nat) : Int))], [(20, ⟨3, .row (.ints o)⟩)], [20, 999]⟩)
          (True ∧ (True ∧ (True ∧ ((True ∧ (True ∧ ((0 ≤ (List.getD l i 0)) ∧ ((List.getD l i 0) < (((List.length h) : Nat) : Int))))) ∧ (True ∧ (True ∧ ((True ∧ True) ∧ (True ∧ True)))))))) (by kernel_rfl)
          ⟨trivial, ⟨trivial, ⟨trivial, ⟨⟨trivial, ⟨trivial, ⟨(by (first | omega | (simp only [List.length_append, List.length_cons, List.length_nil, List.length_take, List.length_drop, List.length_set, List.length_replicate, List.length_map] at *; omega) | assumption)), (by (first | omega | (simp only [List.length_append, List.length_cons, List.length_nil, List.length_take, List.length_drop, List.length_set, List.length_replicate, List.length_map] at *; omega) | assumption))⟩⟩⟩, ⟨trivial, ⟨trivial, ⟨⟨trivial, trivial⟩, ⟨trivial, trivial⟩⟩⟩⟩⟩⟩⟩⟩ ?_
        refine W.seq ?_
        refine W.K cok tab56 hnt [] [0, 6, 7, 21, 22, 23, 40] (⟨[(0, .sl (.calls h)), (6, .own 20 (List.length o)), (7, .i (max cur ((List.getD h (Int.toNat (List.getD l i 0)) default).frm))), (21, .sl (.ints l)), (22, .i (((List.length l) : Nat) : Int)), (23, .i ((i : Nat) : Int)), (40, .b (decide (((List.getD h (Int.toNat (List.getD l i 0)) default).to) ≤ (max cur ((List.getD h (Int.toNat (List.getD l i 0)) default).frm)))))], [(20, ⟨3, .row (.ints o)⟩)], [20, 999]⟩)
          (True ∧ (True ∧ (True ∧ ((True ∧ (True ∧ ((0 ≤ (List.getD l i 0)) ∧ ((List.getD l i 0) < (((List.length h) : Nat) : Int))))) ∧ (True ∧ (True ∧ ((True ∧ (True ∧ True)) ∧ True))))))) (by kernel_rfl)
          ⟨trivial, ⟨trivial, ⟨trivial, ⟨⟨trivial, ⟨trivial, ⟨(by (first | omega | (simp only [List.length_append, List.length_cons, List.length_nil, List.length_take, List.length_drop, List.length_set, List.length_replicate, List.length_map] at *; omega) | assumption)), (by (first | omega | (simp only [List.length_append, List.length_cons, List.length_nil, List.length_take, List.length_drop, List.length_set, List.length_replicate, List.length_map] at *; omega) | assumption))⟩⟩⟩, ⟨trivial, ⟨trivial, ⟨⟨trivial, ⟨trivial, trivial⟩⟩, trivial⟩⟩⟩⟩⟩⟩⟩ ?_
        refine W.ifP (((List.getD h (Int.toNat (List.getD l i 0)) default).to) ≤ (max cur ((List.getD h (Int.toNat (List.getD l i 0)) default).frm))) (.b (decide (((List.getD h (Int.toNat (List.getD l i 0)) default).to) ≤ (max cur ((List.getD h (Int.toNat (List.getD l i 0)) default).frm))))) (by kernel_rfl) rfl trivial ?_ ?_
        · intro h40
          refine W.K cok tab56 hnt [] [4, 5] (⟨[(4, .v (.slice none 0 0)), (5, .b false)], [(20, ⟨3, .row (.ints o)⟩)], [20, 999]⟩)
            (True ∧ (True ∧ True)) (by kernel_rfl)
            ⟨trivial, ⟨trivial, trivial⟩⟩ ?_
          refine W.ret (thenQ_ret (blockQ_ret (thenQ_ret (thenQ_ret (blockQ_ret (thenQ_ret ?_))))))
          exact endQ_ret (.tup [.v (.slice none 0 0), .b false]) (by kernel_rfl) (@cast ((((Value.slice none 0 0 : Value) = .slice none 0 0) ∧ ((Dat.ints ((pointsOf h l).1)).len = 0)) ∧ (((.bool false : Value) = .bool ((pointsOf h l).2)) ∧ True)) _ (by kernel_rfl) ⟨⟨rfl, (by show List.length ((pointsOf h l).1) = 0; rw [points_2 n19, points_no (i := i) (by omega) (decide_eq_false (by rw [hc] at h40; show ¬ max (curF h l i) _ < _; unfold callAt; omega))]; try rfl)⟩, ⟨(congrArg Value.bool (by rw [points_2 n19, points_no (i := i) (by omega) (decide_eq_false (by rw [hc] at h40; show ¬ max (curF h l i) _ < _; unfold callAt; omega))]; try rfl)), trivial⟩⟩)
        · intro n40
          refine W.skip (thenQ_normal ?_)
          refine W.L cok tab56 hnt [44] (⟨[(0, .sl (.calls h)), (6, .own 44 (List.length (o ++ ([(max cur ((List.getD h (Int.toNat (List.getD l i 0)) default).frm))])))), (7, .i (max cur ((List.getD h (Int.toNat (List.getD l i 0)) default).frm))), (21, .sl (.ints l)), (22, .i (((List.length l) : Nat) : Int)), (23, .i ((i : Nat) : Int)), (40, .b (decide (((List.getD h (Int.toNat (List.getD l i 0)) default).to) ≤ (max cur ((List.getD h (Int.toNat (List.getD l i 0)) default).frm))))), (41, .own 20 (List.length o)), (42, .i (max cur ((List.getD h (Int.toNat (List.getD l i 0)) default).frm))), (43, .sl (.ints ([(max cur ((List.getD h (Int.toNat (List.getD l i 0)) default).frm))]))), (44, .own 44 (List.length (o ++ ([(max cur ((List.getD h (Int.toNat (List.getD l i 0)) default).frm))]))))], [(44, ⟨3, .row (.ints (o ++ ([(max cur ((List.getD h (Int.toNat (List.getD l i 0)) default).frm))])))⟩)], [44, 43, 20, 999]⟩)
            (True ∧ (True ∧ ((True ∧ True) ∧ (((True ∧ ((List.length o) = (List.length o))) ∧ (True ∧ (((List.length o) + (List.length ([(max cur ((List.getD h (Int.toNat (List.getD l i 0)) default).frm))]))) * 8 ≤ 140737488355328))) ∧ (True ∧ True))))) (by kernel_rfl)
            ⟨trivial, ⟨trivial, ⟨⟨trivial, trivial⟩, ⟨⟨⟨trivial, rfl⟩, ⟨trivial, (by (first | omega | (simp only [List.length_append, List.length_cons, List.length_nil, List.length_take, List.length_drop, List.length_set, List.length_replicate, List.length_map] at *; omega) | assumption))⟩⟩, ⟨trivial, trivial⟩⟩⟩⟩⟩ ?_
          refine blockQ_normal (thenQ_normal ?_)
          refine W.L cok tab56 hnt [] (⟨[(0, .sl (.calls h)), (6, .own 44 (List.length (o ++ ([(max cur ((List.getD h (Int.toNat (List.getD l i 0)) default).frm))])))), (7, .i (max cur ((List.getD h (Int.toNat (List.getD l i 0)) default).frm))), (21, .sl (.ints l)), (22, .i (((List.length l) : Nat) : Int)), (23, .i (((i + 1) : Nat) : Int)), (40, .b (decide (((List.getD h (Int.toNat (List.getD l i 0)) default).to) ≤ (max cur ((List.getD h (Int.toNat (List.getD l i 0)) default).frm))))), (41, .own 20 (List.length o)), (42, .i (max cur ((List.getD h (Int.toNat (List.getD l i 0)) default).frm))), (43, .sl (.ints ([(max cur ((List.getD h (Int.toNat (List.getD l i 0)) default).frm))]))), (44, .own 44 (List.length (o ++ ([(max cur ((List.getD h (Int.toNat (List.getD l i 0)) default).frm))])))), (45, .i (((i + 1) : Nat) : Int))], [(44, ⟨3, .row (.ints (o ++ ([(max cur ((List.getD h (Int.toNat (List.getD l i 0)) default).frm))])))⟩)], [44, 43, 20, 999]⟩)
            ((True ∧ (True ∧ (Fits .i64 (((i + 1) : Nat) : Int)))) ∧ (True ∧ True)) (by kernel_rfl)
            ⟨⟨trivial, ⟨trivial, (by exact fits_i64 (by omega) (by omega))⟩⟩, ⟨trivial, trivial⟩⟩ ?_
          refine thenQ_normal ?_
          refine ⟨((i + 1), (o ++ ([(max cur ((List.getD h (Int.toNat (List.getD l i 0)) default).frm))])), (max cur ((List.getD h (Int.toNat (List.getD l i 0)) default).frm))), (show ((i + 1) ≤ l.length) ∧ ((o ++ ([(max cur ((List.getD h (Int.toNat (List.getD l i 0)) default).frm))])) = pts h l (i + 1)) ∧ ((max cur ((List.getD h (Int.toNat (List.getD l i 0)) default).frm)) = curF h l (i + 1)) ∧ (∀ j, j < (i + 1) → ptOK h l j = true) from ⟨(by first | assumption | omega | rfl | (intro _ hjj; omega) | (simp; done) | (simp; omega)), (by rw [pts_succ, ho, hc]; rfl), (by rw [hc]; rfl), (by exact upto_succ hA (decide_eq_true (by rw [hc] at n40; unfold callAt at *; show max (curF h l i) _ < _; unfold callAt; omega)))⟩), (show l.length - (i + 1) < l.length - i from (by first | omega | (simp_all; omega))), ?_⟩
          exact Sub.of [(20, 44)] (@cast ((((.calls h : Dat) = .calls h) ∧ ((((44 : Nat) = 44) ∧ (((List.length (o ++ ([(max cur ((List.getD h (Int.toNat (List.getD l i 0)) default).frm))]))) = (List.length (o ++ ([(max cur ((List.getD h (Int.toNat (List.getD l i 0)) default).frm))])))) ∧ ((20 : Nat) ∈ ([20, 999] : List Nat)))) ∧ (((.int .i64 (max cur ((List.getD h (Int.toNat (List.getD l i 0)) default).frm)) : Value) = .int .i64 (max cur ((List.getD h (Int.toNat (List.getD l i 0)) default).frm))) ∧ (((.ints l : Dat) = .ints l) ∧ (((.int .i64 (((List.length l) : Nat) : Int) : Value) = .int .i64 (((List.length l) : Nat) : Int)) ∧ (((.int .i64 (((i + 1) : Nat) : Int) : Value) = .int .i64 (((i + 1) : Nat) : Int)) ∧ True)))))) ∧ (((((3 : Nat) = 3) ∧ (((.ints (o ++ ([(max cur ((List.getD h (Int.toNat (List.getD l i 0)) default).frm))])) : Dat) = .ints (o ++ ([(max cur ((List.getD h (Int.toNat (List.getD l i 0)) default).frm))]))) ∧ ((20 : Nat) ∈ ([20, 999] : List Nat)))) ∧ True) ∧ ((true = true) ∧ (true = true)))) _ (by kernel_rfl) ⟨⟨rfl, ⟨⟨rfl, ⟨rfl, (by decide)⟩⟩, ⟨rfl, ⟨rfl, ⟨rfl, ⟨rfl, trivial⟩⟩⟩⟩⟩⟩, ⟨⟨⟨rfl, ⟨rfl, (by decide)⟩⟩, trivial⟩, ⟨rfl, rfl⟩⟩⟩)
      · intro n24
        refine W.exit (thenQ_exit (thenQ_exit (blockQ_hit ?_)))
        refine thenQ_normal ?_
        refine W.K cok tab56 hnt [] [4, 5] (⟨[(4, .own 20 (List.length o)), (5, .b true)], [(20, ⟨3, .row (.ints o)⟩)], [20, 999]⟩)
          (True ∧ (True ∧ (True ∧ True))) (by kernel_rfl)
          ⟨trivial, ⟨trivial, ⟨trivial, trivial⟩⟩⟩ ?_
        refine W.subS [] (⟨[(4, .sl (.ints o)), (5, .b true)], [], [999]⟩) (@cast (((((List.length o) = (List.length o)) ∧ (((.ints o : Dat) = .ints o) ∧ ((20 : Nat) ∉ ([] : List Nat)))) ∧ (((.bool true : Value) = .bool true) ∧ True)) ∧ (True ∧ ((true = true) ∧ (true = true)))) _ (by kernel_rfl) ⟨⟨⟨rfl, ⟨rfl, (by decide)⟩⟩, ⟨rfl, trivial⟩⟩, ⟨trivial, ⟨rfl, rfl⟩⟩⟩) ?_
        refine W.ret ?_
        exact endQ_ret (.tup [.sl (.ints o), .b true]) (by kernel_rfl) (@cast (((.ints o : Dat) = .ints ((pointsOf h l).1)) ∧ (((.bool true : Value) = .bool ((pointsOf h l).2)) ∧ True)) _ (by kernel_rfl) ⟨(congrArg Dat.ints (by rw [points_2 n19, points_yes (n := i) (by omega) hA] <;> first | rfl | exact ho)), ⟨(congrArg Value.bool (by rw [points_2 n19, points_yes (n := i) (by omega) hA] <;> first | rfl | exact ho)), trivial⟩⟩)
theorem ent56 : Entr prog 56 := ⟨_, func56, rfl, by decide⟩

end Go.Proofs.Try
