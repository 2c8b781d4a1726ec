import Derived.Test.YtcjnccepckdiaaaAS
import Derived.Test.YtcjnccepckdiaaaM10
import Derived.Test.YtcjnccepckdiaaaAP134
import Derived.Test.YtcjnccepckdiaaaAP135
set_option linter.unusedSimpArgs false
set_option linter.unusedVariables false
namespace Go.Proofs.Try
open Go.Ab Go.RowKit
/-- impl.set -/
def fs126 : FnS := fnS [.c .ints 3, .o] [.ints, .call] (fun _ (l, c, _) => (.tup [.sl (.ints ((iSet l c).1)), .i ((iSet l c).2)], [], (∀ j, j < l.length → 0 ≤ l.getD j 0 ∧ l.getD j 0 ≤ 20) ∧ (0 ≤ c.arg ∧ c.arg ≤ 3) ∧ (l.length ≤ 20)))
abbrev T126 : Tab := lk [(134, fs134), (135, fs135)]
theorem tab126 : TabOK prog T126 := (TabOK.cons ok134 ent134 (TabOK.cons ok135 ent135 TabOK.nil))
set_option maxRecDepth 100000 in
set_option maxHeartbeats 1000000 in
theorem ok126 : FnOK prog 126 fs126 := by
  refine FnOK.mk cok func126 rfl rfl rfl ?_
  rintro fl ⟨(l : List Int), (c : CallD), _⟩ hpre F hnt0 _
  have hnt : F.nt = 43 := hnt0.trans ntmps126
  replace hpre : (∀ j, j < l.length → 0 ≤ l.getD j 0 ∧ l.getD j 0 ≤ 20) ∧ (0 ≤ c.arg ∧ c.arg ≤ 3) ∧ (l.length ≤ 20) := hpre
  obtain ⟨hs, ha, hl⟩ := hpre
  refine W.to (⟨[(0, .own 999 (List.length l)), (1, .agg [.i c.proc, .i c.obj, .i c.kind, .i c.arg, .i c.ret, .i c.frm, .i c.to])], [(999, ⟨3, .row (.ints l)⟩)], [999]⟩) rfl ?_
  have hfl := find_lt l c.arg
  refine W.K cok tab126 hnt [] [0, 3] (⟨[(0, .own 999 (List.length l)), (3, .ptr 3 0)], [(3, ⟨27, .fix [.i c.proc, .i c.obj, .i c.kind, .i c.arg, .i c.ret, .i c.frm, .i c.to]⟩), (999, ⟨3, .row (.ints l)⟩)], [3, 999]⟩)
    (True ∧ (True ∧ (True ∧ True))) (by kernel_rfl)
    ⟨trivial, ⟨trivial, ⟨trivial, trivial⟩⟩⟩ ?_
  refine W.K cok tab126 hnt [] [0, 3, 6] (⟨[(0, .own 999 (List.length l)), (3, .ptr 3 0), (6, .i (findI l c.arg))], [(3, ⟨27, .fix [.i c.proc, .i c.obj, .i c.kind, .i c.arg, .i c.ret, .i c.frm, .i c.to]⟩), (999, ⟨3, .row (.ints l)⟩)], [3, 999]⟩)
    (True ∧ (True ∧ (True ∧ ((True ∧ (((True ∧ ((List.length l) = (List.length l))) ∧ (True ∧ True)) ∧ True)) ∧ (True ∧ True))))) (by kernel_rfl)
    ⟨trivial, ⟨trivial, ⟨trivial, ⟨⟨trivial, ⟨⟨⟨trivial, rfl⟩, ⟨trivial, trivial⟩⟩, trivial⟩⟩, ⟨trivial, trivial⟩⟩⟩⟩⟩ ?_
  refine W.seq ?_
  refine W.block ?_
  refine W.K cok tab126 hnt [] [0, 3, 6, 11] (⟨[(0, .own 999 (List.length l)), (3, .ptr 3 0), (6, .i (findI l c.arg)), (11, .b ((decide (c.kind = (0 : Int))) && (decide ((findI l c.arg) < (0 : Int)))))], [(3, ⟨27, .fix [.i c.proc, .i c.obj, .i c.kind, .i c.arg, .i c.ret, .i c.frm, .i c.to]⟩), (999, ⟨3, .row (.ints l)⟩)], [3, 999]⟩)
    (True ∧ (True ∧ ((True ∧ (True ∧ True)) ∧ (True ∧ (((decide (c.kind = (0 : Int))) = true → True) ∧ (((decide (c.kind = (0 : Int))) = true → ((((decide (c.kind = (0 : Int))) = true) ∧ True) ∧ (True ∧ True))) ∧ ((True ∧ (((decide (c.kind = (0 : Int))) = true → ((decide (c.kind = (0 : Int))) = true) ∧ True) ∧ ((decide (c.kind = (0 : Int))) = false → True))) ∧ (True ∧ True)))))))) (by kernel_rfl)
    ⟨trivial, ⟨trivial, ⟨⟨trivial, ⟨trivial, trivial⟩⟩, ⟨trivial, ⟨(fun _ => trivial), ⟨(fun hG => ⟨⟨hG, trivial⟩, ⟨trivial, trivial⟩⟩), ⟨⟨trivial, ⟨(fun hp => ⟨hp, trivial⟩), (fun _ => trivial)⟩⟩, ⟨trivial, trivial⟩⟩⟩⟩⟩⟩⟩⟩ ?_
  refine W.if' ((decide (c.kind = (0 : Int))) && (decide ((findI l c.arg) < (0 : Int)))) (.b ((decide (c.kind = (0 : Int))) && (decide ((findI l c.arg) < (0 : Int))))) (by kernel_rfl) rfl trivial ?_ ?_
  · intro h11
    have h11_0 : c.kind = (0 : Int) := of_decide_eq_true (and_l h11)
    have h11_1 : (findI l c.arg) < (0 : Int) := of_decide_eq_true (and_r h11)
    refine W.K cok tab126 hnt [] [4, 5] (⟨[(4, .sl (.ints (l ++ ([c.arg])))), (5, .i (1 : Int))], [(3, ⟨27, .fix [.i c.proc, .i c.obj, .i c.kind, .i c.arg, .i c.ret, .i c.frm, .i c.to]⟩)], [23, 22, 3, 999]⟩)
      (True ∧ (True ∧ (True ∧ ((True ∧ True) ∧ (((True ∧ ((List.length l) = (List.length l))) ∧ (True ∧ (((List.length l) + (List.length ([c.arg]))) * 8 ≤ 140737488355328))) ∧ (True ∧ (True ∧ True))))))) (by kernel_rfl)
      ⟨trivial, ⟨trivial, ⟨trivial, ⟨⟨trivial, trivial⟩, ⟨⟨⟨trivial, rfl⟩, ⟨trivial, (by (first | omega | (simp only [List.length_append, List.length_cons, List.length_nil, List.length_take, List.length_drop, List.length_set, List.length_replicate, List.length_map] at *; omega) | assumption))⟩⟩, ⟨trivial, ⟨trivial, trivial⟩⟩⟩⟩⟩⟩⟩ ?_
    refine W.ret (blockQ_ret (thenQ_ret ?_))
    exact endQ_ret (.tup [.sl (.ints (l ++ ([c.arg]))), .i (1 : Int)]) (by kernel_rfl) (@cast (((.ints (l ++ ([c.arg])) : Dat) = .ints ((iSet l c).1)) ∧ (((.int .i64 (1 : Int) : Value) = .int .i64 ((iSet l c).2)) ∧ True)) _ (by kernel_rfl) ⟨(congrArg Dat.ints (by first | (simp only [iSet, h11, (and_l h11), (and_r h11), cond_true, cond_false, Bool.and_true, Bool.true_and, Bool.and_false, Bool.false_and, Bool.or_true, Bool.true_or, Bool.or_false, Bool.false_or, Bool.not_true, Bool.not_false]; done) | simp only [iSet, h11, (and_l h11), (and_r h11), cond_true, cond_false, Bool.and_true, Bool.true_and, Bool.and_false, Bool.false_and, Bool.or_true, Bool.true_or, Bool.or_false, Bool.false_or, Bool.not_true, Bool.not_false])), ⟨(congrArg (Value.int .i64) (by first | (simp only [iSet, h11, (and_l h11), (and_r h11), cond_true, cond_false, Bool.and_true, Bool.true_and, Bool.and_false, Bool.false_and, Bool.or_true, Bool.true_or, Bool.or_false, Bool.false_or, Bool.not_true, Bool.not_false]; done) | simp only [iSet, h11, (and_l h11), (and_r h11), cond_true, cond_false, Bool.and_true, Bool.true_and, Bool.and_false, Bool.false_and, Bool.or_true, Bool.true_or, Bool.or_false, Bool.false_or, Bool.not_true, Bool.not_false])), trivial⟩⟩)
  · intro n11
    refine W.K cok tab126 hnt [] [0, 3, 6, 24] (⟨[(0, .own 999 (List.length l)), (3, .ptr 3 0), (6, .i (findI l c.arg)), (24, .b ((decide (c.kind = (0 : Int))) || (decide ((findI l c.arg) < (0 : Int)))))], [(3, ⟨27, .fix [.i c.proc, .i c.obj, .i c.kind, .i c.arg, .i c.ret, .i c.frm, .i c.to]⟩), (999, ⟨3, .row (.ints l)⟩)], [3, 999]⟩)
      (True ∧ (True ∧ ((True ∧ (True ∧ True)) ∧ (True ∧ (((!(decide (c.kind = (0 : Int)))) = true → True) ∧ (((!(decide (c.kind = (0 : Int)))) = true → ((((!(decide (c.kind = (0 : Int)))) = true) ∧ True) ∧ (True ∧ True))) ∧ ((True ∧ (((decide (c.kind = (0 : Int))) = true → True) ∧ ((decide (c.kind = (0 : Int))) = false → ((!(decide (c.kind = (0 : Int)))) = true) ∧ True))) ∧ (True ∧ True)))))))) (by kernel_rfl)
      ⟨trivial, ⟨trivial, ⟨⟨trivial, ⟨trivial, trivial⟩⟩, ⟨trivial, ⟨(fun _ => trivial), ⟨(fun hG => ⟨⟨hG, trivial⟩, ⟨trivial, trivial⟩⟩), ⟨⟨trivial, ⟨(fun _ => trivial), (fun hp => ⟨(not_t hp), trivial⟩)⟩⟩, ⟨trivial, trivial⟩⟩⟩⟩⟩⟩⟩⟩ ?_
    refine W.if' ((decide (c.kind = (0 : Int))) || (decide ((findI l c.arg) < (0 : Int)))) (.b ((decide (c.kind = (0 : Int))) || (decide ((findI l c.arg) < (0 : Int))))) (by kernel_rfl) rfl trivial ?_ ?_
    · intro h24
      refine W.K cok tab126 hnt [] [4, 5] (⟨[(4, .own 999 (List.length l)), (5, .i (0 : Int))], [(3, ⟨27, .fix [.i c.proc, .i c.obj, .i c.kind, .i c.arg, .i c.ret, .i c.frm, .i c.to]⟩), (999, ⟨3, .row (.ints l)⟩)], [3, 999]⟩)
        (True ∧ (True ∧ (True ∧ True))) (by kernel_rfl)
        ⟨trivial, ⟨trivial, ⟨trivial, trivial⟩⟩⟩ ?_
      refine W.ret (blockQ_ret (thenQ_ret ?_))
      exact endQ_ret (.tup [.own 999 (List.length l), .i (0 : Int)]) (by kernel_rfl) (@cast ((((List.length l) = (List.length l)) ∧ (((.ints l : Dat) = .ints ((iSet l c).1)) ∧ ((999 : Nat) ∉ ([] : List Nat)))) ∧ (((.int .i64 (0 : Int) : Value) = .int .i64 ((iSet l c).2)) ∧ True)) _ (by kernel_rfl) ⟨⟨rfl, ⟨(congrArg Dat.ints (by first | (simp only [iSet, h24, n11, cond_true, cond_false, Bool.and_true, Bool.true_and, Bool.and_false, Bool.false_and, Bool.or_true, Bool.true_or, Bool.or_false, Bool.false_or, Bool.not_true, Bool.not_false]; done) | simp only [iSet, h24, n11, cond_true, cond_false, Bool.and_true, Bool.true_and, Bool.and_false, Bool.false_and, Bool.or_true, Bool.true_or, Bool.or_false, Bool.false_or, Bool.not_true, Bool.not_false])), (by decide)⟩⟩, ⟨(congrArg (Value.int .i64) (by first | (simp only [iSet, h24, n11, cond_true, cond_false, Bool.and_true, Bool.true_and, Bool.and_false, Bool.false_and, Bool.or_true, Bool.true_or, Bool.or_false, Bool.false_or, Bool.not_true, Bool.not_false]; done) | simp only [iSet, h24, n11, cond_true, cond_false, Bool.and_true, Bool.true_and, Bool.and_false, Bool.false_and, Bool.or_true, Bool.true_or, Bool.or_false, Bool.false_or, Bool.not_true, Bool.not_false])), trivial⟩⟩)
    · intro n24
      have n24_0 : ¬ (c.kind = (0 : Int)) := of_decide_eq_false (or_l n24)
      have n24_1 : ¬ ((findI l c.arg) < (0 : Int)) := of_decide_eq_false (or_r n24)
      refine W.K cok tab126 hnt [] [0, 6, 33] (⟨[(0, .own 999 (List.length l)), (6, .i (findI l c.arg)), (33, .b (decide (c.kind = (1 : Int))))], [(3, ⟨27, .fix [.i c.proc, .i c.obj, .i c.kind, .i c.arg, .i c.ret, .i c.frm, .i c.to]⟩), (999, ⟨3, .row (.ints l)⟩)], [3, 999]⟩)
        (True ∧ (True ∧ ((True ∧ (True ∧ True)) ∧ (True ∧ True)))) (by kernel_rfl)
        ⟨trivial, ⟨trivial, ⟨⟨trivial, ⟨trivial, trivial⟩⟩, ⟨trivial, trivial⟩⟩⟩⟩ ?_
      refine W.ifP (c.kind = (1 : Int)) (.b (decide (c.kind = (1 : Int)))) (by kernel_rfl) rfl trivial ?_ ?_
      · intro h33
        refine W.K cok tab126 hnt [41] [4, 5] (⟨[(4, .own 41 (List.length (l.take (findI l c.arg).toNat ++ l.drop ((findI l c.arg) + (1 : Int)).toNat))), (5, .i (1 : Int))], [(3, ⟨27, .fix [.i c.proc, .i c.obj, .i c.kind, .i c.arg, .i c.ret, .i c.frm, .i c.to]⟩), (41, ⟨3, .row (.ints (l.take (findI l c.arg).toNat ++ l.drop ((findI l c.arg) + (1 : Int)).toNat))⟩)], [41, 3, 999]⟩)
          (True ∧ (True ∧ (True ∧ ((True ∧ (True ∧ (Fits .i64 ((findI l c.arg) + (1 : Int))))) ∧ ((True ∧ (((True ∧ ((List.length l) = (List.length l))) ∧ (True ∧ (True ∧ True))) ∧ ((0 ≤ (findI l c.arg)) ∧ (((findI l c.arg) < ((findI l c.arg) + (1 : Int))) ∧ (((findI l c.arg) + (1 : Int)) ≤ l.length))))) ∧ (True ∧ (True ∧ True))))))) (by kernel_rfl)
          ⟨trivial, ⟨trivial, ⟨trivial, ⟨⟨trivial, ⟨trivial, (by exact fits_i64 (by omega) (by omega))⟩⟩, ⟨⟨trivial, ⟨⟨⟨trivial, rfl⟩, ⟨trivial, ⟨trivial, trivial⟩⟩⟩, ⟨(by omega), ⟨(by omega), (by omega)⟩⟩⟩⟩, ⟨trivial, ⟨trivial, trivial⟩⟩⟩⟩⟩⟩⟩ ?_
        refine W.ret (blockQ_ret (thenQ_ret ?_))
        exact endQ_ret (.tup [.own 41 (List.length (l.take (findI l c.arg).toNat ++ l.drop ((findI l c.arg) + (1 : Int)).toNat)), .i (1 : Int)]) (by kernel_rfl) (@cast ((((List.length (l.take (findI l c.arg).toNat ++ l.drop ((findI l c.arg) + (1 : Int)).toNat)) = (List.length (l.take (findI l c.arg).toNat ++ l.drop ((findI l c.arg) + (1 : Int)).toNat))) ∧ (((.ints (l.take (findI l c.arg).toNat ++ l.drop ((findI l c.arg) + (1 : Int)).toNat) : Dat) = .ints ((iSet l c).1)) ∧ ((41 : Nat) ∉ ([] : List Nat)))) ∧ (((.int .i64 (1 : Int) : Value) = .int .i64 ((iSet l c).2)) ∧ True)) _ (by kernel_rfl) ⟨⟨rfl, ⟨(congrArg Dat.ints (by first | (simp only [iSet, (decide_eq_true h33), n11, n24, (or_l n24), (or_r n24), cond_true, cond_false, Bool.and_true, Bool.true_and, Bool.and_false, Bool.false_and, Bool.or_true, Bool.true_or, Bool.or_false, Bool.false_or, Bool.not_true, Bool.not_false]; done) | simp only [iSet, (decide_eq_true h33), n11, n24, (or_l n24), (or_r n24), cond_true, cond_false, Bool.and_true, Bool.true_and, Bool.and_false, Bool.false_and, Bool.or_true, Bool.true_or, Bool.or_false, Bool.false_or, Bool.not_true, Bool.not_false])), (by decide)⟩⟩, ⟨(congrArg (Value.int .i64) (by first | (simp only [iSet, (decide_eq_true h33), n11, n24, (or_l n24), (or_r n24), cond_true, cond_false, Bool.and_true, Bool.true_and, Bool.and_false, Bool.false_and, Bool.or_true, Bool.true_or, Bool.or_false, Bool.false_or, Bool.not_true, Bool.not_false]; done) | simp only [iSet, (decide_eq_true h33), n11, n24, (or_l n24), (or_r n24), cond_true, cond_false, Bool.and_true, Bool.true_and, Bool.and_false, Bool.false_and, Bool.or_true, Bool.true_or, Bool.or_false, Bool.false_or, Bool.not_true, Bool.not_false])), trivial⟩⟩)
      · intro n33
        refine W.skip (blockQ_normal (thenQ_normal ?_))
        refine W.K cok tab126 hnt [] [4, 5] (⟨[(4, .own 999 (List.length l)), (5, .i (1 : Int))], [(3, ⟨27, .fix [.i c.proc, .i c.obj, .i c.kind, .i c.arg, .i c.ret, .i c.frm, .i c.to]⟩), (999, ⟨3, .row (.ints l)⟩)], [3, 999]⟩)
          (True ∧ (True ∧ (True ∧ True))) (by kernel_rfl)
          ⟨trivial, ⟨trivial, ⟨trivial, trivial⟩⟩⟩ ?_
        refine W.ret ?_
        exact endQ_ret (.tup [.own 999 (List.length l), .i (1 : Int)]) (by kernel_rfl) (@cast ((((List.length l) = (List.length l)) ∧ (((.ints l : Dat) = .ints ((iSet l c).1)) ∧ ((999 : Nat) ∉ ([] : List Nat)))) ∧ (((.int .i64 (1 : Int) : Value) = .int .i64 ((iSet l c).2)) ∧ True)) _ (by kernel_rfl) ⟨⟨rfl, ⟨(congrArg Dat.ints (by first | (simp only [iSet, n11, n24, (or_l n24), (or_r n24), (decide_eq_false n33), cond_true, cond_false, Bool.and_true, Bool.true_and, Bool.and_false, Bool.false_and, Bool.or_true, Bool.true_or, Bool.or_false, Bool.false_or, Bool.not_true, Bool.not_false]; done) | simp only [iSet, n11, n24, (or_l n24), (or_r n24), (decide_eq_false n33), cond_true, cond_false, Bool.and_true, Bool.true_and, Bool.and_false, Bool.false_and, Bool.or_true, Bool.true_or, Bool.or_false, Bool.false_or, Bool.not_true, Bool.not_false])), (by decide)⟩⟩, ⟨(congrArg (Value.int .i64) (by first | (simp only [iSet, n11, n24, (or_l n24), (or_r n24), (decide_eq_false n33), cond_true, cond_false, Bool.and_true, Bool.true_and, Bool.and_false, Bool.false_and, Bool.or_true, Bool.true_or, Bool.or_false, Bool.false_or, Bool.not_true, Bool.not_false]; done) | simp only [iSet, n11, n24, (or_l n24), (or_r n24), (decide_eq_false n33), cond_true, cond_false, Bool.and_true, Bool.true_and, Bool.and_false, Bool.false_and, Bool.or_true, Bool.true_or, Bool.or_false, Bool.false_or, Bool.not_true, Bool.not_false])), trivial⟩⟩)
theorem ent126 : Entr prog 126 := ⟨_, func126, rfl, by decide⟩

end Go.Proofs.Try
