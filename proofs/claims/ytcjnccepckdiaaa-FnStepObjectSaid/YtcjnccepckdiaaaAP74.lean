import Derived.Test.YtcjnccepckdiaaaAS
import Derived.Test.YtcjnccepckdiaaaM10
import Derived.Test.YtcjnccepckdiaaaAP84
import Derived.Test.YtcjnccepckdiaaaAP70
set_option linter.unusedSimpArgs false
set_option linter.unusedVariables false
namespace Go.Proofs.Try
open Go.Ab Go.RowKit
/-- spec.validState -/
def fs74 : FnS := fnS [.o, .s .ints] [.str, .ints] (fun _ (s, l, _) => (.b (isSt s l), [], True))
abbrev T74 : Tab := lk [(70, fs70), (84, fs84)]
theorem tab74 : TabOK prog T74 := (TabOK.cons ok70 ent70 (TabOK.cons ok84 ent84 TabOK.nil))
set_option maxRecDepth 100000 in
set_option maxHeartbeats 1000000 in
theorem ok74 : FnOK prog 74 fs74 := by
  refine FnOK.mk cok func74 rfl rfl rfl ?_
  rintro fl ⟨(s : ByteArray), (l : List Int), _⟩ hpre F hnt0 _
  have hnt : F.nt = 48 := hnt0.trans ntmps74
  clear hpre
  refine W.to (⟨[(0, .v (.string s)), (1, .sl (.ints l))], [], [999]⟩) rfl ?_
  refine W.lenOf 1 (.ints l) (by kernel_rfl) ?_
  intro hl_l; replace hl_l : List.length l ≤ 9223372036854775807 := hl_l
  refine W.K cok tab74 hnt [] [0, 1] (⟨[(0, .v (.string s)), (1, .sl (.ints l))], [], [999]⟩)
    (True ∧ True) (by kernel_rfl)
    ⟨trivial, trivial⟩ ?_
  refine W.seq ?_
  refine W.K cok tab74 hnt [] [0, 1, 5] (⟨[(0, .v (.string s)), (1, .sl (.ints l)), (5, .i (0 : Int))], [], [999]⟩)
    (True ∧ True) (by kernel_rfl)
    ⟨trivial, trivial⟩ ?_
  refine W.block ?_
  refine W.loop (ι := Nat) (fun (i : Nat) => (⟨[(0, .v (.string s)), (1, .sl (.ints l)), (5, .i ((i : Nat) : Int))], [], [999]⟩ : St))
    (fun (i : Nat) => (i ≤ l.length) ∧ (∀ j, j < i → stAt s l j = true))
    (fun (i : Nat) => (l.length - i : Nat)) (0) ?_ ?_ ?_
  · exact (show (0 ≤ l.length) ∧ (∀ j, j < 0 → stAt s l j = true) from ⟨(by first | assumption | omega | rfl | (intro _ hjj; omega) | (simp; done) | (simp; omega)), (by exact upto_zero)⟩)
  · exact Sub.of [] (@cast (((((.string s) : Value) = (.string s)) ∧ (((.ints l : Dat) = .ints l) ∧ (((.int .i64 (0 : Int) : Value) = .int .i64 ((0 : Nat) : Int)) ∧ True))) ∧ (True ∧ ((true = true) ∧ (true = true)))) _ (by kernel_rfl) ⟨⟨rfl, ⟨rfl, ⟨(congrArg (Value.int .i64) (by first | rfl | omega | assumption | simp | simp_all)), trivial⟩⟩⟩, ⟨trivial, ⟨rfl, rfl⟩⟩⟩)
  · rintro i hC0
    have hC : (i ≤ l.length) ∧ (∀ j, j < i → stAt s l j = true) := hC0
    clear hC0
    obtain ⟨hi, hA⟩ := hC
    refine W.to (⟨[(0, .v (.string s)), (1, .sl (.ints l)), (5, .i ((i : Nat) : Int))], [], [999]⟩) rfl ?_
    refine W.seq ?_
    refine W.K cok tab74 hnt [] [0, 1, 5, 9] (⟨[(0, .v (.string s)), (1, .sl (.ints l)), (5, .i ((i : Nat) : Int)), (9, .b (decide (((i : Nat) : Int) < (((List.length l) : Nat) : Int))))], [], [999]⟩)
      (True ∧ (True ∧ (True ∧ ((True ∧ (True ∧ True)) ∧ True)))) (by kernel_rfl)
      ⟨trivial, ⟨trivial, ⟨trivial, ⟨⟨trivial, ⟨trivial, trivial⟩⟩, trivial⟩⟩⟩⟩ ?_
    refine W.ifP (((i : Nat) : Int) < (((List.length l) : Nat) : Int)) (.b (decide (((i : Nat) : Int) < (((List.length l) : Nat) : Int)))) (by kernel_rfl) rfl trivial ?_ ?_
    · intro h9
      refine W.skip (thenQ_normal ?_)
      refine W.seq ?_
      refine W.block ?_
      refine W.KA cok tab74 hnt [] [0, 1, 5, 31] (⟨[(0, .v (.string s)), (1, .sl (.ints l)), (5, .i ((i : Nat) : Int)), (31, .b ((!(within (List.getD l i 0) (0 : Int) (20 : Int))) || ((eqS s nSet) && (hasInt (List.take i l) (List.getD l i 0)))))], [], [999]⟩)
        (True ∧ (True ∧ ((True ∧ (True ∧ ((0 ≤ ((i : Nat) : Int)) ∧ (((i : Nat) : Int) < (((List.length l) : Nat) : Int))))) ∧ (True ∧ ((True ∧ ((True ∧ (True ∧ (True ∧ True))) ∧ True)) ∧ (True ∧ (True ∧ (((!(!(within (List.getD l i 0) (0 : Int) (20 : Int)))) = true → True) ∧ (((!(!(within (List.getD l i 0) (0 : Int) (20 : Int)))) = true → ((((!(!(within (List.getD l i 0) (0 : Int) (20 : Int)))) = true) ∧ True) ∧ (True ∧ True))) ∧ (((!(!(within (List.getD l i 0) (0 : Int) (20 : Int)))) = true → True) ∧ ((((!(!(within (List.getD l i 0) (0 : Int) (20 : Int)))) && ((!(!(within (List.getD l i 0) (0 : Int) (20 : Int)))) && (eqS s nSet))) = true → True) ∧ ((((!(!(within (List.getD l i 0) (0 : Int) (20 : Int)))) && ((!(!(within (List.getD l i 0) (0 : Int) (20 : Int)))) && (eqS s nSet))) = true → True) ∧ ((((!(!(within (List.getD l i 0) (0 : Int) (20 : Int)))) && ((!(!(within (List.getD l i 0) (0 : Int) (20 : Int)))) && (eqS s nSet))) = true → (((((!(!(within (List.getD l i 0) (0 : Int) (20 : Int)))) && ((!(!(within (List.getD l i 0) (0 : Int) (20 : Int)))) && (eqS s nSet))) = true) ∧ True) ∧ (True ∧ (((((!(!(within (List.getD l i 0) (0 : Int) (20 : Int)))) && ((!(!(within (List.getD l i 0) (0 : Int) (20 : Int)))) && (eqS s nSet))) = true) ∧ True) ∧ ((0 ≤ (0 : Int)) ∧ (((0 : Int) ≤ ((i : Nat) : Int)) ∧ (((i : Nat) : Int) ≤ (((List.length l) : Nat) : Int)))))))) ∧ ((((!(!(within (List.getD l i 0) (0 : Int) (20 : Int)))) && ((!(!(within (List.getD l i 0) (0 : Int) (20 : Int)))) && (eqS s nSet))) = true → True) ∧ ((((!(!(within (List.getD l i 0) (0 : Int) (20 : Int)))) && ((!(!(within (List.getD l i 0) (0 : Int) (20 : Int)))) && (eqS s nSet))) = true → True) ∧ ((((!(!(within (List.getD l i 0) (0 : Int) (20 : Int)))) && ((!(!(within (List.getD l i 0) (0 : Int) (20 : Int)))) && (eqS s nSet))) = true → (((((!(!(within (List.getD l i 0) (0 : Int) (20 : Int)))) && ((!(!(within (List.getD l i 0) (0 : Int) (20 : Int)))) && (eqS s nSet))) = true) ∧ True) ∧ (((((!(!(within (List.getD l i 0) (0 : Int) (20 : Int)))) && ((!(!(within (List.getD l i 0) (0 : Int) (20 : Int)))) && (eqS s nSet))) = true) ∧ True) ∧ ((0 ≤ ((i : Nat) : Int)) ∧ (((i : Nat) : Int) < (((List.length l) : Nat) : Int)))))) ∧ ((((!(!(within (List.getD l i 0) (0 : Int) (20 : Int)))) && ((!(!(within (List.getD l i 0) (0 : Int) (20 : Int)))) && (eqS s nSet))) = true → ((((!(!(within (List.getD l i 0) (0 : Int) (20 : Int)))) && ((!(!(within (List.getD l i 0) (0 : Int) (20 : Int)))) && (eqS s nSet))) = true) ∧ True)) ∧ ((((!(!(within (List.getD l i 0) (0 : Int) (20 : Int)))) && ((!(!(within (List.getD l i 0) (0 : Int) (20 : Int)))) && (eqS s nSet))) = true → (True ∧ ((((((!(!(within (List.getD l i 0) (0 : Int) (20 : Int)))) && ((!(!(within (List.getD l i 0) (0 : Int) (20 : Int)))) && (eqS s nSet))) = true) ∧ True) ∧ (((((!(!(within (List.getD l i 0) (0 : Int) (20 : Int)))) && ((!(!(within (List.getD l i 0) (0 : Int) (20 : Int)))) && (eqS s nSet))) = true) ∧ True) ∧ True)) ∧ True))) ∧ (((!(!(within (List.getD l i 0) (0 : Int) (20 : Int)))) = true → ((((!(!(within (List.getD l i 0) (0 : Int) (20 : Int)))) = true) ∧ (((!(!(within (List.getD l i 0) (0 : Int) (20 : Int)))) = true) ∧ True)) ∧ (((eqS s nSet) = true → (((!(!(within (List.getD l i 0) (0 : Int) (20 : Int)))) && ((!(!(within (List.getD l i 0) (0 : Int) (20 : Int)))) && (eqS s nSet))) = true) ∧ True) ∧ ((eqS s nSet) = false → True)))) ∧ ((True ∧ (((!(within (List.getD l i 0) (0 : Int) (20 : Int))) = true → True) ∧ ((!(within (List.getD l i 0) (0 : Int) (20 : Int))) = false → ((!(!(within (List.getD l i 0) (0 : Int) (20 : Int)))) = true) ∧ True))) ∧ True)))))))))))))))))))) (by kernel_rfl) (by kernel_rfl)
        ⟨trivial, ⟨trivial, ⟨⟨trivial, ⟨trivial, ⟨(by omega), (by omega)⟩⟩⟩, ⟨trivial, ⟨⟨trivial, ⟨⟨trivial, ⟨trivial, ⟨trivial, trivial⟩⟩⟩, trivial⟩⟩, ⟨trivial, ⟨trivial, ⟨(fun _ => trivial), ⟨(fun hG => ⟨⟨hG, trivial⟩, ⟨trivial, trivial⟩⟩), ⟨(fun _ => trivial), ⟨(fun _ => trivial), ⟨(fun _ => trivial), ⟨(fun hG => ⟨⟨hG, trivial⟩, ⟨trivial, ⟨⟨hG, trivial⟩, ⟨(by omega), ⟨(by omega), (by omega)⟩⟩⟩⟩⟩), ⟨(fun _ => trivial), ⟨(fun _ => trivial), ⟨(fun hG => ⟨⟨hG, trivial⟩, ⟨⟨hG, trivial⟩, ⟨(by omega), (by omega)⟩⟩⟩), ⟨(fun hG => ⟨hG, trivial⟩), ⟨(fun hG => ⟨trivial, ⟨⟨⟨hG, trivial⟩, ⟨⟨hG, trivial⟩, trivial⟩⟩, trivial⟩⟩), ⟨(fun hG => ⟨⟨hG, ⟨hG, trivial⟩⟩, ⟨(fun hp => ⟨(and_t hG (and_t hG hp)), trivial⟩), (fun _ => trivial)⟩⟩), ⟨⟨trivial, ⟨(fun _ => trivial), (fun hp => ⟨(not_t hp), trivial⟩)⟩⟩, trivial⟩⟩⟩⟩⟩⟩⟩⟩⟩⟩⟩⟩⟩⟩⟩⟩⟩⟩⟩⟩ ?_
      refine W.if' ((!(within (List.getD l i 0) (0 : Int) (20 : Int))) || ((eqS s nSet) && (hasInt (List.take i l) (List.getD l i 0)))) (.b ((!(within (List.getD l i 0) (0 : Int) (20 : Int))) || ((eqS s nSet) && (hasInt (List.take i l) (List.getD l i 0))))) (by kernel_rfl) rfl trivial ?_ ?_
      · intro h31
        refine W.K cok tab74 hnt [] [4] (⟨[(4, .b false)], [], [999]⟩)
          (True ∧ True) (by kernel_rfl)
          ⟨trivial, trivial⟩ ?_
        refine W.ret (blockQ_ret (thenQ_ret (thenQ_ret (blockQ_ret (thenQ_ret ?_)))))
        exact endQ_ret (.b false) (by kernel_rfl) (@cast ((.bool false : Value) = .bool (isSt s l)) _ (by kernel_rfl) (congrArg Value.bool (by exact (stI_no (i := i) (by omega) h31).symm)))
      · intro n31
        refine W.skip (blockQ_normal (thenQ_normal ?_))
        refine W.L cok tab74 hnt [] (⟨[(0, .v (.string s)), (1, .sl (.ints l)), (5, .i (((i + 1) : Nat) : Int)), (10, .i ((i : Nat) : Int)), (11, .i (((i + 1) : Nat) : Int)), (31, .b ((!(within (List.getD l i 0) (0 : Int) (20 : Int))) || ((eqS s nSet) && (hasInt (List.take i l) (List.getD l i 0)))))], [], [999]⟩)
          (True ∧ ((True ∧ (True ∧ (Fits .i64 (((i + 1) : Nat) : Int)))) ∧ (True ∧ True))) (by kernel_rfl)
          ⟨trivial, ⟨⟨trivial, ⟨trivial, (by exact fits_i64 (by omega) (by omega))⟩⟩, ⟨trivial, trivial⟩⟩⟩ ?_
        refine thenQ_normal ?_
        refine ⟨((i + 1)), (show ((i + 1) ≤ l.length) ∧ (∀ j, j < (i + 1) → stAt s l j = true) from ⟨(by first | assumption | omega | rfl | (intro _ hjj; omega) | (simp; done) | (simp; omega)), (by exact upto_succ hA (stI_ok n31))⟩), (show l.length - (i + 1) < l.length - i from (by first | omega | (simp_all; omega))), ?_⟩
        exact Sub.of [] (@cast (((((.string s) : Value) = (.string s)) ∧ (((.ints l : Dat) = .ints l) ∧ (((.int .i64 (((i + 1) : Nat) : Int) : Value) = .int .i64 (((i + 1) : Nat) : Int)) ∧ True))) ∧ (True ∧ ((true = true) ∧ (true = true)))) _ (by kernel_rfl) ⟨⟨rfl, ⟨rfl, ⟨rfl, trivial⟩⟩⟩, ⟨trivial, ⟨rfl, rfl⟩⟩⟩)
    · intro n9
      refine W.exit (thenQ_exit (thenQ_exit (blockQ_hit ?_)))
      refine thenQ_normal ?_
      refine W.seq ?_
      refine W.K cok tab74 hnt [] [1, 41] (⟨[(1, .sl (.ints l)), (41, .b (((eqS s nRegister) || (eqS s nCounter)) || (eqS s nMost)))], [], [999]⟩)
        (True ∧ ((True ∧ (True ∧ True)) ∧ (True ∧ (((!(eqS s nRegister)) = true → True) ∧ (((!(eqS s nRegister)) = true → ((((!(eqS s nRegister)) = true) ∧ True) ∧ (True ∧ True))) ∧ ((True ∧ (((eqS s nRegister) = true → True) ∧ ((eqS s nRegister) = false → ((!(eqS s nRegister)) = true) ∧ True))) ∧ (True ∧ (((!((eqS s nRegister) || (eqS s nCounter))) = true → True) ∧ (((!((eqS s nRegister) || (eqS s nCounter))) = true → ((((!((eqS s nRegister) || (eqS s nCounter))) = true) ∧ True) ∧ (True ∧ True))) ∧ ((True ∧ ((((eqS s nRegister) || (eqS s nCounter)) = true → True) ∧ (((eqS s nRegister) || (eqS s nCounter)) = false → ((!((eqS s nRegister) || (eqS s nCounter))) = true) ∧ True))) ∧ True)))))))))) (by kernel_rfl)
        ⟨trivial, ⟨⟨trivial, ⟨trivial, trivial⟩⟩, ⟨trivial, ⟨(fun _ => trivial), ⟨(fun hG => ⟨⟨hG, trivial⟩, ⟨trivial, trivial⟩⟩), ⟨⟨trivial, ⟨(fun _ => trivial), (fun hp => ⟨(not_t hp), trivial⟩)⟩⟩, ⟨trivial, ⟨(fun _ => trivial), ⟨(fun hG => ⟨⟨hG, trivial⟩, ⟨trivial, trivial⟩⟩), ⟨⟨trivial, ⟨(fun _ => trivial), (fun hp => ⟨(not_t hp), trivial⟩)⟩⟩, trivial⟩⟩⟩⟩⟩⟩⟩⟩⟩⟩ ?_
      refine W.if' (((eqS s nRegister) || (eqS s nCounter)) || (eqS s nMost)) (.b (((eqS s nRegister) || (eqS s nCounter)) || (eqS s nMost))) (by kernel_rfl) rfl trivial ?_ ?_
      · intro h41
        refine W.K cok tab74 hnt [] [4] (⟨[(4, .b (decide ((((List.length l) : Nat) : Int) ≤ (1 : Int))))], [], [999]⟩)
          (True ∧ (True ∧ ((True ∧ (True ∧ True)) ∧ (True ∧ True)))) (by kernel_rfl)
          ⟨trivial, ⟨trivial, ⟨⟨trivial, ⟨trivial, trivial⟩⟩, ⟨trivial, trivial⟩⟩⟩⟩ ?_
        refine W.ret (thenQ_ret ?_)
        exact endQ_ret (.b (decide ((((List.length l) : Nat) : Int) ≤ (1 : Int)))) (by kernel_rfl) (@cast ((.bool (decide ((((List.length l) : Nat) : Int) ≤ (1 : Int))) : Value) = .bool (isSt s l)) _ (by kernel_rfl) (congrArg Value.bool (by exact stS_1 (allN_true (fun j hj => hA j (by omega))) h41)))
      · intro n41
        refine W.skip (thenQ_normal ?_)
        refine W.K cok tab74 hnt [] [4] (⟨[(4, .b (decide ((((List.length l) : Nat) : Int) ≤ (20 : Int))))], [], [999]⟩)
          (True ∧ (True ∧ ((True ∧ (True ∧ True)) ∧ (True ∧ True)))) (by kernel_rfl)
          ⟨trivial, ⟨trivial, ⟨⟨trivial, ⟨trivial, trivial⟩⟩, ⟨trivial, trivial⟩⟩⟩⟩ ?_
        refine W.ret ?_
        exact endQ_ret (.b (decide ((((List.length l) : Nat) : Int) ≤ (20 : Int)))) (by kernel_rfl) (@cast ((.bool (decide ((((List.length l) : Nat) : Int) ≤ (20 : Int))) : Value) = .bool (isSt s l)) _ (by kernel_rfl) (congrArg Value.bool (by exact stS_2 (allN_true (fun j hj => hA j (by omega))) n41)))
theorem ent74 : Entr prog 74 := ⟨_, func74, rfl, by decide⟩

end Go.Proofs.Try
