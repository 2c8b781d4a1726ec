import Derived.Test.YtcjnccepckdiaaaAS
import Derived.Test.YtcjnccepckdiaaaM6
import Derived.Test.YtcjnccepckdiaaaAP49
import Derived.Test.YtcjnccepckdiaaaAP50
import Derived.Test.YtcjnccepckdiaaaAP23
import Derived.Test.YtcjnccepckdiaaaAP19
import Derived.Test.YtcjnccepckdiaaaAP40
import Derived.Test.YtcjnccepckdiaaaAP51
import Derived.Test.YtcjnccepckdiaaaAP48
set_option linter.unusedSimpArgs false
set_option linter.unusedVariables false
namespace Go.Proofs.Try
open Go.Ab Go.RowKit
/-- laws.FnQuietAhead -/
def fs11 : FnS := fnS [.s .bytes] [.bytes] (fun _ (code, _) => (.b true, [], True))
abbrev T11 : Tab := lk [(19, fs19), (23, fs23), (40, fs40), (49, fs49), (50, fs50), (51, fs51)]
theorem tab11 : TabOK prog T11 := (TabOK.cons ok19 ent19 (TabOK.cons ok23 ent23 (TabOK.cons ok40 ent40 (TabOK.cons ok49 ent49 (TabOK.cons ok50 ent50 (TabOK.cons ok51 ent51 TabOK.nil))))))
set_option maxRecDepth 100000 in
set_option maxHeartbeats 1000000 in
theorem ok11 : FnOK prog 11 fs11 := by
  refine FnOK.mk func11 rfl rfl rfl ?_
  rintro fl ⟨(code : List UInt8), _⟩ hpre F hnt0 _
  have hnt : F.nt = 58 := hnt0.trans ntmps11
  clear hpre
  refine W.to (⟨[(0, .sl (.bytes code))], [], [999]⟩) rfl ?_
  refine W.lenOf 0 (.bytes code) (by kernel_rfl) ?_
  intro hl_code; replace hl_code : List.length code ≤ 9223372036854775807 := hl_code
  refine W.K cok tab11 hnt [] [0] (⟨[(0, .sl (.bytes code))], [], [999]⟩)
    (True ∧ True) (by kernel_rfl)
    ⟨trivial, trivial⟩ ?_
  refine W.seq ?_
  refine W.K cok tab11 hnt [] [0, 9] (⟨[(0, .sl (.bytes code)), (9, .b (decide ((1048576 : Int) < (((List.length code) : Nat) : Int))))], [], [999]⟩)
    (True ∧ (True ∧ ((True ∧ (True ∧ True)) ∧ True))) (by kernel_rfl)
    ⟨trivial, ⟨trivial, ⟨⟨trivial, ⟨trivial, trivial⟩⟩, trivial⟩⟩⟩ ?_
  refine W.ifP ((1048576 : Int) < (((List.length code) : Nat) : Int)) (.b (decide ((1048576 : Int) < (((List.length code) : Nat) : Int)))) (by kernel_rfl) rfl trivial ?_ ?_
  · intro h9
    refine W.K cok tab11 hnt [] [2] (⟨[(2, .b true)], [], [999]⟩)
      (True ∧ True) (by kernel_rfl)
      ⟨trivial, trivial⟩ ?_
    refine W.ret (thenQ_ret ?_)
    exact endQ_ret (.b true) (by kernel_rfl) (@cast ((.bool true : Value) = .bool true) _ (by kernel_rfl) rfl)
  · intro n9
    refine W.skip (thenQ_normal ?_)
    refine W.seq (W.wi ?_)
    refine WI.run cok tab11 hnt [] 1 (⟨[(0, .sl (.bytes code)), (9, .b (decide ((1048576 : Int) < (((List.length code) : Nat) : Int)))), (10, .sl (.bytes code))], [], [999]⟩)
      (True ∧ True) (by kernel_rfl)
      ⟨trivial, trivial⟩ ?_
    refine WI.to (⟨[(0, .sl (.bytes code)), (9, .b (decide ((1048576 : Int) < (((List.length code) : Nat) : Int)))), (10, .sl (.bytes code))], [], [999]⟩) 1 rfl rfl ?_
    refine WI.call [.sl (.bytes code)] [] [.sl (.bytes code)] [.sl (.bytes code)] none (True) (True ∧ True) none rok48 ent48 hnt rfl rfl (wanted_none rfl) (by kernel_rfl) (by kernel_rfl) (by kernel_rfl) ⟨trivial, ⟨trivial, trivial⟩⟩
      (@cast (True) _ (by kernel_rfl) trivial) (Or.inl rfl) rfl ?_
    rintro r bl fx2 hR
    obtain ⟨g11, hq11, rfl, rfl, rfl⟩ := (@cast _ (∃ x : (List CallD), ((x.length ≤ 6)) ∧ r = (.sl (.calls x)) ∧ bl = ([]) ∧ fx2 = ([])) (by kernel_rfl) hR)
    clear hR
    replace hq11 : (g11.length ≤ 6) := hq11
    have hg11 := hq11
    refine ⟨by kernel_rfl, WI.to (⟨[(0, .sl (.bytes code)), (9, .b (decide ((1048576 : Int) < (((List.length code) : Nat) : Int)))), (10, .sl (.bytes code)), (11, .sl (.calls g11))], [], [999]⟩) 2 (by kernel_rfl) rfl ?_⟩
    refine WI.run cok tab11 hnt [] 1 (⟨[(0, .sl (.bytes code)), (3, .sl (.calls g11)), (9, .b (decide ((1048576 : Int) < (((List.length code) : Nat) : Int)))), (10, .sl (.bytes code)), (11, .sl (.calls g11))], [], [999]⟩)
      (True ∧ True) (by kernel_rfl)
      ⟨trivial, trivial⟩ ?_
    refine WI.to (⟨[(0, .sl (.bytes code)), (3, .sl (.calls g11)), (9, .b (decide ((1048576 : Int) < (((List.length code) : Nat) : Int)))), (10, .sl (.bytes code)), (11, .sl (.calls g11))], [], [999]⟩) 3 rfl rfl ?_
    refine WI.nil rfl (thenQ_normal ?_)
    refine W.keepE [3] [(3, .sl (.calls g11))] (by kernel_rfl) ?_
    refine W.to (⟨[(3, .sl (.calls g11))], [], [999]⟩) rfl ?_
    refine W.K cok tab11 hnt [] [3, 4] (⟨[(3, .sl (.calls g11)), (4, .sl (.ints (quietAhead g11)))], [], [999]⟩)
      (True ∧ ((True ∧ ((True ∧ True) ∧ True)) ∧ (True ∧ True))) (by kernel_rfl)
      ⟨trivial, ⟨⟨trivial, ⟨⟨trivial, trivial⟩, trivial⟩⟩, ⟨trivial, trivial⟩⟩⟩ ?_
    refine W.seq ?_
    refine W.K cok tab11 hnt [] [3, 4, 23] (⟨[(3, .sl (.calls g11)), (4, .sl (.ints (quietAhead g11))), (23, .b ((!(decide ((quietAhead g11) = (quietAhead g11)))) || (!(validHistory g11))))], [], [999]⟩)
      (True ∧ (True ∧ ((True ∧ ((True ∧ True) ∧ True)) ∧ ((True ∧ ((True ∧ (True ∧ True)) ∧ True)) ∧ (True ∧ (True ∧ (((!(!(decide ((quietAhead g11) = (quietAhead g11))))) = true → True) ∧ (((!(!(decide ((quietAhead g11) = (quietAhead g11))))) = true → (True ∧ (((((!(!(decide ((quietAhead g11) = (quietAhead g11))))) = true) ∧ True) ∧ True) ∧ True))) ∧ (((!(!(decide ((quietAhead g11) = (quietAhead g11))))) = true → (((!(!(decide ((quietAhead g11) = (quietAhead g11))))) = true) ∧ True)) ∧ ((True ∧ (((!(decide ((quietAhead g11) = (quietAhead g11)))) = true → True) ∧ ((!(decide ((quietAhead g11) = (quietAhead g11)))) = false → ((!(!(decide ((quietAhead g11) = (quietAhead g11))))) = true) ∧ True))) ∧ True)))))))))) (by kernel_rfl)
      ⟨trivial, ⟨trivial, ⟨⟨trivial, ⟨⟨trivial, trivial⟩, trivial⟩⟩, ⟨⟨trivial, ⟨⟨trivial, ⟨trivial, trivial⟩⟩, trivial⟩⟩, ⟨trivial, ⟨trivial, ⟨(fun _ => trivial), ⟨(fun hG => ⟨trivial, ⟨⟨⟨hG, trivial⟩, trivial⟩, trivial⟩⟩), ⟨(fun hG => ⟨hG, trivial⟩), ⟨⟨trivial, ⟨(fun _ => trivial), (fun hp => ⟨(not_t hp), trivial⟩)⟩⟩, trivial⟩⟩⟩⟩⟩⟩⟩⟩⟩⟩ ?_
    refine W.if' ((!(decide ((quietAhead g11) = (quietAhead g11)))) || (!(validHistory g11))) (.b ((!(decide ((quietAhead g11) = (quietAhead g11)))) || (!(validHistory g11)))) (by kernel_rfl) rfl trivial ?_ ?_
    · intro h23
      refine W.K cok tab11 hnt [] [2] (⟨[(2, .b (decide ((quietAhead g11) = (quietAhead g11))))], [], [999]⟩)
        (True ∧ (True ∧ ((True ∧ ((True ∧ True) ∧ True)) ∧ ((True ∧ ((True ∧ (True ∧ True)) ∧ True)) ∧ (True ∧ True))))) (by kernel_rfl)
        ⟨trivial, ⟨trivial, ⟨⟨trivial, ⟨⟨trivial, trivial⟩, trivial⟩⟩, ⟨⟨trivial, ⟨⟨trivial, ⟨trivial, trivial⟩⟩, trivial⟩⟩, ⟨trivial, trivial⟩⟩⟩⟩⟩ ?_
      refine W.ret (thenQ_ret ?_)
      exact endQ_ret (.b (decide ((quietAhead g11) = (quietAhead g11)))) (by kernel_rfl) (@cast ((.bool (decide ((quietAhead g11) = (quietAhead g11))) : Value) = .bool true) _ (by kernel_rfl) (congrArg Value.bool (by simp)))
    · intro n23
      have hv : validHistory g11 = true := not_g (or_r n23)
      have hv6 := (valid_iff.1 hv).1
      have hrl := ahead_len hv
      have hol := quiet_len hv
      refine W.skip (thenQ_normal ?_)
      refine W.K cok tab11 hnt [] [3, 4, 5] (⟨[(3, .sl (.calls g11)), (4, .sl (.ints (quietAhead g11))), (5, .sl (.ints (aheadOf g11)))], [], [999]⟩)
        (True ∧ ((True ∧ ((True ∧ True) ∧ True)) ∧ (True ∧ True))) (by kernel_rfl)
        ⟨trivial, ⟨⟨trivial, ⟨⟨trivial, trivial⟩, trivial⟩⟩, ⟨trivial, trivial⟩⟩⟩ ?_
      refine W.seq ?_
      refine W.K cok tab11 hnt [] [3, 4, 5, 6] (⟨[(3, .sl (.calls g11)), (4, .sl (.ints (quietAhead g11))), (5, .sl (.ints (aheadOf g11))), (6, .i (0 : Int))], [], [999]⟩)
        (True ∧ True) (by kernel_rfl)
        ⟨trivial, trivial⟩ ?_
      refine W.block ?_
      refine W.loop (ι := Nat) (fun (i : Nat) => (⟨[(3, .sl (.calls g11)), (4, .sl (.ints (quietAhead g11))), (5, .sl (.ints (aheadOf g11))), (6, .i ((i : Nat) : Int))], [], [999]⟩ : St))
        (fun (i : Nat) => (i ≤ g11.length))
        (fun (i : Nat) => (g11.length - i : Nat)) (0) ?_ ?_ ?_
      · exact (show (0 ≤ g11.length) from (by first | assumption | omega | rfl | (intro _ hjj; omega) | (simp; done) | (simp; omega)))
      · exact Sub.of [] (@cast ((((.calls g11 : Dat) = .calls g11) ∧ (((.ints (quietAhead g11) : Dat) = .ints (quietAhead g11)) ∧ (((.ints (aheadOf g11) : Dat) = .ints (aheadOf g11)) ∧ (((.int .i64 (0 : Int) : Value) = .int .i64 ((0 : Nat) : Int)) ∧ True)))) ∧ (True ∧ ((true = true) ∧ (true = true)))) _ (by kernel_rfl) ⟨⟨rfl, ⟨rfl, ⟨rfl, ⟨(congrArg (Value.int .i64) (by first | rfl | omega | assumption | simp | simp_all)), trivial⟩⟩⟩⟩, ⟨trivial, ⟨rfl, rfl⟩⟩⟩)
      · rintro i hC0
        have hC : (i ≤ g11.length) := hC0
        clear hC0
        obtain hi := hC
        refine W.to (⟨[(3, .sl (.calls g11)), (4, .sl (.ints (quietAhead g11))), (5, .sl (.ints (aheadOf g11))), (6, .i ((i : Nat) : Int))], [], [999]⟩) rfl ?_
        refine W.seq ?_
        refine W.K cok tab11 hnt [] [3, 4, 5, 6, 33] (⟨[(3, .sl (.calls g11)), (4, .sl (.ints (quietAhead g11))), (5, .sl (.ints (aheadOf g11))), (6, .i ((i : Nat) : Int)), (33, .b (decide (((i : Nat) : Int) < (((List.length g11) : Nat) : Int))))], [], [999]⟩)
          (True ∧ (True ∧ (True ∧ ((True ∧ (True ∧ True)) ∧ True)))) (by kernel_rfl)
          ⟨trivial, ⟨trivial, ⟨trivial, ⟨⟨trivial, ⟨trivial, trivial⟩⟩, trivial⟩⟩⟩⟩ ?_
        refine W.ifP (((i : Nat) : Int) < (((List.length g11) : Nat) : Int)) (.b (decide (((i : Nat) : Int) < (((List.length g11) : Nat) : Int)))) (by kernel_rfl) rfl trivial ?_ ?_
        · intro h33
          refine W.skip (thenQ_normal ?_)
          refine W.seq ?_
          refine W.block ?_
          refine W.KA cok tab11 hnt [] [3, 4, 5, 6, 49] (⟨[(3, .sl (.calls g11)), (4, .sl (.ints (quietAhead g11))), (5, .sl (.ints (aheadOf g11))), (6, .i ((i : Nat) : Int)), (49, .b (decide ((bitsI .and .i64 (List.getD (aheadOf g11) i 0) (List.getD (quietAhead g11) i 0)) ≠ (List.getD (quietAhead g11) i 0))))], [], [999]⟩)
            (True ∧ (True ∧ ((True ∧ (True ∧ ((0 ≤ ((i : Nat) : Int)) ∧ (((i : Nat) : Int) < (((List.length (aheadOf g11)) : Nat) : Int))))) ∧ (True ∧ (True ∧ (True ∧ ((True ∧ (True ∧ ((0 ≤ ((i : Nat) : Int)) ∧ (((i : Nat) : Int) < (((List.length (quietAhead g11)) : Nat) : Int))))) ∧ (True ∧ ((True ∧ (True ∧ True)) ∧ (True ∧ (True ∧ ((True ∧ (True ∧ ((0 ≤ ((i : Nat) : Int)) ∧ (((i : Nat) : Int) < (((List.length (quietAhead g11)) : Nat) : Int))))) ∧ (True ∧ ((True ∧ (True ∧ True)) ∧ True)))))))))))))) (by kernel_rfl) (by kernel_rfl)
            ⟨trivial, ⟨trivial, ⟨⟨trivial, ⟨trivial, ⟨(by omega), (by omega)⟩⟩⟩, ⟨trivial, ⟨trivial, ⟨trivial, ⟨⟨trivial, ⟨trivial, ⟨(by omega), (by omega)⟩⟩⟩, ⟨trivial, ⟨⟨trivial, ⟨trivial, trivial⟩⟩, ⟨trivial, ⟨trivial, ⟨⟨trivial, ⟨trivial, ⟨(by omega), (by omega)⟩⟩⟩, ⟨trivial, ⟨⟨trivial, ⟨trivial, trivial⟩⟩, trivial⟩⟩⟩⟩⟩⟩⟩⟩⟩⟩⟩⟩⟩⟩ ?_
          refine W.ifP ((bitsI .and .i64 (List.getD (aheadOf g11) i 0) (List.getD (quietAhead g11) i 0)) ≠ (List.getD (quietAhead g11) i 0)) (.b (decide ((bitsI .and .i64 (List.getD (aheadOf g11) i 0) (List.getD (quietAhead g11) i 0)) ≠ (List.getD (quietAhead g11) i 0)))) (by kernel_rfl) rfl trivial ?_ ?_
          · intro h49
            refine W.K cok tab11 hnt [] [2] (⟨[(2, .b false)], [], [999]⟩)
              (True ∧ True) (by kernel_rfl)
              ⟨trivial, trivial⟩ ?_
            refine W.ret (blockQ_ret (thenQ_ret (thenQ_ret (blockQ_ret (thenQ_ret ?_)))))
            exact endQ_ret (.b false) (by kernel_rfl) (@cast ((.bool false : Value) = .bool true) _ (by kernel_rfl) (congrArg Value.bool (by exact (h49 (quiet_sub hv (by omega))).elim)))
          · intro n49
            refine W.skip (blockQ_normal (thenQ_normal ?_))
            refine W.L cok tab11 hnt [] (⟨[(3, .sl (.calls g11)), (4, .sl (.ints (quietAhead g11))), (5, .sl (.ints (aheadOf g11))), (6, .i (((i + 1) : Nat) : Int)), (34, .i ((i : Nat) : Int)), (35, .i (((i + 1) : Nat) : Int)), (49, .b (decide ((bitsI .and .i64 (List.getD (aheadOf g11) i 0) (List.getD (quietAhead g11) i 0)) ≠ (List.getD (quietAhead g11) i 0))))], [], [999]⟩)
              (True ∧ ((True ∧ (True ∧ (Fits .i64 (((i + 1) : Nat) : Int)))) ∧ (True ∧ True))) (by kernel_rfl)
              ⟨trivial, ⟨⟨trivial, ⟨trivial, (by exact fits_i64 (by omega) (by omega))⟩⟩, ⟨trivial, trivial⟩⟩⟩ ?_
            refine thenQ_normal ?_
            refine ⟨((i + 1)), (show ((i + 1) ≤ g11.length) from (by first | assumption | omega | rfl | (intro _ hjj; omega) | (simp; done) | (simp; omega))), (show g11.length - (i + 1) < g11.length - i from (by first | omega | (simp_all; omega))), ?_⟩
            exact Sub.of [] (@cast ((((.calls g11 : Dat) = .calls g11) ∧ (((.ints (quietAhead g11) : Dat) = .ints (quietAhead g11)) ∧ (((.ints (aheadOf g11) : Dat) = .ints (aheadOf g11)) ∧ (((.int .i64 (((i + 1) : Nat) : Int) : Value) = .int .i64 (((i + 1) : Nat) : Int)) ∧ True)))) ∧ (True ∧ ((true = true) ∧ (true = true)))) _ (by kernel_rfl) ⟨⟨rfl, ⟨rfl, ⟨rfl, ⟨rfl, trivial⟩⟩⟩⟩, ⟨trivial, ⟨rfl, rfl⟩⟩⟩)
        · intro n33
          refine W.exit (thenQ_exit (thenQ_exit (blockQ_hit ?_)))
          refine thenQ_normal ?_
          refine W.K cok tab11 hnt [] [2] (⟨[(2, .b ((!(oneByOne g11)) || (decide ((quietAhead g11) = (aheadOf g11)))))], [], [999]⟩)
            (True ∧ ((True ∧ ((True ∧ True) ∧ True)) ∧ (True ∧ (True ∧ (((!(!(oneByOne g11))) = true → True) ∧ (((!(!(oneByOne g11))) = true → True) ∧ (((!(!(oneByOne g11))) = true → (True ∧ (((((!(!(oneByOne g11))) = true) ∧ True) ∧ ((((!(!(oneByOne g11))) = true) ∧ True) ∧ True)) ∧ True))) ∧ ((True ∧ (((!(oneByOne g11)) = true → True) ∧ ((!(oneByOne g11)) = false → ((!(!(oneByOne g11))) = true) ∧ True))) ∧ (True ∧ True))))))))) (by kernel_rfl)
            ⟨trivial, ⟨⟨trivial, ⟨⟨trivial, trivial⟩, trivial⟩⟩, ⟨trivial, ⟨trivial, ⟨(fun _ => trivial), ⟨(fun _ => trivial), ⟨(fun hG => ⟨trivial, ⟨⟨⟨hG, trivial⟩, ⟨⟨hG, trivial⟩, trivial⟩⟩, trivial⟩⟩), ⟨⟨trivial, ⟨(fun _ => trivial), (fun hp => ⟨(not_t hp), trivial⟩)⟩⟩, ⟨trivial, trivial⟩⟩⟩⟩⟩⟩⟩⟩⟩ ?_
          refine W.ret ?_
          exact endQ_ret (.b ((!(oneByOne g11)) || (decide ((quietAhead g11) = (aheadOf g11))))) (by kernel_rfl) (@cast ((.bool ((!(oneByOne g11)) || (decide ((quietAhead g11) = (aheadOf g11)))) : Value) = .bool true) _ (by kernel_rfl) (congrArg Value.bool (by cases ho : oneByOne g11 with | false => simp | true => simp [quiet_one ho])))
theorem ent11 : Entr prog 11 := ⟨_, func11, rfl, by decide⟩

end Go.Proofs.Try
