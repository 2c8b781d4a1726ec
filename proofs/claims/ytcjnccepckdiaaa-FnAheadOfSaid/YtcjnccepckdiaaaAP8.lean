import Derived.Test.YtcjnccepckdiaaaAS
import Derived.Test.YtcjnccepckdiaaaM3
import Derived.Test.YtcjnccepckdiaaaAP40
import Derived.Test.YtcjnccepckdiaaaAP41
import Derived.Test.YtcjnccepckdiaaaAP23
import Derived.Test.YtcjnccepckdiaaaAP19
import Derived.Test.YtcjnccepckdiaaaAP42
import Derived.Test.YtcjnccepckdiaaaAP39
set_option linter.unusedSimpArgs false
set_option linter.unusedVariables false
namespace Go.Proofs.Try
open Go.Ab Go.RowKit
/-- laws.FnAheadOf -/
def fs8 : FnS := fnS [.s .bytes] [.bytes] (fun _ (code, _) => (.b true, [], True))
abbrev T8 : Tab := lk [(19, fs19), (23, fs23), (40, fs40), (41, fs41), (42, fs42)]
theorem tab8 : TabOK prog T8 := (TabOK.cons ok19 ent19 (TabOK.cons ok23 ent23 (TabOK.cons ok40 ent40 (TabOK.cons ok41 ent41 (TabOK.cons ok42 ent42 TabOK.nil)))))
set_option maxRecDepth 100000 in
set_option maxHeartbeats 1000000 in
theorem ok8 : FnOK prog 8 fs8 := by
  refine FnOK.mk func8 rfl rfl rfl ?_
  rintro fl ⟨(code : List UInt8), _⟩ hpre F hnt0 _
  have hnt : F.nt = 103 := hnt0.trans ntmps8
  clear hpre
  refine W.to (⟨[(0, .sl (.bytes code))], [], [999]⟩) rfl ?_
  refine W.lenOf 0 (.bytes code) (by kernel_rfl) ?_
  intro hl_code; replace hl_code : List.length code ≤ 9223372036854775807 := hl_code
  refine W.K cok tab8 hnt [] [0] (⟨[(0, .sl (.bytes code))], [], [999]⟩)
    (True ∧ True) (by kernel_rfl)
    ⟨trivial, trivial⟩ ?_
  refine W.seq ?_
  refine W.K cok tab8 hnt [] [0, 12] (⟨[(0, .sl (.bytes code)), (12, .b (decide ((1048576 : Int) < (((List.length code) : Nat) : Int))))], [], [999]⟩)
    (True ∧ (True ∧ ((True ∧ (True ∧ True)) ∧ True))) (by kernel_rfl)
    ⟨trivial, ⟨trivial, ⟨⟨trivial, ⟨trivial, trivial⟩⟩, trivial⟩⟩⟩ ?_
  refine W.ifP ((1048576 : Int) < (((List.length code) : Nat) : Int)) (.b (decide ((1048576 : Int) < (((List.length code) : Nat) : Int)))) (by kernel_rfl) rfl trivial ?_ ?_
  · intro h12
    refine W.K cok tab8 hnt [] [2] (⟨[(2, .b true)], [], [999]⟩)
      (True ∧ True) (by kernel_rfl)
      ⟨trivial, trivial⟩ ?_
    refine W.ret (thenQ_ret ?_)
    exact endQ_ret (.b true) (by kernel_rfl) (@cast ((.bool true : Value) = .bool true) _ (by kernel_rfl) rfl)
  · intro n12
    refine W.skip (thenQ_normal ?_)
    refine W.seq (W.wi ?_)
    refine WI.run cok tab8 hnt [] 1 (⟨[(0, .sl (.bytes code)), (12, .b (decide ((1048576 : Int) < (((List.length code) : Nat) : Int)))), (13, .sl (.bytes code))], [], [999]⟩)
      (True ∧ True) (by kernel_rfl)
      ⟨trivial, trivial⟩ ?_
    refine WI.to (⟨[(0, .sl (.bytes code)), (12, .b (decide ((1048576 : Int) < (((List.length code) : Nat) : Int)))), (13, .sl (.bytes code))], [], [999]⟩) 1 rfl rfl ?_
    refine WI.call [.sl (.bytes code)] [] [.sl (.bytes code)] [.sl (.bytes code)] none (True) (True ∧ True) none rok39 ent39 hnt rfl rfl (wanted_none rfl) (by kernel_rfl) (by kernel_rfl) (by kernel_rfl) ⟨trivial, ⟨trivial, trivial⟩⟩
      (@cast (True) _ (by kernel_rfl) trivial) (Or.inl rfl) rfl ?_
    rintro r bl fx2 hR
    obtain ⟨g14, hq14, rfl, rfl, rfl⟩ := (@cast _ (∃ x : (List CallD), ((x.length ≤ 6)) ∧ r = (.sl (.calls x)) ∧ bl = ([]) ∧ fx2 = ([])) (by kernel_rfl) hR)
    clear hR
    replace hq14 : (g14.length ≤ 6) := hq14
    have hg14 := hq14
    refine ⟨by kernel_rfl, WI.to (⟨[(0, .sl (.bytes code)), (12, .b (decide ((1048576 : Int) < (((List.length code) : Nat) : Int)))), (13, .sl (.bytes code)), (14, .sl (.calls g14))], [], [999]⟩) 2 (by kernel_rfl) rfl ?_⟩
    refine WI.run cok tab8 hnt [] 1 (⟨[(0, .sl (.bytes code)), (3, .sl (.calls g14)), (12, .b (decide ((1048576 : Int) < (((List.length code) : Nat) : Int)))), (13, .sl (.bytes code)), (14, .sl (.calls g14))], [], [999]⟩)
      (True ∧ True) (by kernel_rfl)
      ⟨trivial, trivial⟩ ?_
    refine WI.to (⟨[(0, .sl (.bytes code)), (3, .sl (.calls g14)), (12, .b (decide ((1048576 : Int) < (((List.length code) : Nat) : Int)))), (13, .sl (.bytes code)), (14, .sl (.calls g14))], [], [999]⟩) 3 rfl rfl ?_
    refine WI.nil rfl (thenQ_normal ?_)
    refine W.keepE [3] [(3, .sl (.calls g14))] (by kernel_rfl) ?_
    refine W.to (⟨[(3, .sl (.calls g14))], [], [999]⟩) rfl ?_
    refine W.K cok tab8 hnt [] [3, 4] (⟨[(3, .sl (.calls g14)), (4, .sl (.ints (aheadOf g14)))], [], [999]⟩)
      (True ∧ ((True ∧ ((True ∧ True) ∧ True)) ∧ (True ∧ True))) (by kernel_rfl)
      ⟨trivial, ⟨⟨trivial, ⟨⟨trivial, trivial⟩, trivial⟩⟩, ⟨trivial, trivial⟩⟩⟩ ?_
    refine W.seq ?_
    refine W.K cok tab8 hnt [] [3, 4, 26] (⟨[(3, .sl (.calls g14)), (4, .sl (.ints (aheadOf g14))), (26, .b ((!(decide ((aheadOf g14) = (aheadOf g14)))) || (!(validHistory g14))))], [], [999]⟩)
      (True ∧ (True ∧ ((True ∧ ((True ∧ True) ∧ True)) ∧ ((True ∧ ((True ∧ (True ∧ True)) ∧ True)) ∧ (True ∧ (True ∧ (((!(!(decide ((aheadOf g14) = (aheadOf g14))))) = true → True) ∧ (((!(!(decide ((aheadOf g14) = (aheadOf g14))))) = true → (True ∧ (((((!(!(decide ((aheadOf g14) = (aheadOf g14))))) = true) ∧ True) ∧ True) ∧ True))) ∧ (((!(!(decide ((aheadOf g14) = (aheadOf g14))))) = true → (((!(!(decide ((aheadOf g14) = (aheadOf g14))))) = true) ∧ True)) ∧ ((True ∧ (((!(decide ((aheadOf g14) = (aheadOf g14)))) = true → True) ∧ ((!(decide ((aheadOf g14) = (aheadOf g14)))) = false → ((!(!(decide ((aheadOf g14) = (aheadOf g14))))) = true) ∧ True))) ∧ True)))))))))) (by kernel_rfl)
      ⟨trivial, ⟨trivial, ⟨⟨trivial, ⟨⟨trivial, trivial⟩, trivial⟩⟩, ⟨⟨trivial, ⟨⟨trivial, ⟨trivial, trivial⟩⟩, trivial⟩⟩, ⟨trivial, ⟨trivial, ⟨(fun _ => trivial), ⟨(fun hG => ⟨trivial, ⟨⟨⟨hG, trivial⟩, trivial⟩, trivial⟩⟩), ⟨(fun hG => ⟨hG, trivial⟩), ⟨⟨trivial, ⟨(fun _ => trivial), (fun hp => ⟨(not_t hp), trivial⟩)⟩⟩, trivial⟩⟩⟩⟩⟩⟩⟩⟩⟩⟩ ?_
    refine W.if' ((!(decide ((aheadOf g14) = (aheadOf g14)))) || (!(validHistory g14))) (.b ((!(decide ((aheadOf g14) = (aheadOf g14)))) || (!(validHistory g14)))) (by kernel_rfl) rfl trivial ?_ ?_
    · intro h26
      refine W.K cok tab8 hnt [] [2] (⟨[(2, .b (decide ((aheadOf g14) = (aheadOf g14))))], [], [999]⟩)
        (True ∧ (True ∧ ((True ∧ ((True ∧ True) ∧ True)) ∧ ((True ∧ ((True ∧ (True ∧ True)) ∧ True)) ∧ (True ∧ True))))) (by kernel_rfl)
        ⟨trivial, ⟨trivial, ⟨⟨trivial, ⟨⟨trivial, trivial⟩, trivial⟩⟩, ⟨⟨trivial, ⟨⟨trivial, ⟨trivial, trivial⟩⟩, trivial⟩⟩, ⟨trivial, trivial⟩⟩⟩⟩⟩ ?_
      refine W.ret (thenQ_ret ?_)
      exact endQ_ret (.b (decide ((aheadOf g14) = (aheadOf g14)))) (by kernel_rfl) (@cast ((.bool (decide ((aheadOf g14) = (aheadOf g14))) : Value) = .bool true) _ (by kernel_rfl) (congrArg Value.bool (by simp)))
    · intro n26
      have hv : validHistory g14 = true := not_g (or_r n26)
      have hv6 := (valid_iff.1 hv).1
      have hrl := ahead_len hv
      refine W.skip (thenQ_normal ?_)
      refine W.K cok tab8 hnt [] [4, 5] (⟨[(4, .sl (.ints (aheadOf g14))), (5, .i (((List.length g14) : Nat) : Int))], [], [999]⟩)
        (True ∧ (True ∧ (True ∧ True))) (by kernel_rfl)
        ⟨trivial, ⟨trivial, ⟨trivial, trivial⟩⟩⟩ ?_
      refine W.seq ?_
      refine W.K cok tab8 hnt [] [4, 5, 6] (⟨[(4, .sl (.ints (aheadOf g14))), (5, .i (((List.length g14) : Nat) : Int)), (6, .i (0 : Int))], [], [999]⟩)
        (True ∧ True) (by kernel_rfl)
        ⟨trivial, trivial⟩ ?_
      refine W.block ?_
      refine W.loop (ι := Nat) (fun (b : Nat) => (⟨[(4, .sl (.ints (aheadOf g14))), (5, .i (((List.length g14) : Nat) : Int)), (6, .i ((b : Nat) : Int))], [], [999]⟩ : St))
        (fun (b : Nat) => (b ≤ g14.length))
        (fun (b : Nat) => (g14.length - b : Nat)) (0) ?_ ?_ ?_
      · exact (show (0 ≤ g14.length) from (by first | assumption | omega | rfl | (intro _ hjj; omega) | (simp; done) | (simp; omega)))
      · exact Sub.of [] (@cast ((((.ints (aheadOf g14) : Dat) = .ints (aheadOf g14)) ∧ (((.int .i64 (((List.length g14) : Nat) : Int) : Value) = .int .i64 (((List.length g14) : Nat) : Int)) ∧ (((.int .i64 (0 : Int) : Value) = .int .i64 ((0 : Nat) : Int)) ∧ True))) ∧ (True ∧ ((true = true) ∧ (true = true)))) _ (by kernel_rfl) ⟨⟨rfl, ⟨rfl, ⟨(congrArg (Value.int .i64) (by first | rfl | omega | assumption | simp | simp_all)), trivial⟩⟩⟩, ⟨trivial, ⟨rfl, rfl⟩⟩⟩)
      · rintro b hC0
        have hC : (b ≤ g14.length) := hC0
        clear hC0
        obtain hb := hC
        refine W.to (⟨[(4, .sl (.ints (aheadOf g14))), (5, .i (((List.length g14) : Nat) : Int)), (6, .i ((b : Nat) : Int))], [], [999]⟩) rfl ?_
        refine W.seq ?_
        refine W.K cok tab8 hnt [] [4, 5, 6, 35] (⟨[(4, .sl (.ints (aheadOf g14))), (5, .i (((List.length g14) : Nat) : Int)), (6, .i ((b : Nat) : Int)), (35, .b (decide (((b : Nat) : Int) < (((List.length g14) : Nat) : Int))))], [], [999]⟩)
          (True ∧ (True ∧ ((True ∧ (True ∧ True)) ∧ True))) (by kernel_rfl)
          ⟨trivial, ⟨trivial, ⟨⟨trivial, ⟨trivial, trivial⟩⟩, trivial⟩⟩⟩ ?_
        refine W.ifP (((b : Nat) : Int) < (((List.length g14) : Nat) : Int)) (.b (decide (((b : Nat) : Int) < (((List.length g14) : Nat) : Int)))) (by kernel_rfl) rfl trivial ?_ ?_
        · intro h35
          refine W.skip (thenQ_normal ?_)
          refine W.seq ?_
          refine W.block ?_
          refine W.K cok tab8 hnt [] [4, 5, 6, 7] (⟨[(4, .sl (.ints (aheadOf g14))), (5, .i (((List.length g14) : Nat) : Int)), (6, .i ((b : Nat) : Int)), (7, .i (0 : Int))], [], [999]⟩)
            (True ∧ True) (by kernel_rfl)
            ⟨trivial, trivial⟩ ?_
          refine W.block ?_
          refine W.loop (ι := Nat) (fun (a : Nat) => (⟨[(4, .sl (.ints (aheadOf g14))), (5, .i (((List.length g14) : Nat) : Int)), (6, .i ((b : Nat) : Int)), (7, .i ((a : Nat) : Int))], [], [999]⟩ : St))
            (fun (a : Nat) => (a ≤ g14.length))
            (fun (a : Nat) => (g14.length - a : Nat)) (0) ?_ ?_ ?_
          · exact (show (0 ≤ g14.length) from (by first | assumption | omega | rfl | (intro _ hjj; omega) | (simp; done) | (simp; omega)))
          · exact Sub.of [] (@cast ((((.ints (aheadOf g14) : Dat) = .ints (aheadOf g14)) ∧ (((.int .i64 (((List.length g14) : Nat) : Int) : Value) = .int .i64 (((List.length g14) : Nat) : Int)) ∧ (((.int .i64 ((b : Nat) : Int) : Value) = .int .i64 ((b : Nat) : Int)) ∧ (((.int .i64 (0 : Int) : Value) = .int .i64 ((0 : Nat) : Int)) ∧ True)))) ∧ (True ∧ ((true = true) ∧ (true = true)))) _ (by kernel_rfl) ⟨⟨rfl, ⟨rfl, ⟨rfl, ⟨(congrArg (Value.int .i64) (by first | rfl | omega | assumption | simp | simp_all)), trivial⟩⟩⟩⟩, ⟨trivial, ⟨rfl, rfl⟩⟩⟩)
          · rintro a hC0
            have hC : (a ≤ g14.length) := hC0
            clear hC0
            obtain ha := hC
            refine W.to (⟨[(4, .sl (.ints (aheadOf g14))), (5, .i (((List.length g14) : Nat) : Int)), (6, .i ((b : Nat) : Int)), (7, .i ((a : Nat) : Int))], [], [999]⟩) rfl ?_
            refine W.seq ?_
            refine W.K cok tab8 hnt [] [4, 5, 6, 7, 40] (⟨[(4, .sl (.ints (aheadOf g14))), (5, .i (((List.length g14) : Nat) : Int)), (6, .i ((b : Nat) : Int)), (7, .i ((a : Nat) : Int)), (40, .b (decide (((a : Nat) : Int) < (((List.length g14) : Nat) : Int))))], [], [999]⟩)
              (True ∧ (True ∧ ((True ∧ (True ∧ True)) ∧ True))) (by kernel_rfl)
              ⟨trivial, ⟨trivial, ⟨⟨trivial, ⟨trivial, trivial⟩⟩, trivial⟩⟩⟩ ?_
            refine W.ifP (((a : Nat) : Int) < (((List.length g14) : Nat) : Int)) (.b (decide (((a : Nat) : Int) < (((List.length g14) : Nat) : Int)))) (by kernel_rfl) rfl trivial ?_ ?_
            · intro h40
              refine W.skip (thenQ_normal ?_)
              refine W.seq ?_
              refine W.block ?_
              refine W.seq ?_
              refine W.K cok tab8 hnt [] [4, 5, 6, 7, 49] (⟨[(4, .sl (.ints (aheadOf g14))), (5, .i (((List.length g14) : Nat) : Int)), (6, .i ((b : Nat) : Int)), (7, .i ((a : Nat) : Int)), (49, .b (decide ((bitOf (List.getD (aheadOf g14) b 0) ((a : Nat) : Int)) = (0 : Int))))], [], [999]⟩)
                (True ∧ (True ∧ ((True ∧ (True ∧ ((0 ≤ ((b : Nat) : Int)) ∧ (((b : Nat) : Int) < (((List.length (aheadOf g14)) : Nat) : Int))))) ∧ (True ∧ (True ∧ ((True ∧ ((True ∧ (True ∧ True)) ∧ ((((a : Nat) : Int) ≤ 60) ∧ (0 ≤ (List.getD (aheadOf g14) b 0) ∧ (List.getD (aheadOf g14) b 0) ≤ 4611686018427387904)))) ∧ ((True ∧ (True ∧ True)) ∧ True))))))) (by kernel_rfl)
                ⟨trivial, ⟨trivial, ⟨⟨trivial, ⟨trivial, ⟨(by omega), (by omega)⟩⟩⟩, ⟨trivial, ⟨trivial, ⟨⟨trivial, ⟨⟨trivial, ⟨trivial, trivial⟩⟩, ⟨(by omega), (by exact ahead_bnd hv _)⟩⟩⟩, ⟨⟨trivial, ⟨trivial, trivial⟩⟩, trivial⟩⟩⟩⟩⟩⟩⟩ ?_
              refine W.ifP ((bitOf (List.getD (aheadOf g14) b 0) ((a : Nat) : Int)) = (0 : Int)) (.b (decide ((bitOf (List.getD (aheadOf g14) b 0) ((a : Nat) : Int)) = (0 : Int)))) (by kernel_rfl) rfl trivial ?_ ?_
              · intro h49
                refine W.exit (thenQ_exit (blockQ_hit ?_))
                refine thenQ_normal ?_
                refine W.L cok tab8 hnt [] (⟨[(4, .sl (.ints (aheadOf g14))), (5, .i (((List.length g14) : Nat) : Int)), (6, .i ((b : Nat) : Int)), (7, .i (((a + 1) : Nat) : Int)), (41, .i ((a : Nat) : Int)), (42, .i (((a + 1) : Nat) : Int)), (49, .b (decide ((bitOf (List.getD (aheadOf g14) b 0) ((a : Nat) : Int)) = (0 : Int))))], [], [999]⟩)
                  (True ∧ ((True ∧ (True ∧ (Fits .i64 (((a + 1) : Nat) : Int)))) ∧ (True ∧ True))) (by kernel_rfl)
                  ⟨trivial, ⟨⟨trivial, ⟨trivial, (by exact fits_i64 (by omega) (by omega))⟩⟩, ⟨trivial, trivial⟩⟩⟩ ?_
                refine thenQ_normal ?_
                refine ⟨((a + 1)), (show ((a + 1) ≤ g14.length) from (by first | assumption | omega | rfl | (intro _ hjj; omega) | (simp; done) | (simp; omega))), (show g14.length - (a + 1) < g14.length - a from (by first | omega | (simp_all; omega))), ?_⟩
                exact Sub.of [] (@cast ((((.ints (aheadOf g14) : Dat) = .ints (aheadOf g14)) ∧ (((.int .i64 (((List.length g14) : Nat) : Int) : Value) = .int .i64 (((List.length g14) : Nat) : Int)) ∧ (((.int .i64 ((b : Nat) : Int) : Value) = .int .i64 ((b : Nat) : Int)) ∧ (((.int .i64 (((a + 1) : Nat) : Int) : Value) = .int .i64 (((a + 1) : Nat) : Int)) ∧ True)))) ∧ (True ∧ ((true = true) ∧ (true = true)))) _ (by kernel_rfl) ⟨⟨rfl, ⟨rfl, ⟨rfl, ⟨rfl, trivial⟩⟩⟩⟩, ⟨trivial, ⟨rfl, rfl⟩⟩⟩)
              · intro n49
                refine W.skip (thenQ_normal ?_)
                refine W.seq ?_
                refine W.KA cok tab8 hnt [] [4, 5, 6, 7, 63] (⟨[(4, .sl (.ints (aheadOf g14))), (5, .i (((List.length g14) : Nat) : Int)), (6, .i ((b : Nat) : Int)), (7, .i ((a : Nat) : Int)), (63, .b (decide ((bitsI .and .i64 (List.getD (aheadOf g14) a 0) (List.getD (aheadOf g14) b 0)) ≠ (List.getD (aheadOf g14) a 0))))], [], [999]⟩)
                  (True ∧ (True ∧ ((True ∧ (True ∧ ((0 ≤ ((a : Nat) : Int)) ∧ (((a : Nat) : Int) < (((List.length (aheadOf g14)) : Nat) : Int))))) ∧ (True ∧ (True ∧ (True ∧ ((True ∧ (True ∧ ((0 ≤ ((b : Nat) : Int)) ∧ (((b : Nat) : Int) < (((List.length (aheadOf g14)) : Nat) : Int))))) ∧ (True ∧ ((True ∧ (True ∧ True)) ∧ (True ∧ (True ∧ ((True ∧ (True ∧ ((0 ≤ ((a : Nat) : Int)) ∧ (((a : Nat) : Int) < (((List.length (aheadOf g14)) : Nat) : Int))))) ∧ (True ∧ ((True ∧ (True ∧ True)) ∧ True)))))))))))))) (by kernel_rfl) (by kernel_rfl)
                  ⟨trivial, ⟨trivial, ⟨⟨trivial, ⟨trivial, ⟨(by omega), (by omega)⟩⟩⟩, ⟨trivial, ⟨trivial, ⟨trivial, ⟨⟨trivial, ⟨trivial, ⟨(by omega), (by omega)⟩⟩⟩, ⟨trivial, ⟨⟨trivial, ⟨trivial, trivial⟩⟩, ⟨trivial, ⟨trivial, ⟨⟨trivial, ⟨trivial, ⟨(by omega), (by omega)⟩⟩⟩, ⟨trivial, ⟨⟨trivial, ⟨trivial, trivial⟩⟩, trivial⟩⟩⟩⟩⟩⟩⟩⟩⟩⟩⟩⟩⟩⟩ ?_
                refine W.ifP ((bitsI .and .i64 (List.getD (aheadOf g14) a 0) (List.getD (aheadOf g14) b 0)) ≠ (List.getD (aheadOf g14) a 0)) (.b (decide ((bitsI .and .i64 (List.getD (aheadOf g14) a 0) (List.getD (aheadOf g14) b 0)) ≠ (List.getD (aheadOf g14) a 0)))) (by kernel_rfl) rfl trivial ?_ ?_
                · intro h63
                  refine W.K cok tab8 hnt [] [2] (⟨[(2, .b false)], [], [999]⟩)
                    (True ∧ True) (by kernel_rfl)
                    ⟨trivial, trivial⟩ ?_
                  refine W.ret (thenQ_ret (blockQ_ret (thenQ_ret (thenQ_ret (blockQ_ret (blockQ_ret (thenQ_ret (thenQ_ret (blockQ_ret (thenQ_ret ?_))))))))))
                  exact endQ_ret (.b false) (by kernel_rfl) (@cast ((.bool false : Value) = .bool true) _ (by kernel_rfl) (congrArg Value.bool (by exact (h63 (ahead_law1 hv (by omega) (by omega) n49)).elim)))
                · intro n63
                  refine W.skip (thenQ_normal ?_)
                  refine W.K cok tab8 hnt [] [4, 5, 6, 7, 8] (⟨[(4, .sl (.ints (aheadOf g14))), (5, .i (((List.length g14) : Nat) : Int)), (6, .i ((b : Nat) : Int)), (7, .i ((a : Nat) : Int)), (8, .i (0 : Int))], [], [999]⟩)
                    (True ∧ True) (by kernel_rfl)
                    ⟨trivial, trivial⟩ ?_
                  refine W.block ?_
                  refine W.loop (ι := Nat) (fun (d : Nat) => (⟨[(4, .sl (.ints (aheadOf g14))), (5, .i (((List.length g14) : Nat) : Int)), (6, .i ((b : Nat) : Int)), (7, .i ((a : Nat) : Int)), (8, .i ((d : Nat) : Int))], [], [999]⟩ : St))
                    (fun (d : Nat) => (d ≤ g14.length))
                    (fun (d : Nat) => (g14.length - d : Nat)) (0) ?_ ?_ ?_
                  · exact (show (0 ≤ g14.length) from (by first | assumption | omega | rfl | (intro _ hjj; omega) | (simp; done) | (simp; omega)))
                  · exact Sub.of [] (@cast ((((.ints (aheadOf g14) : Dat) = .ints (aheadOf g14)) ∧ (((.int .i64 (((List.length g14) : Nat) : Int) : Value) = .int .i64 (((List.length g14) : Nat) : Int)) ∧ (((.int .i64 ((b : Nat) : Int) : Value) = .int .i64 ((b : Nat) : Int)) ∧ (((.int .i64 ((a : Nat) : Int) : Value) = .int .i64 ((a : Nat) : Int)) ∧ (((.int .i64 (0 : Int) : Value) = .int .i64 ((0 : Nat) : Int)) ∧ True))))) ∧ (True ∧ ((true = true) ∧ (true = true)))) _ (by kernel_rfl) ⟨⟨rfl, ⟨rfl, ⟨rfl, ⟨rfl, ⟨(congrArg (Value.int .i64) (by first | rfl | omega | assumption | simp | simp_all)), trivial⟩⟩⟩⟩⟩, ⟨trivial, ⟨rfl, rfl⟩⟩⟩)
                  · rintro d hC0
                    have hC : (d ≤ g14.length) := hC0
                    clear hC0
                    obtain hd := hC
                    refine W.to (⟨[(4, .sl (.ints (aheadOf g14))), (5, .i (((List.length g14) : Nat) : Int)), (6, .i ((b : Nat) : Int)), (7, .i ((a : Nat) : Int)), (8, .i ((d : Nat) : Int))], [], [999]⟩) rfl ?_
                    refine W.seq ?_
                    refine W.K cok tab8 hnt [] [4, 5, 6, 7, 8, 66] (⟨[(4, .sl (.ints (aheadOf g14))), (5, .i (((List.length g14) : Nat) : Int)), (6, .i ((b : Nat) : Int)), (7, .i ((a : Nat) : Int)), (8, .i ((d : Nat) : Int)), (66, .b (decide (((d : Nat) : Int) < (((List.length g14) : Nat) : Int))))], [], [999]⟩)
                      (True ∧ (True ∧ ((True ∧ (True ∧ True)) ∧ True))) (by kernel_rfl)
                      ⟨trivial, ⟨trivial, ⟨⟨trivial, ⟨trivial, trivial⟩⟩, trivial⟩⟩⟩ ?_
                    refine W.ifP (((d : Nat) : Int) < (((List.length g14) : Nat) : Int)) (.b (decide (((d : Nat) : Int) < (((List.length g14) : Nat) : Int)))) (by kernel_rfl) rfl trivial ?_ ?_
                    · intro h66
                      refine W.skip (thenQ_normal ?_)
                      refine W.seq ?_
                      refine W.block ?_
                      refine W.K cok tab8 hnt [] [4, 5, 6, 7, 8, 9] (⟨[(4, .sl (.ints (aheadOf g14))), (5, .i (((List.length g14) : Nat) : Int)), (6, .i ((b : Nat) : Int)), (7, .i ((a : Nat) : Int)), (8, .i ((d : Nat) : Int)), (9, .i (0 : Int))], [], [999]⟩)
                        (True ∧ True) (by kernel_rfl)
                        ⟨trivial, trivial⟩ ?_
                      refine W.block ?_
                      refine W.loop (ι := Nat) (fun (c : Nat) => (⟨[(4, .sl (.ints (aheadOf g14))), (5, .i (((List.length g14) : Nat) : Int)), (6, .i ((b : Nat) : Int)), (7, .i ((a : Nat) : Int)), (8, .i ((d : Nat) : Int)), (9, .i ((c : Nat) : Int))], [], [999]⟩ : St))
                        (fun (c : Nat) => (c ≤ g14.length))
                        (fun (c : Nat) => (g14.length - c : Nat)) (0) ?_ ?_ ?_
                      · exact (show (0 ≤ g14.length) from (by first | assumption | omega | rfl | (intro _ hjj; omega) | (simp; done) | (simp; omega)))
                      · exact Sub.of [] (@cast ((((.ints (aheadOf g14) : Dat) = .ints (aheadOf g14)) ∧ (((.int .i64 (((List.length g14) : Nat) : Int) : Value) = .int .i64 (((List.length g14) : Nat) : Int)) ∧ (((.int .i64 ((b : Nat) : Int) : Value) = .int .i64 ((b : Nat) : Int)) ∧ (((.int .i64 ((a : Nat) : Int) : Value) = .int .i64 ((a : Nat) : Int)) ∧ (((.int .i64 ((d : Nat) : Int) : Value) = .int .i64 ((d : Nat) : Int)) ∧ (((.int .i64 (0 : Int) : Value) = .int .i64 ((0 : Nat) : Int)) ∧ True)))))) ∧ (True ∧ ((true = true) ∧ (true = true)))) _ (by kernel_rfl) ⟨⟨rfl, ⟨rfl, ⟨rfl, ⟨rfl, ⟨rfl, ⟨(congrArg (Value.int .i64) (by first | rfl | omega | assumption | simp | simp_all)), trivial⟩⟩⟩⟩⟩⟩, ⟨trivial, ⟨rfl, rfl⟩⟩⟩)
                      · rintro c hC0
                        have hC : (c ≤ g14.length) := hC0
                        clear hC0
                        obtain hc := hC
                        refine W.to (⟨[(4, .sl (.ints (aheadOf g14))), (5, .i (((List.length g14) : Nat) : Int)), (6, .i ((b : Nat) : Int)), (7, .i ((a : Nat) : Int)), (8, .i ((d : Nat) : Int)), (9, .i ((c : Nat) : Int))], [], [999]⟩) rfl ?_
                        refine W.seq ?_
                        refine W.K cok tab8 hnt [] [4, 5, 6, 7, 8, 9, 71] (⟨[(4, .sl (.ints (aheadOf g14))), (5, .i (((List.length g14) : Nat) : Int)), (6, .i ((b : Nat) : Int)), (7, .i ((a : Nat) : Int)), (8, .i ((d : Nat) : Int)), (9, .i ((c : Nat) : Int)), (71, .b (decide (((c : Nat) : Int) < (((List.length g14) : Nat) : Int))))], [], [999]⟩)
                          (True ∧ (True ∧ ((True ∧ (True ∧ True)) ∧ True))) (by kernel_rfl)
                          ⟨trivial, ⟨trivial, ⟨⟨trivial, ⟨trivial, trivial⟩⟩, trivial⟩⟩⟩ ?_
                        refine W.ifP (((c : Nat) : Int) < (((List.length g14) : Nat) : Int)) (.b (decide (((c : Nat) : Int) < (((List.length g14) : Nat) : Int)))) (by kernel_rfl) rfl trivial ?_ ?_
                        · intro h71
                          refine W.skip (thenQ_normal ?_)
                          refine W.seq ?_
                          refine W.block ?_
                          refine W.K cok tab8 hnt [] [4, 5, 6, 7, 8, 9, 98] (⟨[(4, .sl (.ints (aheadOf g14))), (5, .i (((List.length g14) : Nat) : Int)), (6, .i ((b : Nat) : Int)), (7, .i ((a : Nat) : Int)), (8, .i ((d : Nat) : Int)), (9, .i ((c : Nat) : Int)), (98, .b (((decide ((bitOf (List.getD (aheadOf g14) d 0) ((c : Nat) : Int)) = (1 : Int))) && (decide ((bitOf (List.getD (aheadOf g14) d 0) ((a : Nat) : Int)) = (0 : Int)))) && (decide ((bitOf (List.getD (aheadOf g14) b 0) ((c : Nat) : Int)) = (0 : Int)))))], [], [999]⟩)
                            (True ∧ (True ∧ ((True ∧ (True ∧ ((0 ≤ ((d : Nat) : Int)) ∧ (((d : Nat) : Int) < (((List.length (aheadOf g14)) : Nat) : Int))))) ∧ (True ∧ (True ∧ ((True ∧ ((True ∧ (True ∧ True)) ∧ ((((c : Nat) : Int) ≤ 60) ∧ (0 ≤ (List.getD (aheadOf g14) d 0) ∧ (List.getD (aheadOf g14) d 0) ≤ 4611686018427387904)))) ∧ ((True ∧ (True ∧ True)) ∧ (True ∧ (((decide ((bitOf (List.getD (aheadOf g14) d 0) ((c : Nat) : Int)) = (1 : Int))) = true → True) ∧ (((decide ((bitOf (List.getD (aheadOf g14) d 0) ((c : Nat) : Int)) = (1 : Int))) = true → True) ∧ (((decide ((bitOf (List.getD (aheadOf g14) d 0) ((c : Nat) : Int)) = (1 : Int))) = true → ((((decide ((bitOf (List.getD (aheadOf g14) d 0) ((c : Nat) : Int)) = (1 : Int))) = true) ∧ True) ∧ ((((decide ((bitOf (List.getD (aheadOf g14) d 0) ((c : Nat) : Int)) = (1 : Int))) = true) ∧ True) ∧ ((0 ≤ ((d : Nat) : Int)) ∧ (((d : Nat) : Int) < (((List.length (aheadOf g14)) : Nat) : Int)))))) ∧ (((decide ((bitOf (List.getD (aheadOf g14) d 0) ((c : Nat) : Int)) = (1 : Int))) = true → (((decide ((bitOf (List.getD (aheadOf g14) d 0) ((c : Nat) : Int)) = (1 : Int))) = true) ∧ True)) ∧ (((decide ((bitOf (List.getD (aheadOf g14) d 0) ((c : Nat) : Int)) = (1 : Int))) = true → True) ∧ (((decide ((bitOf (List.getD (aheadOf g14) d 0) ((c : Nat) : Int)) = (1 : Int))) = true → (True ∧ (((((decide ((bitOf (List.getD (aheadOf g14) d 0) ((c : Nat) : Int)) = (1 : Int))) = true) ∧ True) ∧ ((((decide ((bitOf (List.getD (aheadOf g14) d 0) ((c : Nat) : Int)) = (1 : Int))) = true) ∧ True) ∧ True)) ∧ ((((a : Nat) : Int) ≤ 60) ∧ (0 ≤ (List.getD (aheadOf g14) d 0) ∧ (List.getD (aheadOf g14) d 0) ≤ 4611686018427387904))))) ∧ (((decide ((bitOf (List.getD (aheadOf g14) d 0) ((c : Nat) : Int)) = (1 : Int))) = true → ((((decide ((bitOf (List.getD (aheadOf g14) d 0) ((c : Nat) : Int)) = (1 : Int))) = true) ∧ True) ∧ (True ∧ True))) ∧ ((True ∧ (((decide ((bitOf (List.getD (aheadOf g14) d 0) ((c : Nat) : Int)) = (1 : Int))) = true → ((decide ((bitOf (List.getD (aheadOf g14) d 0) ((c : Nat) : Int)) = (1 : Int))) = true) ∧ True) ∧ ((decide ((bitOf (List.getD (aheadOf g14) d 0) ((c : Nat) : Int)) = (1 : Int))) = false → True))) ∧ (True ∧ ((((decide ((bitOf (List.getD (aheadOf g14) d 0) ((c : Nat) : Int)) = (1 : Int))) && (decide ((bitOf (List.getD (aheadOf g14) d 0) ((a : Nat) : Int)) = (0 : Int)))) = true → True) ∧ ((((decide ((bitOf (List.getD (aheadOf g14) d 0) ((c : Nat) : Int)) = (1 : Int))) && (decide ((bitOf (List.getD (aheadOf g14) d 0) ((a : Nat) : Int)) = (0 : Int)))) = true → True) ∧ ((((decide ((bitOf (List.getD (aheadOf g14) d 0) ((c : Nat) : Int)) = (1 : Int))) && (decide ((bitOf (List.getD (aheadOf g14) d 0) ((a : Nat) : Int)) = (0 : Int)))) = true → (((((decide ((bitOf (List.getD (aheadOf g14) d 0) ((c : Nat) : Int)) = (1 : Int))) && (decide ((bitOf (List.getD (aheadOf g14) d 0) ((a : Nat) : Int)) = (0 : Int)))) = true) ∧ True) ∧ (((((decide ((bitOf (List.getD (aheadOf g14) d 0) ((c : Nat) : Int)) = (1 : Int))) && (decide ((bitOf (List.getD (aheadOf g14) d 0) ((a : Nat) : Int)) = (0 : Int)))) = true) ∧ True) ∧ ((0 ≤ ((b : Nat) : Int)) ∧ (((b : Nat) : Int) < (((List.length (aheadOf g14)) : Nat) : Int)))))) ∧ ((((decide ((bitOf (List.getD (aheadOf g14) d 0) ((c : Nat) : Int)) = (1 : Int))) && (decide ((bitOf (List.getD (aheadOf g14) d 0) ((a : Nat) : Int)) = (0 : Int)))) = true → ((((decide ((bitOf (List.getD (aheadOf g14) d 0) ((c : Nat) : Int)) = (1 : Int))) && (decide ((bitOf (List.getD (aheadOf g14) d 0) ((a : Nat) : Int)) = (0 : Int)))) = true) ∧ True)) ∧ ((((decide ((bitOf (List.getD (aheadOf g14) d 0) ((c : Nat) : Int)) = (1 : Int))) && (decide ((bitOf (List.getD (aheadOf g14) d 0) ((a : Nat) : Int)) = (0 : Int)))) = true → True) ∧ ((((decide ((bitOf (List.getD (aheadOf g14) d 0) ((c : Nat) : Int)) = (1 : Int))) && (decide ((bitOf (List.getD (aheadOf g14) d 0) ((a : Nat) : Int)) = (0 : Int)))) = true → (True ∧ ((((((decide ((bitOf (List.getD (aheadOf g14) d 0) ((c : Nat) : Int)) = (1 : Int))) && (decide ((bitOf (List.getD (aheadOf g14) d 0) ((a : Nat) : Int)) = (0 : Int)))) = true) ∧ True) ∧ (((((decide ((bitOf (List.getD (aheadOf g14) d 0) ((c : Nat) : Int)) = (1 : Int))) && (decide ((bitOf (List.getD (aheadOf g14) d 0) ((a : Nat) : Int)) = (0 : Int)))) = true) ∧ True) ∧ True)) ∧ ((((c : Nat) : Int) ≤ 60) ∧ (0 ≤ (List.getD (aheadOf g14) b 0) ∧ (List.getD (aheadOf g14) b 0) ≤ 4611686018427387904))))) ∧ ((((decide ((bitOf (List.getD (aheadOf g14) d 0) ((c : Nat) : Int)) = (1 : Int))) && (decide ((bitOf (List.getD (aheadOf g14) d 0) ((a : Nat) : Int)) = (0 : Int)))) = true → (((((decide ((bitOf (List.getD (aheadOf g14) d 0) ((c : Nat) : Int)) = (1 : Int))) && (decide ((bitOf (List.getD (aheadOf g14) d 0) ((a : Nat) : Int)) = (0 : Int)))) = true) ∧ True) ∧ (True ∧ True))) ∧ ((True ∧ ((((decide ((bitOf (List.getD (aheadOf g14) d 0) ((c : Nat) : Int)) = (1 : Int))) && (decide ((bitOf (List.getD (aheadOf g14) d 0) ((a : Nat) : Int)) = (0 : Int)))) = true → (((decide ((bitOf (List.getD (aheadOf g14) d 0) ((c : Nat) : Int)) = (1 : Int))) && (decide ((bitOf (List.getD (aheadOf g14) d 0) ((a : Nat) : Int)) = (0 : Int)))) = true) ∧ True) ∧ (((decide ((bitOf (List.getD (aheadOf g14) d 0) ((c : Nat) : Int)) = (1 : Int))) && (decide ((bitOf (List.getD (aheadOf g14) d 0) ((a : Nat) : Int)) = (0 : Int)))) = false → True))) ∧ True))))))))))))))))))))))))) (by kernel_rfl)
                            ⟨trivial, ⟨trivial, ⟨⟨trivial, ⟨trivial, ⟨(by omega), (by omega)⟩⟩⟩, ⟨trivial, ⟨trivial, ⟨⟨trivial, ⟨⟨trivial, ⟨trivial, trivial⟩⟩, ⟨(by omega), (by exact ahead_bnd hv _)⟩⟩⟩, ⟨⟨trivial, ⟨trivial, trivial⟩⟩, ⟨trivial, ⟨(fun _ => trivial), ⟨(fun _ => trivial), ⟨(fun hG => ⟨⟨hG, trivial⟩, ⟨⟨hG, trivial⟩, ⟨(by have hg0 : (bitOf (List.getD (aheadOf g14) d 0) ((c : Nat) : Int)) = (1 : Int) := of_decide_eq_true hG; omega), (by have hg0 : (bitOf (List.getD (aheadOf g14) d 0) ((c : Nat) : Int)) = (1 : Int) := of_decide_eq_true hG; omega)⟩⟩⟩), ⟨(fun hG => ⟨hG, trivial⟩), ⟨(fun _ => trivial), ⟨(fun hG => ⟨trivial, ⟨⟨⟨hG, trivial⟩, ⟨⟨hG, trivial⟩, trivial⟩⟩, ⟨(by have hg0 : (bitOf (List.getD (aheadOf g14) d 0) ((c : Nat) : Int)) = (1 : Int) := of_decide_eq_true hG; omega), (by have hg0 : (bitOf (List.getD (aheadOf g14) d 0) ((c : Nat) : Int)) = (1 : Int) := of_decide_eq_true hG; exact ahead_bnd hv _)⟩⟩⟩), ⟨(fun hG => ⟨⟨hG, trivial⟩, ⟨trivial, trivial⟩⟩), ⟨⟨trivial, ⟨(fun hp => ⟨hp, trivial⟩), (fun _ => trivial)⟩⟩, ⟨trivial, ⟨(fun _ => trivial), ⟨(fun _ => trivial), ⟨(fun hG => ⟨⟨hG, trivial⟩, ⟨⟨hG, trivial⟩, ⟨(by have hg0 : (bitOf (List.getD (aheadOf g14) d 0) ((c : Nat) : Int)) = (1 : Int) := of_decide_eq_true (and_l hG); have hg1 : (bitOf (List.getD (aheadOf g14) d 0) ((a : Nat) : Int)) = (0 : Int) := of_decide_eq_true (and_r hG); omega), (by have hg0 : (bitOf (List.getD (aheadOf g14) d 0) ((c : Nat) : Int)) = (1 : Int) := of_decide_eq_true (and_l hG); have hg1 : (bitOf (List.getD (aheadOf g14) d 0) ((a : Nat) : Int)) = (0 : Int) := of_decide_eq_true (and_r hG); omega)⟩⟩⟩), ⟨(fun hG => ⟨hG, trivial⟩), ⟨(fun _ => trivial), ⟨(fun hG => ⟨trivial, ⟨⟨⟨hG, trivial⟩, ⟨⟨hG, trivial⟩, trivial⟩⟩, ⟨(by have hg0 : (bitOf (List.getD (aheadOf g14) d 0) ((c : Nat) : Int)) = (1 : Int) := of_decide_eq_true (and_l hG); have hg1 : (bitOf (List.getD (aheadOf g14) d 0) ((a : Nat) : Int)) = (0 : Int) := of_decide_eq_true (and_r hG); omega), (by have hg0 : (bitOf (List.getD (aheadOf g14) d 0) ((c : Nat) : Int)) = (1 : Int) := of_decide_eq_true (and_l hG); have hg1 : (bitOf (List.getD (aheadOf g14) d 0) ((a : Nat) : Int)) = (0 : Int) := of_decide_eq_true (and_r hG); exact ahead_bnd hv _)⟩⟩⟩), ⟨(fun hG => ⟨⟨hG, trivial⟩, ⟨trivial, trivial⟩⟩), ⟨⟨trivial, ⟨(fun hp => ⟨hp, trivial⟩), (fun _ => trivial)⟩⟩, trivial⟩⟩⟩⟩⟩⟩⟩⟩⟩⟩⟩⟩⟩⟩⟩⟩⟩⟩⟩⟩⟩⟩⟩⟩⟩ ?_
                          refine W.if' (((decide ((bitOf (List.getD (aheadOf g14) d 0) ((c : Nat) : Int)) = (1 : Int))) && (decide ((bitOf (List.getD (aheadOf g14) d 0) ((a : Nat) : Int)) = (0 : Int)))) && (decide ((bitOf (List.getD (aheadOf g14) b 0) ((c : Nat) : Int)) = (0 : Int)))) (.b (((decide ((bitOf (List.getD (aheadOf g14) d 0) ((c : Nat) : Int)) = (1 : Int))) && (decide ((bitOf (List.getD (aheadOf g14) d 0) ((a : Nat) : Int)) = (0 : Int)))) && (decide ((bitOf (List.getD (aheadOf g14) b 0) ((c : Nat) : Int)) = (0 : Int))))) (by kernel_rfl) rfl trivial ?_ ?_
                          · intro h98
                            have h98_0 : (bitOf (List.getD (aheadOf g14) d 0) ((c : Nat) : Int)) = (1 : Int) := of_decide_eq_true (and_l (and_l h98))
                            have h98_1 : (bitOf (List.getD (aheadOf g14) d 0) ((a : Nat) : Int)) = (0 : Int) := of_decide_eq_true (and_r (and_l h98))
                            have h98_2 : (bitOf (List.getD (aheadOf g14) b 0) ((c : Nat) : Int)) = (0 : Int) := of_decide_eq_true (and_r h98)
                            refine W.K cok tab8 hnt [] [2] (⟨[(2, .b false)], [], [999]⟩)
                              (True ∧ True) (by kernel_rfl)
                              ⟨trivial, trivial⟩ ?_
                            refine W.ret (blockQ_ret (thenQ_ret (thenQ_ret (blockQ_ret (blockQ_ret (thenQ_ret (thenQ_ret (blockQ_ret (blockQ_ret (thenQ_ret (thenQ_ret (blockQ_ret (blockQ_ret (thenQ_ret (thenQ_ret (blockQ_ret (thenQ_ret ?_)))))))))))))))))
                            exact endQ_ret (.b false) (by kernel_rfl) (@cast ((.bool false : Value) = .bool true) _ (by kernel_rfl) (congrArg Value.bool (by exact (ahead_law2 hv (a := a) (b := b) (c := c) (d := d) (by omega) (by omega) (by omega) (by omega) n49 h98_0 h98_1 h98_2).elim)))
                          · intro n98
                            refine W.skip (blockQ_normal (thenQ_normal ?_))
                            refine W.L cok tab8 hnt [] (⟨[(4, .sl (.ints (aheadOf g14))), (5, .i (((List.length g14) : Nat) : Int)), (6, .i ((b : Nat) : Int)), (7, .i ((a : Nat) : Int)), (8, .i ((d : Nat) : Int)), (9, .i (((c + 1) : Nat) : Int)), (72, .i ((c : Nat) : Int)), (73, .i (((c + 1) : Nat) : Int)), (98, .b (((decide ((bitOf (List.getD (aheadOf g14) d 0) ((c : Nat) : Int)) = (1 : Int))) && (decide ((bitOf (List.getD (aheadOf g14) d 0) ((a : Nat) : Int)) = (0 : Int)))) && (decide ((bitOf (List.getD (aheadOf g14) b 0) ((c : Nat) : Int)) = (0 : Int)))))], [], [999]⟩)
                              (True ∧ ((True ∧ (True ∧ (Fits .i64 (((c + 1) : Nat) : Int)))) ∧ (True ∧ True))) (by kernel_rfl)
                              ⟨trivial, ⟨⟨trivial, ⟨trivial, (by exact fits_i64 (by omega) (by omega))⟩⟩, ⟨trivial, trivial⟩⟩⟩ ?_
                            refine thenQ_normal ?_
                            refine ⟨((c + 1)), (show ((c + 1) ≤ g14.length) from (by first | assumption | omega | rfl | (intro _ hjj; omega) | (simp; done) | (simp; omega))), (show g14.length - (c + 1) < g14.length - c from (by first | omega | (simp_all; omega))), ?_⟩
                            exact Sub.of [] (@cast ((((.ints (aheadOf g14) : Dat) = .ints (aheadOf g14)) ∧ (((.int .i64 (((List.length g14) : Nat) : Int) : Value) = .int .i64 (((List.length g14) : Nat) : Int)) ∧ (((.int .i64 ((b : Nat) : Int) : Value) = .int .i64 ((b : Nat) : Int)) ∧ (((.int .i64 ((a : Nat) : Int) : Value) = .int .i64 ((a : Nat) : Int)) ∧ (((.int .i64 ((d : Nat) : Int) : Value) = .int .i64 ((d : Nat) : Int)) ∧ (((.int .i64 (((c + 1) : Nat) : Int) : Value) = .int .i64 (((c + 1) : Nat) : Int)) ∧ True)))))) ∧ (True ∧ ((true = true) ∧ (true = true)))) _ (by kernel_rfl) ⟨⟨rfl, ⟨rfl, ⟨rfl, ⟨rfl, ⟨rfl, ⟨rfl, trivial⟩⟩⟩⟩⟩⟩, ⟨trivial, ⟨rfl, rfl⟩⟩⟩)
                        · intro n71
                          refine W.exit (thenQ_exit (thenQ_exit (blockQ_hit ?_)))
                          refine blockQ_normal (thenQ_normal ?_)
                          refine W.L cok tab8 hnt [] (⟨[(4, .sl (.ints (aheadOf g14))), (5, .i (((List.length g14) : Nat) : Int)), (6, .i ((b : Nat) : Int)), (7, .i ((a : Nat) : Int)), (8, .i (((d + 1) : Nat) : Int)), (9, .i ((c : Nat) : Int)), (67, .i ((d : Nat) : Int)), (68, .i (((d + 1) : Nat) : Int)), (71, .b (decide (((c : Nat) : Int) < (((List.length g14) : Nat) : Int))))], [], [999]⟩)
                            (True ∧ ((True ∧ (True ∧ (Fits .i64 (((d + 1) : Nat) : Int)))) ∧ (True ∧ True))) (by kernel_rfl)
                            ⟨trivial, ⟨⟨trivial, ⟨trivial, (by exact fits_i64 (by omega) (by omega))⟩⟩, ⟨trivial, trivial⟩⟩⟩ ?_
                          refine thenQ_normal ?_
                          refine ⟨((d + 1)), (show ((d + 1) ≤ g14.length) from (by first | assumption | omega | rfl | (intro _ hjj; omega) | (simp; done) | (simp; omega))), (show g14.length - (d + 1) < g14.length - d from (by first | omega | (simp_all; omega))), ?_⟩
                          exact Sub.of [] (@cast ((((.ints (aheadOf g14) : Dat) = .ints (aheadOf g14)) ∧ (((.int .i64 (((List.length g14) : Nat) : Int) : Value) = .int .i64 (((List.length g14) : Nat) : Int)) ∧ (((.int .i64 ((b : Nat) : Int) : Value) = .int .i64 ((b : Nat) : Int)) ∧ (((.int .i64 ((a : Nat) : Int) : Value) = .int .i64 ((a : Nat) : Int)) ∧ (((.int .i64 (((d + 1) : Nat) : Int) : Value) = .int .i64 (((d + 1) : Nat) : Int)) ∧ True))))) ∧ (True ∧ ((true = true) ∧ (true = true)))) _ (by kernel_rfl) ⟨⟨rfl, ⟨rfl, ⟨rfl, ⟨rfl, ⟨rfl, trivial⟩⟩⟩⟩⟩, ⟨trivial, ⟨rfl, rfl⟩⟩⟩)
                    · intro n66
                      refine W.exit (thenQ_exit (thenQ_exit (blockQ_hit ?_)))
                      refine blockQ_normal (thenQ_normal ?_)
                      refine W.L cok tab8 hnt [] (⟨[(4, .sl (.ints (aheadOf g14))), (5, .i (((List.length g14) : Nat) : Int)), (6, .i ((b : Nat) : Int)), (7, .i (((a + 1) : Nat) : Int)), (8, .i ((d : Nat) : Int)), (41, .i ((a : Nat) : Int)), (42, .i (((a + 1) : Nat) : Int)), (66, .b (decide (((d : Nat) : Int) < (((List.length g14) : Nat) : Int))))], [], [999]⟩)
                        (True ∧ ((True ∧ (True ∧ (Fits .i64 (((a + 1) : Nat) : Int)))) ∧ (True ∧ True))) (by kernel_rfl)
                        ⟨trivial, ⟨⟨trivial, ⟨trivial, (by exact fits_i64 (by omega) (by omega))⟩⟩, ⟨trivial, trivial⟩⟩⟩ ?_
                      refine thenQ_normal ?_
                      refine ⟨((a + 1)), (show ((a + 1) ≤ g14.length) from (by first | assumption | omega | rfl | (intro _ hjj; omega) | (simp; done) | (simp; omega))), (show g14.length - (a + 1) < g14.length - a from (by first | omega | (simp_all; omega))), ?_⟩
                      exact Sub.of [] (@cast ((((.ints (aheadOf g14) : Dat) = .ints (aheadOf g14)) ∧ (((.int .i64 (((List.length g14) : Nat) : Int) : Value) = .int .i64 (((List.length g14) : Nat) : Int)) ∧ (((.int .i64 ((b : Nat) : Int) : Value) = .int .i64 ((b : Nat) : Int)) ∧ (((.int .i64 (((a + 1) : Nat) : Int) : Value) = .int .i64 (((a + 1) : Nat) : Int)) ∧ True)))) ∧ (True ∧ ((true = true) ∧ (true = true)))) _ (by kernel_rfl) ⟨⟨rfl, ⟨rfl, ⟨rfl, ⟨rfl, trivial⟩⟩⟩⟩, ⟨trivial, ⟨rfl, rfl⟩⟩⟩)
            · intro n40
              refine W.exit (thenQ_exit (thenQ_exit (blockQ_hit ?_)))
              refine blockQ_normal (thenQ_normal ?_)
              refine W.L cok tab8 hnt [] (⟨[(4, .sl (.ints (aheadOf g14))), (5, .i (((List.length g14) : Nat) : Int)), (6, .i (((b + 1) : Nat) : Int)), (7, .i ((a : Nat) : Int)), (36, .i ((b : Nat) : Int)), (37, .i (((b + 1) : Nat) : Int)), (40, .b (decide (((a : Nat) : Int) < (((List.length g14) : Nat) : Int))))], [], [999]⟩)
                (True ∧ ((True ∧ (True ∧ (Fits .i64 (((b + 1) : Nat) : Int)))) ∧ (True ∧ True))) (by kernel_rfl)
                ⟨trivial, ⟨⟨trivial, ⟨trivial, (by exact fits_i64 (by omega) (by omega))⟩⟩, ⟨trivial, trivial⟩⟩⟩ ?_
              refine thenQ_normal ?_
              refine ⟨((b + 1)), (show ((b + 1) ≤ g14.length) from (by first | assumption | omega | rfl | (intro _ hjj; omega) | (simp; done) | (simp; omega))), (show g14.length - (b + 1) < g14.length - b from (by first | omega | (simp_all; omega))), ?_⟩
              exact Sub.of [] (@cast ((((.ints (aheadOf g14) : Dat) = .ints (aheadOf g14)) ∧ (((.int .i64 (((List.length g14) : Nat) : Int) : Value) = .int .i64 (((List.length g14) : Nat) : Int)) ∧ (((.int .i64 (((b + 1) : Nat) : Int) : Value) = .int .i64 (((b + 1) : Nat) : Int)) ∧ True))) ∧ (True ∧ ((true = true) ∧ (true = true)))) _ (by kernel_rfl) ⟨⟨rfl, ⟨rfl, ⟨rfl, trivial⟩⟩⟩, ⟨trivial, ⟨rfl, rfl⟩⟩⟩)
        · intro n35
          refine W.exit (thenQ_exit (thenQ_exit (blockQ_hit ?_)))
          refine thenQ_normal ?_
          refine W.K cok tab8 hnt [] [2] (⟨[(2, .b (decide ((((List.length (aheadOf g14)) : Nat) : Int) = (((List.length g14) : Nat) : Int))))], [], [999]⟩)
            (True ∧ (True ∧ (True ∧ ((True ∧ (True ∧ True)) ∧ (True ∧ True))))) (by kernel_rfl)
            ⟨trivial, ⟨trivial, ⟨trivial, ⟨⟨trivial, ⟨trivial, trivial⟩⟩, ⟨trivial, trivial⟩⟩⟩⟩⟩ ?_
          refine W.ret ?_
          exact endQ_ret (.b (decide ((((List.length (aheadOf g14)) : Nat) : Int) = (((List.length g14) : Nat) : Int)))) (by kernel_rfl) (@cast ((.bool (decide ((((List.length (aheadOf g14)) : Nat) : Int) = (((List.length g14) : Nat) : Int))) : Value) = .bool true) _ (by kernel_rfl) (congrArg Value.bool (by simp [hrl])))
theorem ent8 : Entr prog 8 := ⟨_, func8, rfl, by decide⟩

end Go.Proofs.Try
