import Derived.Test.YtcjnccepckdiaaaAS
import Derived.Test.YtcjnccepckdiaaaM3
import Derived.Test.YtcjnccepckdiaaaAP44
import Derived.Test.YtcjnccepckdiaaaAP45
import Derived.Test.YtcjnccepckdiaaaAP23
import Derived.Test.YtcjnccepckdiaaaAP19
import Derived.Test.YtcjnccepckdiaaaAP40
import Derived.Test.YtcjnccepckdiaaaAP42
import Derived.Test.YtcjnccepckdiaaaAP43
set_option linter.unusedSimpArgs false
set_option linter.unusedVariables false
namespace Go.Proofs.Try
open Go.Ab Go.RowKit
/-- laws.FnOwnAhead -/
def fs9 : FnS := fnS [.s .bytes] [.bytes] (fun _ (code, _) => (.b true, [], True))
abbrev T9 : Tab := lk [(19, fs19), (23, fs23), (40, fs40), (42, fs42), (44, fs44), (45, fs45)]
theorem tab9 : TabOK prog T9 := (TabOK.cons ok19 ent19 (TabOK.cons ok23 ent23 (TabOK.cons ok40 ent40 (TabOK.cons ok42 ent42 (TabOK.cons ok44 ent44 (TabOK.cons ok45 ent45 TabOK.nil))))))
set_option maxRecDepth 100000 in
set_option maxHeartbeats 1000000 in
theorem ok9 : FnOK prog 9 fs9 := by
  refine FnOK.mk func9 rfl rfl rfl ?_
  rintro fl ⟨(code : List UInt8), _⟩ hpre F hnt0 _
  have hnt : F.nt = 87 := hnt0.trans ntmps9
  clear hpre
  refine W.to (⟨[(0, .sl (.bytes code))], [], [999]⟩) rfl ?_
  refine W.lenOf 0 (.bytes code) (by kernel_rfl) ?_
  intro hl_code; replace hl_code : List.length code ≤ 9223372036854775807 := hl_code
  refine W.K cok tab9 hnt [] [0] (⟨[(0, .sl (.bytes code))], [], [999]⟩)
    (True ∧ True) (by kernel_rfl)
    ⟨trivial, trivial⟩ ?_
  refine W.seq ?_
  refine W.K cok tab9 hnt [] [0, 10] (⟨[(0, .sl (.bytes code)), (10, .b (decide ((1048576 : Int) < (((List.length code) : Nat) : Int))))], [], [999]⟩)
    (True ∧ (True ∧ ((True ∧ (True ∧ True)) ∧ True))) (by kernel_rfl)
    ⟨trivial, ⟨trivial, ⟨⟨trivial, ⟨trivial, trivial⟩⟩, trivial⟩⟩⟩ ?_
  refine W.ifP ((1048576 : Int) < (((List.length code) : Nat) : Int)) (.b (decide ((1048576 : Int) < (((List.length code) : Nat) : Int)))) (by kernel_rfl) rfl trivial ?_ ?_
  · intro h10
    refine W.K cok tab9 hnt [] [2] (⟨[(2, .b true)], [], [999]⟩)
      (True ∧ True) (by kernel_rfl)
      ⟨trivial, trivial⟩ ?_
    refine W.ret (thenQ_ret ?_)
    exact endQ_ret (.b true) (by kernel_rfl) (@cast ((.bool true : Value) = .bool true) _ (by kernel_rfl) rfl)
  · intro n10
    refine W.skip (thenQ_normal ?_)
    refine W.seq (W.wi ?_)
    refine WI.run cok tab9 hnt [] 1 (⟨[(0, .sl (.bytes code)), (10, .b (decide ((1048576 : Int) < (((List.length code) : Nat) : Int)))), (11, .sl (.bytes code))], [], [999]⟩)
      (True ∧ True) (by kernel_rfl)
      ⟨trivial, trivial⟩ ?_
    refine WI.to (⟨[(0, .sl (.bytes code)), (10, .b (decide ((1048576 : Int) < (((List.length code) : Nat) : Int)))), (11, .sl (.bytes code))], [], [999]⟩) 1 rfl rfl ?_
    refine WI.call [.sl (.bytes code)] [] [.sl (.bytes code)] [.sl (.bytes code)] none (True) (True ∧ True) none rok43 ent43 hnt rfl rfl (wanted_none rfl) (by kernel_rfl) (by kernel_rfl) (by kernel_rfl) ⟨trivial, ⟨trivial, trivial⟩⟩
      (@cast (True) _ (by kernel_rfl) trivial) (Or.inl rfl) rfl ?_
    rintro r bl fx2 hR
    obtain ⟨g12, hq12, rfl, rfl, rfl⟩ := (@cast _ (∃ x : (List CallD), ((x.length ≤ 6)) ∧ r = (.sl (.calls x)) ∧ bl = ([]) ∧ fx2 = ([])) (by kernel_rfl) hR)
    clear hR
    replace hq12 : (g12.length ≤ 6) := hq12
    have hg12 := hq12
    refine ⟨by kernel_rfl, WI.to (⟨[(0, .sl (.bytes code)), (10, .b (decide ((1048576 : Int) < (((List.length code) : Nat) : Int)))), (11, .sl (.bytes code)), (12, .sl (.calls g12))], [], [999]⟩) 2 (by kernel_rfl) rfl ?_⟩
    refine WI.run cok tab9 hnt [] 1 (⟨[(0, .sl (.bytes code)), (3, .sl (.calls g12)), (10, .b (decide ((1048576 : Int) < (((List.length code) : Nat) : Int)))), (11, .sl (.bytes code)), (12, .sl (.calls g12))], [], [999]⟩)
      (True ∧ True) (by kernel_rfl)
      ⟨trivial, trivial⟩ ?_
    refine WI.to (⟨[(0, .sl (.bytes code)), (3, .sl (.calls g12)), (10, .b (decide ((1048576 : Int) < (((List.length code) : Nat) : Int)))), (11, .sl (.bytes code)), (12, .sl (.calls g12))], [], [999]⟩) 3 rfl rfl ?_
    refine WI.nil rfl (thenQ_normal ?_)
    refine W.keepE [3] [(3, .sl (.calls g12))] (by kernel_rfl) ?_
    refine W.to (⟨[(3, .sl (.calls g12))], [], [999]⟩) rfl ?_
    refine W.K cok tab9 hnt [] [3, 4] (⟨[(3, .sl (.calls g12)), (4, .sl (.ints (ownAhead g12)))], [], [999]⟩)
      (True ∧ ((True ∧ ((True ∧ True) ∧ True)) ∧ (True ∧ True))) (by kernel_rfl)
      ⟨trivial, ⟨⟨trivial, ⟨⟨trivial, trivial⟩, trivial⟩⟩, ⟨trivial, trivial⟩⟩⟩ ?_
    refine W.seq ?_
    refine W.K cok tab9 hnt [] [3, 4, 24] (⟨[(3, .sl (.calls g12)), (4, .sl (.ints (ownAhead g12))), (24, .b ((!(decide ((ownAhead g12) = (ownAhead g12)))) || (!(validHistory g12))))], [], [999]⟩)
      (True ∧ (True ∧ ((True ∧ ((True ∧ True) ∧ True)) ∧ ((True ∧ ((True ∧ (True ∧ True)) ∧ True)) ∧ (True ∧ (True ∧ (((!(!(decide ((ownAhead g12) = (ownAhead g12))))) = true → True) ∧ (((!(!(decide ((ownAhead g12) = (ownAhead g12))))) = true → (True ∧ (((((!(!(decide ((ownAhead g12) = (ownAhead g12))))) = true) ∧ True) ∧ True) ∧ True))) ∧ (((!(!(decide ((ownAhead g12) = (ownAhead g12))))) = true → (((!(!(decide ((ownAhead g12) = (ownAhead g12))))) = true) ∧ True)) ∧ ((True ∧ (((!(decide ((ownAhead g12) = (ownAhead g12)))) = true → True) ∧ ((!(decide ((ownAhead g12) = (ownAhead g12)))) = false → ((!(!(decide ((ownAhead g12) = (ownAhead g12))))) = true) ∧ True))) ∧ True)))))))))) (by kernel_rfl)
      ⟨trivial, ⟨trivial, ⟨⟨trivial, ⟨⟨trivial, trivial⟩, trivial⟩⟩, ⟨⟨trivial, ⟨⟨trivial, ⟨trivial, trivial⟩⟩, trivial⟩⟩, ⟨trivial, ⟨trivial, ⟨(fun _ => trivial), ⟨(fun hG => ⟨trivial, ⟨⟨⟨hG, trivial⟩, trivial⟩, trivial⟩⟩), ⟨(fun hG => ⟨hG, trivial⟩), ⟨⟨trivial, ⟨(fun _ => trivial), (fun hp => ⟨(not_t hp), trivial⟩)⟩⟩, trivial⟩⟩⟩⟩⟩⟩⟩⟩⟩⟩ ?_
    refine W.if' ((!(decide ((ownAhead g12) = (ownAhead g12)))) || (!(validHistory g12))) (.b ((!(decide ((ownAhead g12) = (ownAhead g12)))) || (!(validHistory g12)))) (by kernel_rfl) rfl trivial ?_ ?_
    · intro h24
      refine W.K cok tab9 hnt [] [2] (⟨[(2, .b (decide ((ownAhead g12) = (ownAhead g12))))], [], [999]⟩)
        (True ∧ (True ∧ ((True ∧ ((True ∧ True) ∧ True)) ∧ ((True ∧ ((True ∧ (True ∧ True)) ∧ True)) ∧ (True ∧ True))))) (by kernel_rfl)
        ⟨trivial, ⟨trivial, ⟨⟨trivial, ⟨⟨trivial, trivial⟩, trivial⟩⟩, ⟨⟨trivial, ⟨⟨trivial, ⟨trivial, trivial⟩⟩, trivial⟩⟩, ⟨trivial, trivial⟩⟩⟩⟩⟩ ?_
      refine W.ret (thenQ_ret ?_)
      exact endQ_ret (.b (decide ((ownAhead g12) = (ownAhead g12)))) (by kernel_rfl) (@cast ((.bool (decide ((ownAhead g12) = (ownAhead g12))) : Value) = .bool true) _ (by kernel_rfl) (congrArg Value.bool (by simp)))
    · intro n24
      have hv : validHistory g12 = true := not_g (or_r n24)
      have hv6 := (valid_iff.1 hv).1
      have hrl := ahead_len hv
      have hol := own_len hv
      refine W.skip (thenQ_normal ?_)
      refine W.K cok tab9 hnt [] [3, 4, 5] (⟨[(3, .sl (.calls g12)), (4, .sl (.ints (ownAhead g12))), (5, .sl (.ints (aheadOf g12)))], [], [999]⟩)
        (True ∧ ((True ∧ ((True ∧ True) ∧ True)) ∧ (True ∧ True))) (by kernel_rfl)
        ⟨trivial, ⟨⟨trivial, ⟨⟨trivial, trivial⟩, trivial⟩⟩, ⟨trivial, trivial⟩⟩⟩ ?_
      refine W.seq ?_
      refine W.K cok tab9 hnt [] [3, 4, 5, 6] (⟨[(3, .sl (.calls g12)), (4, .sl (.ints (ownAhead g12))), (5, .sl (.ints (aheadOf g12))), (6, .i (0 : Int))], [], [999]⟩)
        (True ∧ True) (by kernel_rfl)
        ⟨trivial, trivial⟩ ?_
      refine W.block ?_
      refine W.loop (ι := Nat) (fun (i : Nat) => (⟨[(3, .sl (.calls g12)), (4, .sl (.ints (ownAhead g12))), (5, .sl (.ints (aheadOf g12))), (6, .i ((i : Nat) : Int))], [], [999]⟩ : St))
        (fun (i : Nat) => (i ≤ g12.length))
        (fun (i : Nat) => (g12.length - i : Nat)) (0) ?_ ?_ ?_
      · exact (show (0 ≤ g12.length) from (by first | assumption | omega | rfl | (intro _ hjj; omega) | (simp; done) | (simp; omega)))
      · exact Sub.of [] (@cast ((((.calls g12 : Dat) = .calls g12) ∧ (((.ints (ownAhead g12) : Dat) = .ints (ownAhead g12)) ∧ (((.ints (aheadOf g12) : Dat) = .ints (aheadOf g12)) ∧ (((.int .i64 (0 : Int) : Value) = .int .i64 ((0 : Nat) : Int)) ∧ True)))) ∧ (True ∧ ((true = true) ∧ (true = true)))) _ (by kernel_rfl) ⟨⟨rfl, ⟨rfl, ⟨rfl, ⟨(congrArg (Value.int .i64) (by first | rfl | omega | assumption | simp | simp_all)), trivial⟩⟩⟩⟩, ⟨trivial, ⟨rfl, rfl⟩⟩⟩)
      · rintro i hC0
        have hC : (i ≤ g12.length) := hC0
        clear hC0
        obtain hi := hC
        refine W.to (⟨[(3, .sl (.calls g12)), (4, .sl (.ints (ownAhead g12))), (5, .sl (.ints (aheadOf g12))), (6, .i ((i : Nat) : Int))], [], [999]⟩) rfl ?_
        refine W.seq ?_
        refine W.K cok tab9 hnt [] [3, 4, 5, 6, 34] (⟨[(3, .sl (.calls g12)), (4, .sl (.ints (ownAhead g12))), (5, .sl (.ints (aheadOf g12))), (6, .i ((i : Nat) : Int)), (34, .b (decide (((i : Nat) : Int) < (((List.length g12) : Nat) : Int))))], [], [999]⟩)
          (True ∧ (True ∧ (True ∧ ((True ∧ (True ∧ True)) ∧ True)))) (by kernel_rfl)
          ⟨trivial, ⟨trivial, ⟨trivial, ⟨⟨trivial, ⟨trivial, trivial⟩⟩, trivial⟩⟩⟩⟩ ?_
        refine W.ifP (((i : Nat) : Int) < (((List.length g12) : Nat) : Int)) (.b (decide (((i : Nat) : Int) < (((List.length g12) : Nat) : Int)))) (by kernel_rfl) rfl trivial ?_ ?_
        · intro h34
          refine W.skip (thenQ_normal ?_)
          refine W.seq ?_
          refine W.block ?_
          refine W.seq ?_
          refine W.KA cok tab9 hnt [] [3, 4, 5, 6, 50] (⟨[(3, .sl (.calls g12)), (4, .sl (.ints (ownAhead g12))), (5, .sl (.ints (aheadOf g12))), (6, .i ((i : Nat) : Int)), (50, .b (decide ((bitsI .and .i64 (List.getD (aheadOf g12) i 0) (List.getD (ownAhead g12) i 0)) ≠ (List.getD (ownAhead g12) i 0))))], [], [999]⟩)
            (True ∧ (True ∧ ((True ∧ (True ∧ ((0 ≤ ((i : Nat) : Int)) ∧ (((i : Nat) : Int) < (((List.length (aheadOf g12)) : Nat) : Int))))) ∧ (True ∧ (True ∧ (True ∧ ((True ∧ (True ∧ ((0 ≤ ((i : Nat) : Int)) ∧ (((i : Nat) : Int) < (((List.length (ownAhead g12)) : Nat) : Int))))) ∧ (True ∧ ((True ∧ (True ∧ True)) ∧ (True ∧ (True ∧ ((True ∧ (True ∧ ((0 ≤ ((i : Nat) : Int)) ∧ (((i : Nat) : Int) < (((List.length (ownAhead g12)) : Nat) : Int))))) ∧ (True ∧ ((True ∧ (True ∧ True)) ∧ True)))))))))))))) (by kernel_rfl) (by kernel_rfl)
            ⟨trivial, ⟨trivial, ⟨⟨trivial, ⟨trivial, ⟨(by omega), (by omega)⟩⟩⟩, ⟨trivial, ⟨trivial, ⟨trivial, ⟨⟨trivial, ⟨trivial, ⟨(by omega), (by omega)⟩⟩⟩, ⟨trivial, ⟨⟨trivial, ⟨trivial, trivial⟩⟩, ⟨trivial, ⟨trivial, ⟨⟨trivial, ⟨trivial, ⟨(by omega), (by omega)⟩⟩⟩, ⟨trivial, ⟨⟨trivial, ⟨trivial, trivial⟩⟩, trivial⟩⟩⟩⟩⟩⟩⟩⟩⟩⟩⟩⟩⟩⟩ ?_
          refine W.ifP ((bitsI .and .i64 (List.getD (aheadOf g12) i 0) (List.getD (ownAhead g12) i 0)) ≠ (List.getD (ownAhead g12) i 0)) (.b (decide ((bitsI .and .i64 (List.getD (aheadOf g12) i 0) (List.getD (ownAhead g12) i 0)) ≠ (List.getD (ownAhead g12) i 0)))) (by kernel_rfl) rfl trivial ?_ ?_
          · intro h50
            refine W.K cok tab9 hnt [] [2] (⟨[(2, .b false)], [], [999]⟩)
              (True ∧ True) (by kernel_rfl)
              ⟨trivial, trivial⟩ ?_
            refine W.ret (thenQ_ret (blockQ_ret (thenQ_ret (thenQ_ret (blockQ_ret (thenQ_ret ?_))))))
            exact endQ_ret (.b false) (by kernel_rfl) (@cast ((.bool false : Value) = .bool true) _ (by kernel_rfl) (congrArg Value.bool (by exact (h50 (own_law1 hv (by omega))).elim)))
          · intro n50
            refine W.skip (thenQ_normal ?_)
            refine W.K cok tab9 hnt [] [3, 4, 5, 6, 7] (⟨[(3, .sl (.calls g12)), (4, .sl (.ints (ownAhead g12))), (5, .sl (.ints (aheadOf g12))), (6, .i ((i : Nat) : Int)), (7, .i (0 : Int))], [], [999]⟩)
              (True ∧ True) (by kernel_rfl)
              ⟨trivial, trivial⟩ ?_
            refine W.block ?_
            refine W.loop (ι := Nat) (fun (k : Nat) => (⟨[(3, .sl (.calls g12)), (4, .sl (.ints (ownAhead g12))), (5, .sl (.ints (aheadOf g12))), (6, .i ((i : Nat) : Int)), (7, .i ((k : Nat) : Int))], [], [999]⟩ : St))
              (fun (k : Nat) => (k ≤ i))
              (fun (k : Nat) => (i - k : Nat)) (0) ?_ ?_ ?_
            · exact (show (0 ≤ i) from (by first | assumption | omega | rfl | (intro _ hjj; omega) | (simp; done) | (simp; omega)))
            · exact Sub.of [] (@cast ((((.calls g12 : Dat) = .calls g12) ∧ (((.ints (ownAhead g12) : Dat) = .ints (ownAhead g12)) ∧ (((.ints (aheadOf g12) : Dat) = .ints (aheadOf g12)) ∧ (((.int .i64 ((i : Nat) : Int) : Value) = .int .i64 ((i : Nat) : Int)) ∧ (((.int .i64 (0 : Int) : Value) = .int .i64 ((0 : Nat) : Int)) ∧ True))))) ∧ (True ∧ ((true = true) ∧ (true = true)))) _ (by kernel_rfl) ⟨⟨rfl, ⟨rfl, ⟨rfl, ⟨rfl, ⟨(congrArg (Value.int .i64) (by first | rfl | omega | assumption | simp | simp_all)), trivial⟩⟩⟩⟩⟩, ⟨trivial, ⟨rfl, rfl⟩⟩⟩)
            · rintro k hC0
              have hC : (k ≤ i) := hC0
              clear hC0
              obtain hk := hC
              refine W.to (⟨[(3, .sl (.calls g12)), (4, .sl (.ints (ownAhead g12))), (5, .sl (.ints (aheadOf g12))), (6, .i ((i : Nat) : Int)), (7, .i ((k : Nat) : Int))], [], [999]⟩) rfl ?_
              refine W.seq ?_
              refine W.K cok tab9 hnt [] [3, 4, 5, 6, 7, 53] (⟨[(3, .sl (.calls g12)), (4, .sl (.ints (ownAhead g12))), (5, .sl (.ints (aheadOf g12))), (6, .i ((i : Nat) : Int)), (7, .i ((k : Nat) : Int)), (53, .b (decide (((k : Nat) : Int) < ((i : Nat) : Int))))], [], [999]⟩)
                (True ∧ (True ∧ ((True ∧ (True ∧ True)) ∧ True))) (by kernel_rfl)
                ⟨trivial, ⟨trivial, ⟨⟨trivial, ⟨trivial, trivial⟩⟩, trivial⟩⟩⟩ ?_
              refine W.ifP (((k : Nat) : Int) < ((i : Nat) : Int)) (.b (decide (((k : Nat) : Int) < ((i : Nat) : Int)))) (by kernel_rfl) rfl trivial ?_ ?_
              · intro h53
                refine W.skip (thenQ_normal ?_)
                refine W.seq ?_
                refine W.block ?_
                refine W.KA cok tab9 hnt [] [3, 4, 5, 6, 7, 81] (⟨[(3, .sl (.calls g12)), (4, .sl (.ints (ownAhead g12))), (5, .sl (.ints (aheadOf g12))), (6, .i ((i : Nat) : Int)), (7, .i ((k : Nat) : Int)), (81, .b ((decide (((List.getD g12 i default).proc) = ((List.getD g12 k default).proc))) != (decide (((bitOf (List.getD (ownAhead g12) i 0) ((k : Nat) : Int)) + (bitOf (List.getD (ownAhead g12) k 0) ((i : Nat) : Int))) = (1 : Int)))))], [], [999]⟩)
                  (True ∧ (True ∧ ((True ∧ (True ∧ ((0 ≤ ((i : Nat) : Int)) ∧ (((i : Nat) : Int) < (((List.length g12) : Nat) : Int))))) ∧ (True ∧ (True ∧ (True ∧ (True ∧ ((True ∧ (True ∧ ((0 ≤ ((k : Nat) : Int)) ∧ (((k : Nat) : Int) < (((List.length g12) : Nat) : Int))))) ∧ (True ∧ (True ∧ ((True ∧ (True ∧ True)) ∧ (True ∧ (True ∧ ((True ∧ (True ∧ ((0 ≤ ((i : Nat) : Int)) ∧ (((i : Nat) : Int) < (((List.length (ownAhead g12)) : Nat) : Int))))) ∧ (True ∧ (True ∧ ((True ∧ ((True ∧ (True ∧ True)) ∧ ((((k : Nat) : Int) ≤ 60) ∧ (0 ≤ (List.getD (ownAhead g12) i 0) ∧ (List.getD (ownAhead g12) i 0) ≤ 4611686018427387904)))) ∧ (True ∧ (True ∧ ((True ∧ (True ∧ ((0 ≤ ((k : Nat) : Int)) ∧ (((k : Nat) : Int) < (((List.length (ownAhead g12)) : Nat) : Int))))) ∧ (True ∧ (True ∧ ((True ∧ ((True ∧ (True ∧ True)) ∧ ((((i : Nat) : Int) ≤ 60) ∧ (0 ≤ (List.getD (ownAhead g12) k 0) ∧ (List.getD (ownAhead g12) k 0) ≤ 4611686018427387904)))) ∧ ((True ∧ (True ∧ (Fits .i64 ((bitOf (List.getD (ownAhead g12) i 0) ((k : Nat) : Int)) + (bitOf (List.getD (ownAhead g12) k 0) ((i : Nat) : Int)))))) ∧ ((True ∧ (True ∧ True)) ∧ ((True ∧ True) ∧ True)))))))))))))))))))))))))) (by kernel_rfl) (by kernel_rfl)
                  ⟨trivial, ⟨trivial, ⟨⟨trivial, ⟨trivial, ⟨(by omega), (by omega)⟩⟩⟩, ⟨trivial, ⟨trivial, ⟨trivial, ⟨trivial, ⟨⟨trivial, ⟨trivial, ⟨(by omega), (by omega)⟩⟩⟩, ⟨trivial, ⟨trivial, ⟨⟨trivial, ⟨trivial, trivial⟩⟩, ⟨trivial, ⟨trivial, ⟨⟨trivial, ⟨trivial, ⟨(by omega), (by omega)⟩⟩⟩, ⟨trivial, ⟨trivial, ⟨⟨trivial, ⟨⟨trivial, ⟨trivial, trivial⟩⟩, ⟨(by omega), (by exact own_bnd hv _)⟩⟩⟩, ⟨trivial, ⟨trivial, ⟨⟨trivial, ⟨trivial, ⟨(by omega), (by omega)⟩⟩⟩, ⟨trivial, ⟨trivial, ⟨⟨trivial, ⟨⟨trivial, ⟨trivial, trivial⟩⟩, ⟨(by omega), (by exact own_bnd hv _)⟩⟩⟩, ⟨⟨trivial, ⟨trivial, (by rw [own_bit hv (by omega) (by omega), own_bit hv (by omega) (by omega)]; split <;> split <;> exact fits_i64 (by omega) (by omega))⟩⟩, ⟨⟨trivial, ⟨trivial, trivial⟩⟩, ⟨⟨trivial, trivial⟩, trivial⟩⟩⟩⟩⟩⟩⟩⟩⟩⟩⟩⟩⟩⟩⟩⟩⟩⟩⟩⟩⟩⟩⟩⟩⟩⟩ ?_
                refine W.if' ((decide (((List.getD g12 i default).proc) = ((List.getD g12 k default).proc))) != (decide (((bitOf (List.getD (ownAhead g12) i 0) ((k : Nat) : Int)) + (bitOf (List.getD (ownAhead g12) k 0) ((i : Nat) : Int))) = (1 : Int)))) (.b ((decide (((List.getD g12 i default).proc) = ((List.getD g12 k default).proc))) != (decide (((bitOf (List.getD (ownAhead g12) i 0) ((k : Nat) : Int)) + (bitOf (List.getD (ownAhead g12) k 0) ((i : Nat) : Int))) = (1 : Int))))) (by kernel_rfl) rfl trivial ?_ ?_
                · intro h81
                  refine W.K cok tab9 hnt [] [2] (⟨[(2, .b false)], [], [999]⟩)
                    (True ∧ True) (by kernel_rfl)
                    ⟨trivial, trivial⟩ ?_
                  refine W.ret (blockQ_ret (thenQ_ret (thenQ_ret (blockQ_ret (blockQ_ret (thenQ_ret (thenQ_ret (blockQ_ret (thenQ_ret ?_)))))))))
                  exact endQ_ret (.b false) (by kernel_rfl) (@cast ((.bool false : Value) = .bool true) _ (by kernel_rfl) (congrArg Value.bool (by exact absurd h81 (by rw [own_law2 hv (by omega) (by omega)]; simp))))
                · intro n81
                  refine W.skip (blockQ_normal (thenQ_normal ?_))
                  refine W.L cok tab9 hnt [] (⟨[(3, .sl (.calls g12)), (4, .sl (.ints (ownAhead g12))), (5, .sl (.ints (aheadOf g12))), (6, .i ((i : Nat) : Int)), (7, .i (((k + 1) : Nat) : Int)), (54, .i ((k : Nat) : Int)), (55, .i (((k + 1) : Nat) : Int)), (81, .b ((decide (((List.getD g12 i default).proc) = ((List.getD g12 k default).proc))) != (decide (((bitOf (List.getD (ownAhead g12) i 0) ((k : Nat) : Int)) + (bitOf (List.getD (ownAhead g12) k 0) ((i : Nat) : Int))) = (1 : Int)))))], [], [999]⟩)
                    (True ∧ ((True ∧ (True ∧ (Fits .i64 (((k + 1) : Nat) : Int)))) ∧ (True ∧ True))) (by kernel_rfl)
                    ⟨trivial, ⟨⟨trivial, ⟨trivial, (by exact fits_i64 (by omega) (by omega))⟩⟩, ⟨trivial, trivial⟩⟩⟩ ?_
                  refine thenQ_normal ?_
                  refine ⟨((k + 1)), (show ((k + 1) ≤ i) from (by first | assumption | omega | rfl | (intro _ hjj; omega) | (simp; done) | (simp; omega))), (show i - (k + 1) < i - k from (by first | omega | (simp_all; omega))), ?_⟩
                  exact Sub.of [] (@cast ((((.calls g12 : Dat) = .calls g12) ∧ (((.ints (ownAhead g12) : Dat) = .ints (ownAhead g12)) ∧ (((.ints (aheadOf g12) : Dat) = .ints (aheadOf g12)) ∧ (((.int .i64 ((i : Nat) : Int) : Value) = .int .i64 ((i : Nat) : Int)) ∧ (((.int .i64 (((k + 1) : Nat) : Int) : Value) = .int .i64 (((k + 1) : Nat) : Int)) ∧ True))))) ∧ (True ∧ ((true = true) ∧ (true = true)))) _ (by kernel_rfl) ⟨⟨rfl, ⟨rfl, ⟨rfl, ⟨rfl, ⟨rfl, trivial⟩⟩⟩⟩⟩, ⟨trivial, ⟨rfl, rfl⟩⟩⟩)
              · intro n53
                refine W.exit (thenQ_exit (thenQ_exit (blockQ_hit ?_)))
                refine blockQ_normal (thenQ_normal ?_)
                refine W.L cok tab9 hnt [] (⟨[(3, .sl (.calls g12)), (4, .sl (.ints (ownAhead g12))), (5, .sl (.ints (aheadOf g12))), (6, .i (((i + 1) : Nat) : Int)), (7, .i ((k : Nat) : Int)), (35, .i ((i : Nat) : Int)), (36, .i (((i + 1) : Nat) : Int)), (53, .b (decide (((k : Nat) : Int) < ((i : Nat) : Int))))], [], [999]⟩)
                  (True ∧ ((True ∧ (True ∧ (Fits .i64 (((i + 1) : Nat) : Int)))) ∧ (True ∧ True))) (by kernel_rfl)
                  ⟨trivial, ⟨⟨trivial, ⟨trivial, (by exact fits_i64 (by omega) (by omega))⟩⟩, ⟨trivial, trivial⟩⟩⟩ ?_
                refine thenQ_normal ?_
                refine ⟨((i + 1)), (show ((i + 1) ≤ g12.length) from (by first | assumption | omega | rfl | (intro _ hjj; omega) | (simp; done) | (simp; omega))), (show g12.length - (i + 1) < g12.length - i from (by first | omega | (simp_all; omega))), ?_⟩
                exact Sub.of [] (@cast ((((.calls g12 : Dat) = .calls g12) ∧ (((.ints (ownAhead g12) : Dat) = .ints (ownAhead g12)) ∧ (((.ints (aheadOf g12) : Dat) = .ints (aheadOf g12)) ∧ (((.int .i64 (((i + 1) : Nat) : Int) : Value) = .int .i64 (((i + 1) : Nat) : Int)) ∧ True)))) ∧ (True ∧ ((true = true) ∧ (true = true)))) _ (by kernel_rfl) ⟨⟨rfl, ⟨rfl, ⟨rfl, ⟨rfl, trivial⟩⟩⟩⟩, ⟨trivial, ⟨rfl, rfl⟩⟩⟩)
        · intro n34
          refine W.exit (thenQ_exit (thenQ_exit (blockQ_hit ?_)))
          refine thenQ_normal ?_
          refine W.K cok tab9 hnt [] [2] (⟨[(2, .b (decide ((((List.length (ownAhead g12)) : Nat) : Int) = (((List.length g12) : Nat) : Int))))], [], [999]⟩)
            (True ∧ (True ∧ (True ∧ (True ∧ ((True ∧ (True ∧ True)) ∧ (True ∧ True)))))) (by kernel_rfl)
            ⟨trivial, ⟨trivial, ⟨trivial, ⟨trivial, ⟨⟨trivial, ⟨trivial, trivial⟩⟩, ⟨trivial, trivial⟩⟩⟩⟩⟩⟩ ?_
          refine W.ret ?_
          exact endQ_ret (.b (decide ((((List.length (ownAhead g12)) : Nat) : Int) = (((List.length g12) : Nat) : Int)))) (by kernel_rfl) (@cast ((.bool (decide ((((List.length (ownAhead g12)) : Nat) : Int) = (((List.length g12) : Nat) : Int))) : Value) = .bool true) _ (by kernel_rfl) (congrArg Value.bool (by simp [hol])))
theorem ent9 : Entr prog 9 := ⟨_, func9, rfl, by decide⟩

end Go.Proofs.Try
