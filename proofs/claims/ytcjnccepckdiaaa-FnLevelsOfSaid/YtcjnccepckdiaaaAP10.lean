import Derived.Test.YtcjnccepckdiaaaAS
import Derived.Test.YtcjnccepckdiaaaM4
import Derived.Test.YtcjnccepckdiaaaAP33
import Derived.Test.YtcjnccepckdiaaaAP47
import Derived.Test.YtcjnccepckdiaaaAP23
import Derived.Test.YtcjnccepckdiaaaAP19
import Derived.Test.YtcjnccepckdiaaaAP40
import Derived.Test.YtcjnccepckdiaaaAP42
import Derived.Test.YtcjnccepckdiaaaAP46
set_option linter.unusedSimpArgs false
set_option linter.unusedVariables false
namespace Go.Proofs.Try
open Go.Ab Go.RowKit
/-- laws.FnLevelsOf -/
def fs10 : FnS := fnS [.s .bytes] [.bytes] (fun _ (code, _) => (.b true, [], True))
abbrev T10 : Tab := lk [(19, fs19), (23, fs23), (33, fs33), (40, fs40), (42, fs42), (47, fs47)]
theorem tab10 : TabOK prog T10 := (TabOK.cons ok19 ent19 (TabOK.cons ok23 ent23 (TabOK.cons ok33 ent33 (TabOK.cons ok40 ent40 (TabOK.cons ok42 ent42 (TabOK.cons ok47 ent47 TabOK.nil))))))
set_option maxRecDepth 100000 in
set_option maxHeartbeats 1000000 in
theorem ok10 : FnOK prog 10 fs10 := by
  refine FnOK.mk func10 rfl rfl rfl ?_
  rintro fl ⟨(code : List UInt8), _⟩ hpre F hnt0 _
  have hnt : F.nt = 80 := hnt0.trans ntmps10
  clear hpre
  refine W.to (⟨[(0, .sl (.bytes code))], [], [999]⟩) rfl ?_
  refine W.lenOf 0 (.bytes code) (by kernel_rfl) ?_
  intro hl_code; replace hl_code : List.length code ≤ 9223372036854775807 := hl_code
  refine W.K cok tab10 hnt [] [0] (⟨[(0, .sl (.bytes code))], [], [999]⟩)
    (True ∧ True) (by kernel_rfl)
    ⟨trivial, trivial⟩ ?_
  refine W.seq ?_
  refine W.K cok tab10 hnt [] [0, 11] (⟨[(0, .sl (.bytes code)), (11, .b (decide ((1048576 : Int) < (((List.length code) : Nat) : Int))))], [], [999]⟩)
    (True ∧ (True ∧ ((True ∧ (True ∧ True)) ∧ True))) (by kernel_rfl)
    ⟨trivial, ⟨trivial, ⟨⟨trivial, ⟨trivial, trivial⟩⟩, trivial⟩⟩⟩ ?_
  refine W.ifP ((1048576 : Int) < (((List.length code) : Nat) : Int)) (.b (decide ((1048576 : Int) < (((List.length code) : Nat) : Int)))) (by kernel_rfl) rfl trivial ?_ ?_
  · intro h11
    refine W.K cok tab10 hnt [] [2] (⟨[(2, .b true)], [], [999]⟩)
      (True ∧ True) (by kernel_rfl)
      ⟨trivial, trivial⟩ ?_
    refine W.ret (thenQ_ret ?_)
    exact endQ_ret (.b true) (by kernel_rfl) (@cast ((.bool true : Value) = .bool true) _ (by kernel_rfl) rfl)
  · intro n11
    refine W.skip (thenQ_normal ?_)
    refine W.seq (W.wi ?_)
    refine WI.run cok tab10 hnt [] 1 (⟨[(0, .sl (.bytes code)), (11, .b (decide ((1048576 : Int) < (((List.length code) : Nat) : Int)))), (12, .sl (.bytes code))], [], [999]⟩)
      (True ∧ True) (by kernel_rfl)
      ⟨trivial, trivial⟩ ?_
    refine WI.to (⟨[(0, .sl (.bytes code)), (11, .b (decide ((1048576 : Int) < (((List.length code) : Nat) : Int)))), (12, .sl (.bytes code))], [], [999]⟩) 1 rfl rfl ?_
    refine WI.call [.sl (.bytes code)] [] [.sl (.bytes code)] [.sl (.bytes code)] none (True) (True ∧ True) none rok46 ent46 hnt rfl rfl (wanted_none rfl) (by kernel_rfl) (by kernel_rfl) (by kernel_rfl) ⟨trivial, ⟨trivial, trivial⟩⟩
      (@cast (True) _ (by kernel_rfl) trivial) (Or.inl rfl) rfl ?_
    rintro r bl fx2 hR
    obtain ⟨g13, hq13, rfl, rfl, rfl⟩ := (@cast _ (∃ x : (List CallD), ((x.length ≤ 6)) ∧ r = (.sl (.calls x)) ∧ bl = ([]) ∧ fx2 = ([])) (by kernel_rfl) hR)
    clear hR
    replace hq13 : (g13.length ≤ 6) := hq13
    have hg13 := hq13
    refine ⟨by kernel_rfl, WI.to (⟨[(0, .sl (.bytes code)), (11, .b (decide ((1048576 : Int) < (((List.length code) : Nat) : Int)))), (12, .sl (.bytes code)), (13, .sl (.calls g13))], [], [999]⟩) 2 (by kernel_rfl) rfl ?_⟩
    refine WI.run cok tab10 hnt [] 1 (⟨[(0, .sl (.bytes code)), (3, .sl (.calls g13)), (11, .b (decide ((1048576 : Int) < (((List.length code) : Nat) : Int)))), (12, .sl (.bytes code)), (13, .sl (.calls g13))], [], [999]⟩)
      (True ∧ True) (by kernel_rfl)
      ⟨trivial, trivial⟩ ?_
    refine WI.to (⟨[(0, .sl (.bytes code)), (3, .sl (.calls g13)), (11, .b (decide ((1048576 : Int) < (((List.length code) : Nat) : Int)))), (12, .sl (.bytes code)), (13, .sl (.calls g13))], [], [999]⟩) 3 rfl rfl ?_
    refine WI.nil rfl (thenQ_normal ?_)
    refine W.keepE [3] [(3, .sl (.calls g13))] (by kernel_rfl) ?_
    refine W.to (⟨[(3, .sl (.calls g13))], [], [999]⟩) rfl ?_
    refine W.K cok tab10 hnt [] [3, 4] (⟨[(3, .sl (.calls g13)), (4, .sl (.ints (levelsOf g13)))], [], [999]⟩)
      (True ∧ ((True ∧ ((True ∧ True) ∧ True)) ∧ (True ∧ True))) (by kernel_rfl)
      ⟨trivial, ⟨⟨trivial, ⟨⟨trivial, trivial⟩, trivial⟩⟩, ⟨trivial, trivial⟩⟩⟩ ?_
    refine W.seq ?_
    refine W.K cok tab10 hnt [] [3, 4, 25] (⟨[(3, .sl (.calls g13)), (4, .sl (.ints (levelsOf g13))), (25, .b ((!(decide ((levelsOf g13) = (levelsOf g13)))) || (!(validHistory g13))))], [], [999]⟩)
      (True ∧ (True ∧ ((True ∧ ((True ∧ True) ∧ True)) ∧ ((True ∧ ((True ∧ (True ∧ True)) ∧ True)) ∧ (True ∧ (True ∧ (((!(!(decide ((levelsOf g13) = (levelsOf g13))))) = true → True) ∧ (((!(!(decide ((levelsOf g13) = (levelsOf g13))))) = true → (True ∧ (((((!(!(decide ((levelsOf g13) = (levelsOf g13))))) = true) ∧ True) ∧ True) ∧ True))) ∧ (((!(!(decide ((levelsOf g13) = (levelsOf g13))))) = true → (((!(!(decide ((levelsOf g13) = (levelsOf g13))))) = true) ∧ True)) ∧ ((True ∧ (((!(decide ((levelsOf g13) = (levelsOf g13)))) = true → True) ∧ ((!(decide ((levelsOf g13) = (levelsOf g13)))) = false → ((!(!(decide ((levelsOf g13) = (levelsOf g13))))) = true) ∧ True))) ∧ True)))))))))) (by kernel_rfl)
      ⟨trivial, ⟨trivial, ⟨⟨trivial, ⟨⟨trivial, trivial⟩, trivial⟩⟩, ⟨⟨trivial, ⟨⟨trivial, ⟨trivial, trivial⟩⟩, trivial⟩⟩, ⟨trivial, ⟨trivial, ⟨(fun _ => trivial), ⟨(fun hG => ⟨trivial, ⟨⟨⟨hG, trivial⟩, trivial⟩, trivial⟩⟩), ⟨(fun hG => ⟨hG, trivial⟩), ⟨⟨trivial, ⟨(fun _ => trivial), (fun hp => ⟨(not_t hp), trivial⟩)⟩⟩, trivial⟩⟩⟩⟩⟩⟩⟩⟩⟩⟩ ?_
    refine W.if' ((!(decide ((levelsOf g13) = (levelsOf g13)))) || (!(validHistory g13))) (.b ((!(decide ((levelsOf g13) = (levelsOf g13)))) || (!(validHistory g13)))) (by kernel_rfl) rfl trivial ?_ ?_
    · intro h25
      refine W.K cok tab10 hnt [] [2] (⟨[(2, .b (decide ((levelsOf g13) = (levelsOf g13))))], [], [999]⟩)
        (True ∧ (True ∧ ((True ∧ ((True ∧ True) ∧ True)) ∧ ((True ∧ ((True ∧ (True ∧ True)) ∧ True)) ∧ (True ∧ True))))) (by kernel_rfl)
        ⟨trivial, ⟨trivial, ⟨⟨trivial, ⟨⟨trivial, trivial⟩, trivial⟩⟩, ⟨⟨trivial, ⟨⟨trivial, ⟨trivial, trivial⟩⟩, trivial⟩⟩, ⟨trivial, trivial⟩⟩⟩⟩⟩ ?_
      refine W.ret (thenQ_ret ?_)
      exact endQ_ret (.b (decide ((levelsOf g13) = (levelsOf g13)))) (by kernel_rfl) (@cast ((.bool (decide ((levelsOf g13) = (levelsOf g13))) : Value) = .bool true) _ (by kernel_rfl) (congrArg Value.bool (by simp)))
    · intro n25
      have hv : validHistory g13 = true := not_g (or_r n25)
      have hv6 := (valid_iff.1 hv).1
      have hrl := ahead_len hv
      have hll : (levelsOf g13).length = g13.length := by rw [levels_eq hv, levOf_len]
      have hlb : ∀ j, j < g13.length → (levelsOf g13).getD j 0 = lev g13 j := fun j hj => by rw [levels_eq hv]; exact levOf_get hj
      refine W.skip (thenQ_normal ?_)
      refine W.K cok tab10 hnt [] [3, 4, 5] (⟨[(3, .sl (.calls g13)), (4, .sl (.ints (levelsOf g13))), (5, .sl (.ints (aheadOf g13)))], [], [999]⟩)
        (True ∧ ((True ∧ ((True ∧ True) ∧ True)) ∧ (True ∧ True))) (by kernel_rfl)
        ⟨trivial, ⟨⟨trivial, ⟨⟨trivial, trivial⟩, trivial⟩⟩, ⟨trivial, trivial⟩⟩⟩ ?_
      refine W.seq ?_
      refine W.K cok tab10 hnt [] [3, 4, 5, 6] (⟨[(3, .sl (.calls g13)), (4, .sl (.ints (levelsOf g13))), (5, .sl (.ints (aheadOf g13))), (6, .i (0 : Int))], [], [999]⟩)
        (True ∧ True) (by kernel_rfl)
        ⟨trivial, trivial⟩ ?_
      refine W.block ?_
      refine W.loop (ι := Nat) (fun (i : Nat) => (⟨[(3, .sl (.calls g13)), (4, .sl (.ints (levelsOf g13))), (5, .sl (.ints (aheadOf g13))), (6, .i ((i : Nat) : Int))], [], [999]⟩ : St))
        (fun (i : Nat) => (i ≤ g13.length))
        (fun (i : Nat) => (g13.length - i : Nat)) (0) ?_ ?_ ?_
      · exact (show (0 ≤ g13.length) from (by first | assumption | omega | rfl | (intro _ hjj; omega) | (simp; done) | (simp; omega)))
      · exact Sub.of [] (@cast ((((.calls g13 : Dat) = .calls g13) ∧ (((.ints (levelsOf g13) : Dat) = .ints (levelsOf g13)) ∧ (((.ints (aheadOf g13) : Dat) = .ints (aheadOf g13)) ∧ (((.int .i64 (0 : Int) : Value) = .int .i64 ((0 : Nat) : Int)) ∧ True)))) ∧ (True ∧ ((true = true) ∧ (true = true)))) _ (by kernel_rfl) ⟨⟨rfl, ⟨rfl, ⟨rfl, ⟨(congrArg (Value.int .i64) (by first | rfl | omega | assumption | simp | simp_all)), trivial⟩⟩⟩⟩, ⟨trivial, ⟨rfl, rfl⟩⟩⟩)
      · rintro i hC0
        have hC : (i ≤ g13.length) := hC0
        clear hC0
        obtain hi := hC
        refine W.to (⟨[(3, .sl (.calls g13)), (4, .sl (.ints (levelsOf g13))), (5, .sl (.ints (aheadOf g13))), (6, .i ((i : Nat) : Int))], [], [999]⟩) rfl ?_
        refine W.seq ?_
        refine W.K cok tab10 hnt [] [3, 4, 5, 6, 35] (⟨[(3, .sl (.calls g13)), (4, .sl (.ints (levelsOf g13))), (5, .sl (.ints (aheadOf g13))), (6, .i ((i : Nat) : Int)), (35, .b (decide (((i : Nat) : Int) < (((List.length g13) : Nat) : Int))))], [], [999]⟩)
          (True ∧ (True ∧ (True ∧ ((True ∧ (True ∧ True)) ∧ True)))) (by kernel_rfl)
          ⟨trivial, ⟨trivial, ⟨trivial, ⟨⟨trivial, ⟨trivial, trivial⟩⟩, trivial⟩⟩⟩⟩ ?_
        refine W.ifP (((i : Nat) : Int) < (((List.length g13) : Nat) : Int)) (.b (decide (((i : Nat) : Int) < (((List.length g13) : Nat) : Int)))) (by kernel_rfl) rfl trivial ?_ ?_
        · intro h35
          refine W.skip (thenQ_normal ?_)
          refine W.seq ?_
          refine W.block ?_
          refine W.K cok tab10 hnt [] [3, 4, 5, 6, 7] (⟨[(3, .sl (.calls g13)), (4, .sl (.ints (levelsOf g13))), (5, .sl (.ints (aheadOf g13))), (6, .i ((i : Nat) : Int)), (7, .b (decide ((List.getD (levelsOf g13) i 0) = (0 : Int))))], [], [999]⟩)
            (True ∧ (True ∧ ((True ∧ (True ∧ ((0 ≤ ((i : Nat) : Int)) ∧ (((i : Nat) : Int) < (((List.length (levelsOf g13)) : Nat) : Int))))) ∧ (True ∧ ((True ∧ (True ∧ True)) ∧ (True ∧ True)))))) (by kernel_rfl)
            ⟨trivial, ⟨trivial, ⟨⟨trivial, ⟨trivial, ⟨(by omega), (by omega)⟩⟩⟩, ⟨trivial, ⟨⟨trivial, ⟨trivial, trivial⟩⟩, ⟨trivial, trivial⟩⟩⟩⟩⟩⟩ ?_
          refine W.seq ?_
          refine W.K cok tab10 hnt [] [3, 4, 5, 6, 7, 8] (⟨[(3, .sl (.calls g13)), (4, .sl (.ints (levelsOf g13))), (5, .sl (.ints (aheadOf g13))), (6, .i ((i : Nat) : Int)), (7, .b (decide ((List.getD (levelsOf g13) i 0) = (0 : Int)))), (8, .i (0 : Int))], [], [999]⟩)
            (True ∧ True) (by kernel_rfl)
            ⟨trivial, trivial⟩ ?_
          refine W.block ?_
          refine W.loop (ι := Bool × Nat) (fun (x : Bool × Nat) => match x with | (met, k) => (⟨[(3, .sl (.calls g13)), (4, .sl (.ints (levelsOf g13))), (5, .sl (.ints (aheadOf g13))), (6, .i ((i : Nat) : Int)), (7, .b met), (8, .i ((k : Nat) : Int))], [], [999]⟩ : St))
            (fun (x : Bool × Nat) => match x with | (met, k) => (k ≤ g13.length) ∧ (met = true ↔ (lev g13 i = 0 ∨ ∃ j, j < k ∧ isBefore (callAt g13 j) (callAt g13 i) = true ∧ lev g13 j + 1 = lev g13 i)))
            (fun (x : Bool × Nat) => match x with | (met, k) => (g13.length - k : Nat)) ((decide ((List.getD (levelsOf g13) i 0) = (0 : Int))), 0) ?_ ?_ ?_
          · exact (show (0 ≤ g13.length) ∧ ((decide ((List.getD (levelsOf g13) i 0) = (0 : Int))) = true ↔ (lev g13 i = 0 ∨ ∃ j, j < 0 ∧ isBefore (callAt g13 j) (callAt g13 i) = true ∧ lev g13 j + 1 = lev g13 i)) from ⟨(by first | assumption | omega | rfl | (intro _ hjj; omega) | (simp; done) | (simp; omega)), (by rw [hlb i (by omega)]; simp)⟩)
          · exact Sub.of [] (@cast ((((.calls g13 : Dat) = .calls g13) ∧ (((.ints (levelsOf g13) : Dat) = .ints (levelsOf g13)) ∧ (((.ints (aheadOf g13) : Dat) = .ints (aheadOf g13)) ∧ (((.int .i64 ((i : Nat) : Int) : Value) = .int .i64 ((i : Nat) : Int)) ∧ (((.bool (decide ((List.getD (levelsOf g13) i 0) = (0 : Int))) : Value) = .bool (decide ((List.getD (levelsOf g13) i 0) = (0 : Int)))) ∧ (((.int .i64 (0 : Int) : Value) = .int .i64 ((0 : Nat) : Int)) ∧ True)))))) ∧ (True ∧ ((true = true) ∧ (true = true)))) _ (by kernel_rfl) ⟨⟨rfl, ⟨rfl, ⟨rfl, ⟨rfl, ⟨rfl, ⟨(congrArg (Value.int .i64) (by first | rfl | omega | assumption | simp | simp_all)), trivial⟩⟩⟩⟩⟩⟩, ⟨trivial, ⟨rfl, rfl⟩⟩⟩)
          · rintro ⟨met, k⟩ hC0
            have hC : (k ≤ g13.length) ∧ (met = true ↔ (lev g13 i = 0 ∨ ∃ j, j < k ∧ isBefore (callAt g13 j) (callAt g13 i) = true ∧ lev g13 j + 1 = lev g13 i)) := hC0
            clear hC0
            obtain ⟨hk, hm⟩ := hC
            refine W.to (⟨[(3, .sl (.calls g13)), (4, .sl (.ints (levelsOf g13))), (5, .sl (.ints (aheadOf g13))), (6, .i ((i : Nat) : Int)), (7, .b met), (8, .i ((k : Nat) : Int))], [], [999]⟩) rfl ?_
            have hli := hlb i (by omega)
            refine W.seq ?_
            refine W.K cok tab10 hnt [] [3, 4, 5, 6, 7, 8, 46] (⟨[(3, .sl (.calls g13)), (4, .sl (.ints (levelsOf g13))), (5, .sl (.ints (aheadOf g13))), (6, .i ((i : Nat) : Int)), (7, .b met), (8, .i ((k : Nat) : Int)), (46, .b (decide (((k : Nat) : Int) < (((List.length g13) : Nat) : Int))))], [], [999]⟩)
              (True ∧ (True ∧ (True ∧ ((True ∧ (True ∧ True)) ∧ True)))) (by kernel_rfl)
              ⟨trivial, ⟨trivial, ⟨trivial, ⟨⟨trivial, ⟨trivial, trivial⟩⟩, trivial⟩⟩⟩⟩ ?_
            refine W.ifP (((k : Nat) : Int) < (((List.length g13) : Nat) : Int)) (.b (decide (((k : Nat) : Int) < (((List.length g13) : Nat) : Int)))) (by kernel_rfl) rfl trivial ?_ ?_
            · intro h46
              refine W.skip (thenQ_normal ?_)
              refine W.seq ?_
              refine W.block ?_
              refine W.K cok tab10 hnt [] [3, 4, 5, 6, 7, 8, 55] (⟨[(3, .sl (.calls g13)), (4, .sl (.ints (levelsOf g13))), (5, .sl (.ints (aheadOf g13))), (6, .i ((i : Nat) : Int)), (7, .b met), (8, .i ((k : Nat) : Int)), (55, .b (decide ((bitOf (List.getD (aheadOf g13) i 0) ((k : Nat) : Int)) = (1 : Int))))], [], [999]⟩)
                (True ∧ (True ∧ ((True ∧ (True ∧ ((0 ≤ ((i : Nat) : Int)) ∧ (((i : Nat) : Int) < (((List.length (aheadOf g13)) : Nat) : Int))))) ∧ (True ∧ (True ∧ ((True ∧ ((True ∧ (True ∧ True)) ∧ ((((k : Nat) : Int) ≤ 60) ∧ (0 ≤ (List.getD (aheadOf g13) i 0) ∧ (List.getD (aheadOf g13) i 0) ≤ 4611686018427387904)))) ∧ ((True ∧ (True ∧ True)) ∧ True))))))) (by kernel_rfl)
                ⟨trivial, ⟨trivial, ⟨⟨trivial, ⟨trivial, ⟨(by omega), (by omega)⟩⟩⟩, ⟨trivial, ⟨trivial, ⟨⟨trivial, ⟨⟨trivial, ⟨trivial, trivial⟩⟩, ⟨(by omega), (by exact ahead_bnd hv _)⟩⟩⟩, ⟨⟨trivial, ⟨trivial, trivial⟩⟩, trivial⟩⟩⟩⟩⟩⟩⟩ ?_
              refine W.ifP ((bitOf (List.getD (aheadOf g13) i 0) ((k : Nat) : Int)) = (1 : Int)) (.b (decide ((bitOf (List.getD (aheadOf g13) i 0) ((k : Nat) : Int)) = (1 : Int)))) (by kernel_rfl) rfl trivial ?_ ?_
              · intro h55
                refine W.seq ?_
                refine W.KA cok tab10 hnt [] [3, 4, 5, 6, 7, 8, 64] (⟨[(3, .sl (.calls g13)), (4, .sl (.ints (levelsOf g13))), (5, .sl (.ints (aheadOf g13))), (6, .i ((i : Nat) : Int)), (7, .b met), (8, .i ((k : Nat) : Int)), (64, .b (decide ((List.getD (levelsOf g13) i 0) ≤ (List.getD (levelsOf g13) k 0))))], [], [999]⟩)
                  (True ∧ (True ∧ ((True ∧ (True ∧ ((0 ≤ ((k : Nat) : Int)) ∧ (((k : Nat) : Int) < (((List.length (levelsOf g13)) : Nat) : Int))))) ∧ (True ∧ (True ∧ (True ∧ ((True ∧ (True ∧ ((0 ≤ ((i : Nat) : Int)) ∧ (((i : Nat) : Int) < (((List.length (levelsOf g13)) : Nat) : Int))))) ∧ (True ∧ ((True ∧ (True ∧ True)) ∧ True))))))))) (by kernel_rfl) (by kernel_rfl)
                  ⟨trivial, ⟨trivial, ⟨⟨trivial, ⟨trivial, ⟨(by omega), (by omega)⟩⟩⟩, ⟨trivial, ⟨trivial, ⟨trivial, ⟨⟨trivial, ⟨trivial, ⟨(by omega), (by omega)⟩⟩⟩, ⟨trivial, ⟨⟨trivial, ⟨trivial, trivial⟩⟩, trivial⟩⟩⟩⟩⟩⟩⟩⟩⟩ ?_
                refine W.ifP ((List.getD (levelsOf g13) i 0) ≤ (List.getD (levelsOf g13) k 0)) (.b (decide ((List.getD (levelsOf g13) i 0) ≤ (List.getD (levelsOf g13) k 0)))) (by kernel_rfl) rfl trivial ?_ ?_
                · intro h64
                  refine W.K cok tab10 hnt [] [2] (⟨[(2, .b false)], [], [999]⟩)
                    (True ∧ True) (by kernel_rfl)
                    ⟨trivial, trivial⟩ ?_
                  refine W.ret (thenQ_ret (blockQ_ret (thenQ_ret (thenQ_ret (blockQ_ret (thenQ_ret (blockQ_ret (thenQ_ret (thenQ_ret (blockQ_ret (thenQ_ret ?_)))))))))))
                  exact endQ_ret (.b false) (by kernel_rfl) (@cast ((.bool false : Value) = .bool true) _ (by kernel_rfl) (congrArg Value.bool (by exact (met_less hv (i := i) (k := k) (by omega) (by omega) h55 (by rw [← hlb i (by omega), ← hlb k (by omega)]; exact h64)).elim)))
                · intro n64
                  refine W.skip (thenQ_normal ?_)
                  refine W.LA cok tab10 hnt [] (⟨[(3, .sl (.calls g13)), (4, .sl (.ints (levelsOf g13))), (5, .sl (.ints (aheadOf g13))), (6, .i ((i : Nat) : Int)), (7, .b (met || (decide (((List.getD (levelsOf g13) k 0) + (1 : Int)) = (List.getD (levelsOf g13) i 0))))), (8, .i ((k : Nat) : Int)), (64, .b (decide ((List.getD (levelsOf g13) i 0) ≤ (List.getD (levelsOf g13) k 0)))), (65, .b met), (66, .b met), (67, .g (!met) (.sl (.ints (levelsOf g13)))), (68, .g (!met) (.i ((k : Nat) : Int))), (69, .g (!met) (.ep [.i (List.getD (levelsOf g13) k 0)])), (70, .g (!met) (.i (List.getD (levelsOf g13) k 0))), (71, .g (!met) (.i ((List.getD (levelsOf g13) k 0) + (1 : Int)))), (72, .g (!met) (.sl (.ints (levelsOf g13)))), (73, .g (!met) (.i ((i : Nat) : Int))), (74, .g (!met) (.ep [.i (List.getD (levelsOf g13) i 0)])), (75, .g (!met) (.i (List.getD (levelsOf g13) i 0))), (76, .g (!met) (.b (decide (((List.getD (levelsOf g13) k 0) + (1 : Int)) = (List.getD (levelsOf g13) i 0))))), (77, .b (met || (decide (((List.getD (levelsOf g13) k 0) + (1 : Int)) = (List.getD (levelsOf g13) i 0)))))], [], [999]⟩)
                    (True ∧ (True ∧ (((!met) = true → True) ∧ (((!met) = true → True) ∧ (((!met) = true → ((((!met) = true) ∧ True) ∧ ((((!met) = true) ∧ True) ∧ ((0 ≤ ((k : Nat) : Int)) ∧ (((k : Nat) : Int) < (((List.length (levelsOf g13)) : Nat) : Int)))))) ∧ (((!met) = true → (((!met) = true) ∧ True)) ∧ (((!met) = true → ((((!met) = true) ∧ True) ∧ (True ∧ (Fits .i64 ((List.getD (levelsOf g13) k 0) + (1 : Int)))))) ∧ (((!met) = true → True) ∧ (((!met) = true → True) ∧ (((!met) = true → ((((!met) = true) ∧ True) ∧ ((((!met) = true) ∧ True) ∧ ((0 ≤ ((i : Nat) : Int)) ∧ (((i : Nat) : Int) < (((List.length (levelsOf g13)) : Nat) : Int)))))) ∧ (((!met) = true → (((!met) = true) ∧ True)) ∧ (((!met) = true → ((((!met) = true) ∧ True) ∧ ((((!met) = true) ∧ True) ∧ True))) ∧ ((True ∧ ((met = true → True) ∧ (met = false → ((!met) = true) ∧ True))) ∧ (True ∧ True)))))))))))))) (by kernel_rfl) (by kernel_rfl)
                    ⟨trivial, ⟨trivial, ⟨(fun _ => trivial), ⟨(fun _ => trivial), ⟨(fun hG => ⟨⟨hG, trivial⟩, ⟨⟨hG, trivial⟩, ⟨(by omega), (by omega)⟩⟩⟩), ⟨(fun hG => ⟨hG, trivial⟩), ⟨(fun hG => ⟨⟨hG, trivial⟩, ⟨trivial, (by rw [hlb k (by omega)]; have := lev_bnd g13 k; exact fits_i64 (by omega) (by omega))⟩⟩), ⟨(fun _ => trivial), ⟨(fun _ => trivial), ⟨(fun hG => ⟨⟨hG, trivial⟩, ⟨⟨hG, trivial⟩, ⟨(by omega), (by omega)⟩⟩⟩), ⟨(fun hG => ⟨hG, trivial⟩), ⟨(fun hG => ⟨⟨hG, trivial⟩, ⟨⟨hG, trivial⟩, trivial⟩⟩), ⟨⟨trivial, ⟨(fun _ => trivial), (fun hp => ⟨(not_t hp), trivial⟩)⟩⟩, ⟨trivial, trivial⟩⟩⟩⟩⟩⟩⟩⟩⟩⟩⟩⟩⟩⟩ ?_
                  refine blockQ_normal (thenQ_normal ?_)
                  refine W.L cok tab10 hnt [] (⟨[(3, .sl (.calls g13)), (4, .sl (.ints (levelsOf g13))), (5, .sl (.ints (aheadOf g13))), (6, .i ((i : Nat) : Int)), (7, .b (met || (decide (((List.getD (levelsOf g13) k 0) + (1 : Int)) = (List.getD (levelsOf g13) i 0))))), (8, .i (((k + 1) : Nat) : Int)), (47, .i ((k : Nat) : Int)), (48, .i (((k + 1) : Nat) : Int)), (64, .b (decide ((List.getD (levelsOf g13) i 0) ≤ (List.getD (levelsOf g13) k 0)))), (65, .b met), (66, .b met), (67, .g (!met) (.sl (.ints (levelsOf g13)))), (68, .g (!met) (.i ((k : Nat) : Int))), (69, .g (!met) (.ep [.i (List.getD (levelsOf g13) k 0)])), (70, .g (!met) (.i (List.getD (levelsOf g13) k 0))), (71, .g (!met) (.i ((List.getD (levelsOf g13) k 0) + (1 : Int)))), (72, .g (!met) (.sl (.ints (levelsOf g13)))), (73, .g (!met) (.i ((i : Nat) : Int))), (74, .g (!met) (.ep [.i (List.getD (levelsOf g13) i 0)])), (75, .g (!met) (.i (List.getD (levelsOf g13) i 0))), (76, .g (!met) (.b (decide (((List.getD (levelsOf g13) k 0) + (1 : Int)) = (List.getD (levelsOf g13) i 0))))), (77, .b (met || (decide (((List.getD (levelsOf g13) k 0) + (1 : Int)) = (List.getD (levelsOf g13) i 0)))))], [], [999]⟩)
                    (True ∧ ((True ∧ (True ∧ (Fits .i64 (((k + 1) : Nat) : Int)))) ∧ (True ∧ True))) (by kernel_rfl)
                    ⟨trivial, ⟨⟨trivial, ⟨trivial, (by exact fits_i64 (by omega) (by omega))⟩⟩, ⟨trivial, trivial⟩⟩⟩ ?_
                  refine thenQ_normal ?_
                  refine ⟨((met || (decide (((List.getD (levelsOf g13) k 0) + (1 : Int)) = (List.getD (levelsOf g13) i 0)))), (k + 1)), (show ((k + 1) ≤ g13.length) ∧ ((met || (decide (((List.getD (levelsOf g13) k 0) + (1 : Int)) = (List.getD (levelsOf g13) i 0)))) = true ↔ (lev g13 i = 0 ∨ ∃ j, j < (k + 1) ∧ isBefore (callAt g13 j) (callAt g13 i) = true ∧ lev g13 j + 1 = lev g13 i)) from ⟨(by first | assumption | omega | rfl | (intro _ hjj; omega) | (simp; done) | (simp; omega)), (by first | exact met_skip hm (by omega) (by omega) hv n55 | exact met_step hm (by omega) (by omega) hv h55 hlb)⟩), (show g13.length - (k + 1) < g13.length - k from (by first | omega | (simp_all; omega))), ?_⟩
                  exact Sub.of [] (@cast ((((.calls g13 : Dat) = .calls g13) ∧ (((.ints (levelsOf g13) : Dat) = .ints (levelsOf g13)) ∧ (((.ints (aheadOf g13) : Dat) = .ints (aheadOf g13)) ∧ (((.int .i64 ((i : Nat) : Int) : Value) = .int .i64 ((i : Nat) : Int)) ∧ (((.bool (met || (decide (((List.getD (levelsOf g13) k 0) + (1 : Int)) = (List.getD (levelsOf g13) i 0)))) : Value) = .bool (met || (decide (((List.getD (levelsOf g13) k 0) + (1 : Int)) = (List.getD (levelsOf g13) i 0))))) ∧ (((.int .i64 (((k + 1) : Nat) : Int) : Value) = .int .i64 (((k + 1) : Nat) : Int)) ∧ True)))))) ∧ (True ∧ ((true = true) ∧ (true = true)))) _ (by kernel_rfl) ⟨⟨rfl, ⟨rfl, ⟨rfl, ⟨rfl, ⟨rfl, ⟨rfl, trivial⟩⟩⟩⟩⟩⟩, ⟨trivial, ⟨rfl, rfl⟩⟩⟩)
              · intro n55
                refine W.skip (blockQ_normal (thenQ_normal ?_))
                refine W.L cok tab10 hnt [] (⟨[(3, .sl (.calls g13)), (4, .sl (.ints (levelsOf g13))), (5, .sl (.ints (aheadOf g13))), (6, .i ((i : Nat) : Int)), (7, .b met), (8, .i (((k + 1) : Nat) : Int)), (47, .i ((k : Nat) : Int)), (48, .i (((k + 1) : Nat) : Int)), (55, .b (decide ((bitOf (List.getD (aheadOf g13) i 0) ((k : Nat) : Int)) = (1 : Int))))], [], [999]⟩)
                  (True ∧ ((True ∧ (True ∧ (Fits .i64 (((k + 1) : Nat) : Int)))) ∧ (True ∧ True))) (by kernel_rfl)
                  ⟨trivial, ⟨⟨trivial, ⟨trivial, (by exact fits_i64 (by omega) (by omega))⟩⟩, ⟨trivial, trivial⟩⟩⟩ ?_
                refine thenQ_normal ?_
                refine ⟨(met, (k + 1)), (show ((k + 1) ≤ g13.length) ∧ (met = true ↔ (lev g13 i = 0 ∨ ∃ j, j < (k + 1) ∧ isBefore (callAt g13 j) (callAt g13 i) = true ∧ lev g13 j + 1 = lev g13 i)) from ⟨(by first | assumption | omega | rfl | (intro _ hjj; omega) | (simp; done) | (simp; omega)), (by first | exact met_skip hm (by omega) (by omega) hv n55 | exact met_step hm (by omega) (by omega) hv h55 hlb)⟩), (show g13.length - (k + 1) < g13.length - k from (by first | omega | (simp_all; omega))), ?_⟩
                exact Sub.of [] (@cast ((((.calls g13 : Dat) = .calls g13) ∧ (((.ints (levelsOf g13) : Dat) = .ints (levelsOf g13)) ∧ (((.ints (aheadOf g13) : Dat) = .ints (aheadOf g13)) ∧ (((.int .i64 ((i : Nat) : Int) : Value) = .int .i64 ((i : Nat) : Int)) ∧ (((.bool met : Value) = .bool met) ∧ (((.int .i64 (((k + 1) : Nat) : Int) : Value) = .int .i64 (((k + 1) : Nat) : Int)) ∧ True)))))) ∧ (True ∧ ((true = true) ∧ (true = true)))) _ (by kernel_rfl) ⟨⟨rfl, ⟨rfl, ⟨rfl, ⟨rfl, ⟨rfl, ⟨rfl, trivial⟩⟩⟩⟩⟩⟩, ⟨trivial, ⟨rfl, rfl⟩⟩⟩)
            · intro n46
              refine W.exit (thenQ_exit (thenQ_exit (blockQ_hit ?_)))
              refine thenQ_normal ?_
              refine W.K cok tab10 hnt [] [3, 4, 5, 6, 79] (⟨[(3, .sl (.calls g13)), (4, .sl (.ints (levelsOf g13))), (5, .sl (.ints (aheadOf g13))), (6, .i ((i : Nat) : Int)), (79, .b (!met))], [], [999]⟩)
                (True ∧ (True ∧ True)) (by kernel_rfl)
                ⟨trivial, ⟨trivial, trivial⟩⟩ ?_
              refine W.if' (!met) (.b (!met)) (by kernel_rfl) rfl trivial ?_ ?_
              · intro h79
                refine W.K cok tab10 hnt [] [2] (⟨[(2, .b false)], [], [999]⟩)
                  (True ∧ True) (by kernel_rfl)
                  ⟨trivial, trivial⟩ ?_
                refine W.ret (blockQ_ret (thenQ_ret (thenQ_ret (blockQ_ret (thenQ_ret ?_)))))
                exact endQ_ret (.b false) (by kernel_rfl) (@cast ((.bool false : Value) = .bool true) _ (by kernel_rfl) (congrArg Value.bool (by exact (met_end hv (i := i) (by omega) (by rw [show g13.length = k by omega]; exact hm) (not_f h79)).elim)))
              · intro n79
                refine W.skip (blockQ_normal (thenQ_normal ?_))
                refine W.L cok tab10 hnt [] (⟨[(3, .sl (.calls g13)), (4, .sl (.ints (levelsOf g13))), (5, .sl (.ints (aheadOf g13))), (6, .i (((i + 1) : Nat) : Int)), (36, .i ((i : Nat) : Int)), (37, .i (((i + 1) : Nat) : Int)), (79, .b (!met))], [], [999]⟩)
                  (True ∧ ((True ∧ (True ∧ (Fits .i64 (((i + 1) : Nat) : Int)))) ∧ (True ∧ True))) (by kernel_rfl)
                  ⟨trivial, ⟨⟨trivial, ⟨trivial, (by exact fits_i64 (by omega) (by omega))⟩⟩, ⟨trivial, trivial⟩⟩⟩ ?_
                refine thenQ_normal ?_
                refine ⟨((i + 1)), (show ((i + 1) ≤ g13.length) from (by first | assumption | omega | rfl | (intro _ hjj; omega) | (simp; done) | (simp; omega))), (show g13.length - (i + 1) < g13.length - i from (by first | omega | (simp_all; omega))), ?_⟩
                exact Sub.of [] (@cast ((((.calls g13 : Dat) = .calls g13) ∧ (((.ints (levelsOf g13) : Dat) = .ints (levelsOf g13)) ∧ (((.ints (aheadOf g13) : Dat) = .ints (aheadOf g13)) ∧ (((.int .i64 (((i + 1) : Nat) : Int) : Value) = .int .i64 (((i + 1) : Nat) : Int)) ∧ True)))) ∧ (True ∧ ((true = true) ∧ (true = true)))) _ (by kernel_rfl) ⟨⟨rfl, ⟨rfl, ⟨rfl, ⟨rfl, trivial⟩⟩⟩⟩, ⟨trivial, ⟨rfl, rfl⟩⟩⟩)
        · intro n35
          refine W.exit (thenQ_exit (thenQ_exit (blockQ_hit ?_)))
          refine thenQ_normal ?_
          refine W.K cok tab10 hnt [] [2] (⟨[(2, .b true)], [], [999]⟩)
            (True ∧ True) (by kernel_rfl)
            ⟨trivial, trivial⟩ ?_
          refine W.ret ?_
          exact endQ_ret (.b true) (by kernel_rfl) (@cast ((.bool true : Value) = .bool true) _ (by kernel_rfl) rfl)
theorem ent10 : Entr prog 10 := ⟨_, func10, rfl, by decide⟩

end Go.Proofs.Try
