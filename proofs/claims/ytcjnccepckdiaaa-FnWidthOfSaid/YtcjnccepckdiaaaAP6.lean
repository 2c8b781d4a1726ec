import Derived.Test.YtcjnccepckdiaaaAS
import Derived.Test.YtcjnccepckdiaaaM4
import Derived.Test.YtcjnccepckdiaaaAP31
import Derived.Test.YtcjnccepckdiaaaAP32
import Derived.Test.YtcjnccepckdiaaaAP33
import Derived.Test.YtcjnccepckdiaaaAP30
set_option linter.unusedSimpArgs false
set_option linter.unusedVariables false
namespace Go.Proofs.Try
open Go.Ab Go.RowKit
/-- laws.FnWidthOf -/
def fs6 : FnS := fnS [.s .bytes] [.bytes] (fun _ (code, _) => (.b true, [], True))
abbrev T6 : Tab := lk [(31, fs31), (32, fs32), (33, fs33)]
theorem tab6 : TabOK prog T6 := (TabOK.cons ok31 ent31 (TabOK.cons ok32 ent32 (TabOK.cons ok33 ent33 TabOK.nil)))
set_option maxRecDepth 100000 in
set_option maxHeartbeats 1000000 in
theorem ok6 : FnOK prog 6 fs6 := by
  refine FnOK.mk func6 rfl rfl rfl ?_
  rintro fl ⟨(code : List UInt8), _⟩ hpre F hnt0 _
  have hnt : F.nt = 62 := hnt0.trans ntmps6
  clear hpre
  refine W.to (⟨[(0, .sl (.bytes code))], [], [999]⟩) rfl ?_
  refine W.lenOf 0 (.bytes code) (by kernel_rfl) ?_
  intro hl_code; replace hl_code : List.length code ≤ 9223372036854775807 := hl_code
  refine W.K cok tab6 hnt [] [0] (⟨[(0, .sl (.bytes code))], [], [999]⟩)
    (True ∧ True) (by kernel_rfl)
    ⟨trivial, trivial⟩ ?_
  refine W.seq ?_
  refine W.K cok tab6 hnt [] [0, 10] (⟨[(0, .sl (.bytes code)), (10, .b (decide ((1048576 : Int) < (((List.length code) : Nat) : Int))))], [], [999]⟩)
    (True ∧ (True ∧ ((True ∧ (True ∧ True)) ∧ True))) (by kernel_rfl)
    ⟨trivial, ⟨trivial, ⟨⟨trivial, ⟨trivial, trivial⟩⟩, trivial⟩⟩⟩ ?_
  refine W.ifP ((1048576 : Int) < (((List.length code) : Nat) : Int)) (.b (decide ((1048576 : Int) < (((List.length code) : Nat) : Int)))) (by kernel_rfl) rfl trivial ?_ ?_
  · intro h10
    refine W.K cok tab6 hnt [] [2] (⟨[(2, .b true)], [], [999]⟩)
      (True ∧ True) (by kernel_rfl)
      ⟨trivial, trivial⟩ ?_
    refine W.ret (thenQ_ret ?_)
    exact endQ_ret (.b true) (by kernel_rfl) (@cast ((.bool true : Value) = .bool true) _ (by kernel_rfl) rfl)
  · intro n10
    refine W.skip (thenQ_normal ?_)
    refine W.seq (W.wi ?_)
    refine WI.run cok tab6 hnt [] 1 (⟨[(0, .sl (.bytes code)), (10, .b (decide ((1048576 : Int) < (((List.length code) : Nat) : Int)))), (11, .sl (.bytes code))], [], [999]⟩)
      (True ∧ True) (by kernel_rfl)
      ⟨trivial, trivial⟩ ?_
    refine WI.to (⟨[(0, .sl (.bytes code)), (10, .b (decide ((1048576 : Int) < (((List.length code) : Nat) : Int)))), (11, .sl (.bytes code))], [], [999]⟩) 1 rfl rfl ?_
    refine WI.call [.sl (.bytes code)] [] [.sl (.bytes code)] [.sl (.bytes code)] none (True) (True ∧ True) none rok30 ent30 hnt rfl rfl (wanted_none rfl) (by kernel_rfl) (by kernel_rfl) (by kernel_rfl) ⟨trivial, ⟨trivial, trivial⟩⟩
      (@cast (True) _ (by kernel_rfl) trivial) (Or.inl rfl) rfl ?_
    rintro r bl fx2 hR
    obtain ⟨g12, hq12, rfl, rfl, rfl⟩ := (@cast _ (∃ x : (List CallD), ((x.length ≤ 6)) ∧ r = (.sl (.calls x)) ∧ bl = ([]) ∧ fx2 = ([])) (by kernel_rfl) hR)
    clear hR
    replace hq12 : (g12.length ≤ 6) := hq12
    have hg12 := hq12
    refine ⟨by kernel_rfl, WI.to (⟨[(0, .sl (.bytes code)), (10, .b (decide ((1048576 : Int) < (((List.length code) : Nat) : Int)))), (11, .sl (.bytes code)), (12, .sl (.calls g12))], [], [999]⟩) 2 (by kernel_rfl) rfl ?_⟩
    refine WI.run cok tab6 hnt [] 1 (⟨[(0, .sl (.bytes code)), (3, .sl (.calls g12)), (10, .b (decide ((1048576 : Int) < (((List.length code) : Nat) : Int)))), (11, .sl (.bytes code)), (12, .sl (.calls g12))], [], [999]⟩)
      (True ∧ True) (by kernel_rfl)
      ⟨trivial, trivial⟩ ?_
    refine WI.to (⟨[(0, .sl (.bytes code)), (3, .sl (.calls g12)), (10, .b (decide ((1048576 : Int) < (((List.length code) : Nat) : Int)))), (11, .sl (.bytes code)), (12, .sl (.calls g12))], [], [999]⟩) 3 rfl rfl ?_
    refine WI.nil rfl (thenQ_normal ?_)
    refine W.keepE [3] [(3, .sl (.calls g12))] (by kernel_rfl) ?_
    refine W.to (⟨[(3, .sl (.calls g12))], [], [999]⟩) rfl ?_
    refine W.K cok tab6 hnt [] [3, 4] (⟨[(3, .sl (.calls g12)), (4, .i (widthOf g12))], [], [999]⟩)
      (True ∧ ((True ∧ ((True ∧ True) ∧ True)) ∧ (True ∧ True))) (by kernel_rfl)
      ⟨trivial, ⟨⟨trivial, ⟨⟨trivial, trivial⟩, trivial⟩⟩, ⟨trivial, trivial⟩⟩⟩ ?_
    refine W.seq ?_
    refine W.K cok tab6 hnt [] [3, 4, 22] (⟨[(3, .sl (.calls g12)), (4, .i (widthOf g12)), (22, .b ((decide ((widthOf g12) ≠ (widthOf g12))) || (decide ((widthOf g12) < (0 : Int)))))], [], [999]⟩)
      (True ∧ (True ∧ ((True ∧ ((True ∧ True) ∧ True)) ∧ ((True ∧ (True ∧ True)) ∧ (True ∧ (((!(decide ((widthOf g12) ≠ (widthOf g12)))) = true → True) ∧ (((!(decide ((widthOf g12) ≠ (widthOf g12)))) = true → ((((!(decide ((widthOf g12) ≠ (widthOf g12)))) = true) ∧ True) ∧ (True ∧ True))) ∧ ((True ∧ (((decide ((widthOf g12) ≠ (widthOf g12))) = true → True) ∧ ((decide ((widthOf g12) ≠ (widthOf g12))) = false → ((!(decide ((widthOf g12) ≠ (widthOf g12)))) = true) ∧ True))) ∧ True)))))))) (by kernel_rfl)
      ⟨trivial, ⟨trivial, ⟨⟨trivial, ⟨⟨trivial, trivial⟩, trivial⟩⟩, ⟨⟨trivial, ⟨trivial, trivial⟩⟩, ⟨trivial, ⟨(fun _ => trivial), ⟨(fun hG => ⟨⟨hG, trivial⟩, ⟨trivial, trivial⟩⟩), ⟨⟨trivial, ⟨(fun _ => trivial), (fun hp => ⟨(not_t hp), trivial⟩)⟩⟩, trivial⟩⟩⟩⟩⟩⟩⟩⟩ ?_
    refine W.if' ((decide ((widthOf g12) ≠ (widthOf g12))) || (decide ((widthOf g12) < (0 : Int)))) (.b ((decide ((widthOf g12) ≠ (widthOf g12))) || (decide ((widthOf g12) < (0 : Int))))) (by kernel_rfl) rfl trivial ?_ ?_
    · intro h22
      refine W.K cok tab6 hnt [] [2] (⟨[(2, .b (decide ((widthOf g12) = (widthOf g12))))], [], [999]⟩)
        (True ∧ (True ∧ ((True ∧ ((True ∧ True) ∧ True)) ∧ ((True ∧ (True ∧ True)) ∧ (True ∧ True))))) (by kernel_rfl)
        ⟨trivial, ⟨trivial, ⟨⟨trivial, ⟨⟨trivial, trivial⟩, trivial⟩⟩, ⟨⟨trivial, ⟨trivial, trivial⟩⟩, ⟨trivial, trivial⟩⟩⟩⟩⟩ ?_
      refine W.ret (thenQ_ret ?_)
      exact endQ_ret (.b (decide ((widthOf g12) = (widthOf g12)))) (by kernel_rfl) (@cast ((.bool (decide ((widthOf g12) = (widthOf g12))) : Value) = .bool true) _ (by kernel_rfl) (congrArg Value.bool (by simp)))
    · intro n22
      have n22_0 : ¬ ((widthOf g12) ≠ (widthOf g12)) := of_decide_eq_false (or_l n22)
      have n22_1 : ¬ ((widthOf g12) < (0 : Int)) := of_decide_eq_false (or_r n22)
      have hnn : ¬ widthOf g12 < 0 := of_decide_eq_false (or_r n22)
      have hv : validHistory g12 = true := widthOf_valid hnn
      have hv6 := (valid_iff.1 hv).1
      have hw : widthOf g12 = widthI g12 := by unfold widthOf; rw [hv]; rfl
      have hwl := width_le g12
      have hll : (levelsOf g12).length = g12.length := by rw [levels_eq hv, levOf_len]
      refine W.skip (thenQ_normal ?_)
      refine W.K cok tab6 hnt [] [3, 4, 5] (⟨[(3, .sl (.calls g12)), (4, .i (widthOf g12)), (5, .sl (.ints (levelsOf g12)))], [], [999]⟩)
        (True ∧ ((True ∧ ((True ∧ True) ∧ True)) ∧ (True ∧ True))) (by kernel_rfl)
        ⟨trivial, ⟨⟨trivial, ⟨⟨trivial, trivial⟩, trivial⟩⟩, ⟨trivial, trivial⟩⟩⟩ ?_
      refine W.K cok tab6 hnt [] [3, 4, 5, 6] (⟨[(3, .sl (.calls g12)), (4, .i (widthOf g12)), (5, .sl (.ints (levelsOf g12))), (6, .i (0 : Int))], [], [999]⟩)
        (True ∧ True) (by kernel_rfl)
        ⟨trivial, trivial⟩ ?_
      refine W.seq ?_
      refine W.K cok tab6 hnt [] [3, 4, 5, 6, 7] (⟨[(3, .sl (.calls g12)), (4, .i (widthOf g12)), (5, .sl (.ints (levelsOf g12))), (6, .i (0 : Int)), (7, .i (0 : Int))], [], [999]⟩)
        (True ∧ True) (by kernel_rfl)
        ⟨trivial, trivial⟩ ?_
      refine W.block ?_
      refine W.loop (ι := Int × Nat) (fun (x : Int × Nat) => match x with | (most, i) => (⟨[(3, .sl (.calls g12)), (4, .i (widthOf g12)), (5, .sl (.ints (levelsOf g12))), (6, .i most), (7, .i ((i : Nat) : Int))], [], [999]⟩ : St))
        (fun (x : Int × Nat) => match x with | (most, i) => (i ≤ g12.length) ∧ (most = maxN i (fun jj => lev g12 jj + 1)))
        (fun (x : Int × Nat) => match x with | (most, i) => (g12.length - i : Nat)) ((0 : Int), 0) ?_ ?_ ?_
      · exact (show (0 ≤ g12.length) ∧ ((0 : Int) = maxN 0 (fun jj => lev g12 jj + 1)) from ⟨(by first | assumption | omega | rfl | (intro _ hjj; omega) | (simp; done) | (simp; omega)), (by rfl)⟩)
      · exact Sub.of [] (@cast ((((.calls g12 : Dat) = .calls g12) ∧ (((.int .i64 (widthOf g12) : Value) = .int .i64 (widthOf g12)) ∧ (((.ints (levelsOf g12) : Dat) = .ints (levelsOf g12)) ∧ (((.int .i64 (0 : Int) : Value) = .int .i64 (0 : Int)) ∧ (((.int .i64 (0 : Int) : Value) = .int .i64 ((0 : Nat) : Int)) ∧ True))))) ∧ (True ∧ ((true = true) ∧ (true = true)))) _ (by kernel_rfl) ⟨⟨rfl, ⟨rfl, ⟨rfl, ⟨rfl, ⟨(congrArg (Value.int .i64) (by first | rfl | omega | assumption | simp | simp_all)), trivial⟩⟩⟩⟩⟩, ⟨trivial, ⟨rfl, rfl⟩⟩⟩)
      · rintro ⟨most, i⟩ hC0
        have hC : (i ≤ g12.length) ∧ (most = maxN i (fun jj => lev g12 jj + 1)) := hC0
        clear hC0
        obtain ⟨hi, hm⟩ := hC
        refine W.to (⟨[(3, .sl (.calls g12)), (4, .i (widthOf g12)), (5, .sl (.ints (levelsOf g12))), (6, .i most), (7, .i ((i : Nat) : Int))], [], [999]⟩) rfl ?_
        have hlb : ∀ j, j < g12.length → (levelsOf g12).getD j 0 = lev g12 j := fun j hj => by rw [levels_eq hv]; exact levOf_get hj
        have hmb : 0 ≤ most ∧ most ≤ 32 := by rw [hm]; exact ⟨maxN_nonneg _ _, maxN_le (by omega) (fun j _ => by have := lev_bnd g12 j; omega)⟩
        refine W.seq ?_
        refine W.K cok tab6 hnt [] [3, 4, 5, 6, 7, 32] (⟨[(3, .sl (.calls g12)), (4, .i (widthOf g12)), (5, .sl (.ints (levelsOf g12))), (6, .i most), (7, .i ((i : Nat) : Int)), (32, .b (decide (((i : Nat) : Int) < (((List.length (levelsOf g12)) : Nat) : Int))))], [], [999]⟩)
          (True ∧ (True ∧ (True ∧ ((True ∧ (True ∧ True)) ∧ True)))) (by kernel_rfl)
          ⟨trivial, ⟨trivial, ⟨trivial, ⟨⟨trivial, ⟨trivial, trivial⟩⟩, trivial⟩⟩⟩⟩ ?_
        refine W.ifP (((i : Nat) : Int) < (((List.length (levelsOf g12)) : Nat) : Int)) (.b (decide (((i : Nat) : Int) < (((List.length (levelsOf g12)) : Nat) : Int)))) (by kernel_rfl) rfl trivial ?_ ?_
        · intro h32
          refine W.skip (thenQ_normal ?_)
          refine W.seq ?_
          refine W.block ?_
          refine W.L cok tab6 hnt [] (⟨[(3, .sl (.calls g12)), (4, .i (widthOf g12)), (5, .sl (.ints (levelsOf g12))), (6, .i (max most ((List.getD (levelsOf g12) i 0) + (1 : Int)))), (7, .i ((i : Nat) : Int)), (32, .b (decide (((i : Nat) : Int) < (((List.length (levelsOf g12)) : Nat) : Int)))), (35, .i most), (36, .sl (.ints (levelsOf g12))), (37, .i ((i : Nat) : Int)), (38, .ep [.i (List.getD (levelsOf g12) i 0)]), (39, .i (List.getD (levelsOf g12) i 0)), (40, .i ((List.getD (levelsOf g12) i 0) + (1 : Int))), (41, .i (max most ((List.getD (levelsOf g12) i 0) + (1 : Int))))], [], [999]⟩)
            (True ∧ (True ∧ (True ∧ ((True ∧ (True ∧ ((0 ≤ ((i : Nat) : Int)) ∧ (((i : Nat) : Int) < (((List.length (levelsOf g12)) : Nat) : Int))))) ∧ (True ∧ ((True ∧ (True ∧ (Fits .i64 ((List.getD (levelsOf g12) i 0) + (1 : Int))))) ∧ ((True ∧ True) ∧ (True ∧ True)))))))) (by kernel_rfl)
            ⟨trivial, ⟨trivial, ⟨trivial, ⟨⟨trivial, ⟨trivial, ⟨(by omega), (by omega)⟩⟩⟩, ⟨trivial, ⟨⟨trivial, ⟨trivial, (by rw [hlb i (by omega)]; have := lev_bnd g12 i; exact fits_i64 (by omega) (by omega))⟩⟩, ⟨⟨trivial, trivial⟩, ⟨trivial, trivial⟩⟩⟩⟩⟩⟩⟩⟩ ?_
          refine blockQ_normal (thenQ_normal ?_)
          refine W.L cok tab6 hnt [] (⟨[(3, .sl (.calls g12)), (4, .i (widthOf g12)), (5, .sl (.ints (levelsOf g12))), (6, .i (max most ((List.getD (levelsOf g12) i 0) + (1 : Int)))), (7, .i (((i + 1) : Nat) : Int)), (32, .b (decide (((i : Nat) : Int) < (((List.length (levelsOf g12)) : Nat) : Int)))), (33, .i ((i : Nat) : Int)), (34, .i (((i + 1) : Nat) : Int)), (35, .i most), (36, .sl (.ints (levelsOf g12))), (37, .i ((i : Nat) : Int)), (38, .ep [.i (List.getD (levelsOf g12) i 0)]), (39, .i (List.getD (levelsOf g12) i 0)), (40, .i ((List.getD (levelsOf g12) i 0) + (1 : Int))), (41, .i (max most ((List.getD (levelsOf g12) i 0) + (1 : Int))))], [], [999]⟩)
            (True ∧ ((True ∧ (True ∧ (Fits .i64 (((i + 1) : Nat) : Int)))) ∧ (True ∧ True))) (by kernel_rfl)
            ⟨trivial, ⟨⟨trivial, ⟨trivial, (by exact fits_i64 (by omega) (by omega))⟩⟩, ⟨trivial, trivial⟩⟩⟩ ?_
          refine thenQ_normal ?_
          refine ⟨((max most ((List.getD (levelsOf g12) i 0) + (1 : Int))), (i + 1)), (show ((i + 1) ≤ g12.length) ∧ ((max most ((List.getD (levelsOf g12) i 0) + (1 : Int))) = maxN (i + 1) (fun jj => lev g12 jj + 1)) from ⟨(by first | assumption | omega | rfl | (intro _ hjj; omega) | (simp; done) | (simp; omega)), (by rw [hm, hlb i (by omega)]; rfl)⟩), (show g12.length - (i + 1) < g12.length - i from (by first | omega | (simp_all; omega))), ?_⟩
          exact Sub.of [] (@cast ((((.calls g12 : Dat) = .calls g12) ∧ (((.int .i64 (widthOf g12) : Value) = .int .i64 (widthOf g12)) ∧ (((.ints (levelsOf g12) : Dat) = .ints (levelsOf g12)) ∧ (((.int .i64 (max most ((List.getD (levelsOf g12) i 0) + (1 : Int))) : Value) = .int .i64 (max most ((List.getD (levelsOf g12) i 0) + (1 : Int)))) ∧ (((.int .i64 (((i + 1) : Nat) : Int) : Value) = .int .i64 (((i + 1) : Nat) : Int)) ∧ True))))) ∧ (True ∧ ((true = true) ∧ (true = true)))) _ (by kernel_rfl) ⟨⟨rfl, ⟨rfl, ⟨rfl, ⟨rfl, ⟨rfl, trivial⟩⟩⟩⟩⟩, ⟨trivial, ⟨rfl, rfl⟩⟩⟩)
        · intro n32
          refine W.exit (thenQ_exit (thenQ_exit (blockQ_hit ?_)))
          refine thenQ_normal ?_
          refine W.K cok tab6 hnt [] [2] (⟨[(2, .b (((decide ((((List.length g12) : Nat) : Int) ≤ ((widthOf g12) * most))) && (decide ((widthOf g12) ≤ (((List.length g12) : Nat) : Int)))) && ((decide ((((List.length g12) : Nat) : Int) = (0 : Int))) == (decide ((widthOf g12) = (0 : Int))))))], [], [999]⟩)
            (True ∧ (True ∧ (True ∧ (True ∧ ((True ∧ (True ∧ (Fits .i64 ((widthOf g12) * most)))) ∧ ((True ∧ (True ∧ True)) ∧ (True ∧ (((decide ((((List.length g12) : Nat) : Int) ≤ ((widthOf g12) * most))) = true → True) ∧ (((decide ((((List.length g12) : Nat) : Int) ≤ ((widthOf g12) * most))) = true → True) ∧ (((decide ((((List.length g12) : Nat) : Int) ≤ ((widthOf g12) * most))) = true → (((decide ((((List.length g12) : Nat) : Int) ≤ ((widthOf g12) * most))) = true) ∧ True)) ∧ (((decide ((((List.length g12) : Nat) : Int) ≤ ((widthOf g12) * most))) = true → ((((decide ((((List.length g12) : Nat) : Int) ≤ ((widthOf g12) * most))) = true) ∧ True) ∧ ((((decide ((((List.length g12) : Nat) : Int) ≤ ((widthOf g12) * most))) = true) ∧ True) ∧ True))) ∧ ((True ∧ (((decide ((((List.length g12) : Nat) : Int) ≤ ((widthOf g12) * most))) = true → ((decide ((((List.length g12) : Nat) : Int) ≤ ((widthOf g12) * most))) = true) ∧ True) ∧ ((decide ((((List.length g12) : Nat) : Int) ≤ ((widthOf g12) * most))) = false → True))) ∧ (True ∧ ((((decide ((((List.length g12) : Nat) : Int) ≤ ((widthOf g12) * most))) && (decide ((widthOf g12) ≤ (((List.length g12) : Nat) : Int)))) = true → True) ∧ ((((decide ((((List.length g12) : Nat) : Int) ≤ ((widthOf g12) * most))) && (decide ((widthOf g12) ≤ (((List.length g12) : Nat) : Int)))) = true → ((((decide ((((List.length g12) : Nat) : Int) ≤ ((widthOf g12) * most))) && (decide ((widthOf g12) ≤ (((List.length g12) : Nat) : Int)))) = true) ∧ True)) ∧ ((((decide ((((List.length g12) : Nat) : Int) ≤ ((widthOf g12) * most))) && (decide ((widthOf g12) ≤ (((List.length g12) : Nat) : Int)))) = true → (((((decide ((((List.length g12) : Nat) : Int) ≤ ((widthOf g12) * most))) && (decide ((widthOf g12) ≤ (((List.length g12) : Nat) : Int)))) = true) ∧ True) ∧ (True ∧ True))) ∧ ((((decide ((((List.length g12) : Nat) : Int) ≤ ((widthOf g12) * most))) && (decide ((widthOf g12) ≤ (((List.length g12) : Nat) : Int)))) = true → True) ∧ ((((decide ((((List.length g12) : Nat) : Int) ≤ ((widthOf g12) * most))) && (decide ((widthOf g12) ≤ (((List.length g12) : Nat) : Int)))) = true → (((((decide ((((List.length g12) : Nat) : Int) ≤ ((widthOf g12) * most))) && (decide ((widthOf g12) ≤ (((List.length g12) : Nat) : Int)))) = true) ∧ True) ∧ (True ∧ True))) ∧ ((((decide ((((List.length g12) : Nat) : Int) ≤ ((widthOf g12) * most))) && (decide ((widthOf g12) ≤ (((List.length g12) : Nat) : Int)))) = true → (((((decide ((((List.length g12) : Nat) : Int) ≤ ((widthOf g12) * most))) && (decide ((widthOf g12) ≤ (((List.length g12) : Nat) : Int)))) = true) ∧ True) ∧ ((((decide ((((List.length g12) : Nat) : Int) ≤ ((widthOf g12) * most))) && (decide ((widthOf g12) ≤ (((List.length g12) : Nat) : Int)))) = true) ∧ True))) ∧ ((True ∧ ((((decide ((((List.length g12) : Nat) : Int) ≤ ((widthOf g12) * most))) && (decide ((widthOf g12) ≤ (((List.length g12) : Nat) : Int)))) = true → (((decide ((((List.length g12) : Nat) : Int) ≤ ((widthOf g12) * most))) && (decide ((widthOf g12) ≤ (((List.length g12) : Nat) : Int)))) = true) ∧ True) ∧ (((decide ((((List.length g12) : Nat) : Int) ≤ ((widthOf g12) * most))) && (decide ((widthOf g12) ≤ (((List.length g12) : Nat) : Int)))) = false → True))) ∧ (True ∧ True))))))))))))))))))))) (by kernel_rfl)
            ⟨trivial, ⟨trivial, ⟨trivial, ⟨trivial, ⟨⟨trivial, ⟨trivial, (by rw [hw]; have h1 := Int.mul_le_mul hwl.2 hmb.2 (by omega) (by omega); have h2 := Int.mul_nonneg hwl.1 hmb.1; exact fits_i64 (by omega) (by omega))⟩⟩, ⟨⟨trivial, ⟨trivial, trivial⟩⟩, ⟨trivial, ⟨(fun _ => trivial), ⟨(fun _ => trivial), ⟨(fun hG => ⟨hG, trivial⟩), ⟨(fun hG => ⟨⟨hG, trivial⟩, ⟨⟨hG, trivial⟩, trivial⟩⟩), ⟨⟨trivial, ⟨(fun hp => ⟨hp, trivial⟩), (fun _ => trivial)⟩⟩, ⟨trivial, ⟨(fun _ => trivial), ⟨(fun hG => ⟨hG, trivial⟩), ⟨(fun hG => ⟨⟨hG, trivial⟩, ⟨trivial, trivial⟩⟩), ⟨(fun _ => trivial), ⟨(fun hG => ⟨⟨hG, trivial⟩, ⟨trivial, trivial⟩⟩), ⟨(fun hG => ⟨⟨hG, trivial⟩, ⟨hG, trivial⟩⟩), ⟨⟨trivial, ⟨(fun hp => ⟨hp, trivial⟩), (fun _ => trivial)⟩⟩, ⟨trivial, trivial⟩⟩⟩⟩⟩⟩⟩⟩⟩⟩⟩⟩⟩⟩⟩⟩⟩⟩⟩⟩⟩ ?_
          refine W.ret ?_
          exact endQ_ret (.b (((decide ((((List.length g12) : Nat) : Int) ≤ ((widthOf g12) * most))) && (decide ((widthOf g12) ≤ (((List.length g12) : Nat) : Int)))) && ((decide ((((List.length g12) : Nat) : Int) = (0 : Int))) == (decide ((widthOf g12) = (0 : Int)))))) (by kernel_rfl) (@cast ((.bool (((decide ((((List.length g12) : Nat) : Int) ≤ ((widthOf g12) * most))) && (decide ((widthOf g12) ≤ (((List.length g12) : Nat) : Int)))) && ((decide ((((List.length g12) : Nat) : Int) = (0 : Int))) == (decide ((widthOf g12) = (0 : Int))))) : Value) = .bool true) _ (by kernel_rfl) (congrArg Value.bool (by rw [hw, show most = mostOf g12 by rw [hm, show i = g12.length by omega]; rfl]; exact and_t (and_t (decide_eq_true (width_law hv)) (decide_eq_true hwl.2)) (by rw [show decide (((List.length g12 : Nat) : Int) = 0) = decide (widthI g12 = 0) from bool_ext (by simpa using width_zero hv)]; simp))))
theorem ent6 : Entr prog 6 := ⟨_, func6, rfl, by decide⟩

end Go.Proofs.Try
