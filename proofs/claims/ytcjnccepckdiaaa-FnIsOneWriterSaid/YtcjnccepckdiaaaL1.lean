import Derived.Test.YtcjnccepckdiaaaW8
import Derived.Test.YtcjnccepckdiaaaW9
set_option linter.unusedSimpArgs false
set_option linter.unusedVariables false
namespace Go.Proofs.Try
open Go.Ab Go.RowKit
/-- laws.FnIsOneWriter -/
def fs3 : FnS := fnS [.s .bytes] [.bytes] (fun _ (code, _) => (.v (.bool true), [], True))
abbrev T3 : Tab := lk [(16, fs16), (17, fs17), (18, fs18), (19, fs19)]
theorem tab3 : TabOK prog T3 := (TabOK.cons ok16 ent16 (TabOK.cons ok17 ent17 (TabOK.cons ok18 ent18 (TabOK.cons ok19 ent19 TabOK.nil))))
set_option maxRecDepth 100000 in
set_option maxHeartbeats 1000000 in
theorem ok3 : FnOK prog 3 fs3 := by
  refine FnOK.mk func3 rfl rfl rfl ?_
  rintro fl ⟨(code : List UInt8), _⟩ hpre F hnt0 _
  have hnt : F.nt = 64 := hnt0.trans ntmps3
  clear hpre
  refine W.to (⟨[(0, .sl (.bytes code))], [], [999]⟩) rfl ?_
  refine W.lenOf 0 (.bytes code) (by kernel_rfl) ?_
  intro hl_code; replace hl_code : List.length code ≤ 9223372036854775807 := hl_code
  refine W.K cok tab3 hnt [] [0] (⟨[(0, .sl (.bytes code))], [], [999]⟩)
    (True ∧ True) (by kernel_rfl)
    ⟨trivial, trivial⟩ ?_
  refine W.seq ?_
  refine W.K cok tab3 hnt [] [0, 9] (⟨[(0, .sl (.bytes code)), (9, .v (.bool (decide ((1048576 : Int) < (((List.length code) : Nat) : Int)))))], [], [999]⟩)
    (True ∧ (True ∧ ((True ∧ (True ∧ True)) ∧ True))) (by kernel_rfl)
    ⟨trivial, ⟨trivial, ⟨⟨trivial, ⟨trivial, trivial⟩⟩, trivial⟩⟩⟩ ?_
  refine W.ifP ((1048576 : Int) < (((List.length code) : Nat) : Int)) (.v (.bool (decide ((1048576 : Int) < (((List.length code) : Nat) : Int))))) (by kernel_rfl) rfl trivial ?_ ?_
  · intro h9
    refine W.K cok tab3 hnt [] [2] (⟨[(2, .v (.bool true))], [], [999]⟩)
      (True ∧ True) (by kernel_rfl)
      ⟨trivial, trivial⟩ ?_
    refine W.ret (thenQ_ret ?_)
    exact endQ_ret (.v (.bool true)) (by kernel_rfl) (@cast (((.bool true) : Value) = (.bool true)) _ (by kernel_rfl) rfl)
  · intro n9
    refine W.skip (thenQ_normal ?_)
    refine W.seq (W.wi ?_)
    refine WI.run cok tab3 hnt [] 1 (⟨[(0, .sl (.bytes code)), (9, .v (.bool (decide ((1048576 : Int) < (((List.length code) : Nat) : Int))))), (10, .sl (.bytes code))], [], [999]⟩)
      (True ∧ True) (by kernel_rfl)
      ⟨trivial, trivial⟩ ?_
    refine WI.to (⟨[(0, .sl (.bytes code)), (9, .v (.bool (decide ((1048576 : Int) < (((List.length code) : Nat) : Int))))), (10, .sl (.bytes code))], [], [999]⟩) 1 rfl rfl ?_
    refine WI.call [.sl (.bytes code)] [] [.sl (.bytes code)] [.sl (.bytes code)] none (True) (True ∧ True) none rok15 ent15 hnt rfl rfl (wanted_none rfl) (by kernel_rfl) (by kernel_rfl) (by kernel_rfl) ⟨trivial, ⟨trivial, trivial⟩⟩
      (@cast (True) _ (by kernel_rfl) trivial) (Or.inl rfl) rfl ?_
    rintro r bl fx2 hR
    obtain ⟨g11, hq11, rfl, rfl, rfl⟩ := (@cast _ (∃ x : (List CallD), ((x.length ≤ 6)) ∧ r = (.sl (.calls x)) ∧ bl = ([]) ∧ fx2 = ([])) (by kernel_rfl) hR)
    clear hR
    replace hq11 : (g11.length ≤ 6) := hq11
    have hg11 := hq11
    refine ⟨by kernel_rfl, WI.to (⟨[(0, .sl (.bytes code)), (9, .v (.bool (decide ((1048576 : Int) < (((List.length code) : Nat) : Int))))), (10, .sl (.bytes code)), (11, .sl (.calls g11))], [], [999]⟩) 2 (by kernel_rfl) rfl ?_⟩
    refine WI.run cok tab3 hnt [] 1 (⟨[(0, .sl (.bytes code)), (3, .sl (.calls g11)), (9, .v (.bool (decide ((1048576 : Int) < (((List.length code) : Nat) : Int))))), (10, .sl (.bytes code)), (11, .sl (.calls g11))], [], [999]⟩)
      (True ∧ True) (by kernel_rfl)
      ⟨trivial, trivial⟩ ?_
    refine WI.to (⟨[(0, .sl (.bytes code)), (3, .sl (.calls g11)), (9, .v (.bool (decide ((1048576 : Int) < (((List.length code) : Nat) : Int))))), (10, .sl (.bytes code)), (11, .sl (.calls g11))], [], [999]⟩) 3 rfl rfl ?_
    refine WI.nil rfl (thenQ_normal ?_)
    refine W.keepE [3] [(3, .sl (.calls g11))] (by kernel_rfl) ?_
    refine W.to (⟨[(3, .sl (.calls g11))], [], [999]⟩) rfl ?_
    refine W.K cok tab3 hnt [] [3, 4] (⟨[(3, .sl (.calls g11)), (4, .v (.bool (oneWriter g11)))], [], [999]⟩)
      (True ∧ ((True ∧ ((True ∧ True) ∧ True)) ∧ (True ∧ True))) (by kernel_rfl)
      ⟨trivial, ⟨⟨trivial, ⟨⟨trivial, trivial⟩, trivial⟩⟩, ⟨trivial, trivial⟩⟩⟩ ?_
    refine W.seq ?_
    refine W.K cok tab3 hnt [] [3, 4, 21] (⟨[(3, .sl (.calls g11)), (4, .v (.bool (oneWriter g11))), (21, .v (.bool (((oneWriter g11) != (oneWriter g11)) || (!(oneWriter g11)))))], [], [999]⟩)
      (True ∧ (True ∧ ((True ∧ ((True ∧ True) ∧ True)) ∧ ((True ∧ True) ∧ (True ∧ (((!((oneWriter g11) != (oneWriter g11))) = true → True) ∧ (((!((oneWriter g11) != (oneWriter g11))) = true → (((!((oneWriter g11) != (oneWriter g11))) = true) ∧ True)) ∧ ((True ∧ ((((oneWriter g11) != (oneWriter g11)) = true → True) ∧ (((oneWriter g11) != (oneWriter g11)) = false → ((!((oneWriter g11) != (oneWriter g11))) = true) ∧ True))) ∧ True)))))))) (by kernel_rfl)
      ⟨trivial, ⟨trivial, ⟨⟨trivial, ⟨⟨trivial, trivial⟩, trivial⟩⟩, ⟨⟨trivial, trivial⟩, ⟨trivial, ⟨(fun _ => trivial), ⟨(fun hG => ⟨hG, trivial⟩), ⟨⟨trivial, ⟨(fun _ => trivial), (fun hp => ⟨(not_t hp), trivial⟩)⟩⟩, trivial⟩⟩⟩⟩⟩⟩⟩⟩ ?_
    refine W.if' (((oneWriter g11) != (oneWriter g11)) || (!(oneWriter g11))) (.v (.bool (((oneWriter g11) != (oneWriter g11)) || (!(oneWriter g11))))) (by kernel_rfl) rfl trivial ?_ ?_
    · intro h21
      refine W.K cok tab3 hnt [] [2] (⟨[(2, .v (.bool ((oneWriter g11) == (oneWriter g11))))], [], [999]⟩)
        (True ∧ (True ∧ ((True ∧ ((True ∧ True) ∧ True)) ∧ ((True ∧ True) ∧ (True ∧ True))))) (by kernel_rfl)
        ⟨trivial, ⟨trivial, ⟨⟨trivial, ⟨⟨trivial, trivial⟩, trivial⟩⟩, ⟨⟨trivial, trivial⟩, ⟨trivial, trivial⟩⟩⟩⟩⟩ ?_
      refine W.ret (thenQ_ret ?_)
      exact endQ_ret (.v (.bool ((oneWriter g11) == (oneWriter g11)))) (by kernel_rfl) (@cast (((.bool ((oneWriter g11) == (oneWriter g11))) : Value) = (.bool true)) _ (by kernel_rfl) (congrArg Value.bool (by simp)))
    · intro n21
      refine W.skip (thenQ_normal ?_)
      refine W.seq ?_
      refine W.K cok tab3 hnt [] [3, 5] (⟨[(3, .sl (.calls g11)), (5, .v (.int .i64 (0 : Int)))], [], [999]⟩)
        (True ∧ True) (by kernel_rfl)
        ⟨trivial, trivial⟩ ?_
      refine W.block ?_
      refine W.loop (ι := Nat) (fun (i : Nat) => (⟨[(3, .sl (.calls g11)), (5, .v (.int .i64 ((i : Nat) : Int)))], [], [999]⟩ : St))
        (fun (i : Nat) => (i ≤ g11.length))
        (fun (i : Nat) => (g11.length - i : Nat)) (0) ?_ ?_ ?_
      · exact (show (0 ≤ g11.length) from (by first | assumption | omega | rfl | (intro _ hjj; omega) | (simp; done) | (simp; omega)))
      · exact Sub.of [] (@cast ((((.calls g11 : Dat) = .calls g11) ∧ ((((.int .i64 (0 : Int)) : Value) = (.int .i64 ((0 : Nat) : Int))) ∧ True)) ∧ (True ∧ ((true = true) ∧ (true = true)))) _ (by kernel_rfl) ⟨⟨rfl, ⟨(congrArg (Value.int .i64) (by first | rfl | omega | assumption | simp | simp_all)), trivial⟩⟩, ⟨trivial, ⟨rfl, rfl⟩⟩⟩)
      · rintro i hC0
        have hC : (i ≤ g11.length) := hC0
        clear hC0
        obtain hi := hC
        refine W.to (⟨[(3, .sl (.calls g11)), (5, .v (.int .i64 ((i : Nat) : Int)))], [], [999]⟩) rfl ?_
        have how : oneWriter g11 = true := not_g (or_r n21)
        refine W.seq ?_
        refine W.K cok tab3 hnt [] [3, 5, 29] (⟨[(3, .sl (.calls g11)), (5, .v (.int .i64 ((i : Nat) : Int))), (29, .v (.bool (decide (((i : Nat) : Int) < (((List.length g11) : Nat) : Int)))))], [], [999]⟩)
          (True ∧ (True ∧ (True ∧ ((True ∧ (True ∧ True)) ∧ True)))) (by kernel_rfl)
          ⟨trivial, ⟨trivial, ⟨trivial, ⟨⟨trivial, ⟨trivial, trivial⟩⟩, trivial⟩⟩⟩⟩ ?_
        refine W.ifP (((i : Nat) : Int) < (((List.length g11) : Nat) : Int)) (.v (.bool (decide (((i : Nat) : Int) < (((List.length g11) : Nat) : Int))))) (by kernel_rfl) rfl trivial ?_ ?_
        · intro h29
          refine W.skip (thenQ_normal ?_)
          refine W.seq ?_
          refine W.block ?_
          refine W.K cok tab3 hnt [] [3, 5, 6] (⟨[(3, .sl (.calls g11)), (5, .v (.int .i64 ((i : Nat) : Int))), (6, .v (.int .i64 (0 : Int)))], [], [999]⟩)
            (True ∧ True) (by kernel_rfl)
            ⟨trivial, trivial⟩ ?_
          refine W.block ?_
          refine W.loop (ι := Nat) (fun (k : Nat) => (⟨[(3, .sl (.calls g11)), (5, .v (.int .i64 ((i : Nat) : Int))), (6, .v (.int .i64 ((k : Nat) : Int)))], [], [999]⟩ : St))
            (fun (k : Nat) => (k ≤ i))
            (fun (k : Nat) => (i - k : Nat)) (0) ?_ ?_ ?_
          · exact (show (0 ≤ i) from (by first | assumption | omega | rfl | (intro _ hjj; omega) | (simp; done) | (simp; omega)))
          · exact Sub.of [] (@cast ((((.calls g11 : Dat) = .calls g11) ∧ ((((.int .i64 ((i : Nat) : Int)) : Value) = (.int .i64 ((i : Nat) : Int))) ∧ ((((.int .i64 (0 : Int)) : Value) = (.int .i64 ((0 : Nat) : Int))) ∧ True))) ∧ (True ∧ ((true = true) ∧ (true = true)))) _ (by kernel_rfl) ⟨⟨rfl, ⟨rfl, ⟨(congrArg (Value.int .i64) (by first | rfl | omega | assumption | simp | simp_all)), trivial⟩⟩⟩, ⟨trivial, ⟨rfl, rfl⟩⟩⟩)
          · rintro k hC0
            have hC : (k ≤ i) := hC0
            clear hC0
            obtain hk := hC
            refine W.to (⟨[(3, .sl (.calls g11)), (5, .v (.int .i64 ((i : Nat) : Int))), (6, .v (.int .i64 ((k : Nat) : Int)))], [], [999]⟩) rfl ?_
            refine W.seq ?_
            refine W.K cok tab3 hnt [] [3, 5, 6, 34] (⟨[(3, .sl (.calls g11)), (5, .v (.int .i64 ((i : Nat) : Int))), (6, .v (.int .i64 ((k : Nat) : Int))), (34, .v (.bool (decide (((k : Nat) : Int) < ((i : Nat) : Int)))))], [], [999]⟩)
              (True ∧ (True ∧ ((True ∧ (True ∧ True)) ∧ True))) (by kernel_rfl)
              ⟨trivial, ⟨trivial, ⟨⟨trivial, ⟨trivial, trivial⟩⟩, trivial⟩⟩⟩ ?_
            refine W.ifP (((k : Nat) : Int) < ((i : Nat) : Int)) (.v (.bool (decide (((k : Nat) : Int) < ((i : Nat) : Int))))) (by kernel_rfl) rfl trivial ?_ ?_
            · intro h34
              refine W.skip (thenQ_normal ?_)
              refine W.seq ?_
              refine W.block ?_
              refine W.KA cok tab3 hnt [] [3, 5, 6, 61] (⟨[(3, .sl (.calls g11)), (5, .v (.int .i64 ((i : Nat) : Int))), (6, .v (.int .i64 ((k : Nat) : Int))), (61, .v (.bool (((decide (((List.getD g11 i default).kind) = (0 : Int))) && (decide (((List.getD g11 k default).kind) = (0 : Int)))) && (doOverlap (List.getD g11 i default) (List.getD g11 k default)))))], [], [999]⟩)
                (True ∧ (True ∧ ((True ∧ (True ∧ ((0 ≤ ((i : Nat) : Int)) ∧ (((i : Nat) : Int) < (((List.length g11) : Nat) : Int))))) ∧ (True ∧ (True ∧ ((True ∧ (True ∧ True)) ∧ (True ∧ (((decide (((List.getD g11 i default).kind) = (0 : Int))) = true → True) ∧ (((decide (((List.getD g11 i default).kind) = (0 : Int))) = true → True) ∧ (((decide (((List.getD g11 i default).kind) = (0 : Int))) = true → ((((decide (((List.getD g11 i default).kind) = (0 : Int))) = true) ∧ True) ∧ ((((decide (((List.getD g11 i default).kind) = (0 : Int))) = true) ∧ True) ∧ ((0 ≤ ((k : Nat) : Int)) ∧ (((k : Nat) : Int) < (((List.length g11) : Nat) : Int)))))) ∧ (((decide (((List.getD g11 i default).kind) = (0 : Int))) = true → (((decide (((List.getD g11 i default).kind) = (0 : Int))) = true) ∧ True)) ∧ (((decide (((List.getD g11 i default).kind) = (0 : Int))) = true → (((decide (((List.getD g11 i default).kind) = (0 : Int))) = true) ∧ True)) ∧ (((decide (((List.getD g11 i default).kind) = (0 : Int))) = true → ((((decide (((List.getD g11 i default).kind) = (0 : Int))) = true) ∧ True) ∧ (True ∧ True))) ∧ ((True ∧ (((decide (((List.getD g11 i default).kind) = (0 : Int))) = true → ((decide (((List.getD g11 i default).kind) = (0 : Int))) = true) ∧ True) ∧ ((decide (((List.getD g11 i default).kind) = (0 : Int))) = false → True))) ∧ (True ∧ ((((decide (((List.getD g11 i default).kind) = (0 : Int))) && (decide (((List.getD g11 k default).kind) = (0 : Int)))) = true → True) ∧ ((((decide (((List.getD g11 i default).kind) = (0 : Int))) && (decide (((List.getD g11 k default).kind) = (0 : Int)))) = true → True) ∧ ((((decide (((List.getD g11 i default).kind) = (0 : Int))) && (decide (((List.getD g11 k default).kind) = (0 : Int)))) = true → (((((decide (((List.getD g11 i default).kind) = (0 : Int))) && (decide (((List.getD g11 k default).kind) = (0 : Int)))) = true) ∧ True) ∧ (((((decide (((List.getD g11 i default).kind) = (0 : Int))) && (decide (((List.getD g11 k default).kind) = (0 : Int)))) = true) ∧ True) ∧ ((0 ≤ ((i : Nat) : Int)) ∧ (((i : Nat) : Int) < (((List.length g11) : Nat) : Int)))))) ∧ ((((decide (((List.getD g11 i default).kind) = (0 : Int))) && (decide (((List.getD g11 k default).kind) = (0 : Int)))) = true → ((((decide (((List.getD g11 i default).kind) = (0 : Int))) && (decide (((List.getD g11 k default).kind) = (0 : Int)))) = true) ∧ True)) ∧ ((((decide (((List.getD g11 i default).kind) = (0 : Int))) && (decide (((List.getD g11 k default).kind) = (0 : Int)))) = true → True) ∧ ((((decide (((List.getD g11 i default).kind) = (0 : Int))) && (decide (((List.getD g11 k default).kind) = (0 : Int)))) = true → True) ∧ ((((decide (((List.getD g11 i default).kind) = (0 : Int))) && (decide (((List.getD g11 k default).kind) = (0 : Int)))) = true → (((((decide (((List.getD g11 i default).kind) = (0 : Int))) && (decide (((List.getD g11 k default).kind) = (0 : Int)))) = true) ∧ True) ∧ (((((decide (((List.getD g11 i default).kind) = (0 : Int))) && (decide (((List.getD g11 k default).kind) = (0 : Int)))) = true) ∧ True) ∧ ((0 ≤ ((k : Nat) : Int)) ∧ (((k : Nat) : Int) < (((List.length g11) : Nat) : Int)))))) ∧ ((((decide (((List.getD g11 i default).kind) = (0 : Int))) && (decide (((List.getD g11 k default).kind) = (0 : Int)))) = true → ((((decide (((List.getD g11 i default).kind) = (0 : Int))) && (decide (((List.getD g11 k default).kind) = (0 : Int)))) = true) ∧ True)) ∧ ((((decide (((List.getD g11 i default).kind) = (0 : Int))) && (decide (((List.getD g11 k default).kind) = (0 : Int)))) = true → (True ∧ ((((((decide (((List.getD g11 i default).kind) = (0 : Int))) && (decide (((List.getD g11 k default).kind) = (0 : Int)))) = true) ∧ True) ∧ (((((decide (((List.getD g11 i default).kind) = (0 : Int))) && (decide (((List.getD g11 k default).kind) = (0 : Int)))) = true) ∧ True) ∧ True)) ∧ True))) ∧ ((True ∧ ((((decide (((List.getD g11 i default).kind) = (0 : Int))) && (decide (((List.getD g11 k default).kind) = (0 : Int)))) = true → (((decide (((List.getD g11 i default).kind) = (0 : Int))) && (decide (((List.getD g11 k default).kind) = (0 : Int)))) = true) ∧ True) ∧ (((decide (((List.getD g11 i default).kind) = (0 : Int))) && (decide (((List.getD g11 k default).kind) = (0 : Int)))) = false → True))) ∧ True))))))))))))))))))))))))) (by kernel_rfl) (by kernel_rfl)
                ⟨trivial, ⟨trivial, ⟨⟨trivial, ⟨trivial, ⟨(by (first | omega | (simp only [List.length_append, List.length_cons, List.length_nil, List.length_take, List.length_drop, List.length_set, List.length_replicate, List.length_map] at *; omega) | assumption)), (by (first | omega | (simp only [List.length_append, List.length_cons, List.length_nil, List.length_take, List.length_drop, List.length_set, List.length_replicate, List.length_map] at *; omega) | assumption))⟩⟩⟩, ⟨trivial, ⟨trivial, ⟨⟨trivial, ⟨trivial, trivial⟩⟩, ⟨trivial, ⟨(fun _ => trivial), ⟨(fun _ => trivial), ⟨(fun hG => ⟨⟨hG, trivial⟩, ⟨⟨hG, trivial⟩, ⟨(by have hg0 : ((List.getD g11 i default).kind) = (0 : Int) := of_decide_eq_true hG; (first | omega | (simp only [List.length_append, List.length_cons, List.length_nil, List.length_take, List.length_drop, List.length_set, List.length_replicate, List.length_map] at *; omega) | assumption)), (by have hg0 : ((List.getD g11 i default).kind) = (0 : Int) := of_decide_eq_true hG; (first | omega | (simp only [List.length_append, List.length_cons, List.length_nil, List.length_take, List.length_drop, List.length_set, List.length_replicate, List.length_map] at *; omega) | assumption))⟩⟩⟩), ⟨(fun hG => ⟨hG, trivial⟩), ⟨(fun hG => ⟨hG, trivial⟩), ⟨(fun hG => ⟨⟨hG, trivial⟩, ⟨trivial, trivial⟩⟩), ⟨⟨trivial, ⟨(fun hp => ⟨hp, trivial⟩), (fun _ => trivial)⟩⟩, ⟨trivial, ⟨(fun _ => trivial), ⟨(fun _ => trivial), ⟨(fun hG => ⟨⟨hG, trivial⟩, ⟨⟨hG, trivial⟩, ⟨(by have hg0 : ((List.getD g11 i default).kind) = (0 : Int) := of_decide_eq_true (and_l hG); have hg1 : ((List.getD g11 k default).kind) = (0 : Int) := of_decide_eq_true (and_r hG); (first | omega | (simp only [List.length_append, List.length_cons, List.length_nil, List.length_take, List.length_drop, List.length_set, List.length_replicate, List.length_map] at *; omega) | assumption)), (by have hg0 : ((List.getD g11 i default).kind) = (0 : Int) := of_decide_eq_true (and_l hG); have hg1 : ((List.getD g11 k default).kind) = (0 : Int) := of_decide_eq_true (and_r hG); (first | omega | (simp only [List.length_append, List.length_cons, List.length_nil, List.length_take, List.length_drop, List.length_set, List.length_replicate, List.length_map] at *; omega) | assumption))⟩⟩⟩), ⟨(fun hG => ⟨hG, trivial⟩), ⟨(fun _ => trivial), ⟨(fun _ => trivial), ⟨(fun hG => ⟨⟨hG, trivial⟩, ⟨⟨hG, trivial⟩, ⟨(by have hg0 : ((List.getD g11 i default).kind) = (0 : Int) := of_decide_eq_true (and_l hG); have hg1 : ((List.getD g11 k default).kind) = (0 : Int) := of_decide_eq_true (and_r hG); (first | omega | (simp only [List.length_append, List.length_cons, List.length_nil, List.length_take, List.length_drop, List.length_set, List.length_replicate, List.length_map] at *; omega) | assumption)), (by have hg0 : ((List.getD g11 i default).kind) = (0 : Int) := of_decide_eq_true (and_l hG); have hg1 : ((List.getD g11 k default).kind) = (0 : Int) := of_decide_eq_true (and_r hG); (first | omega | (simp only [List.length_append, List.length_cons, List.length_nil, List.length_take, List.length_drop, List.length_set, List.length_replicate, List.length_map] at *; omega) | assumption))⟩⟩⟩), ⟨(fun hG => ⟨hG, trivial⟩), ⟨(fun hG => ⟨trivial, ⟨⟨⟨hG, trivial⟩, ⟨⟨hG, trivial⟩, trivial⟩⟩, trivial⟩⟩), ⟨⟨trivial, ⟨(fun hp => ⟨hp, trivial⟩), (fun _ => trivial)⟩⟩, trivial⟩⟩⟩⟩⟩⟩⟩⟩⟩⟩⟩⟩⟩⟩⟩⟩⟩⟩⟩⟩⟩⟩⟩⟩⟩ ?_
              refine W.if' (((decide (((List.getD g11 i default).kind) = (0 : Int))) && (decide (((List.getD g11 k default).kind) = (0 : Int)))) && (doOverlap (List.getD g11 i default) (List.getD g11 k default))) (.v (.bool (((decide (((List.getD g11 i default).kind) = (0 : Int))) && (decide (((List.getD g11 k default).kind) = (0 : Int)))) && (doOverlap (List.getD g11 i default) (List.getD g11 k default))))) (by kernel_rfl) rfl trivial ?_ ?_
              · intro h61
                have h61_0 : ((List.getD g11 i default).kind) = (0 : Int) := of_decide_eq_true (and_l (and_l h61))
                have h61_1 : ((List.getD g11 k default).kind) = (0 : Int) := of_decide_eq_true (and_r (and_l h61))
                refine W.K cok tab3 hnt [] [2] (⟨[(2, .v (.bool false))], [], [999]⟩)
                  (True ∧ True) (by kernel_rfl)
                  ⟨trivial, trivial⟩ ?_
                refine W.ret (blockQ_ret (thenQ_ret (thenQ_ret (blockQ_ret (blockQ_ret (thenQ_ret (thenQ_ret (blockQ_ret (thenQ_ret ?_)))))))))
                exact endQ_ret (.v (.bool false)) (by kernel_rfl) (@cast (((.bool false) : Value) = (.bool true)) _ (by kernel_rfl) (congrArg Value.bool (by exact (ow_apart how (i := i) (k := k) (by omega) (by omega) h61_0 h61_1 (and_r h61)).elim)))
              · intro n61
                refine W.skip (blockQ_normal (thenQ_normal ?_))
                refine W.L cok tab3 hnt [] (⟨[(3, .sl (.calls g11)), (5, .v (.int .i64 ((i : Nat) : Int))), (6, .v (.int .i64 (((k + 1) : Nat) : Int))), (35, .v (.int .i64 ((k : Nat) : Int))), (36, .v (.int .i64 (((k + 1) : Nat) : Int))), (61, .v (.bool (((decide (((List.getD g11 i default).kind) = (0 : Int))) && (decide (((List.getD g11 k default).kind) = (0 : Int)))) && (doOverlap (List.getD g11 i default) (List.getD g11 k default)))))], [], [999]⟩)
                  (True ∧ ((True ∧ (True ∧ (Fits .i64 (((k + 1) : Nat) : Int)))) ∧ (True ∧ True))) (by kernel_rfl)
                  ⟨trivial, ⟨⟨trivial, ⟨trivial, (by exact fits_i64 (by (first | omega | (simp only [List.length_append, List.length_cons, List.length_nil, List.length_take, List.length_drop, List.length_set, List.length_replicate, List.length_map] at *; omega) | assumption)) (by (first | omega | (simp only [List.length_append, List.length_cons, List.length_nil, List.length_take, List.length_drop, List.length_set, List.length_replicate, List.length_map] at *; omega) | assumption)))⟩⟩, ⟨trivial, trivial⟩⟩⟩ ?_
                refine thenQ_normal ?_
                refine ⟨((k + 1)), (show ((k + 1) ≤ i) from (by first | assumption | omega | rfl | (intro _ hjj; omega) | (simp; done) | (simp; omega))), (show i - (k + 1) < i - k from (by first | omega | (simp_all; omega))), ?_⟩
                exact Sub.of [] (@cast ((((.calls g11 : Dat) = .calls g11) ∧ ((((.int .i64 ((i : Nat) : Int)) : Value) = (.int .i64 ((i : Nat) : Int))) ∧ ((((.int .i64 (((k + 1) : Nat) : Int)) : Value) = (.int .i64 (((k + 1) : Nat) : Int))) ∧ True))) ∧ (True ∧ ((true = true) ∧ (true = true)))) _ (by kernel_rfl) ⟨⟨rfl, ⟨rfl, ⟨rfl, trivial⟩⟩⟩, ⟨trivial, ⟨rfl, rfl⟩⟩⟩)
            · intro n34
              refine W.exit (thenQ_exit (thenQ_exit (blockQ_hit ?_)))
              refine blockQ_normal (thenQ_normal ?_)
              refine W.L cok tab3 hnt [] (⟨[(3, .sl (.calls g11)), (5, .v (.int .i64 (((i + 1) : Nat) : Int))), (6, .v (.int .i64 ((k : Nat) : Int))), (30, .v (.int .i64 ((i : Nat) : Int))), (31, .v (.int .i64 (((i + 1) : Nat) : Int))), (34, .v (.bool (decide (((k : Nat) : Int) < ((i : Nat) : Int)))))], [], [999]⟩)
                (True ∧ ((True ∧ (True ∧ (Fits .i64 (((i + 1) : Nat) : Int)))) ∧ (True ∧ True))) (by kernel_rfl)
                ⟨trivial, ⟨⟨trivial, ⟨trivial, (by exact fits_i64 (by (first | omega | (simp only [List.length_append, List.length_cons, List.length_nil, List.length_take, List.length_drop, List.length_set, List.length_replicate, List.length_map] at *; omega) | assumption)) (by (first | omega | (simp only [List.length_append, List.length_cons, List.length_nil, List.length_take, List.length_drop, List.length_set, List.length_replicate, List.length_map] at *; omega) | assumption)))⟩⟩, ⟨trivial, trivial⟩⟩⟩ ?_
              refine thenQ_normal ?_
              refine ⟨((i + 1)), (show ((i + 1) ≤ g11.length) from (by first | assumption | omega | rfl | (intro _ hjj; omega) | (simp; done) | (simp; omega))), (show g11.length - (i + 1) < g11.length - i from (by first | omega | (simp_all; omega))), ?_⟩
              exact Sub.of [] (@cast ((((.calls g11 : Dat) = .calls g11) ∧ ((((.int .i64 (((i + 1) : Nat) : Int)) : Value) = (.int .i64 (((i + 1) : Nat) : Int))) ∧ True)) ∧ (True ∧ ((true = true) ∧ (true = true)))) _ (by kernel_rfl) ⟨⟨rfl, ⟨rfl, trivial⟩⟩, ⟨trivial, ⟨rfl, rfl⟩⟩⟩)
        · intro n29
          refine W.exit (thenQ_exit (thenQ_exit (blockQ_hit ?_)))
          refine thenQ_normal ?_
          refine W.K cok tab3 hnt [] [2] (⟨[(2, .v (.bool (validHistory g11)))], [], [999]⟩)
            (True ∧ ((True ∧ ((True ∧ True) ∧ True)) ∧ (True ∧ True))) (by kernel_rfl)
            ⟨trivial, ⟨⟨trivial, ⟨⟨trivial, trivial⟩, trivial⟩⟩, ⟨trivial, trivial⟩⟩⟩ ?_
          refine W.ret ?_
          exact endQ_ret (.v (.bool (validHistory g11))) (by kernel_rfl) (@cast (((.bool (validHistory g11)) : Value) = (.bool true)) _ (by kernel_rfl) (congrArg Value.bool (by exact (oneWriter_iff.1 (not_g (or_r n21))).1)))
theorem ent3 : Entr prog 3 := ⟨_, func3, rfl, by decide⟩

end Go.Proofs.Try
