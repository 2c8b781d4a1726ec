/- Proved: the law FnExactMergeCopies of the program returns true for every input, and its argument reads behind the call as it read before. Conditions: none beyond those that the given row prints. -/
import Derived.Test.YtilnnaoaefphcaaRF8S7
import Derived.Test.YtilnnaoaefphcaaFrameB
import Derived.Carry
import Derived.Test.YtilnnaoaefphcaaRows
namespace Go.Proofs.Ytilnnaoaefphcaa
open Go.Ab Go.RowKit Go.ChangeShapes Go.WideShapes Go.ChangeAt
set_option maxRecDepth 100000 in
theorem lifted8 (os : Os) (started : os.Started) (H : Type) (enc : TypeId × Value → H) :
    ReturnsInHanded {} Try.checked os 8 .any (Rows.fnExactMergeCopiesSpec.pre6 enc Try.prog Try.f8 Rows.fnExactMergeCopiesRow.domain false) (Rows.fnExactMergeCopiesSpec.post enc Try.prog Try.f8 false true false false) := by
  refine returnsInHanded_of_change (C := Try.checked) (by kernel_rfl) started (by kernel_rfl) Try.func8
    (ChangeSpec.witness6 (enc := enc) (C := Try.checked) false ⟨#[], #[.agg #[.slice none 0 0, .slice none 0 0, .int .i64 0, .int .i64 0, .int .i64 0, .slice none 0 0], .agg #[.slice none 0 0, .slice none 0 0, .int .i64 0, .int .i64 0, .int .i64 0, .slice none 0 0]], []⟩ 8 (by kernel_rfl) (by kernel_rfl) (by kernel_rfl) (by kernel_rfl)) ?_
  intro W base args ds gs before hval0 hW _ _
  have hval : ∀ (j : Nat) t v, Try.f8.params[j]? = some t → args[j]? = some v → Value.okWide Try.prog W .any base t v := hval0
  have hW' := hW
  obtain ⟨p, q, hA0, hV, rfl, _, _⟩ := hW
  have hA : DataW.TrodAll enc Try.prog W 0 (fun _ => true) true Try.f8.params.toList args.toList ds p := hA0
  rw [Try.params8] at hA hval
  obtain ⟨v0, v1, d0, d1, q0, q1, rfl, rfl, rfl, h0, h1⟩ := trodAll_two hA
  obtain ⟨rfl, rfl⟩ := trodVars_none hV
  simp only [List.append_nil] at hW'
  have hlt : ∀ x ∈ (q0 ++ q1), x.block < W.heap.size := fun x hx => by simpa using hW'.lt x (by simpa using hx)
  obtain ⟨c0, hc0⟩ := arg_copy (TI := 22) (I := 3) (TM := 23) (M := 68) (B := 4) Try.underlying25 (by kernel_rfl) rfl (by
    intro j f hj
    match j, hj with
    | 0, hj => cases hj; exact ⟨rfl, by kernel_rfl, rfl⟩
    | 1, hj => cases hj; exact ⟨rfl, by kernel_rfl, rfl⟩
    | 2, hj => cases hj; exact ⟨rfl, by kernel_rfl, rfl⟩
    | 3, hj => cases hj; exact ⟨rfl, by kernel_rfl, rfl⟩
    | 4, hj => cases hj; exact ⟨rfl, by kernel_rfl, rfl⟩
    | 5, hj => cases hj; exact ⟨rfl, by kernel_rfl, rfl⟩
    | j + 6, hj => simp at hj) Try.underlying22 Try.underlying3 (by kernel_rfl) Try.underlying23 Try.underlying68 (by kernel_rfl) rfl Try.underlying4 (by
    intro j f hj
    match j, hj with
    | 0, hj => cases hj; exact ⟨rfl, by kernel_rfl, rfl⟩
    | 1, hj => cases hj; exact ⟨rfl, by kernel_rfl, rfl⟩
    | 2, hj => cases hj; exact ⟨rfl, by kernel_rfl, rfl⟩
    | 3, hj => cases hj; exact ⟨rfl, by kernel_rfl, rfl⟩
    | j + 4, hj => simp at hj) (hval 0 25 v0 rfl rfl) h0
  obtain ⟨c1, hc1⟩ := arg_copy (TI := 22) (I := 3) (TM := 23) (M := 68) (B := 4) Try.underlying25 (by kernel_rfl) rfl (by
    intro j f hj
    match j, hj with
    | 0, hj => cases hj; exact ⟨rfl, by kernel_rfl, rfl⟩
    | 1, hj => cases hj; exact ⟨rfl, by kernel_rfl, rfl⟩
    | 2, hj => cases hj; exact ⟨rfl, by kernel_rfl, rfl⟩
    | 3, hj => cases hj; exact ⟨rfl, by kernel_rfl, rfl⟩
    | 4, hj => cases hj; exact ⟨rfl, by kernel_rfl, rfl⟩
    | 5, hj => cases hj; exact ⟨rfl, by kernel_rfl, rfl⟩
    | j + 6, hj => simp at hj) Try.underlying22 Try.underlying3 (by kernel_rfl) Try.underlying23 Try.underlying68 (by kernel_rfl) rfl Try.underlying4 (by
    intro j f hj
    match j, hj with
    | 0, hj => cases hj; exact ⟨rfl, by kernel_rfl, rfl⟩
    | 1, hj => cases hj; exact ⟨rfl, by kernel_rfl, rfl⟩
    | 2, hj => cases hj; exact ⟨rfl, by kernel_rfl, rfl⟩
    | 3, hj => cases hj; exact ⟨rfl, by kernel_rfl, rfl⟩
    | j + 4, hj => simp at hj) (hval 1 25 v1 rfl rfl) h1
  refine (law_any (W := W) (vals := [v0, v1]) Try.ok8 (c0, c1, ()) rfl rfl ⟨hc0, hc1, rfl⟩).mono fun e W' ⟨he, hb⟩ => ?_
  subst he
  refine ⟨_, rfl, _, _, _, [], (q0 ++ q1), [], hW', ?_, ?_, rfl, hb.frame _, fun h => by cases h⟩
  · exact trodAll_mk1 (shut_bool Try.underlying4 true)
  · exact trodAll_mk2 (Below.trod (by kernel_rfl) (by kernel_rfl) (of_decide_eq_true (by kernel_rfl)) h0 hb fun x hx => hlt x (by simp [hx])) (Below.trod (by kernel_rfl) (by kernel_rfl) (of_decide_eq_true (by kernel_rfl)) h1 hb fun x hx => hlt x (by simp [hx]))
theorem fnExactMergeCopies_holds : Rows.FnExactMergeCopiesSaid :=
  OpenClaim.holds_of_wide 8 Try.f8 rfl rfl rfl rfl rfl rfl rfl ⟨rfl, rfl, rfl, rfl, rfl⟩ rfl rfl rfl rfl rfl (by kernel_rfl) Try.func8 (by kernel_rfl)
    (of_decide_eq_true (by kernel_rfl)) (by unfold Func.isWrapper; first | (rw [if_pos (by decide +kernel)]; kernel_rfl) | (rw [if_neg (by decide +kernel)]; exact ⟨rfl, rfl⟩))
    (fun os started H enc _ => lifted8 os started H enc)
end Go.Proofs.Ytilnnaoaefphcaa
