/- Proved: the law FnExactPutIn of the program returns true for every input, and its argument reads behind the call as it read before. Conditions: none beyond those that the given row prints. -/
import Derived.Test.YtilnnaoaefphcaaRF6S6
import Derived.Test.YtilnnaoaefphcaaFrameB
import Derived.Carry
import Derived.Test.YtilnnaoaefphcaaRows
namespace Go.Proofs.Ytilnnaoaefphcaa
open Go.Ab Go.RowKit Go.ChangeShapes Go.WideShapes Go.ChangeAt
set_option maxRecDepth 100000 in
theorem lifted6 (os : Os) (started : os.Started) (H : Type) (enc : TypeId × Value → H) :
    ReturnsInHanded {} Try.checked os 6 .any (Rows.fnExactPutInSpec.pre6 enc Try.prog Try.f6 Rows.fnExactPutInRow.domain false) (Rows.fnExactPutInSpec.post enc Try.prog Try.f6 false true false false) := by
  refine returnsInHanded_of_change (C := Try.checked) (by kernel_rfl) started (by kernel_rfl) Try.func6
    (ChangeSpec.witness6 (enc := enc) (C := Try.checked) false ⟨#[], #[.agg #[.slice none 0 0, .slice none 0 0, .int .i64 0, .int .i64 0, .int .i64 0, .slice none 0 0], .int .i64 0, .int .i64 0], []⟩ 8 (by kernel_rfl) (by kernel_rfl) (by kernel_rfl) (by kernel_rfl)) ?_
  intro W base args ds gs before hval0 hW _ _
  have hval : ∀ (j : Nat) t v, Try.f6.params[j]? = some t → args[j]? = some v → Value.okWide Try.prog W .any base t v := hval0
  have hW' := hW
  obtain ⟨p, q, hA0, hV, rfl, _, _⟩ := hW
  have hA : DataW.TrodAll enc Try.prog W 0 (fun _ => true) true Try.f6.params.toList args.toList ds p := hA0
  rw [Try.params6] at hA hval
  obtain ⟨v0, v1, v2, d0, d1, d2, q0, q1, q2, rfl, rfl, rfl, h0, h1, h2⟩ := trodAll_three hA
  obtain ⟨rfl, rfl⟩ := trodVars_none hV
  simp only [List.append_nil] at hW'
  have hlt : ∀ x ∈ (q0 ++ q1 ++ q2), x.block < W.heap.size := fun x hx => by simpa using hW'.lt x (by simpa using hx)
  obtain ⟨c0, hc0⟩ := arg_copy (TI := 22) (I := 3) (TM := 23) (M := 68) (B := 4) Try.underlying25 (by kernel_rfl) rfl (by
    intro j f hj
    match j, hj with
    | 0, hj => cases hj; exact ⟨rfl, by kernel_rfl, rfl⟩
    | 1, hj => cases hj; exact ⟨rfl, by kernel_rfl, rfl⟩
    | 2, hj => cases hj; exact ⟨rfl, by kernel_rfl, rfl⟩
    | 3, hj => cases hj; exact ⟨rfl, by kernel_rfl, rfl⟩
    | 4, hj => cases hj; exact ⟨rfl, by kernel_rfl, rfl⟩
    | 5, hj => cases hj; exact ⟨rfl, by kernel_rfl, rfl⟩
    | j + 6, hj => simp at hj) Try.underlying22 Try.underlying3 (by kernel_rfl) Try.underlying23 Try.underlying68 (by kernel_rfl) rfl Try.underlying4 (by
    intro j f hj
    match j, hj with
    | 0, hj => cases hj; exact ⟨rfl, by kernel_rfl, rfl⟩
    | 1, hj => cases hj; exact ⟨rfl, by kernel_rfl, rfl⟩
    | 2, hj => cases hj; exact ⟨rfl, by kernel_rfl, rfl⟩
    | 3, hj => cases hj; exact ⟨rfl, by kernel_rfl, rfl⟩
    | j + 4, hj => simp at hj) (hval 0 25 v0 rfl rfl) h0
  obtain ⟨c1, rfl⟩ := arg_int Try.underlying3 (hval 1 3 v1 rfl rfl) h1
  obtain ⟨c2, rfl⟩ := arg_int Try.underlying3 (hval 2 3 v2 rfl rfl) h2
  refine (law_any (W := W) (vals := [v0, .int .i64 c1, .int .i64 c2]) Try.ok6 (c0, c1, c2, ()) rfl rfl ⟨hc0, rfl, rfl, rfl⟩).mono fun e W' ⟨he, hb⟩ => ?_
  subst he
  refine ⟨_, rfl, _, _, _, [], (q0 ++ q1 ++ q2), [], hW', ?_, ?_, rfl, hb.frame _, fun h => by cases h⟩
  · exact trodAll_mk1 (shut_bool Try.underlying4 true)
  · exact (by have h9 := trodAll_mk3 (Below.trod (by kernel_rfl) (by kernel_rfl) (of_decide_eq_true (by kernel_rfl)) h0 hb fun x hx => hlt x (by simp [hx])) (Below.trod (by kernel_rfl) (by kernel_rfl) (of_decide_eq_true (by kernel_rfl)) h1 hb fun x hx => hlt x (by simp [hx])) (Below.trod (by kernel_rfl) (by kernel_rfl) (of_decide_eq_true (by kernel_rfl)) h2 hb fun x hx => hlt x (by simp [hx])); rwa [← List.append_assoc] at h9)
theorem fnExactPutIn_holds : Rows.FnExactPutInSaid :=
  OpenClaim.holds_of_wide 6 Try.f6 rfl rfl rfl rfl rfl rfl rfl ⟨rfl, rfl, rfl, rfl, rfl⟩ rfl rfl rfl rfl rfl (by kernel_rfl) Try.func6 (by kernel_rfl)
    (of_decide_eq_true (by kernel_rfl)) (by unfold Func.isWrapper; first | (rw [if_pos (by decide +kernel)]; kernel_rfl) | (rw [if_neg (by decide +kernel)]; exact ⟨rfl, rfl⟩))
    (fun os started H enc _ => lifted6 os started H enc)
end Go.Proofs.Ytilnnaoaefphcaa
