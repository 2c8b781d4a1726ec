/- Proved: the law FnExactValuesOf of the program returns true for every input, and its argument reads behind the call as it read before. Conditions: none beyond those that the given row prints. -/
import Derived.Test.YtilnnaoaefphcaaRF9S3
import Derived.Test.YtilnnaoaefphcaaFrameB
import Derived.Carry
import Derived.Test.YtilnnaoaefphcaaRows
namespace Go.Proofs.Ytilnnaoaefphcaa
open Go.Ab Go.RowKit Go.ChangeShapes Go.WideShapes Go.ChangeAt
set_option maxRecDepth 100000 in
theorem lifted9 (os : Os) (started : os.Started) (H : Type) (enc : TypeId × Value → H) :
    ReturnsInHanded {} Try.checked os 9 .any (Rows.fnExactValuesOfSpec.pre6 enc Try.prog Try.f9 Rows.fnExactValuesOfRow.domain false) (Rows.fnExactValuesOfSpec.post enc Try.prog Try.f9 false true false false) := by
  refine returnsInHanded_of_change (C := Try.checked) (by kernel_rfl) started (by kernel_rfl) Try.func9
    (ChangeSpec.witness6 (enc := enc) (C := Try.checked) false ⟨#[], #[.agg #[.slice none 0 0, .slice none 0 0, .int .i64 0, .int .i64 0, .int .i64 0, .slice none 0 0]], []⟩ 8 (by kernel_rfl) (by kernel_rfl) (by kernel_rfl) (by kernel_rfl)) ?_
  intro W base args ds gs before hval0 hW _ _
  have hval : ∀ (j : Nat) t v, Try.f9.params[j]? = some t → args[j]? = some v → Value.okWide Try.prog W .any base t v := hval0
  have hW' := hW
  obtain ⟨p, q, hA0, hV, rfl, _, _⟩ := hW
  have hA : DataW.TrodAll enc Try.prog W 0 (fun _ => true) true Try.f9.params.toList args.toList ds p := hA0
  rw [Try.params9] at hA hval
  obtain ⟨v0, d0, rfl, rfl, h0⟩ := trodAll_one hA
  obtain ⟨rfl, rfl⟩ := trodVars_none hV
  simp only [List.append_nil] at hW'
  have hlt : ∀ x ∈ p, x.block < W.heap.size := fun x hx => by simpa using hW'.lt x (by simpa using hx)
  obtain ⟨c0, hc0⟩ := arg_copy (TI := 22) (I := 3) (TM := 23) (M := 68) (B := 4) Try.underlying25 (by kernel_rfl) rfl (by
    intro j f hj
    match j, hj with
    | 0, hj => cases hj; exact ⟨rfl, by kernel_rfl, rfl⟩
    | 1, hj => cases hj; exact ⟨rfl, by kernel_rfl, rfl⟩
    | 2, hj => cases hj; exact ⟨rfl, by kernel_rfl, rfl⟩
    | 3, hj => cases hj; exact ⟨rfl, by kernel_rfl, rfl⟩
    | 4, hj => cases hj; exact ⟨rfl, by kernel_rfl, rfl⟩
    | 5, hj => cases hj; exact ⟨rfl, by kernel_rfl, rfl⟩
    | j + 6, hj => simp at hj) Try.underlying22 Try.underlying3 (by kernel_rfl) Try.underlying23 Try.underlying68 (by kernel_rfl) rfl Try.underlying4 (by
    intro j f hj
    match j, hj with
    | 0, hj => cases hj; exact ⟨rfl, by kernel_rfl, rfl⟩
    | 1, hj => cases hj; exact ⟨rfl, by kernel_rfl, rfl⟩
    | 2, hj => cases hj; exact ⟨rfl, by kernel_rfl, rfl⟩
    | 3, hj => cases hj; exact ⟨rfl, by kernel_rfl, rfl⟩
    | j + 4, hj => simp at hj) (hval 0 25 v0 rfl rfl) h0
  refine (law_any (W := W) (vals := [v0]) Try.ok9 (c0, ()) rfl rfl ⟨hc0, rfl⟩).mono fun e W' ⟨he, hb⟩ => ?_
  subst he
  refine ⟨_, rfl, _, _, _, [], p, [], hW', ?_, ?_, rfl, hb.frame _, fun h => by cases h⟩
  · exact trodAll_mk1 (shut_bool Try.underlying4 true)
  · exact trodAll_mk1 (Below.trod (by kernel_rfl) (by kernel_rfl) (of_decide_eq_true (by kernel_rfl)) h0 hb hlt)
theorem fnExactValuesOf_holds : Rows.FnExactValuesOfSaid :=
  OpenClaim.holds_of_wide 9 Try.f9 rfl rfl rfl rfl rfl rfl rfl ⟨rfl, rfl, rfl, rfl, rfl⟩ rfl rfl rfl rfl rfl (by kernel_rfl) Try.func9 (by kernel_rfl)
    (of_decide_eq_true (by kernel_rfl)) (by unfold Func.isWrapper; first | (rw [if_pos (by decide +kernel)]; kernel_rfl) | (rw [if_neg (by decide +kernel)]; exact ⟨rfl, rfl⟩))
    (fun os started H enc _ => lifted9 os started H enc)
end Go.Proofs.Ytilnnaoaefphcaa
