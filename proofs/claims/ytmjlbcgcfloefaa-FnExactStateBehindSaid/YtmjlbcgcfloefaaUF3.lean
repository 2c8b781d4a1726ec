/- Proved: the law FnExactStateBehind of the program returns true for every input, and its argument reads behind the call as it read before. Conditions: none beyond those that the given row prints. -/
import Derived.Test.YtmjlbcgcfloefaaUF3S7
import Derived.Test.YtmjlbcgcfloefaaFrameB
import Derived.Carry
import Derived.Test.YtmjlbcgcfloefaaRows
namespace Go.Proofs.Ytmjlbcgcfloefaa
open Go.Ab Go.RowKit Go.ChangeShapes Go.WideShapes Go.ChangeAt
set_option maxRecDepth 100000 in
theorem lifted3 (os : Os) (started : os.Started) (H : Type) (enc : TypeId × Value → H) :
    ReturnsInHanded {} Try.checked os 3 .any (Rows.fnExactStateBehindSpec.pre6 enc Try.prog Try.f3 Rows.fnExactStateBehindRow.domain false) (Rows.fnExactStateBehindSpec.post enc Try.prog Try.f3 false true false false) := by
  refine returnsInHanded_of_change (C := Try.checked) (by kernel_rfl) started (by kernel_rfl) Try.func3
    (ChangeSpec.witness6 (enc := enc) (C := Try.checked) false ⟨#[], #[.string ByteArray.empty, .slice none 0 0, .slice none 0 0, .int .i64 0], []⟩ 8 (by kernel_rfl) (by kernel_rfl) (by kernel_rfl) (by kernel_rfl)) ?_
  intro W base args ds gs before hval0 hW _ _
  have hval : ∀ (j : Nat) t v, Try.f3.params[j]? = some t → args[j]? = some v → Value.okWide Try.prog W .any base t v := hval0
  have hW' := hW
  obtain ⟨p, q, hA0, hV, rfl, _, _⟩ := hW
  have hA : DataW.TrodAll enc Try.prog W 0 (fun _ => true) true Try.f3.params.toList args.toList ds p := hA0
  rw [Try.params3] at hA hval
  obtain ⟨v0, v1, v2, v3, d0, d1, d2, d3, q0, q1, q2, q3, rfl, rfl, rfl, h0, h1, h2, h3⟩ := trodAll_four hA
  obtain ⟨rfl, rfl⟩ := trodVars_none hV
  simp only [List.append_nil] at hW'
  have hlt : ∀ x ∈ (q0 ++ q1 ++ q2 ++ q3), x.block < W.heap.size := fun x hx => by simpa using hW'.lt x (by simpa using hx)
  obtain ⟨c0, rfl⟩ := arg_str Try.underlying9 (hval 0 9 v0 rfl rfl) h0
  obtain ⟨c1, hc1⟩ := arg_calls Try.underlying22 Try.underlying49 (by kernel_rfl) rfl (by
    intro j f hj
    match j, hj with
    | 0, hj => cases hj; exact ⟨rfl, by kernel_rfl, Try.underlying3⟩
    | 1, hj => cases hj; exact ⟨rfl, by kernel_rfl, Try.underlying3⟩
    | 2, hj => cases hj; exact ⟨rfl, by kernel_rfl, Try.underlying3⟩
    | 3, hj => cases hj; exact ⟨rfl, by kernel_rfl, Try.underlying3⟩
    | 4, hj => cases hj; exact ⟨rfl, by kernel_rfl, Try.underlying3⟩
    | 5, hj => cases hj; exact ⟨rfl, by kernel_rfl, Try.underlying3⟩
    | 6, hj => cases hj; exact ⟨rfl, by kernel_rfl, Try.underlying3⟩
    | j + 7, hj => simp at hj) (hval 1 22 v1 rfl rfl) h1
  obtain ⟨c2, hc2⟩ := arg_ints Try.underlying23 Try.underlying3 (by kernel_rfl) (hval 2 23 v2 rfl rfl) h2
  obtain ⟨c3, rfl⟩ := arg_int Try.underlying3 (hval 3 3 v3 rfl rfl) h3
  refine (law_any (W := W) (vals := [.string c0, v1, v2, .int .i64 c3]) Try.ok3 (c0, c1, c2, c3, ()) rfl rfl ⟨by simp [Rep, PT.enc], by simpa [Rep, PT.enc] using hc1, by simpa [Rep, PT.enc] using hc2, by simp [Rep, PT.enc], rfl⟩).mono fun e W' ⟨he, hb⟩ => ?_
  subst he
  refine ⟨_, rfl, _, _, _, [], (q0 ++ q1 ++ q2 ++ q3), [], hW', ?_, ?_, rfl, hb.frame _, fun h => by cases h⟩
  · exact trodAll_mk1 (shut_bool Try.underlying4 true)
  · exact (by have h9 := trodAll_mk4 (Below.trod (by kernel_rfl) (by kernel_rfl) (of_decide_eq_true (by kernel_rfl)) h0 hb fun x hx => hlt x (by simp [hx])) (Below.trod (by kernel_rfl) (by kernel_rfl) (of_decide_eq_true (by kernel_rfl)) h1 hb fun x hx => hlt x (by simp [hx])) (Below.trod (by kernel_rfl) (by kernel_rfl) (of_decide_eq_true (by kernel_rfl)) h2 hb fun x hx => hlt x (by simp [hx])) (Below.trod (by kernel_rfl) (by kernel_rfl) (of_decide_eq_true (by kernel_rfl)) h3 hb fun x hx => hlt x (by simp [hx])); rwa [← List.append_assoc, ← List.append_assoc] at h9)
theorem fnExactStateBehind_holds : Rows.FnExactStateBehindSaid :=
  OpenClaim.holds_of_wide 3 Try.f3 rfl rfl rfl rfl rfl rfl rfl ⟨rfl, rfl, rfl, rfl, rfl⟩ rfl rfl rfl rfl rfl (by kernel_rfl) Try.func3 (by kernel_rfl)
    (of_decide_eq_true (by kernel_rfl)) (by unfold Func.isWrapper; first | (rw [if_pos (by decide +kernel)]; kernel_rfl) | (rw [if_neg (by decide +kernel)]; exact ⟨rfl, rfl⟩))
    (fun os started H enc _ => lifted3 os started H enc)
end Go.Proofs.Ytmjlbcgcfloefaa
