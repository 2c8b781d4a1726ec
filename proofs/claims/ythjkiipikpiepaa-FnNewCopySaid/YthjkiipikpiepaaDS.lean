import Derived.Test.YthjkiipikpiepaaFrameB
import Derived.Test.YthjkiipikpiepaaProg
namespace Go.Proofs.Try
open Go.Ab Go.RowKit

abbrev i0 : Value := .int .i64 0
abbrev b0 : Value := .bool false
abbrev n0 : Value := .slice none 0 0
def tyL : List (Nat × TyK) := [(3, .sc (i0)), (4, .sc (.bool false)), (5, .sc (.int .u8 0)), (9, .sc (.string ByteArray.empty)), (22, .sc (.slice none 0 0)), (23, .sc (.slice none 0 0)), (24, .sc (.slice none 0 0)), (26, .st [n0, n0, i0, i0, i0, n0]), (34, .st [i0, i0, i0, b0]), (48, .sc (.int .u64 0))]
def slL : List (Nat × (TypeId × DatK)) := [(22, (5, .bytes)), (23, (3, .ints)), (24, (34, .marks))]
def ikL : List (Nat × IntKind) := [(3, .i64), (5, .u8), (48, .u64), (62, .u64)]

abbrev DD : CD := ⟨lk tyL, lk slL, lk ikL, fun t => Nat.beq t 9, fun t => Nat.beq t 4⟩

theorem lk_all {α : Type} {p : Nat → α → Prop} : ∀ {l : List (Nat × α)}, (∀ q ∈ l, p q.1 q.2) → ∀ t x, lk l t = some x → p t x
  | [], _, t, x, h => by cases h
  | (k, y) :: r, hp, t, x, h => by
    simp only [lk] at h
    by_cases ht : t = k
    · subst ht; simp only [if_true, Option.some.injEq] at h; subst h; exact hp (t, y) (by simp)
    · rw [if_neg ht] at h; exact lk_all (fun q hq => hp q (by simp [hq])) t x h

set_option maxRecDepth 100000 in
theorem cok : COK prog DD where
  ty := lk_all (by
    simp only [tyL, List.forall_mem_cons]
    refine ⟨?_, ?_, ?_, ?_, ?_, ?_, ?_, ?_, ?_, ?_, fun _ h => by cases h⟩
    · exact ⟨⟨_, rfl, rfl, rfl⟩, rfl, _, underlying3, trivial⟩
    · exact ⟨⟨_, rfl, rfl, rfl⟩, rfl, _, underlying4, trivial⟩
    · exact ⟨⟨_, rfl, rfl, rfl⟩, rfl, _, underlying5, trivial⟩
    · exact ⟨⟨_, rfl, rfl, rfl⟩, rfl, _, underlying9, trivial⟩
    · exact ⟨⟨_, rfl, rfl, rfl⟩, rfl, _, underlying22, trivial⟩
    · exact ⟨⟨_, rfl, rfl, rfl⟩, rfl, _, underlying23, trivial⟩
    · exact ⟨⟨_, rfl, rfl, rfl⟩, rfl, _, underlying24, trivial⟩
    · refine ⟨⟨_, rfl, rfl, rfl⟩, _, underlying26, rfl, ?_⟩
      intro j f hj
      match j, hj with
      | 0, hj => cases hj; exact ⟨rfl, _, rfl, rfl⟩
      | 1, hj => cases hj; exact ⟨rfl, _, rfl, rfl⟩
      | 2, hj => cases hj; exact ⟨rfl, _, rfl, rfl⟩
      | 3, hj => cases hj; exact ⟨rfl, _, rfl, rfl⟩
      | 4, hj => cases hj; exact ⟨rfl, _, rfl, rfl⟩
      | 5, hj => cases hj; exact ⟨rfl, _, rfl, rfl⟩
      | j + 6, hj => simp at hj
    · refine ⟨⟨_, rfl, rfl, rfl⟩, _, underlying34, rfl, ?_⟩
      intro j f hj
      match j, hj with
      | 0, hj => cases hj; exact ⟨rfl, _, rfl, rfl⟩
      | 1, hj => cases hj; exact ⟨rfl, _, rfl, rfl⟩
      | 2, hj => cases hj; exact ⟨rfl, _, rfl, rfl⟩
      | 3, hj => cases hj; exact ⟨rfl, _, rfl, rfl⟩
      | j + 4, hj => simp at hj
    · exact ⟨⟨_, rfl, rfl, rfl⟩, rfl, _, underlying48, trivial⟩)
  sl := by
    have h := lk_all (l := slL) (p := fun t q => SlOK prog t q.1 q.2) (by
      simp only [slL, List.forall_mem_cons]
      refine ⟨⟨underlying22, _, rfl, rfl, rfl, rfl⟩, ⟨underlying23, _, rfl, rfl, rfl, rfl⟩, ⟨underlying24, _, rfl, rfl, rfl, rfl⟩, fun _ h => by cases h⟩)
    exact fun t e k hk => h t (e, k) hk
  ik := lk_all (by
    simp only [ikL, List.forall_mem_cons]
    exact ⟨underlying3, underlying5, underlying48, underlying62, fun _ h => by cases h⟩)
  str := fun t h => by
    have h' : t = 9 := Nat.eq_of_beq_eq_true h
    subst h'; exact underlying9
  bo := fun t h => by
    have h' : t = 4 := Nat.eq_of_beq_eq_true h
    subst h'; exact underlying4
  wide := rfl
end Go.Proofs.Try
