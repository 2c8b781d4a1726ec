import Derived.Test.YtcjnccepckdiaaaAb30
import Derived.Shelf.Slices.Clone
namespace Go.Ab
open Go.RowKit Go.Shelf Go.Proofs
/-! ### slices.Clone, by its contract -/
theorem clone_post {w w' : World} {T : Nat → Prop} {t : TypeId} {l : List Int} {v' : Value} (hown : w'.ownsRow w.heap.size t 1 v' l.length (l.map (Value.int .i64))) (hb : Below w.heap.size w w') :
    ∃ β', PostF w T none w' β' (.own 0 l.length) [(t, .ints l)] v' := by
  obtain ⟨_, h⟩ := hown
  rcases h with ⟨rfl, hn⟩ | ⟨g, cap, cur, rfl, hg, hcell, hlen, hcap, hsz, htake⟩
  · refine ⟨fun k => if k = 0 then some .nil else none, hb.os, hb.tape, hb.output, hb.size, fun b hb' _ => hb.block b hb', ?_, ?_, ?_, ?_, ?_⟩
    · simp only [Rep]; exact Or.inl ⟨rfl, hn, rfl⟩
    · intro k c hk
      cases k with
      | succ k => simp [rowsHeap] at hk
      | zero =>
        simp only [rowsHeap, List.getElem?_cons_zero, Option.map_some, Option.some.injEq] at hk
        subst hk
        simp only [LocOK, CellsOK]
        exact .inl ⟨rfl, hn⟩
    · intro k k' c c' g1 cap1 cap2 e1 e2 hb1 _
      by_cases hk : k = 0
      · rw [hk] at hb1; simp at hb1
      · rw [if_neg hk] at hb1; cases hb1
    · intro k c g1 cap1 _ hb1
      by_cases hk : k = 0
      · rw [hk] at hb1; simp at hb1
      · rw [if_neg hk] at hb1; cases hb1
    · intro k p hp
      by_cases hk : k = 0
      · subst hk; simp
      · rw [if_neg hk] at hp; cases hp
  · refine ⟨fun k => if k = 0 then some (.blk g cap) else none, hb.os, hb.tape, hb.output, hb.size, fun b hb' _ => hb.block b hb', ?_, ?_, ?_, ?_, ?_⟩
    · simp only [Rep, OwnRep]; exact .inr ⟨g, cap, rfl, hlen, rfl⟩
    · intro k c hk
      cases k with
      | succ k => simp [rowsHeap] at hk
      | zero =>
        simp only [rowsHeap, List.getElem?_cons_zero, Option.map_some, Option.some.injEq] at hk
        subst hk
        simp only [LocOK, CellsOK]
        refine .inr ⟨g, cap, cur, rfl, hcell, hlen, hcap, hsz, ?_⟩
        intro k jj x hk hx
        have hk' : k < l.length := hk
        rw [elem_ints] at hx
        cases jj with
        | succ jj => simp at hx
        | zero =>
          simp only [List.getElem?_cons_zero, Option.some.injEq] at hx
          subst hx
          refine ⟨.int .i64 (l.getD k 0), ?_, by simp only [Rep]⟩
          have e1 : (cur.toList.take (l.length * 1))[k]? = some (.int .i64 (l.getD k 0)) := by
            rw [htake, List.getElem?_map, List.getElem?_eq_getElem hk']
            simp [List.getD_eq_getElem?_getD, hk']
          rw [List.getElem?_take, if_pos (by omega)] at e1
          simpa [Dat.esz] using e1
    · intro k k' c c' g1 cap1 cap2 e1 e2 _ _
      cases k with
      | succ k => simp [rowsHeap] at e1
      | zero =>
        cases k' with
        | succ k' => simp [rowsHeap] at e2
        | zero => rfl
    · intro k c g1 cap1 _ hb1
      by_cases hk : k = 0
      · subst hk
        simp only [if_true, Option.some.injEq, Bl.blk.injEq] at hb1
        right; omega
      · rw [if_neg hk] at hb1; cases hb1
    · intro k p hp
      by_cases hk : k = 0
      · subst hk; simp
      · rw [if_neg hk] at hp; cases hp
theorem clone_core {P : Program} {ρ : Ren} (L : Lays2.n15 P ρ) (l : List Int) (hbig : l.length * 8 ≤ 140737488355328) (w : World) (T : Nat → Prop) (vals : List Value) (bC : Option Nat)
    (hargs : ArgsRep w T [.s .ints] [.sl (.ints l)] vals bC) :
    Calls P (ρ.f 15) vals.toArray w fun en w' => ∃ y β', en = .returned y ∧ PostF w T bC w' β' (.own 0 (List.length l)) [(ρ.t 3, .ints l)] y := by
  match vals, hargs with
  | [y0], h =>
    simp only [ArgsRep] at h
    obtain ⟨h1, rfl⟩ := h
    simp only [Rep, SlRep, FlatRep] at h1
    obtain ⟨a, c, rfl, hlc, hcm, hd⟩ := h1
    cases l with
    | nil =>
      cases a with
      | none =>
        refine (Any.slices_Clone_int_nil L 0 c w).mono ?_
        rintro e w' ⟨rfl, rfl⟩
        obtain ⟨β', h⟩ := clone_post (T := T) (t := ρ.t 3) (l := []) (World.ownsRow_nil w' w'.heap.size (ρ.t 3) 1) (Below.refl w'.heap.size w')
        exact ⟨_, β', rfl, h⟩
      | some ad =>
        refine (Any.slices_Clone_int_zero L ad c w).mono ?_
        rintro e w' ⟨v', rfl, hown, _, hb⟩
        obtain ⟨β', h⟩ := clone_post (T := T) (t := ρ.t 3) (l := []) hown hb
        exact ⟨_, β', rfl, h⟩
    | cons x0 l0 =>
      rcases hd with hd | ⟨ad, rfl, hT, hc⟩
      · simp at hd
      · have hcc : ∀ k, k < (x0 :: l0).length → w.cell? (ad.add k) = some (.int .i64 ((x0 :: l0).getD k 0)) := fun k hk => by
          have := hc k 0 _ hk (show ((Dat.ints (x0 :: l0)).flat k)[0]? = some (.int .i64 ((x0 :: l0).getD k 0)) from rfl)
          simpa using this
        obtain ⟨b, off, sp⟩ := ad
        cases sp with
        | some s0 =>
          have := hcc 0 (by simp)
          rw [Addr.add_zero'] at this
          unfold World.cell? at this
          simp at this
          split at this <;> cases this
        | none =>
          refine (Any.slices_Clone_int L b off (x0 :: l0).length c (x0 :: l0) w (Nat.le_refl _) hbig (fun j hj => by
            have := hcc j hj
            rwa [Addr.add_lit] at this)).mono ?_
          rintro e w' ⟨v', rfl, hown, _, hb⟩
          rw [List.take_length] at hown
          obtain ⟨β', h⟩ := clone_post (T := T) (t := ρ.t 3) (l := x0 :: l0) hown hb
          exact ⟨_, β', rfl, h⟩
theorem clone_ok {P : Program} {ρ : Ren} (L : Lays2.n15 P ρ) :
    FnOK P (ρ.f 15) (fnS [.s .ints] [.ints] (fun _ (l, _) => (.own 0 (List.length l), [(ρ.t 3, .ints l)], List.length l * 8 ≤ 140737488355328))) := by
  intro fl args r rows φ hg hφ w T vals bC hT hargs
  simp only [fnS] at hg
  split at hg
  · rename_i a ha
    simp only [Option.some.injEq] at hg
    have hx := decL_encL ha
    subst hx
    obtain ⟨l, u⟩ := a
    simp only [Prod.mk.injEq] at hg
    obtain ⟨rfl, rfl, rfl⟩ := hg
    exact clone_core L l hφ w T vals bC hargs
  · cases hg
end Go.Ab
