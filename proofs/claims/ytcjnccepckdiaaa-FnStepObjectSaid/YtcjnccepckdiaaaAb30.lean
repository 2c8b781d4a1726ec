import Derived.Test.YtcjnccepckdiaaaFrameB
import Derived.Shelf.Slices.Delete
namespace Go.Ab
open Go.RowKit Go.Shelf Go.Proofs
/-! ### slices.Delete, by its contract -/
theorem elem_ints (l : List Int) (k : Nat) : (Dat.ints l).elem k = [.v (.int .i64 (l.getD k 0))] := rfl
theorem delete_core {P : Program} {ρ : Ren} (L : Lays2.n23 P ρ) {t : TypeId} (l : List Int) (i j : Int) (hi0 : 0 ≤ i) (hij : i < j) (hjl : j ≤ ((l.length : Nat) : Int)) (w : World) (T : Nat → Prop) (vals : List Value) (bC : Option Nat)
    (hargs' : ArgsRep w T [.c .ints t, .o, .o] [.sl (.ints l), .v (.int .i64 i), .v (.int .i64 j)] vals bC) :
    Calls P (ρ.f 23) vals.toArray w fun en w' => ∃ y β', en = .returned y ∧ PostF w T bC w' β' (.own 0 (List.length (l.take i.toNat ++ l.drop j.toNat))) [(t, .ints (l.take i.toNat ++ l.drop j.toNat))] y := by
    match vals, hargs' with
    | [y0, y1, y2], h =>
      simp only [ArgsRep] at h
      obtain ⟨⟨d, hd, _, hc⟩, h1, h2, _⟩ := h
      cases hd
      simp only [Rep] at h1 h2
      subst h1
      subst h2
      rcases hc with ⟨_, hz, _⟩ | ⟨g, cap, cur, rfl, rfl, hgw, hTg, hcell, hlen, hcap, hsz, hrow⟩
      · simp only [Dat.len] at hz; omega
      · have hm : maxLen = 9223372036854775807 := by decide
        have hsz' : cur.size = cap := by simpa [Dat.esz] using hsz
        have hlen' : l.length ≤ cap := hlen
        have hH : Sort.Holds (Value.int .i64) w g 0 l.toArray := by
          intro k hk
          have hk' : k < l.length := by simpa using hk
          obtain ⟨y, hy1, hy2⟩ := hrow k 0 _ hk' (by rw [elem_ints]; rfl)
          simp only [Rep] at hy2
          subst hy2
          have e1 : cur[k]? = some (.int .i64 (l.getD k 0)) := by simpa [Dat.esz] using hy1
          constructor
          · unfold World.cell?
            simp only [hcell, Nat.zero_add]
            rw [if_neg (by simp), e1]
            simp [List.getD_eq_getElem?_getD, hk']
          · unfold World.frozen?
            simp only [hcell]
            simp
        have hcall := Any.slices_Delete_int L g 0 cap i.toNat j.toNat l w hH hlen' (by omega) (by omega) (by omega)
        rw [show ((i.toNat : Nat) : Int) = i by omega, show ((j.toNat : Nat) : Int) = j by omega] at hcall
        refine hcall.mono ?_
        rintro e w' ⟨rfl, q, rfl⟩
        let res := l.take i.toNat ++ l.drop j.toNat
        have hrl : res.length = l.length - (j.toNat - i.toNat) := by
          simp only [res, List.length_append, List.length_take, List.length_drop]; omega
        let all := (l.take i.toNat ++ l.drop j.toNat ++ List.replicate (j.toNat - i.toNat) 0)
        have hal : all.length = l.length := by
          simp only [all, List.length_append, List.length_take, List.length_drop, List.length_replicate]; omega
        have hcell' : (Sort.putRow (Value.int .i64) (Sort.ahead w q) g 0 all.toArray).heap[g]? = some (.cells (Sort.putCells (Value.int .i64) 0 all.toArray cur) t (0, 0)) := by
          show (w.heap.modify g _)[g]? = _
          rw [Array.getElem?_modify, if_pos rfl, hcell]
          rfl
        refine ⟨_, fun k => if k = 0 then some (.blk g cap) else none, rfl, ?_⟩
        refine ⟨rfl, rfl, rfl, ?_, ?_, ?_, ?_, ?_, ?_, ?_⟩
        · simp [Sort.ahead]
        · intro b hb hne
          show (w.heap.modify g _)[b]? = _
          rw [Array.getElem?_modify, if_neg (fun hh => hne (by rw [hh]))]
        · simp only [Rep, OwnRep]
          exact .inr ⟨g, cap, rfl, (show res.length ≤ cap by omega), by rw [← hrl]⟩
        · intro k c hk
          cases k with
          | succ k => simp [rowsHeap] at hk
          | zero =>
            simp only [rowsHeap, List.getElem?_cons_zero, Option.map_some, Option.some.injEq] at hk
            subst hk
            simp only [LocOK, CellsOK]
            refine .inr ⟨g, cap, _, rfl, hcell', ?_, hcap, ?_, ?_⟩
            · show res.length ≤ cap
              omega
            · simp [Sort.putCells, hsz', Dat.esz]
            · intro k jj x hk hx
              have hk' : k < res.length := hk
              rw [elem_ints] at hx
              cases jj with
              | succ jj => simp at hx
              | zero =>
                simp only [List.getElem?_cons_zero, Option.some.injEq] at hx
                subst hx
                refine ⟨.int .i64 (res.getD k 0), ?_, by simp only [Rep]; rfl⟩
                have hkc : k < cur.size := by omega
                have hka : k < all.length := by omega
                simp only [Dat.esz, Nat.mul_one, Nat.add_zero, Sort.putCells, Array.getElem?_mapIdx]
                rw [Array.getElem?_eq_getElem hkc, Option.map_some, if_pos (by constructor <;> simp <;> omega)]
                have e2 : all.getD k 0 = res.getD k 0 := by
                  simp only [List.getD_eq_getElem?_getD]
                  show (res ++ _)[k]?.getD 0 = _
                  rw [List.getElem?_append_left hk']
                rw [← e2]
                simp [List.getD_eq_getElem?_getD, hka]
        · intro k k' c c' g1 cap1 cap2 e1 e2 _ _
          cases k with
          | succ k => simp [rowsHeap] at e1
          | zero =>
            cases k' with
            | succ k' => simp [rowsHeap] at e2
            | zero => rfl
        · intro k c g1 cap1 _ hb
          by_cases hk : k = 0
          · subst hk
            simp only [if_true, Option.some.injEq, Bl.blk.injEq] at hb
            left; rw [hb.1]
          · rw [if_neg hk] at hb; cases hb
        · intro k p hp
          by_cases hk : k = 0
          · subst hk; simp
          · rw [if_neg hk] at hp; cases hp
theorem delete_ok {P : Program} {ρ : Ren} (L : Lays2.n23 P ρ) {t : TypeId} :
    FnOK P (ρ.f 23) (fnS [.c .ints t, .o, .o] [.ints, .int, .int] (fun _ (l, i, j, _) => (.own 0 (List.length (l.take i.toNat ++ l.drop j.toNat)), [(t, .ints (l.take i.toNat ++ l.drop j.toNat))], 0 ≤ i ∧ i < j ∧ j ≤ ((List.length l : Nat) : Int)))) := by
  intro fl args r rows φ hg hφ w T vals bC hT hargs
  simp only [fnS] at hg
  split at hg
  · rename_i a ha
    simp only [Option.some.injEq] at hg
    have hx := decL_encL ha
    subst hx
    obtain ⟨l, i, j, u⟩ := a
    simp only [Prod.mk.injEq] at hg
    obtain ⟨rfl, rfl, rfl⟩ := hg
    exact delete_core L l i j hφ.1 hφ.2.1 hφ.2.2 w T vals bC hargs
  · cases hg
end Go.Ab
