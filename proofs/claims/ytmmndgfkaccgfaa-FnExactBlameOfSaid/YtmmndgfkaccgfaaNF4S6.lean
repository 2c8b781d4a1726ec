import Derived.Test.YtmmndgfkaccgfaaFrameB
import Derived.Shelf.Slices.Delete
import Derived.Shelf.Slices.Clone
import Derived.Test.YtmmndgfkaccgfaaNF4S0
import Derived.Test.YtmmndgfkaccgfaaNF4S4
namespace Go.Ab
open Go.RowKit Go.Shelf Go.Proofs
theorem elem_ints (l : List Int) (k : Nat) : (Dat.ints l).elem k = [.v (.int .i64 (l.getD k 0))] := rfl
theorem delete_core {P : Program} {ρ : Ren} (L : Lays2.n23 P ρ) {t : TypeId} (l : List Int) (i j : Int) (hi0 : 0 ≤ i) (hij : i < j) (hjl : j ≤ ((l.length : Nat) : Int)) (w : World) (T : Nat → Prop) (vals : List Value) (bC : Option Nat)
  (hargs' : ArgsRep w T [.c .ints t, .o, .o] [.sl (.ints l), .v (.int .i64 i), .v (.int .i64 j)] vals bC) :
  Calls P (ρ.f 23) vals.toArray w fun en w' => ∃ y β', en = .returned y ∧ PostF w T bC w' β' (.own 0 (List.length (l.take i.toNat ++ l.drop j.toNat))) [(t, .ints (l.take i.toNat ++ l.drop j.toNat))] y := by
  match vals, hargs' with
  | [y0, y1, y2], h =>
   simp only [ArgsRep] at h
   obtain ⟨⟨d, hd, _, hc⟩, h1, h2, _⟩ := h
   cases hd
   simp only [Rep] at h1 h2
   subst h1
   subst h2
   rcases hc with ⟨_, hz, _⟩ | ⟨g, cap, cur, rfl, rfl, hgw, hTg, hcell, hlen, hcap, hsz, hrow⟩
   ·simp only [Dat.len] at hz; omega
   ·have hm : maxLen = 9223372036854775807 := by decide
    have hsz' : cur.size = cap := by simpa [Dat.esz] using hsz
    have hlen' : l.length ≤ cap := hlen
    have hH : Sort.Holds (Value.int .i64) w g 0 l.toArray := by
     intro k hk
     have hk' : k < l.length := by simpa using hk
     obtain ⟨y, hy1, hy2⟩ := hrow k 0 _ hk' (by rw [elem_ints]; rfl)
     simp only [Rep] at hy2
     subst hy2
     have e1 : cur[k]? = some (.int .i64 (l.getD k 0)) := by simpa [Dat.esz] using hy1
     constructor
     ·unfold World.cell?
      simp only [hcell, Nat.zero_add]
      rw [if_neg (by simp), e1]
      simp [List.getD_eq_getElem?_getD, hk']
     ·unfold World.frozen?
      simp only [hcell]
      simp
    have hcall := Any.slices_Delete_int L g 0 cap i.toNat j.toNat l w hH hlen' (by omega) (by omega) (by omega)
    rw [show ((i.toNat : Nat) : Int) = i by omega, show ((j.toNat : Nat) : Int) = j by omega] at hcall
    refine hcall.mono ?_
    rintro e w' ⟨rfl, q, rfl⟩
    let res := l.take i.toNat ++ l.drop j.toNat
    have hrl : res.length = l.length - (j.toNat - i.toNat) := by
     simp only [res, List.length_append, List.length_take, List.length_drop]; omega
    let all := (l.take i.toNat ++ l.drop j.toNat ++ List.replicate (j.toNat - i.toNat) 0)
    have hal : all.length = l.length := by
     simp only [all, List.length_append, List.length_take, List.length_drop, List.length_replicate]; omega
    have hcell' : (Sort.putRow (Value.int .i64) (Sort.ahead w q) g 0 all.toArray).heap[g]? = some (.cells (Sort.putCells (Value.int .i64) 0 all.toArray cur) t (0, 0)) := by
     show (w.heap.modify g _)[g]? = _
     rw [Array.getElem?_modify, if_pos rfl, hcell]
     rfl
    refine ⟨_, fun k => if k = 0 then some (.blk g cap) else none, rfl, ?_⟩
    refine ⟨rfl, rfl, rfl, ?_, ?_, ?_, ?_, ?_, ?_, ?_⟩
    ·simp [Sort.ahead]
    ·intro b hb hne
     show (w.heap.modify g _)[b]? = _
     rw [Array.getElem?_modify, if_neg (fun hh => hne (by rw [hh]))]
    ·simp only [Rep, OwnRep]
     exact .inr ⟨g, cap, rfl, (show res.length ≤ cap by omega), by rw [← hrl]⟩
    ·intro k c hk
     cases k with
     | succ k => simp [rowsHeap] at hk
     | zero =>
      simp only [rowsHeap, List.getElem?_cons_zero, Option.map_some, Option.some.injEq] at hk
      subst hk
      simp only [LocOK, CellsOK]
      refine .inr ⟨g, cap, _, rfl, hcell', ?_, hcap, ?_, ?_⟩
      ·show res.length ≤ cap
       omega
      ·simp [Sort.putCells, hsz', Dat.esz]
      ·intro k jj x hk hx
       have hk' : k < res.length := hk
       rw [elem_ints] at hx
       cases jj with
       | succ jj => simp at hx
       | zero =>
        simp only [List.getElem?_cons_zero, Option.some.injEq] at hx
        subst hx
        refine ⟨.int .i64 (res.getD k 0), ?_, by simp only [Rep]; rfl⟩
        have hkc : k < cur.size := by omega
        have hka : k < all.length := by omega
        simp only [Dat.esz, Nat.mul_one, Nat.add_zero, Sort.putCells, Array.getElem?_mapIdx]
        rw [Array.getElem?_eq_getElem hkc, Option.map_some, if_pos (by constructor <;> simp <;> omega)]
        have e2 : all.getD k 0 = res.getD k 0 := by
         simp only [List.getD_eq_getElem?_getD]
         show (res ++ _)[k]?.getD 0 = _
         rw [List.getElem?_append_left hk']
        rw [← e2]
        simp [List.getD_eq_getElem?_getD, hka]
    ·intro k k' c c' g1 cap1 cap2 e1 e2 _ _
     cases k with
     | succ k => simp [rowsHeap] at e1
     | zero =>
      cases k' with
      | succ k' => simp [rowsHeap] at e2
      | zero => rfl
    ·intro k c g1 cap1 _ hb
     by_cases hk : k = 0
     ·subst hk
      simp only [if_true, Option.some.injEq, Bl.blk.injEq] at hb
      left; rw [hb.1]
     ·rw [if_neg hk] at hb; cases hb
    ·intro k p hp
     by_cases hk : k = 0
     ·subst hk; simp
     ·rw [if_neg hk] at hp; cases hp
theorem delete_ok {P : Program} {ρ : Ren} (L : Lays2.n23 P ρ) {t : TypeId} :
  FnOK P (ρ.f 23) (fnS [.c .ints t, .o, .o] [.ints, .int, .int] (fun _ (l, i, j, _) => (.own 0 (List.length (l.take i.toNat ++ l.drop j.toNat)), [(t, .ints (l.take i.toNat ++ l.drop j.toNat))], 0 ≤ i ∧ i < j ∧ j ≤ ((List.length l : Nat) : Int)))) := by
 intro fl args r rows φ hg hφ w T vals bC hT hargs
 simp only [fnS] at hg
 split at hg
 ·rename_i a ha
  simp only [Option.some.injEq] at hg
  have hx := decL_encL ha
  subst hx
  obtain ⟨l, i, j, u⟩ := a
  simp only [Prod.mk.injEq] at hg
  obtain ⟨rfl, rfl, rfl⟩ := hg
  exact delete_core L l i j hφ.1 hφ.2.1 hφ.2.2 w T vals bC hargs
 ·cases hg
end Go.Ab

namespace Go.Ab
open Go.RowKit Go.Shelf Go.Proofs
theorem clone_post {w w' : World} {T : Nat → Prop} {t : TypeId} {l : List Int} {v' : Value} (hown : w'.ownsRow w.heap.size t 1 v' l.length (l.map (Value.int .i64))) (hb : Below w.heap.size w w') :
  ∃ β', PostF w T none w' β' (.own 0 l.length) [(t, .ints l)] v' := by
 obtain ⟨_, h⟩ := hown
 rcases h with ⟨rfl, hn⟩ | ⟨g, cap, cur, rfl, hg, hcell, hlen, hcap, hsz, htake⟩
 ·refine ⟨fun k => if k = 0 then some .nil else none, hb.os, hb.tape, hb.output, hb.size, fun b hb' _ => hb.block b hb', ?_, ?_, ?_, ?_, ?_⟩
  ·simp only [Rep]; exact Or.inl ⟨rfl, hn, rfl⟩
  ·intro k c hk
   cases k with
   | succ k => simp [rowsHeap] at hk
   | zero =>
    simp only [rowsHeap, List.getElem?_cons_zero, Option.map_some, Option.some.injEq] at hk
    subst hk
    simp only [LocOK, CellsOK]
    exact .inl ⟨rfl, hn⟩
  ·intro k k' c c' g1 cap1 cap2 e1 e2 hb1 _
   by_cases hk : k = 0
   ·rw [hk] at hb1; simp at hb1
   ·rw [if_neg hk] at hb1; cases hb1
  ·intro k c g1 cap1 _ hb1
   by_cases hk : k = 0
   ·rw [hk] at hb1; simp at hb1
   ·rw [if_neg hk] at hb1; cases hb1
  ·intro k p hp
   by_cases hk : k = 0
   ·subst hk; simp
   ·rw [if_neg hk] at hp; cases hp
 ·refine ⟨fun k => if k = 0 then some (.blk g cap) else none, hb.os, hb.tape, hb.output, hb.size, fun b hb' _ => hb.block b hb', ?_, ?_, ?_, ?_, ?_⟩
  ·simp only [Rep, OwnRep]; exact .inr ⟨g, cap, rfl, hlen, rfl⟩
  ·intro k c hk
   cases k with
   | succ k => simp [rowsHeap] at hk
   | zero =>
    simp only [rowsHeap, List.getElem?_cons_zero, Option.map_some, Option.some.injEq] at hk
    subst hk
    simp only [LocOK, CellsOK]
    refine .inr ⟨g, cap, cur, rfl, hcell, hlen, hcap, hsz, ?_⟩
    intro k jj x hk hx
    have hk' : k < l.length := hk
    rw [elem_ints] at hx
    cases jj with
    | succ jj => simp at hx
    | zero =>
     simp only [List.getElem?_cons_zero, Option.some.injEq] at hx
     subst hx
     refine ⟨.int .i64 (l.getD k 0), ?_, by simp only [Rep]⟩
     have e1 : (cur.toList.take (l.length * 1))[k]? = some (.int .i64 (l.getD k 0)) := by
      rw [htake, List.getElem?_map, List.getElem?_eq_getElem hk']
      simp [List.getD_eq_getElem?_getD, hk']
     rw [List.getElem?_take, if_pos (by omega)] at e1
     simpa [Dat.esz] using e1
  ·intro k k' c c' g1 cap1 cap2 e1 e2 _ _
   cases k with
   | succ k => simp [rowsHeap] at e1
   | zero =>
    cases k' with
    | succ k' => simp [rowsHeap] at e2
    | zero => rfl
  ·intro k c g1 cap1 _ hb1
   by_cases hk : k = 0
   ·subst hk
    simp only [if_true, Option.some.injEq, Bl.blk.injEq] at hb1
    right; omega
   ·rw [if_neg hk] at hb1; cases hb1
  ·intro k p hp
   by_cases hk : k = 0
   ·subst hk; simp
   ·rw [if_neg hk] at hp; cases hp
theorem clone_core {P : Program} {ρ : Ren} (L : Lays2.n15 P ρ) (l : List Int) (hbig : l.length * 8 ≤ 140737488355328) (w : World) (T : Nat → Prop) (vals : List Value) (bC : Option Nat)
  (hargs : ArgsRep w T [.s .ints] [.sl (.ints l)] vals bC) :
  Calls P (ρ.f 15) vals.toArray w fun en w' => ∃ y β', en = .returned y ∧ PostF w T bC w' β' (.own 0 (List.length l)) [(ρ.t 3, .ints l)] y := by
 match vals, hargs with
 | [y0], h =>
  simp only [ArgsRep] at h
  obtain ⟨h1, rfl⟩ := h
  simp only [Rep, SlRep, FlatRep] at h1
  obtain ⟨a, c, rfl, hlc, hcm, hd⟩ := h1
  cases l with
  | nil =>
   cases a with
   | none =>
    refine (Any.slices_Clone_int_nil L 0 c w).mono ?_
    rintro e w' ⟨rfl, rfl⟩
    obtain ⟨β', h⟩ := clone_post (T := T) (t := ρ.t 3) (l := []) (World.ownsRow_nil w' w'.heap.size (ρ.t 3) 1) (Below.refl w'.heap.size w')
    exact ⟨_, β', rfl, h⟩
   | some ad =>
    refine (Any.slices_Clone_int_zero L ad c w).mono ?_
    rintro e w' ⟨v', rfl, hown, _, hb⟩
    obtain ⟨β', h⟩ := clone_post (T := T) (t := ρ.t 3) (l := []) hown hb
    exact ⟨_, β', rfl, h⟩
  | cons x0 l0 =>
   rcases hd with hd | ⟨ad, rfl, hT, hc⟩
   ·simp at hd
   ·have hcc : ∀ k, k < (x0 :: l0).length → w.cell? (ad.add k) = some (.int .i64 ((x0 :: l0).getD k 0)) := fun k hk => by
     have := hc k 0 _ hk (show ((Dat.ints (x0 :: l0)).flat k)[0]? = some (.int .i64 ((x0 :: l0).getD k 0)) from rfl)
     simpa using this
    obtain ⟨b, off, sp⟩ := ad
    cases sp with
    | some s0 =>
     have := hcc 0 (by simp)
     rw [Addr.add_zero'] at this
     unfold World.cell? at this
     simp at this
     split at this <;> cases this
    | none =>
     refine (Any.slices_Clone_int L b off (x0 :: l0).length c (x0 :: l0) w (Nat.le_refl _) hbig (fun j hj => by
      have := hcc j hj
      rwa [Addr.add_lit] at this)).mono ?_
     rintro e w' ⟨v', rfl, hown, _, hb⟩
     rw [List.take_length] at hown
     obtain ⟨β', h⟩ := clone_post (T := T) (t := ρ.t 3) (l := x0 :: l0) hown hb
     exact ⟨_, β', rfl, h⟩
theorem clone_ok {P : Program} {ρ : Ren} (L : Lays2.n15 P ρ) :
  FnOK P (ρ.f 15) (fnS [.s .ints] [.ints] (fun _ (l, _) => (.own 0 (List.length l), [(ρ.t 3, .ints l)], List.length l * 8 ≤ 140737488355328))) := by
 intro fl args r rows φ hg hφ w T vals bC hT hargs
 simp only [fnS] at hg
 split at hg
 ·rename_i a ha
  simp only [Option.some.injEq] at hg
  have hx := decL_encL ha
  subst hx
  obtain ⟨l, u⟩ := a
  simp only [Prod.mk.injEq] at hg
  obtain ⟨rfl, rfl, rfl⟩ := hg
  exact clone_core L l hφ w T vals bC hargs
 ·cases hg
end Go.Ab

set_option linter.unusedSimpArgs false
set_option linter.unusedVariables false
namespace Go.Proofs.Try
open Go.Ab Go.RowKit Go.Shelf Go.Proofs
def fs60 : FnS := fnS [.s .ints] [.ints] (fun _ (l,_) => (.own 0 l.length,[(3,.ints l)],(l.length * 8 ≤ 140737488355328)))
def ren15 : Go.Shelf.Ren := ⟨fun _ => 60,fun k => bif Nat.beq k 22 then 23 else bif Nat.beq k 3 then 3 else bif Nat.beq k 4 then 4 else k,fun k => k⟩
set_option maxRecDepth 100000 in
theorem lays15 : Lays2.n15 prog ren15 where
 mixed := by kernel_rfl
 f15 := by kernel_rfl
 t3 := underlying3
 a3 := isAgg3
 z3 := sizeOf3
 v3 := zeroValue3
 t4 := underlying4
 a4 := isAgg4
 z4 := sizeOf4
 v4 := zeroValue4
 t22 := underlying23
 a22 := isAgg23
 z22 := sizeOf23
 v22 := zeroValue23
 i3 := by kernel_rfl
theorem ok60 : FnOK prog 60 fs60 := clone_ok lays15
theorem ent60 : Entr prog 60 := ⟨_,func60,rfl,by decide⟩
end Go.Proofs.Try

set_option linter.unusedSimpArgs false
set_option linter.unusedVariables false
namespace Go.Proofs.Try
open Go.Ab Go.RowKit
def fs66 : FnS := fnS [.o,.c .ints 3,.o] [.str,.ints,.call] (fun _ (s,l,c,_) => (.tup [.sl (.ints ((iSingle s l c).1)),.i ((iSingle s l c).2)],[],(∀ j,j < l.length → 0 ≤ l.getD j 0 ∧ l.getD j 0 ≤ 20) ∧ (0 ≤ c.arg ∧ c.arg ≤ 3) ∧ (l.length ≤ 20)))
abbrev T66 : Tab := lk []
theorem tab66 : TabOK prog T66 := TabOK.nil
set_option maxRecDepth 100000 in
set_option maxHeartbeats 1000000 in
theorem ok66 : FnOK prog 66 fs66 := by
 refine FnOK.mk cok func66 rfl rfl rfl ?_
 rintro fl ⟨(s : ByteArray),(l : List Int),(c : CallD),_⟩ hpre F hnt0 _
 have hnt : F.nt = 45 := hnt0.trans ntmps66
 replace hpre : (∀ j,j < l.length → 0 ≤ l.getD j 0 ∧ l.getD j 0 ≤ 20) ∧ (0 ≤ c.arg ∧ c.arg ≤ 3) ∧ (l.length ≤ 20) := hpre
 obtain ⟨hs,ha,hl⟩ := hpre
 refine W.to (⟨[(0,.v (.string s)),(1,.own 999 l.length),(2,.agg [.i c.proc,.i c.obj,.i c.kind,.i c.arg,.i c.ret,.i c.frm,.i c.to])],[(999,⟨3,.row (.ints l)⟩)],[999]⟩) rfl ?_
 refine W.K cok tab66 hnt [] [0,1,5] (⟨[(0,.v (.string s)),(1,.own 999 l.length),(5,.ptr 5 0)],[(5,⟨47,.fix [.i c.proc,.i c.obj,.i c.kind,.i c.arg,.i c.ret,.i c.frm,.i c.to]⟩),(999,⟨3,.row (.ints l)⟩)],[5,999]⟩)
  (True ∧ True ∧ True ∧ True) (by kernel_rfl)
  ⟨tt,tt,tt,tt⟩ ?_
 refine W.K cok tab66 hnt [] [0,1,5,8] (⟨[(0,.v (.string s)),(1,.own 999 l.length),(5,.ptr 5 0),(8,.i (0 : Int))],[(5,⟨47,.fix [.i c.proc,.i c.obj,.i c.kind,.i c.arg,.i c.ret,.i c.frm,.i c.to]⟩),(999,⟨3,.row (.ints l)⟩)],[5,999]⟩)
  (True ∧ True) (by kernel_rfl)
  ⟨tt,tt⟩ ?_
 refine W.seq ?_
 refine W.K cok tab66 hnt [] [0,1,5,8,11] (⟨[(0,.v (.string s)),(1,.own 999 l.length),(5,.ptr 5 0),(8,.i (0 : Int)),(11,.b (decide ((l.length : Int) = (1 : Int))))],[(5,⟨47,.fix [.i c.proc,.i c.obj,.i c.kind,.i c.arg,.i c.ret,.i c.frm,.i c.to]⟩),(999,⟨3,.row (.ints l)⟩)],[5,999]⟩)
  (True ∧ True ∧ (True ∧ True ∧ True) ∧ True) (by kernel_rfl)
  ⟨tt,tt,⟨tt,tt,tt⟩,tt⟩ ?_
 refine W.meetT (ι := Int) (fun (v : Int) => (⟨[(0,.v (.string s)),(1,.own 999 l.length),(5,.ptr 5 0),(8,.i v)],[(5,⟨47,.fix [.i c.proc,.i c.obj,.i c.kind,.i c.arg,.i c.ret,.i c.frm,.i c.to]⟩),(999,⟨3,.row (.ints l)⟩)],[5,999]⟩ : St)) (fun (v : Int) => (v = oneOf l) ∧ (0 ≤ v ∧ v ≤ 20)) ?_ ?_
 ·skip
  refine W.ifP ((l.length : Int) = (1 : Int)) (.b (decide ((l.length : Int) = (1 : Int)))) (by kernel_rfl) rfl trivial ?_ ?_
  ·intro h11
   refine W.L cok tab66 hnt [] (⟨[(0,.v (.string s)),(1,.own 999 l.length),(5,.ptr 5 0),(8,.i (l.getD 0 0)),(11,.b (decide ((l.length : Int) = (1 : Int)))),(12,.own 999 l.length),(13,.pel 999 1 0 0),(14,.i (l.getD 0 0))],[(5,⟨47,.fix [.i c.proc,.i c.obj,.i c.kind,.i c.arg,.i c.ret,.i c.frm,.i c.to]⟩),(999,⟨3,.row (.ints l)⟩)],[5,999]⟩)
    (True ∧ (True ∧ True ∧ (0 ≤ (0 : Int)) ∧ ((0 : Int) < (l.length : Int))) ∧ (True ∧ (0 < l.length)) ∧ True ∧ True) (by kernel_rfl)
    ⟨tt,⟨tt,tt,(by omega),(by omega)⟩,⟨tt,(by omega)⟩,tt,tt⟩ ?_
   refine thenQ_normal ?_
   refine ⟨((l.getD 0 0)),(show ((l.getD 0 0) = oneOf l) ∧ (0 ≤ (l.getD 0 0) ∧ (l.getD 0 0) ≤ 20) from ⟨(by unfold oneOf; first | (rw [decide_eq_true h11]; rfl) | (rw [decide_eq_false n11]; rfl)),(by first | omega | (have := hs 0 (by omega); omega))⟩),?_⟩
   exact Sub.of [] (@cast (((((.string s) : Value) = (.string s)) ∧ ((((999 : Nat) = 999) ∧ ((l.length = l.length) ∧ ((999 : Nat) ∈ ([5,999] : List Nat)))) ∧ ((((5 : Nat) = 5) ∧ (((0 : Nat) = 0) ∧ ((5 : Nat) ∈ ([5,999] : List Nat)))) ∧ (((.int .i64 (l.getD 0 0) : Value) = .int .i64 (l.getD 0 0)) ∧ True)))) ∧ (((((47 : Nat) = 47) ∧ ((((.int .i64 c.proc : Value) = .int .i64 c.proc) ∧ (((.int .i64 c.obj : Value) = .int .i64 c.obj) ∧ (((.int .i64 c.kind : Value) = .int .i64 c.kind) ∧ (((.int .i64 c.arg : Value) = .int .i64 c.arg) ∧ (((.int .i64 c.ret : Value) = .int .i64 c.ret) ∧ (((.int .i64 c.frm : Value) = .int .i64 c.frm) ∧ (((.int .i64 c.to : Value) = .int .i64 c.to) ∧ True))))))) ∧ ((5 : Nat) ∈ ([5,999] : List Nat)))) ∧ ((((3 : Nat) = 3) ∧ (((.ints l : Dat) = .ints l) ∧ ((999 : Nat) ∈ ([5,999] : List Nat)))) ∧ True)) ∧ ((true = true) ∧ (true = true)))) _ (by kernel_rfl) ⟨⟨rfl,⟨rfl,rfl,(by decide)⟩,⟨rfl,rfl,(by decide)⟩,rfl,tt⟩,⟨⟨rfl,⟨rfl,rfl,rfl,rfl,rfl,rfl,rfl,tt⟩,(by decide)⟩,⟨rfl,rfl,(by decide)⟩,tt⟩,rfl,rfl⟩)
  ·intro n11
   refine W.skip (thenQ_normal ?_)
   refine ⟨((0 : Int)),(show ((0 : Int) = oneOf l) ∧ (0 ≤ (0 : Int) ∧ (0 : Int) ≤ 20) from ⟨(by unfold oneOf; first | (rw [decide_eq_true h11]; rfl) | (rw [decide_eq_false n11]; rfl)),(by first | omega | (have := hs 0 (by omega); omega))⟩),?_⟩
   exact Sub.of [] (@cast (((((.string s) : Value) = (.string s)) ∧ ((((999 : Nat) = 999) ∧ ((l.length = l.length) ∧ ((999 : Nat) ∈ ([5,999] : List Nat)))) ∧ ((((5 : Nat) = 5) ∧ (((0 : Nat) = 0) ∧ ((5 : Nat) ∈ ([5,999] : List Nat)))) ∧ (((.int .i64 (0 : Int) : Value) = .int .i64 (0 : Int)) ∧ True)))) ∧ (((((47 : Nat) = 47) ∧ ((((.int .i64 c.proc : Value) = .int .i64 c.proc) ∧ (((.int .i64 c.obj : Value) = .int .i64 c.obj) ∧ (((.int .i64 c.kind : Value) = .int .i64 c.kind) ∧ (((.int .i64 c.arg : Value) = .int .i64 c.arg) ∧ (((.int .i64 c.ret : Value) = .int .i64 c.ret) ∧ (((.int .i64 c.frm : Value) = .int .i64 c.frm) ∧ (((.int .i64 c.to : Value) = .int .i64 c.to) ∧ True))))))) ∧ ((5 : Nat) ∈ ([5,999] : List Nat)))) ∧ ((((3 : Nat) = 3) ∧ (((.ints l : Dat) = .ints l) ∧ ((999 : Nat) ∈ ([5,999] : List Nat)))) ∧ True)) ∧ ((true = true) ∧ (true = true)))) _ (by kernel_rfl) ⟨⟨rfl,⟨rfl,rfl,(by decide)⟩,⟨rfl,rfl,(by decide)⟩,rfl,tt⟩,⟨⟨rfl,⟨rfl,rfl,rfl,rfl,rfl,rfl,rfl,tt⟩,(by decide)⟩,⟨rfl,rfl,(by decide)⟩,tt⟩,rfl,rfl⟩)
 ·rintro v hC0
  have hC : (v = oneOf l) ∧ (0 ≤ v ∧ v ≤ 20) := hC0
  clear hC0
  obtain ⟨hv,hvb⟩ := hC
  refine W.to (⟨[(0,.v (.string s)),(1,.own 999 l.length),(5,.ptr 5 0),(8,.i v)],[(5,⟨47,.fix [.i c.proc,.i c.obj,.i c.kind,.i c.arg,.i c.ret,.i c.frm,.i c.to]⟩),(999,⟨3,.row (.ints l)⟩)],[5,999]⟩) rfl ?_
  refine W.seq ?_
  refine W.block ?_
  refine W.K cok tab66 hnt [] [0,1,5,8,15] (⟨[(0,.v (.string s)),(1,.own 999 l.length),(5,.ptr 5 0),(8,.i v),(15,.b (decide (c.kind = (2 : Int))))],[(5,⟨47,.fix [.i c.proc,.i c.obj,.i c.kind,.i c.arg,.i c.ret,.i c.frm,.i c.to]⟩),(999,⟨3,.row (.ints l)⟩)],[5,999]⟩)
   (True ∧ True ∧ (True ∧ True ∧ True) ∧ True ∧ True) (by kernel_rfl)
   ⟨tt,tt,⟨tt,tt,tt⟩,tt,tt⟩ ?_
  refine W.ifP (c.kind = (2 : Int)) (.b (decide (c.kind = (2 : Int)))) (by kernel_rfl) rfl trivial ?_ ?_
  ·intro h15
   refine W.K cok tab66 hnt [] [6,7] (⟨[(6,.own 999 l.length),(7,.i v)],[(5,⟨47,.fix [.i c.proc,.i c.obj,.i c.kind,.i c.arg,.i c.ret,.i c.frm,.i c.to]⟩),(999,⟨3,.row (.ints l)⟩)],[5,999]⟩)
    (True ∧ True ∧ True ∧ True ∧ True) (by kernel_rfl)
    ⟨tt,tt,tt,tt,tt⟩ ?_
   refine W.ret (blockQ_ret (thenQ_ret ?_))
   exact endQ_ret (.tup [.own 999 l.length,.i v]) (by kernel_rfl) (@cast (((l.length = l.length) ∧ (((.ints l : Dat) = .ints ((iSingle s l c).1)) ∧ ((999 : Nat) ∉ ([] : List Nat)))) ∧ (((.int .i64 v : Value) = .int .i64 ((iSingle s l c).2)) ∧ True)) _ (by kernel_rfl) ⟨⟨rfl,(congrArg Dat.ints (by subst hv; simp only [iSingle,(decide_eq_true h15),cond_true,cond_false,Bool.and_true,Bool.true_and,Bool.and_false,Bool.false_and,Bool.or_true,Bool.true_or,Bool.or_false,Bool.false_or,Bool.not_true,Bool.not_false,List.length_nil])),(by decide)⟩,(congrArg (Value.int .i64) (by subst hv; simp only [iSingle,(decide_eq_true h15),cond_true,cond_false,Bool.and_true,Bool.true_and,Bool.and_false,Bool.false_and,Bool.or_true,Bool.true_or,Bool.or_false,Bool.false_or,Bool.not_true,Bool.not_false,List.length_nil])),tt⟩)
  ·intro n15
   refine W.K cok tab66 hnt [] [0,5,8,21] (⟨[(0,.v (.string s)),(5,.ptr 5 0),(8,.i v),(21,.b (decide (c.kind = (1 : Int))))],[(5,⟨47,.fix [.i c.proc,.i c.obj,.i c.kind,.i c.arg,.i c.ret,.i c.frm,.i c.to]⟩),(999,⟨3,.row (.ints l)⟩)],[5,999]⟩)
    (True ∧ True ∧ (True ∧ True ∧ True) ∧ True ∧ True) (by kernel_rfl)
    ⟨tt,tt,⟨tt,tt,tt⟩,tt,tt⟩ ?_
   refine W.ifP (c.kind = (1 : Int)) (.b (decide (c.kind = (1 : Int)))) (by kernel_rfl) rfl trivial ?_ ?_
   ·intro h21
    refine W.K cok tab66 hnt [] [6,7] (⟨[(6,.v (.slice none 0 0)),(7,.i v)],[(5,⟨47,.fix [.i c.proc,.i c.obj,.i c.kind,.i c.arg,.i c.ret,.i c.frm,.i c.to]⟩),(999,⟨3,.row (.ints l)⟩)],[5,999]⟩)
     (True ∧ True ∧ True ∧ True) (by kernel_rfl)
     ⟨tt,tt,tt,tt⟩ ?_
    refine W.ret (blockQ_ret (thenQ_ret ?_))
    exact endQ_ret (.tup [.v (.slice none 0 0),.i v]) (by kernel_rfl) (@cast ((((Value.slice none 0 0 : Value) = .slice none 0 0) ∧ ((Dat.ints ((iSingle s l c).1)).len = 0)) ∧ (((.int .i64 v : Value) = .int .i64 ((iSingle s l c).2)) ∧ True)) _ (by kernel_rfl) ⟨⟨rfl,(by show List.length ((iSingle s l c).1) = 0; subst hv; simp only [iSingle,(decide_eq_true h21),(decide_eq_false n15),cond_true,cond_false,Bool.and_true,Bool.true_and,Bool.and_false,Bool.false_and,Bool.or_true,Bool.true_or,Bool.or_false,Bool.false_or,Bool.not_true,Bool.not_false,List.length_nil])⟩,(congrArg (Value.int .i64) (by subst hv; simp only [iSingle,(decide_eq_true h21),(decide_eq_false n15),cond_true,cond_false,Bool.and_true,Bool.true_and,Bool.and_false,Bool.false_and,Bool.or_true,Bool.true_or,Bool.or_false,Bool.false_or,Bool.not_true,Bool.not_false,List.length_nil])),tt⟩)
   ·intro n21
    refine W.K cok tab66 hnt [] [0,5,8,26] (⟨[(0,.v (.string s)),(5,.ptr 5 0),(8,.i v),(26,.b (eqS s nCounter))],[(5,⟨47,.fix [.i c.proc,.i c.obj,.i c.kind,.i c.arg,.i c.ret,.i c.frm,.i c.to]⟩),(999,⟨3,.row (.ints l)⟩)],[5,999]⟩)
     (True ∧ (True ∧ True ∧ True) ∧ True ∧ True) (by kernel_rfl)
     ⟨tt,⟨tt,tt,tt⟩,tt,tt⟩ ?_
    refine W.if' (eqS s nCounter) (.b (eqS s nCounter)) (by kernel_rfl) rfl trivial ?_ ?_
    ·intro h26
     refine W.K cok tab66 hnt [] [6,7] (⟨[(6,.sl (.ints ([(v + c.arg)]))),(7,.i (0 : Int))],[(5,⟨47,.fix [.i c.proc,.i c.obj,.i c.kind,.i c.arg,.i c.ret,.i c.frm,.i c.to]⟩),(999,⟨3,.row (.ints l)⟩)],[33,5,999]⟩)
      (True ∧ True ∧ True ∧ (True ∧ True ∧ (Fits .i64 (v + c.arg))) ∧ (True ∧ True) ∧ True ∧ True ∧ True) (by kernel_rfl)
      ⟨tt,tt,tt,⟨tt,tt,(by exact fits_i64 (by omega) (by omega))⟩,⟨tt,tt⟩,tt,tt,tt⟩ ?_
     refine W.ret (blockQ_ret (thenQ_ret ?_))
     exact endQ_ret (.tup [.sl (.ints ([(v + c.arg)])),.i (0 : Int)]) (by kernel_rfl) (@cast (((.ints ([(v + c.arg)]) : Dat) = .ints ((iSingle s l c).1)) ∧ (((.int .i64 (0 : Int) : Value) = .int .i64 ((iSingle s l c).2)) ∧ True)) _ (by kernel_rfl) ⟨(congrArg Dat.ints (by subst hv; simp only [iSingle,h26,(decide_eq_false n15),(decide_eq_false n21),cond_true,cond_false,Bool.and_true,Bool.true_and,Bool.and_false,Bool.false_and,Bool.or_true,Bool.true_or,Bool.or_false,Bool.false_or,Bool.not_true,Bool.not_false,List.length_nil])),(congrArg (Value.int .i64) (by subst hv; simp only [iSingle,h26,(decide_eq_false n15),(decide_eq_false n21),cond_true,cond_false,Bool.and_true,Bool.true_and,Bool.and_false,Bool.false_and,Bool.or_true,Bool.true_or,Bool.or_false,Bool.false_or,Bool.not_true,Bool.not_false,List.length_nil])),tt⟩)
    ·intro n26
     refine W.K cok tab66 hnt [] [5,8,34] (⟨[(5,.ptr 5 0),(8,.i v),(34,.b (eqS s nMost))],[(5,⟨47,.fix [.i c.proc,.i c.obj,.i c.kind,.i c.arg,.i c.ret,.i c.frm,.i c.to]⟩),(999,⟨3,.row (.ints l)⟩)],[5,999]⟩)
      (True ∧ (True ∧ True ∧ True) ∧ True ∧ True) (by kernel_rfl)
      ⟨tt,⟨tt,tt,tt⟩,tt,tt⟩ ?_
     refine W.if' (eqS s nMost) (.b (eqS s nMost)) (by kernel_rfl) rfl trivial ?_ ?_
     ·intro h34
      refine W.K cok tab66 hnt [] [6,7] (⟨[(6,.sl (.ints ([(max v c.arg)]))),(7,.i (0 : Int))],[(5,⟨47,.fix [.i c.proc,.i c.obj,.i c.kind,.i c.arg,.i c.ret,.i c.frm,.i c.to]⟩),(999,⟨3,.row (.ints l)⟩)],[41,5,999]⟩)
       (True ∧ True ∧ True ∧ (True ∧ True) ∧ (True ∧ True) ∧ True ∧ True ∧ True) (by kernel_rfl)
       ⟨tt,tt,tt,⟨tt,tt⟩,⟨tt,tt⟩,tt,tt,tt⟩ ?_
      refine W.ret (blockQ_ret (thenQ_ret ?_))
      exact endQ_ret (.tup [.sl (.ints ([(max v c.arg)])),.i (0 : Int)]) (by kernel_rfl) (@cast (((.ints ([(max v c.arg)]) : Dat) = .ints ((iSingle s l c).1)) ∧ (((.int .i64 (0 : Int) : Value) = .int .i64 ((iSingle s l c).2)) ∧ True)) _ (by kernel_rfl) ⟨(congrArg Dat.ints (by subst hv; simp only [iSingle,h34,(decide_eq_false n15),(decide_eq_false n21),n26,cond_true,cond_false,Bool.and_true,Bool.true_and,Bool.and_false,Bool.false_and,Bool.or_true,Bool.true_or,Bool.or_false,Bool.false_or,Bool.not_true,Bool.not_false,List.length_nil])),(congrArg (Value.int .i64) (by subst hv; simp only [iSingle,h34,(decide_eq_false n15),(decide_eq_false n21),n26,cond_true,cond_false,Bool.and_true,Bool.true_and,Bool.and_false,Bool.false_and,Bool.or_true,Bool.true_or,Bool.or_false,Bool.false_or,Bool.not_true,Bool.not_false,List.length_nil])),tt⟩)
     ·intro n34
      refine W.skip (blockQ_normal (thenQ_normal ?_))
      refine W.K cok tab66 hnt [] [6,7] (⟨[(6,.sl (.ints ([c.arg]))),(7,.i (0 : Int))],[(5,⟨47,.fix [.i c.proc,.i c.obj,.i c.kind,.i c.arg,.i c.ret,.i c.frm,.i c.to]⟩),(999,⟨3,.row (.ints l)⟩)],[44,5,999]⟩)
       (True ∧ True ∧ (True ∧ True) ∧ True ∧ True ∧ True) (by kernel_rfl)
       ⟨tt,tt,⟨tt,tt⟩,tt,tt,tt⟩ ?_
      refine W.ret ?_
      exact endQ_ret (.tup [.sl (.ints ([c.arg])),.i (0 : Int)]) (by kernel_rfl) (@cast (((.ints ([c.arg]) : Dat) = .ints ((iSingle s l c).1)) ∧ (((.int .i64 (0 : Int) : Value) = .int .i64 ((iSingle s l c).2)) ∧ True)) _ (by kernel_rfl) ⟨(congrArg Dat.ints (by subst hv; simp only [iSingle,(decide_eq_false n15),(decide_eq_false n21),n26,n34,cond_true,cond_false,Bool.and_true,Bool.true_and,Bool.and_false,Bool.false_and,Bool.or_true,Bool.true_or,Bool.or_false,Bool.false_or,Bool.not_true,Bool.not_false,List.length_nil])),(congrArg (Value.int .i64) (by subst hv; simp only [iSingle,(decide_eq_false n15),(decide_eq_false n21),n26,n34,cond_true,cond_false,Bool.and_true,Bool.true_and,Bool.and_false,Bool.false_and,Bool.or_true,Bool.true_or,Bool.or_false,Bool.false_or,Bool.not_true,Bool.not_false,List.length_nil])),tt⟩)
theorem ent66 : Entr prog 66 := ⟨_,func66,rfl,by decide⟩
end Go.Proofs.Try

set_option linter.unusedSimpArgs false
set_option linter.unusedVariables false
namespace Go.Proofs.Try
open Go.Ab Go.RowKit
def fs69 : FnS := fnS [.s .ints,.o] [.ints,.int] (fun _ (l,x,_) => (.i (findI l x),[],True))
abbrev T69 : Tab := lk []
theorem tab69 : TabOK prog T69 := TabOK.nil
set_option maxRecDepth 100000 in
set_option maxHeartbeats 1000000 in
theorem ok69 : FnOK prog 69 fs69 := by
 refine FnOK.mk cok func69 rfl rfl rfl ?_
 rintro fl ⟨(l : List Int),(x : Int),_⟩ hpre F hnt0 _
 have hnt : F.nt = 19 := hnt0.trans ntmps69
 clear hpre
 refine W.to (⟨[(0,.sl (.ints l)),(1,.i x)],[],[999]⟩) rfl ?_
 refine W.lenOf 0 (.ints l) (by kernel_rfl) ?_
 intro hl_l; replace hl_l : List.length l ≤ 9223372036854775807 := hl_l
 refine W.K cok tab69 hnt [] [0,1] (⟨[(0,.sl (.ints l)),(1,.i x)],[],[999]⟩)
  (True ∧ True) (by kernel_rfl)
  ⟨tt,tt⟩ ?_
 refine W.seq ?_
 refine W.K cok tab69 hnt [] [0,1,7,8] (⟨[(0,.sl (.ints l)),(1,.i x),(7,.i (l.length : Int)),(8,.i (0 : Int))],[],[999]⟩)
  (True ∧ True ∧ True ∧ True) (by kernel_rfl)
  ⟨tt,tt,tt,tt⟩ ?_
 refine W.block ?_
 refine W.loop (ι := Nat) (fun (i : Nat) => (⟨[(0,.sl (.ints l)),(1,.i x),(7,.i (l.length : Int)),(8,.i ((i : Nat) : Int))],[],[999]⟩ : St))
  (fun (i : Nat) => (i ≤ l.length) ∧ (∀ j,j < i → ¬ l.getD j 0 = x))
  (fun (i : Nat) => (l.length - i : Nat)) (0) ?_ ?_ ?_
 ·exact (show (0 ≤ l.length) ∧ (∀ j,j < 0 → ¬ l.getD j 0 = x) from ⟨(by first | assumption | omega | rfl | (intro _ hjj; omega) | (simp; done) | (simp; omega)),(by exact upto_zero)⟩)
 ·exact Sub.of [] (@cast ((((.ints l : Dat) = .ints l) ∧ (((.int .i64 x : Value) = .int .i64 x) ∧ (((.int .i64 (l.length : Int) : Value) = .int .i64 (l.length : Int)) ∧ (((.int .i64 (0 : Int) : Value) = .int .i64 ((0 : Nat) : Int)) ∧ True)))) ∧ (True ∧ ((true = true) ∧ (true = true)))) _ (by kernel_rfl) ⟨⟨rfl,rfl,rfl,(congrArg (Value.int .i64) (by first | rfl | omega | assumption | simp | simp_all)),tt⟩,tt,rfl,rfl⟩)
 ·rintro i hC0
  have hC : (i ≤ l.length) ∧ (∀ j,j < i → ¬ l.getD j 0 = x) := hC0
  clear hC0
  obtain ⟨hi,hA⟩ := hC
  refine W.to (⟨[(0,.sl (.ints l)),(1,.i x),(7,.i (l.length : Int)),(8,.i ((i : Nat) : Int))],[],[999]⟩) rfl ?_
  refine W.K cok tab69 hnt [] [0,1,7,8,9] (⟨[(0,.sl (.ints l)),(1,.i x),(7,.i (l.length : Int)),(8,.i ((i : Nat) : Int)),(9,.b (decide (((i : Nat) : Int) < (l.length : Int))))],[],[999]⟩)
   ((True ∧ True ∧ True) ∧ True) (by kernel_rfl)
   ⟨⟨tt,tt,tt⟩,tt⟩ ?_
  refine W.seq ?_
  refine W.ifP (((i : Nat) : Int) < (l.length : Int)) (.b (decide (((i : Nat) : Int) < (l.length : Int)))) (by kernel_rfl) rfl trivial ?_ ?_
  ·intro h9
   refine W.skip (thenQ_normal ?_)
   refine W.seq ?_
   refine W.block ?_
   refine W.K cok tab69 hnt [] [0,1,5,7,8] (⟨[(0,.sl (.ints l)),(1,.i x),(5,.i ((i : Nat) : Int)),(7,.i (l.length : Int)),(8,.i ((i : Nat) : Int))],[],[999]⟩)
    (True ∧ True ∧ True) (by kernel_rfl)
    ⟨tt,tt,tt⟩ ?_
   refine W.K cok tab69 hnt [] [0,1,5,7,8,16] (⟨[(0,.sl (.ints l)),(1,.i x),(5,.i ((i : Nat) : Int)),(7,.i (l.length : Int)),(8,.i ((i : Nat) : Int)),(16,.b (decide (x = (l.getD i 0))))],[],[999]⟩)
    (True ∧ True ∧ True ∧ (True ∧ True ∧ (0 ≤ ((i : Nat) : Int)) ∧ (((i : Nat) : Int) < (l.length : Int))) ∧ True ∧ (True ∧ True ∧ True) ∧ True) (by kernel_rfl)
    ⟨tt,tt,tt,⟨tt,tt,(by omega),(by omega)⟩,tt,⟨tt,tt,tt⟩,tt⟩ ?_
   refine W.ifP (x = (l.getD i 0)) (.b (decide (x = (l.getD i 0)))) (by kernel_rfl) rfl trivial ?_ ?_
   ·intro h16
    refine W.K cok tab69 hnt [] [4] (⟨[(4,.i ((i : Nat) : Int))],[],[999]⟩)
     (True ∧ True ∧ True) (by kernel_rfl)
     ⟨tt,tt,tt⟩ ?_
    refine W.ret (blockQ_ret (thenQ_ret (thenQ_ret (blockQ_ret (thenQ_ret ?_)))))
    exact endQ_ret (.i ((i : Nat) : Int)) (by kernel_rfl) (@cast ((.int .i64 ((i : Nat) : Int) : Value) = .int .i64 (findI l x)) _ (by kernel_rfl) (congrArg (Value.int .i64) (by exact (findI_yes (by omega) h16 hA).symm)))
   ·intro n16
    refine W.skip (blockQ_normal (thenQ_normal ?_))
    refine W.L cok tab69 hnt [] (⟨[(0,.sl (.ints l)),(1,.i x),(5,.i ((i : Nat) : Int)),(7,.i (l.length : Int)),(8,.i (((i + 1) : Nat) : Int)),(16,.b (decide (x = (l.getD i 0)))),(18,.i (((i + 1) : Nat) : Int))],[],[999]⟩)
     ((True ∧ True ∧ (Fits .i64 (((i + 1) : Nat) : Int))) ∧ True ∧ True) (by kernel_rfl)
     ⟨⟨tt,tt,(by exact fits_i64 (by omega) (by omega))⟩,tt,tt⟩ ?_
    refine thenQ_normal ?_
    refine ⟨((i + 1)),(show ((i + 1) ≤ l.length) ∧ (∀ j,j < (i + 1) → ¬ l.getD j 0 = x) from ⟨(by first | assumption | omega | rfl | (intro _ hjj; omega) | (simp; done) | (simp; omega)),(by exact upto_succ hA (fun e => n16 e.symm))⟩),(show l.length - (i + 1) < l.length - i from (by first | omega | (simp_all; omega))),?_⟩
    exact Sub.of [] (@cast ((((.ints l : Dat) = .ints l) ∧ (((.int .i64 x : Value) = .int .i64 x) ∧ (((.int .i64 (l.length : Int) : Value) = .int .i64 (l.length : Int)) ∧ (((.int .i64 (((i + 1) : Nat) : Int) : Value) = .int .i64 (((i + 1) : Nat) : Int)) ∧ True)))) ∧ (True ∧ ((true = true) ∧ (true = true)))) _ (by kernel_rfl) ⟨⟨rfl,rfl,rfl,rfl,tt⟩,tt,rfl,rfl⟩)
  ·intro n9
   refine W.exit (thenQ_exit (thenQ_exit (blockQ_hit ?_)))
   refine thenQ_normal ?_
   refine W.K cok tab69 hnt [] [4] (⟨[(4,.i (-1 : Int))],[],[999]⟩)
    (True ∧ True) (by kernel_rfl)
    ⟨tt,tt⟩ ?_
   refine W.ret ?_
   exact endQ_ret (.i (-1 : Int)) (by kernel_rfl) (@cast ((.int .i64 (-1 : Int) : Value) = .int .i64 (findI l x)) _ (by kernel_rfl) (congrArg (Value.int .i64) (by exact (findI_no (fun j hj => hA j (by omega))).symm)))
theorem ent69 : Entr prog 69 := ⟨_,func69,rfl,by decide⟩
end Go.Proofs.Try

set_option linter.unusedSimpArgs false
set_option linter.unusedVariables false
namespace Go.Proofs.Try
open Go.Ab Go.RowKit Go.Shelf Go.Proofs
def fs70 : FnS := fnS [.c .ints 3,.o,.o] [.ints,.int,.int] (fun _ (l,i,j,_) => (.own 0 (List.length (l.take i.toNat ++ l.drop j.toNat)),[(3,.ints (l.take i.toNat ++ l.drop j.toNat))],(0 ≤ i) ∧ (i < j) ∧ (j ≤ l.length)))
def ren23 : Go.Shelf.Ren := ⟨fun _ => 70,fun k => bif Nat.beq k 22 then 23 else bif Nat.beq k 3 then 3 else bif Nat.beq k 4 then 4 else k,fun k => k⟩
set_option maxRecDepth 100000 in
theorem lays23 : Lays2.n23 prog ren23 where
 mixed := by kernel_rfl
 f23 := by kernel_rfl
 t0 := underlying0
 a0 := isAgg0
 z0 := sizeOf0
 v0 := zeroValue0
 t3 := underlying3
 a3 := isAgg3
 z3 := sizeOf3
 v3 := zeroValue3
 t4 := underlying4
 a4 := isAgg4
 z4 := sizeOf4
 v4 := zeroValue4
 t22 := underlying23
 a22 := isAgg23
 z22 := sizeOf23
 v22 := zeroValue23
 i3 := by kernel_rfl
theorem ok70 : FnOK prog 70 fs70 := delete_ok lays23
theorem ent70 : Entr prog 70 := ⟨_,func70,rfl,by decide⟩
end Go.Proofs.Try

set_option linter.unusedSimpArgs false
set_option linter.unusedVariables false
namespace Go.Proofs.Try
open Go.Ab Go.RowKit
def fs67 : FnS := fnS [.c .ints 3,.o] [.ints,.call] (fun _ (l,c,_) => (.tup [.sl (.ints ((iSet l c).1)),.i ((iSet l c).2)],[],(∀ j,j < l.length → 0 ≤ l.getD j 0 ∧ l.getD j 0 ≤ 20) ∧ (0 ≤ c.arg ∧ c.arg ≤ 3) ∧ (l.length ≤ 20)))
abbrev T67 : Tab := lk [(69,fs69),(70,fs70)]
theorem tab67 : TabOK prog T67 := (TabOK.cons ok69 ent69 (TabOK.cons ok70 ent70 TabOK.nil))
set_option maxRecDepth 100000 in
set_option maxHeartbeats 1000000 in
theorem ok67 : FnOK prog 67 fs67 := by
 refine FnOK.mk cok func67 rfl rfl rfl ?_
 rintro fl ⟨(l : List Int),(c : CallD),_⟩ hpre F hnt0 _
 have hnt : F.nt = 43 := hnt0.trans ntmps67
 replace hpre : (∀ j,j < l.length → 0 ≤ l.getD j 0 ∧ l.getD j 0 ≤ 20) ∧ (0 ≤ c.arg ∧ c.arg ≤ 3) ∧ (l.length ≤ 20) := hpre
 obtain ⟨hs,ha,hl⟩ := hpre
 refine W.to (⟨[(0,.own 999 l.length),(1,.agg [.i c.proc,.i c.obj,.i c.kind,.i c.arg,.i c.ret,.i c.frm,.i c.to])],[(999,⟨3,.row (.ints l)⟩)],[999]⟩) rfl ?_
 have hfl := find_lt l c.arg
 refine W.K cok tab67 hnt [] [0,3] (⟨[(0,.own 999 l.length),(3,.ptr 3 0)],[(3,⟨47,.fix [.i c.proc,.i c.obj,.i c.kind,.i c.arg,.i c.ret,.i c.frm,.i c.to]⟩),(999,⟨3,.row (.ints l)⟩)],[3,999]⟩)
  (True ∧ True ∧ True ∧ True) (by kernel_rfl)
  ⟨tt,tt,tt,tt⟩ ?_
 refine W.K cok tab67 hnt [] [0,3,6] (⟨[(0,.own 999 l.length),(3,.ptr 3 0),(6,.i (findI l c.arg))],[(3,⟨47,.fix [.i c.proc,.i c.obj,.i c.kind,.i c.arg,.i c.ret,.i c.frm,.i c.to]⟩),(999,⟨3,.row (.ints l)⟩)],[3,999]⟩)
  (True ∧ True ∧ True ∧ (True ∧ ((True ∧ (l.length = l.length)) ∧ True ∧ True) ∧ True) ∧ True ∧ True) (by kernel_rfl)
  ⟨tt,tt,tt,⟨tt,⟨⟨tt,rfl⟩,tt,tt⟩,tt⟩,tt,tt⟩ ?_
 refine W.seq ?_
 refine W.block ?_
 refine W.K cok tab67 hnt [] [0,3,6,11] (⟨[(0,.own 999 l.length),(3,.ptr 3 0),(6,.i (findI l c.arg)),(11,.b ((decide (c.kind = (0 : Int))) && (decide ((findI l c.arg) < (0 : Int)))))],[(3,⟨47,.fix [.i c.proc,.i c.obj,.i c.kind,.i c.arg,.i c.ret,.i c.frm,.i c.to]⟩),(999,⟨3,.row (.ints l)⟩)],[3,999]⟩)
  (True ∧ True ∧ (True ∧ True ∧ True) ∧ True ∧ ((decide (c.kind = (0 : Int))) = true → True) ∧ ((decide (c.kind = (0 : Int))) = true → ((((decide (c.kind = (0 : Int))) = true) ∧ True) ∧ True ∧ True)) ∧ (True ∧ ((decide (c.kind = (0 : Int))) = true → ((decide (c.kind = (0 : Int))) = true) ∧ True) ∧ ((decide (c.kind = (0 : Int))) = false → True)) ∧ True ∧ True) (by kernel_rfl)
  ⟨tt,tt,⟨tt,tt,tt⟩,tt,(fun _ => trivial),(fun hG => ⟨⟨hG,tt⟩,tt,tt⟩),⟨tt,(fun hp => ⟨hp,tt⟩),(fun _ => trivial)⟩,tt,tt⟩ ?_
 refine W.if' ((decide (c.kind = (0 : Int))) && (decide ((findI l c.arg) < (0 : Int)))) (.b ((decide (c.kind = (0 : Int))) && (decide ((findI l c.arg) < (0 : Int))))) (by kernel_rfl) rfl trivial ?_ ?_
 ·intro h11
  have h11_0 : c.kind = (0 : Int) := of_decide_eq_true (and_l h11)
  have h11_1 : (findI l c.arg) < (0 : Int) := of_decide_eq_true (and_r h11)
  refine W.K cok tab67 hnt [] [4,5] (⟨[(4,.sl (.ints (l ++ ([c.arg])))),(5,.i (1 : Int))],[(3,⟨47,.fix [.i c.proc,.i c.obj,.i c.kind,.i c.arg,.i c.ret,.i c.frm,.i c.to]⟩)],[23,22,3,999]⟩)
   (True ∧ True ∧ True ∧ (True ∧ True) ∧ ((True ∧ (l.length = l.length)) ∧ True ∧ ((l.length + (List.length ([c.arg]))) * 8 ≤ 140737488355328)) ∧ True ∧ True ∧ True) (by kernel_rfl)
   ⟨tt,tt,tt,⟨tt,tt⟩,⟨⟨tt,rfl⟩,tt,(by (first | omega | (simp only [List.length_append,List.length_cons,List.length_nil,List.length_take,List.length_drop,List.length_set,List.length_replicate,List.length_map] at *; omega) | assumption))⟩,tt,tt,tt⟩ ?_
  refine W.ret (blockQ_ret (thenQ_ret ?_))
  exact endQ_ret (.tup [.sl (.ints (l ++ ([c.arg]))),.i (1 : Int)]) (by kernel_rfl) (@cast (((.ints (l ++ ([c.arg])) : Dat) = .ints ((iSet l c).1)) ∧ (((.int .i64 (1 : Int) : Value) = .int .i64 ((iSet l c).2)) ∧ True)) _ (by kernel_rfl) ⟨(congrArg Dat.ints (by first | (simp only [iSet,h11,(and_l h11),(and_r h11),cond_true,cond_false,Bool.and_true,Bool.true_and,Bool.and_false,Bool.false_and,Bool.or_true,Bool.true_or,Bool.or_false,Bool.false_or,Bool.not_true,Bool.not_false]; done) | simp only [iSet,h11,(and_l h11),(and_r h11),cond_true,cond_false,Bool.and_true,Bool.true_and,Bool.and_false,Bool.false_and,Bool.or_true,Bool.true_or,Bool.or_false,Bool.false_or,Bool.not_true,Bool.not_false])),(congrArg (Value.int .i64) (by first | (simp only [iSet,h11,(and_l h11),(and_r h11),cond_true,cond_false,Bool.and_true,Bool.true_and,Bool.and_false,Bool.false_and,Bool.or_true,Bool.true_or,Bool.or_false,Bool.false_or,Bool.not_true,Bool.not_false]; done) | simp only [iSet,h11,(and_l h11),(and_r h11),cond_true,cond_false,Bool.and_true,Bool.true_and,Bool.and_false,Bool.false_and,Bool.or_true,Bool.true_or,Bool.or_false,Bool.false_or,Bool.not_true,Bool.not_false])),tt⟩)
 ·intro n11
  refine W.K cok tab67 hnt [] [0,3,6,24] (⟨[(0,.own 999 l.length),(3,.ptr 3 0),(6,.i (findI l c.arg)),(24,.b ((decide (c.kind = (0 : Int))) || (decide ((findI l c.arg) < (0 : Int)))))],[(3,⟨47,.fix [.i c.proc,.i c.obj,.i c.kind,.i c.arg,.i c.ret,.i c.frm,.i c.to]⟩),(999,⟨3,.row (.ints l)⟩)],[3,999]⟩)
   (True ∧ True ∧ (True ∧ True ∧ True) ∧ True ∧ ((!(decide (c.kind = (0 : Int)))) = true → True) ∧ ((!(decide (c.kind = (0 : Int)))) = true → ((((!(decide (c.kind = (0 : Int)))) = true) ∧ True) ∧ True ∧ True)) ∧ (True ∧ ((decide (c.kind = (0 : Int))) = true → True) ∧ ((decide (c.kind = (0 : Int))) = false → ((!(decide (c.kind = (0 : Int)))) = true) ∧ True)) ∧ True ∧ True) (by kernel_rfl)
   ⟨tt,tt,⟨tt,tt,tt⟩,tt,(fun _ => trivial),(fun hG => ⟨⟨hG,tt⟩,tt,tt⟩),⟨tt,(fun _ => trivial),(fun hp => ⟨(not_t hp),tt⟩)⟩,tt,tt⟩ ?_
  refine W.if' ((decide (c.kind = (0 : Int))) || (decide ((findI l c.arg) < (0 : Int)))) (.b ((decide (c.kind = (0 : Int))) || (decide ((findI l c.arg) < (0 : Int))))) (by kernel_rfl) rfl trivial ?_ ?_
  ·intro h24
   refine W.K cok tab67 hnt [] [4,5] (⟨[(4,.own 999 l.length),(5,.i (0 : Int))],[(3,⟨47,.fix [.i c.proc,.i c.obj,.i c.kind,.i c.arg,.i c.ret,.i c.frm,.i c.to]⟩),(999,⟨3,.row (.ints l)⟩)],[3,999]⟩)
    (True ∧ True ∧ True ∧ True) (by kernel_rfl)
    ⟨tt,tt,tt,tt⟩ ?_
   refine W.ret (blockQ_ret (thenQ_ret ?_))
   exact endQ_ret (.tup [.own 999 l.length,.i (0 : Int)]) (by kernel_rfl) (@cast (((l.length = l.length) ∧ (((.ints l : Dat) = .ints ((iSet l c).1)) ∧ ((999 : Nat) ∉ ([] : List Nat)))) ∧ (((.int .i64 (0 : Int) : Value) = .int .i64 ((iSet l c).2)) ∧ True)) _ (by kernel_rfl) ⟨⟨rfl,(congrArg Dat.ints (by first | (simp only [iSet,h24,n11,cond_true,cond_false,Bool.and_true,Bool.true_and,Bool.and_false,Bool.false_and,Bool.or_true,Bool.true_or,Bool.or_false,Bool.false_or,Bool.not_true,Bool.not_false]; done) | simp only [iSet,h24,n11,cond_true,cond_false,Bool.and_true,Bool.true_and,Bool.and_false,Bool.false_and,Bool.or_true,Bool.true_or,Bool.or_false,Bool.false_or,Bool.not_true,Bool.not_false])),(by decide)⟩,(congrArg (Value.int .i64) (by first | (simp only [iSet,h24,n11,cond_true,cond_false,Bool.and_true,Bool.true_and,Bool.and_false,Bool.false_and,Bool.or_true,Bool.true_or,Bool.or_false,Bool.false_or,Bool.not_true,Bool.not_false]; done) | simp only [iSet,h24,n11,cond_true,cond_false,Bool.and_true,Bool.true_and,Bool.and_false,Bool.false_and,Bool.or_true,Bool.true_or,Bool.or_false,Bool.false_or,Bool.not_true,Bool.not_false])),tt⟩)
  ·intro n24
   have n24_0 : ¬ (c.kind = (0 : Int)) := of_decide_eq_false (or_l n24)
   have n24_1 : ¬ ((findI l c.arg) < (0 : Int)) := of_decide_eq_false (or_r n24)
   refine W.K cok tab67 hnt [] [0,6,33] (⟨[(0,.own 999 l.length),(6,.i (findI l c.arg)),(33,.b (decide (c.kind = (1 : Int))))],[(3,⟨47,.fix [.i c.proc,.i c.obj,.i c.kind,.i c.arg,.i c.ret,.i c.frm,.i c.to]⟩),(999,⟨3,.row (.ints l)⟩)],[3,999]⟩)
    (True ∧ True ∧ (True ∧ True ∧ True) ∧ True ∧ True) (by kernel_rfl)
    ⟨tt,tt,⟨tt,tt,tt⟩,tt,tt⟩ ?_
   refine W.ifP (c.kind = (1 : Int)) (.b (decide (c.kind = (1 : Int)))) (by kernel_rfl) rfl trivial ?_ ?_
   ·intro h33
    refine W.K cok tab67 hnt [41] [4,5] (⟨[(4,.own 41 (List.length (l.take (findI l c.arg).toNat ++ l.drop ((findI l c.arg) + (1 : Int)).toNat))),(5,.i (1 : Int))],[(3,⟨47,.fix [.i c.proc,.i c.obj,.i c.kind,.i c.arg,.i c.ret,.i c.frm,.i c.to]⟩),(41,⟨3,.row (.ints (l.take (findI l c.arg).toNat ++ l.drop ((findI l c.arg) + (1 : Int)).toNat))⟩)],[41,3,999]⟩)
     (True ∧ True ∧ True ∧ (True ∧ True ∧ (Fits .i64 ((findI l c.arg) + (1 : Int)))) ∧ (True ∧ ((True ∧ (l.length = l.length)) ∧ True ∧ True ∧ True) ∧ (0 ≤ (findI l c.arg)) ∧ ((findI l c.arg) < ((findI l c.arg) + (1 : Int))) ∧ (((findI l c.arg) + (1 : Int)) ≤ l.length)) ∧ True ∧ True ∧ True) (by kernel_rfl)
     ⟨tt,tt,tt,⟨tt,tt,(by exact fits_i64 (by omega) (by omega))⟩,⟨tt,⟨⟨tt,rfl⟩,tt,tt,tt⟩,(by omega),(by omega),(by omega)⟩,tt,tt,tt⟩ ?_
    refine W.ret (blockQ_ret (thenQ_ret ?_))
    exact endQ_ret (.tup [.own 41 (List.length (l.take (findI l c.arg).toNat ++ l.drop ((findI l c.arg) + (1 : Int)).toNat)),.i (1 : Int)]) (by kernel_rfl) (@cast ((((List.length (l.take (findI l c.arg).toNat ++ l.drop ((findI l c.arg) + (1 : Int)).toNat)) = (List.length (l.take (findI l c.arg).toNat ++ l.drop ((findI l c.arg) + (1 : Int)).toNat))) ∧ (((.ints (l.take (findI l c.arg).toNat ++ l.drop ((findI l c.arg) + (1 : Int)).toNat) : Dat) = .ints ((iSet l c).1)) ∧ ((41 : Nat) ∉ ([] : List Nat)))) ∧ (((.int .i64 (1 : Int) : Value) = .int .i64 ((iSet l c).2)) ∧ True)) _ (by kernel_rfl) ⟨⟨rfl,(congrArg Dat.ints (by first | (simp only [iSet,(decide_eq_true h33),n11,n24,(or_l n24),(or_r n24),cond_true,cond_false,Bool.and_true,Bool.true_and,Bool.and_false,Bool.false_and,Bool.or_true,Bool.true_or,Bool.or_false,Bool.false_or,Bool.not_true,Bool.not_false]; done) | simp only [iSet,(decide_eq_true h33),n11,n24,(or_l n24),(or_r n24),cond_true,cond_false,Bool.and_true,Bool.true_and,Bool.and_false,Bool.false_and,Bool.or_true,Bool.true_or,Bool.or_false,Bool.false_or,Bool.not_true,Bool.not_false])),(by decide)⟩,(congrArg (Value.int .i64) (by first | (simp only [iSet,(decide_eq_true h33),n11,n24,(or_l n24),(or_r n24),cond_true,cond_false,Bool.and_true,Bool.true_and,Bool.and_false,Bool.false_and,Bool.or_true,Bool.true_or,Bool.or_false,Bool.false_or,Bool.not_true,Bool.not_false]; done) | simp only [iSet,(decide_eq_true h33),n11,n24,(or_l n24),(or_r n24),cond_true,cond_false,Bool.and_true,Bool.true_and,Bool.and_false,Bool.false_and,Bool.or_true,Bool.true_or,Bool.or_false,Bool.false_or,Bool.not_true,Bool.not_false])),tt⟩)
   ·intro n33
    refine W.skip (blockQ_normal (thenQ_normal ?_))
    refine W.K cok tab67 hnt [] [4,5] (⟨[(4,.own 999 l.length),(5,.i (1 : Int))],[(3,⟨47,.fix [.i c.proc,.i c.obj,.i c.kind,.i c.arg,.i c.ret,.i c.frm,.i c.to]⟩),(999,⟨3,.row (.ints l)⟩)],[3,999]⟩)
     (True ∧ True ∧ True ∧ True) (by kernel_rfl)
     ⟨tt,tt,tt,tt⟩ ?_
    refine W.ret ?_
    exact endQ_ret (.tup [.own 999 l.length,.i (1 : Int)]) (by kernel_rfl) (@cast (((l.length = l.length) ∧ (((.ints l : Dat) = .ints ((iSet l c).1)) ∧ ((999 : Nat) ∉ ([] : List Nat)))) ∧ (((.int .i64 (1 : Int) : Value) = .int .i64 ((iSet l c).2)) ∧ True)) _ (by kernel_rfl) ⟨⟨rfl,(congrArg Dat.ints (by first | (simp only [iSet,n11,n24,(or_l n24),(or_r n24),(decide_eq_false n33),cond_true,cond_false,Bool.and_true,Bool.true_and,Bool.and_false,Bool.false_and,Bool.or_true,Bool.true_or,Bool.or_false,Bool.false_or,Bool.not_true,Bool.not_false]; done) | simp only [iSet,n11,n24,(or_l n24),(or_r n24),(decide_eq_false n33),cond_true,cond_false,Bool.and_true,Bool.true_and,Bool.and_false,Bool.false_and,Bool.or_true,Bool.true_or,Bool.or_false,Bool.false_or,Bool.not_true,Bool.not_false])),(by decide)⟩,(congrArg (Value.int .i64) (by first | (simp only [iSet,n11,n24,(or_l n24),(or_r n24),(decide_eq_false n33),cond_true,cond_false,Bool.and_true,Bool.true_and,Bool.and_false,Bool.false_and,Bool.or_true,Bool.true_or,Bool.or_false,Bool.false_or,Bool.not_true,Bool.not_false]; done) | simp only [iSet,n11,n24,(or_l n24),(or_r n24),(decide_eq_false n33),cond_true,cond_false,Bool.and_true,Bool.true_and,Bool.and_false,Bool.false_and,Bool.or_true,Bool.true_or,Bool.or_false,Bool.false_or,Bool.not_true,Bool.not_false])),tt⟩)
theorem ent67 : Entr prog 67 := ⟨_,func67,rfl,by decide⟩
end Go.Proofs.Try

set_option linter.unusedSimpArgs false
set_option linter.unusedVariables false
namespace Go.Proofs.Try
open Go.Ab Go.RowKit
def fs68 : FnS := fnS [.o,.c .ints 3,.o] [.str,.ints,.call] (fun _ (s,l,c,_) => (.tup [.sl (.ints ((iRow s l c).1)),.i ((iRow s l c).2)],[],(∀ j,j < l.length → 0 ≤ l.getD j 0 ∧ l.getD j 0 ≤ 20) ∧ (0 ≤ c.arg ∧ c.arg ≤ 3) ∧ (l.length ≤ 20)))
abbrev T68 : Tab := lk [(70,fs70)]
theorem tab68 : TabOK prog T68 := (TabOK.cons ok70 ent70 TabOK.nil)
set_option maxRecDepth 100000 in
set_option maxHeartbeats 1000000 in
theorem ok68 : FnOK prog 68 fs68 := by
 refine FnOK.mk cok func68 rfl rfl rfl ?_
 rintro fl ⟨(s : ByteArray),(l : List Int),(c : CallD),_⟩ hpre F hnt0 _
 have hnt : F.nt = 48 := hnt0.trans ntmps68
 replace hpre : (∀ j,j < l.length → 0 ≤ l.getD j 0 ∧ l.getD j 0 ≤ 20) ∧ (0 ≤ c.arg ∧ c.arg ≤ 3) ∧ (l.length ≤ 20) := hpre
 obtain ⟨hs,ha,hl⟩ := hpre
 refine W.to (⟨[(0,.v (.string s)),(1,.own 999 l.length),(2,.agg [.i c.proc,.i c.obj,.i c.kind,.i c.arg,.i c.ret,.i c.frm,.i c.to])],[(999,⟨3,.row (.ints l)⟩)],[999]⟩) rfl ?_
 refine W.K cok tab68 hnt [] [0,1,5] (⟨[(0,.v (.string s)),(1,.own 999 l.length),(5,.ptr 5 0)],[(5,⟨47,.fix [.i c.proc,.i c.obj,.i c.kind,.i c.arg,.i c.ret,.i c.frm,.i c.to]⟩),(999,⟨3,.row (.ints l)⟩)],[5,999]⟩)
  (True ∧ True ∧ True ∧ True) (by kernel_rfl)
  ⟨tt,tt,tt,tt⟩ ?_
 refine W.K cok tab68 hnt [] [0,1,5,8] (⟨[(0,.v (.string s)),(1,.own 999 l.length),(5,.ptr 5 0),(8,.i (0 : Int))],[(5,⟨47,.fix [.i c.proc,.i c.obj,.i c.kind,.i c.arg,.i c.ret,.i c.frm,.i c.to]⟩),(999,⟨3,.row (.ints l)⟩)],[5,999]⟩)
  (True ∧ True) (by kernel_rfl)
  ⟨tt,tt⟩ ?_
 refine W.seq ?_
 refine W.K cok tab68 hnt [] [1,5,8,11] (⟨[(1,.own 999 l.length),(5,.ptr 5 0),(8,.i (0 : Int)),(11,.b (eqS s nStack))],[(5,⟨47,.fix [.i c.proc,.i c.obj,.i c.kind,.i c.arg,.i c.ret,.i c.frm,.i c.to]⟩),(999,⟨3,.row (.ints l)⟩)],[5,999]⟩)
  (True ∧ (True ∧ True ∧ True) ∧ True) (by kernel_rfl)
  ⟨tt,⟨tt,tt,tt⟩,tt⟩ ?_
 refine W.meetT (ι := Int) (fun (v : Int) => (⟨[(1,.own 999 l.length),(5,.ptr 5 0),(8,.i v)],[(5,⟨47,.fix [.i c.proc,.i c.obj,.i c.kind,.i c.arg,.i c.ret,.i c.frm,.i c.to]⟩),(999,⟨3,.row (.ints l)⟩)],[5,999]⟩ : St)) (fun (v : Int) => (v = topOf s l) ∧ (-1 ≤ v ∧ v < max 1 (l.length : Int) ∧ (0 < l.length → 0 ≤ v))) ?_ ?_
 ·skip
  refine W.if' (eqS s nStack) (.b (eqS s nStack)) (by kernel_rfl) rfl trivial ?_ ?_
  ·intro h11
   refine W.L cok tab68 hnt [] (⟨[(1,.own 999 l.length),(5,.ptr 5 0),(8,.i ((l.length : Int) - (1 : Int))),(11,.b (eqS s nStack)),(12,.own 999 l.length),(13,.i (l.length : Int)),(14,.i ((l.length : Int) - (1 : Int)))],[(5,⟨47,.fix [.i c.proc,.i c.obj,.i c.kind,.i c.arg,.i c.ret,.i c.frm,.i c.to]⟩),(999,⟨3,.row (.ints l)⟩)],[5,999]⟩)
    (True ∧ True ∧ (True ∧ True ∧ (Fits .i64 ((l.length : Int) - (1 : Int)))) ∧ True ∧ True) (by kernel_rfl)
    ⟨tt,tt,⟨tt,tt,(by exact fits_i64 (by omega) (by omega))⟩,tt,tt⟩ ?_
   refine thenQ_normal ?_
   refine ⟨(((l.length : Int) - (1 : Int))),(show (((l.length : Int) - (1 : Int)) = topOf s l) ∧ (-1 ≤ ((l.length : Int) - (1 : Int)) ∧ ((l.length : Int) - (1 : Int)) < max 1 (l.length : Int) ∧ (0 < l.length → 0 ≤ ((l.length : Int) - (1 : Int)))) from ⟨(by unfold topOf; first | (rw [h11]; rfl) | (rw [n11]; rfl)),(by omega)⟩),?_⟩
   exact Sub.of [] (@cast (((((999 : Nat) = 999) ∧ ((l.length = l.length) ∧ ((999 : Nat) ∈ ([5,999] : List Nat)))) ∧ ((((5 : Nat) = 5) ∧ (((0 : Nat) = 0) ∧ ((5 : Nat) ∈ ([5,999] : List Nat)))) ∧ (((.int .i64 ((l.length : Int) - (1 : Int)) : Value) = .int .i64 ((l.length : Int) - (1 : Int))) ∧ True))) ∧ (((((47 : Nat) = 47) ∧ ((((.int .i64 c.proc : Value) = .int .i64 c.proc) ∧ (((.int .i64 c.obj : Value) = .int .i64 c.obj) ∧ (((.int .i64 c.kind : Value) = .int .i64 c.kind) ∧ (((.int .i64 c.arg : Value) = .int .i64 c.arg) ∧ (((.int .i64 c.ret : Value) = .int .i64 c.ret) ∧ (((.int .i64 c.frm : Value) = .int .i64 c.frm) ∧ (((.int .i64 c.to : Value) = .int .i64 c.to) ∧ True))))))) ∧ ((5 : Nat) ∈ ([5,999] : List Nat)))) ∧ ((((3 : Nat) = 3) ∧ (((.ints l : Dat) = .ints l) ∧ ((999 : Nat) ∈ ([5,999] : List Nat)))) ∧ True)) ∧ ((true = true) ∧ (true = true)))) _ (by kernel_rfl) ⟨⟨⟨rfl,rfl,(by decide)⟩,⟨rfl,rfl,(by decide)⟩,rfl,tt⟩,⟨⟨rfl,⟨rfl,rfl,rfl,rfl,rfl,rfl,rfl,tt⟩,(by decide)⟩,⟨rfl,rfl,(by decide)⟩,tt⟩,rfl,rfl⟩)
  ·intro n11
   refine W.skip (thenQ_normal ?_)
   refine ⟨((0 : Int)),(show ((0 : Int) = topOf s l) ∧ (-1 ≤ (0 : Int) ∧ (0 : Int) < max 1 (l.length : Int) ∧ (0 < l.length → 0 ≤ (0 : Int))) from ⟨(by unfold topOf; first | (rw [h11]; rfl) | (rw [n11]; rfl)),(by omega)⟩),?_⟩
   exact Sub.of [] (@cast (((((999 : Nat) = 999) ∧ ((l.length = l.length) ∧ ((999 : Nat) ∈ ([5,999] : List Nat)))) ∧ ((((5 : Nat) = 5) ∧ (((0 : Nat) = 0) ∧ ((5 : Nat) ∈ ([5,999] : List Nat)))) ∧ (((.int .i64 (0 : Int) : Value) = .int .i64 (0 : Int)) ∧ True))) ∧ (((((47 : Nat) = 47) ∧ ((((.int .i64 c.proc : Value) = .int .i64 c.proc) ∧ (((.int .i64 c.obj : Value) = .int .i64 c.obj) ∧ (((.int .i64 c.kind : Value) = .int .i64 c.kind) ∧ (((.int .i64 c.arg : Value) = .int .i64 c.arg) ∧ (((.int .i64 c.ret : Value) = .int .i64 c.ret) ∧ (((.int .i64 c.frm : Value) = .int .i64 c.frm) ∧ (((.int .i64 c.to : Value) = .int .i64 c.to) ∧ True))))))) ∧ ((5 : Nat) ∈ ([5,999] : List Nat)))) ∧ ((((3 : Nat) = 3) ∧ (((.ints l : Dat) = .ints l) ∧ ((999 : Nat) ∈ ([5,999] : List Nat)))) ∧ True)) ∧ ((true = true) ∧ (true = true)))) _ (by kernel_rfl) ⟨⟨⟨rfl,rfl,(by decide)⟩,⟨rfl,rfl,(by decide)⟩,rfl,tt⟩,⟨⟨rfl,⟨rfl,rfl,rfl,rfl,rfl,rfl,rfl,tt⟩,(by decide)⟩,⟨rfl,rfl,(by decide)⟩,tt⟩,rfl,rfl⟩)
 ·rintro v hC0
  have hC : (v = topOf s l) ∧ (-1 ≤ v ∧ v < max 1 (l.length : Int) ∧ (0 < l.length → 0 ≤ v)) := hC0
  clear hC0
  obtain ⟨hv,hvb⟩ := hC
  refine W.to (⟨[(1,.own 999 l.length),(5,.ptr 5 0),(8,.i v)],[(5,⟨47,.fix [.i c.proc,.i c.obj,.i c.kind,.i c.arg,.i c.ret,.i c.frm,.i c.to]⟩),(999,⟨3,.row (.ints l)⟩)],[5,999]⟩) rfl ?_
  refine W.seq ?_
  refine W.block ?_
  refine W.K cok tab68 hnt [] [1,5,8,15] (⟨[(1,.own 999 l.length),(5,.ptr 5 0),(8,.i v),(15,.b (decide (c.kind = (0 : Int))))],[(5,⟨47,.fix [.i c.proc,.i c.obj,.i c.kind,.i c.arg,.i c.ret,.i c.frm,.i c.to]⟩),(999,⟨3,.row (.ints l)⟩)],[5,999]⟩)
   (True ∧ True ∧ (True ∧ True ∧ True) ∧ True ∧ True) (by kernel_rfl)
   ⟨tt,tt,⟨tt,tt,tt⟩,tt,tt⟩ ?_
  refine W.ifP (c.kind = (0 : Int)) (.b (decide (c.kind = (0 : Int)))) (by kernel_rfl) rfl trivial ?_ ?_
  ·intro h15
   refine W.K cok tab68 hnt [] [6,7] (⟨[(6,.sl (.ints (l ++ ([c.arg])))),(7,.i (0 : Int))],[(5,⟨47,.fix [.i c.proc,.i c.obj,.i c.kind,.i c.arg,.i c.ret,.i c.frm,.i c.to]⟩)],[23,22,5,999]⟩)
    (True ∧ True ∧ True ∧ (True ∧ True) ∧ ((True ∧ (l.length = l.length)) ∧ True ∧ ((l.length + (List.length ([c.arg]))) * 8 ≤ 140737488355328)) ∧ True ∧ True ∧ True) (by kernel_rfl)
    ⟨tt,tt,tt,⟨tt,tt⟩,⟨⟨tt,rfl⟩,tt,(by (first | omega | (simp only [List.length_append,List.length_cons,List.length_nil,List.length_take,List.length_drop,List.length_set,List.length_replicate,List.length_map] at *; omega) | assumption))⟩,tt,tt,tt⟩ ?_
   refine W.ret (blockQ_ret (thenQ_ret ?_))
   exact endQ_ret (.tup [.sl (.ints (l ++ ([c.arg]))),.i (0 : Int)]) (by kernel_rfl) (@cast (((.ints (l ++ ([c.arg])) : Dat) = .ints ((iRow s l c).1)) ∧ (((.int .i64 (0 : Int) : Value) = .int .i64 ((iRow s l c).2)) ∧ True)) _ (by kernel_rfl) ⟨(congrArg Dat.ints (by subst hv; first | (simp only [iRow,(decide_eq_true h15),cond_true,cond_false,Bool.and_true,Bool.true_and,Bool.and_false,Bool.false_and,Bool.or_true,Bool.true_or,Bool.or_false,Bool.false_or,Bool.not_true,Bool.not_false]; done) | simp only [iRow,(decide_eq_true h15),cond_true,cond_false,Bool.and_true,Bool.true_and,Bool.and_false,Bool.false_and,Bool.or_true,Bool.true_or,Bool.or_false,Bool.false_or,Bool.not_true,Bool.not_false])),(congrArg (Value.int .i64) (by subst hv; first | (simp only [iRow,(decide_eq_true h15),cond_true,cond_false,Bool.and_true,Bool.true_and,Bool.and_false,Bool.false_and,Bool.or_true,Bool.true_or,Bool.or_false,Bool.false_or,Bool.not_true,Bool.not_false]; done) | simp only [iRow,(decide_eq_true h15),cond_true,cond_false,Bool.and_true,Bool.true_and,Bool.and_false,Bool.false_and,Bool.or_true,Bool.true_or,Bool.or_false,Bool.false_or,Bool.not_true,Bool.not_false])),tt⟩)
  ·intro n15
   refine W.K cok tab68 hnt [] [1,5,8,24] (⟨[(1,.own 999 l.length),(5,.ptr 5 0),(8,.i v),(24,.b (decide ((l.length : Int) = (0 : Int))))],[(5,⟨47,.fix [.i c.proc,.i c.obj,.i c.kind,.i c.arg,.i c.ret,.i c.frm,.i c.to]⟩),(999,⟨3,.row (.ints l)⟩)],[5,999]⟩)
    (True ∧ True ∧ (True ∧ True ∧ True) ∧ True ∧ True) (by kernel_rfl)
    ⟨tt,tt,⟨tt,tt,tt⟩,tt,tt⟩ ?_
   refine W.ifP ((l.length : Int) = (0 : Int)) (.b (decide ((l.length : Int) = (0 : Int)))) (by kernel_rfl) rfl trivial ?_ ?_
   ·intro h24
    refine W.K cok tab68 hnt [] [6,7] (⟨[(6,.own 999 l.length),(7,.i (-1 : Int))],[(5,⟨47,.fix [.i c.proc,.i c.obj,.i c.kind,.i c.arg,.i c.ret,.i c.frm,.i c.to]⟩),(999,⟨3,.row (.ints l)⟩)],[5,999]⟩)
     (True ∧ True ∧ True ∧ True) (by kernel_rfl)
     ⟨tt,tt,tt,tt⟩ ?_
    refine W.ret (blockQ_ret (thenQ_ret ?_))
    exact endQ_ret (.tup [.own 999 l.length,.i (-1 : Int)]) (by kernel_rfl) (@cast (((l.length = l.length) ∧ (((.ints l : Dat) = .ints ((iRow s l c).1)) ∧ ((999 : Nat) ∉ ([] : List Nat)))) ∧ (((.int .i64 (-1 : Int) : Value) = .int .i64 ((iRow s l c).2)) ∧ True)) _ (by kernel_rfl) ⟨⟨rfl,(congrArg Dat.ints (by subst hv; first | (simp only [iRow,(decide_eq_true h24),(decide_eq_false n15),cond_true,cond_false,Bool.and_true,Bool.true_and,Bool.and_false,Bool.false_and,Bool.or_true,Bool.true_or,Bool.or_false,Bool.false_or,Bool.not_true,Bool.not_false]; done) | simp only [iRow,(decide_eq_true h24),(decide_eq_false n15),cond_true,cond_false,Bool.and_true,Bool.true_and,Bool.and_false,Bool.false_and,Bool.or_true,Bool.true_or,Bool.or_false,Bool.false_or,Bool.not_true,Bool.not_false])),(by decide)⟩,(congrArg (Value.int .i64) (by subst hv; first | (simp only [iRow,(decide_eq_true h24),(decide_eq_false n15),cond_true,cond_false,Bool.and_true,Bool.true_and,Bool.and_false,Bool.false_and,Bool.or_true,Bool.true_or,Bool.or_false,Bool.false_or,Bool.not_true,Bool.not_false]; done) | simp only [iRow,(decide_eq_true h24),(decide_eq_false n15),cond_true,cond_false,Bool.and_true,Bool.true_and,Bool.and_false,Bool.false_and,Bool.or_true,Bool.true_or,Bool.or_false,Bool.false_or,Bool.not_true,Bool.not_false])),tt⟩)
   ·intro n24
    refine W.K cok tab68 hnt [] [1,8,29] (⟨[(1,.own 999 l.length),(8,.i v),(29,.b (decide (c.kind = (2 : Int))))],[(5,⟨47,.fix [.i c.proc,.i c.obj,.i c.kind,.i c.arg,.i c.ret,.i c.frm,.i c.to]⟩),(999,⟨3,.row (.ints l)⟩)],[5,999]⟩)
     (True ∧ True ∧ (True ∧ True ∧ True) ∧ True ∧ True) (by kernel_rfl)
     ⟨tt,tt,⟨tt,tt,tt⟩,tt,tt⟩ ?_
    refine W.ifP (c.kind = (2 : Int)) (.b (decide (c.kind = (2 : Int)))) (by kernel_rfl) rfl trivial ?_ ?_
    ·intro h29
     refine W.KA cok tab68 hnt [] [6,7] (⟨[(6,.own 999 l.length),(7,.i (l.getD (Int.toNat v) 0))],[(5,⟨47,.fix [.i c.proc,.i c.obj,.i c.kind,.i c.arg,.i c.ret,.i c.frm,.i c.to]⟩),(999,⟨3,.row (.ints l)⟩)],[5,999]⟩)
      (True ∧ True ∧ True ∧ (True ∧ True ∧ (0 ≤ v) ∧ (v < (l.length : Int))) ∧ (True ∧ ((Int.toNat v) < l.length)) ∧ True ∧ True ∧ True) (by kernel_rfl) (by kernel_rfl)
      ⟨tt,tt,tt,⟨tt,tt,(by omega),(by omega)⟩,⟨tt,(by omega)⟩,tt,tt,tt⟩ ?_
     refine W.ret (blockQ_ret (thenQ_ret ?_))
     exact endQ_ret (.tup [.own 999 l.length,.i (l.getD (Int.toNat v) 0)]) (by kernel_rfl) (@cast (((l.length = l.length) ∧ (((.ints l : Dat) = .ints ((iRow s l c).1)) ∧ ((999 : Nat) ∉ ([] : List Nat)))) ∧ (((.int .i64 (l.getD (Int.toNat v) 0) : Value) = .int .i64 ((iRow s l c).2)) ∧ True)) _ (by kernel_rfl) ⟨⟨rfl,(congrArg Dat.ints (by subst hv; first | (simp only [iRow,(decide_eq_true h29),(decide_eq_false n15),(decide_eq_false n24),cond_true,cond_false,Bool.and_true,Bool.true_and,Bool.and_false,Bool.false_and,Bool.or_true,Bool.true_or,Bool.or_false,Bool.false_or,Bool.not_true,Bool.not_false]; done) | simp only [iRow,(decide_eq_true h29),(decide_eq_false n15),(decide_eq_false n24),cond_true,cond_false,Bool.and_true,Bool.true_and,Bool.and_false,Bool.false_and,Bool.or_true,Bool.true_or,Bool.or_false,Bool.false_or,Bool.not_true,Bool.not_false])),(by decide)⟩,(congrArg (Value.int .i64) (by subst hv; first | (simp only [iRow,(decide_eq_true h29),(decide_eq_false n15),(decide_eq_false n24),cond_true,cond_false,Bool.and_true,Bool.true_and,Bool.and_false,Bool.false_and,Bool.or_true,Bool.true_or,Bool.or_false,Bool.false_or,Bool.not_true,Bool.not_false]; done) | simp only [iRow,(decide_eq_true h29),(decide_eq_false n15),(decide_eq_false n24),cond_true,cond_false,Bool.and_true,Bool.true_and,Bool.and_false,Bool.false_and,Bool.or_true,Bool.true_or,Bool.or_false,Bool.false_or,Bool.not_true,Bool.not_false])),tt⟩)
    ·intro n29
     refine W.skip (blockQ_normal (thenQ_normal ?_))
     refine W.K cok tab68 hnt [] [1,8,9] (⟨[(1,.own 999 l.length),(8,.i v),(9,.i (l.getD (Int.toNat v) 0))],[(5,⟨47,.fix [.i c.proc,.i c.obj,.i c.kind,.i c.arg,.i c.ret,.i c.frm,.i c.to]⟩),(999,⟨3,.row (.ints l)⟩)],[5,999]⟩)
      (True ∧ True ∧ (True ∧ True ∧ (0 ≤ v) ∧ (v < (l.length : Int))) ∧ (True ∧ ((Int.toNat v) < l.length)) ∧ True ∧ True) (by kernel_rfl)
      ⟨tt,tt,⟨tt,tt,(by omega),(by omega)⟩,⟨tt,(by omega)⟩,tt,tt⟩ ?_
     refine W.K cok tab68 hnt [46] [6,7] (⟨[(6,.own 46 (List.length (l.take v.toNat ++ l.drop (v + (1 : Int)).toNat))),(7,.i (l.getD (Int.toNat v) 0))],[(5,⟨47,.fix [.i c.proc,.i c.obj,.i c.kind,.i c.arg,.i c.ret,.i c.frm,.i c.to]⟩),(46,⟨3,.row (.ints (l.take v.toNat ++ l.drop (v + (1 : Int)).toNat))⟩)],[46,5,999]⟩)
      (True ∧ True ∧ True ∧ (True ∧ True ∧ (Fits .i64 (v + (1 : Int)))) ∧ (True ∧ ((True ∧ (l.length = l.length)) ∧ True ∧ True ∧ True) ∧ (0 ≤ v) ∧ (v < (v + (1 : Int))) ∧ ((v + (1 : Int)) ≤ l.length)) ∧ True ∧ True ∧ True ∧ True) (by kernel_rfl)
      ⟨tt,tt,tt,⟨tt,tt,(by exact fits_i64 (by omega) (by omega))⟩,⟨tt,⟨⟨tt,rfl⟩,tt,tt,tt⟩,(by omega),(by omega),(by omega)⟩,tt,tt,tt,tt⟩ ?_
     refine W.ret ?_
     exact endQ_ret (.tup [.own 46 (List.length (l.take v.toNat ++ l.drop (v + (1 : Int)).toNat)),.i (l.getD (Int.toNat v) 0)]) (by kernel_rfl) (@cast ((((List.length (l.take v.toNat ++ l.drop (v + (1 : Int)).toNat)) = (List.length (l.take v.toNat ++ l.drop (v + (1 : Int)).toNat))) ∧ (((.ints (l.take v.toNat ++ l.drop (v + (1 : Int)).toNat) : Dat) = .ints ((iRow s l c).1)) ∧ ((46 : Nat) ∉ ([] : List Nat)))) ∧ (((.int .i64 (l.getD (Int.toNat v) 0) : Value) = .int .i64 ((iRow s l c).2)) ∧ True)) _ (by kernel_rfl) ⟨⟨rfl,(congrArg Dat.ints (by subst hv; first | (simp only [iRow,(decide_eq_false n15),(decide_eq_false n24),(decide_eq_false n29),cond_true,cond_false,Bool.and_true,Bool.true_and,Bool.and_false,Bool.false_and,Bool.or_true,Bool.true_or,Bool.or_false,Bool.false_or,Bool.not_true,Bool.not_false]; done) | simp only [iRow,(decide_eq_false n15),(decide_eq_false n24),(decide_eq_false n29),cond_true,cond_false,Bool.and_true,Bool.true_and,Bool.and_false,Bool.false_and,Bool.or_true,Bool.true_or,Bool.or_false,Bool.false_or,Bool.not_true,Bool.not_false])),(by decide)⟩,(congrArg (Value.int .i64) (by subst hv; first | (simp only [iRow,(decide_eq_false n15),(decide_eq_false n24),(decide_eq_false n29),cond_true,cond_false,Bool.and_true,Bool.true_and,Bool.and_false,Bool.false_and,Bool.or_true,Bool.true_or,Bool.or_false,Bool.false_or,Bool.not_true,Bool.not_false]; done) | simp only [iRow,(decide_eq_false n15),(decide_eq_false n24),(decide_eq_false n29),cond_true,cond_false,Bool.and_true,Bool.true_and,Bool.and_false,Bool.false_and,Bool.or_true,Bool.true_or,Bool.or_false,Bool.false_or,Bool.not_true,Bool.not_false])),tt⟩)
theorem ent68 : Entr prog 68 := ⟨_,func68,rfl,by decide⟩
end Go.Proofs.Try

set_option linter.unusedSimpArgs false
set_option linter.unusedVariables false
namespace Go.Proofs.Try
open Go.Ab Go.RowKit
def fs52 : FnS := fnS [.o,.s .ints,.o] [.str,.ints,.call] (fun _ (s,l,c,_) => (.tup [.sl (.ints ((iStep s l c).1)),.i ((iStep s l c).2)],[],(∀ j,j < l.length → 0 ≤ l.getD j 0 ∧ l.getD j 0 ≤ 20) ∧ (0 ≤ c.arg ∧ c.arg ≤ 3) ∧ (l.length ≤ 20)))
abbrev T52 : Tab := lk [(53,fs53),(60,fs60),(66,fs66),(67,fs67),(68,fs68)]
theorem tab52 : TabOK prog T52 := (TabOK.cons ok53 ent53 (TabOK.cons ok60 ent60 (TabOK.cons ok66 ent66 (TabOK.cons ok67 ent67 (TabOK.cons ok68 ent68 TabOK.nil)))))
set_option maxRecDepth 100000 in
set_option maxHeartbeats 1000000 in
theorem ok52 : FnOK prog 52 fs52 := by
 refine FnOK.mk cok func52 rfl rfl rfl ?_
 rintro fl ⟨(s : ByteArray),(l : List Int),(c : CallD),_⟩ hpre F hnt0 _
 have hnt : F.nt = 33 := hnt0.trans ntmps52
 replace hpre : (∀ j,j < l.length → 0 ≤ l.getD j 0 ∧ l.getD j 0 ≤ 20) ∧ (0 ≤ c.arg ∧ c.arg ≤ 3) ∧ (l.length ≤ 20) := hpre
 obtain ⟨hs,ha,hl⟩ := hpre
 refine W.to (⟨[(0,.v (.string s)),(1,.sl (.ints l)),(2,.agg [.i c.proc,.i c.obj,.i c.kind,.i c.arg,.i c.ret,.i c.frm,.i c.to])],[],[999]⟩) rfl ?_
 refine W.lenOf 1 (.ints l) (by kernel_rfl) ?_
 intro hl_l; replace hl_l : List.length l ≤ 9223372036854775807 := hl_l
 refine W.K cok tab52 hnt [] [0,1,5] (⟨[(0,.v (.string s)),(1,.sl (.ints l)),(5,.ptr 5 0)],[(5,⟨47,.fix [.i c.proc,.i c.obj,.i c.kind,.i c.arg,.i c.ret,.i c.frm,.i c.to]⟩)],[5,999]⟩)
  (True ∧ True ∧ True ∧ True) (by kernel_rfl)
  ⟨tt,tt,tt,tt⟩ ?_
 refine W.K cok tab52 hnt [9] [0,1,5] (⟨[(0,.v (.string s)),(1,.own 9 l.length),(5,.ptr 5 0)],[(5,⟨47,.fix [.i c.proc,.i c.obj,.i c.kind,.i c.arg,.i c.ret,.i c.frm,.i c.to]⟩),(9,⟨3,.row (.ints l)⟩)],[9,5,999]⟩)
  (True ∧ (True ∧ (True ∧ True) ∧ (l.length * 8 ≤ 140737488355328)) ∧ True ∧ True) (by kernel_rfl)
  ⟨tt,⟨tt,⟨tt,tt⟩,(by omega)⟩,tt,tt⟩ ?_
 refine W.seq ?_
 refine W.block ?_
 refine W.K cok tab52 hnt [] [0,1,5,10] (⟨[(0,.v (.string s)),(1,.own 9 l.length),(5,.ptr 5 0),(10,.b (isSingle s))],[(5,⟨47,.fix [.i c.proc,.i c.obj,.i c.kind,.i c.arg,.i c.ret,.i c.frm,.i c.to]⟩),(9,⟨3,.row (.ints l)⟩)],[9,5,999]⟩)
  (True ∧ (True ∧ (True ∧ True) ∧ True) ∧ True ∧ True) (by kernel_rfl)
  ⟨tt,⟨tt,⟨tt,tt⟩,tt⟩,tt,tt⟩ ?_
 refine W.if' (isSingle s) (.b (isSingle s)) (by kernel_rfl) rfl trivial ?_ ?_
 ·intro h10
  refine W.K cok tab52 hnt [] [6,7] (⟨[(6,.sl (.ints ((iSingle s l c).1))),(7,.i ((iSingle s l c).2))],[(5,⟨47,.fix [.i c.proc,.i c.obj,.i c.kind,.i c.arg,.i c.ret,.i c.frm,.i c.to]⟩)],[9,5,999]⟩)
   (True ∧ True ∧ True ∧ (True ∧ (True ∧ (True ∧ (l.length = l.length)) ∧ True ∧ True) ∧ (∀ j,j < l.length → 0 ≤ l.getD j 0 ∧ l.getD j 0 ≤ 20) ∧ (0 ≤ c.arg ∧ c.arg ≤ 3) ∧ (l.length ≤ 20)) ∧ True ∧ True ∧ True ∧ True ∧ True) (by kernel_rfl)
   ⟨tt,tt,tt,⟨tt,⟨tt,⟨tt,rfl⟩,tt,tt⟩,(by omega),(by omega),(by omega)⟩,tt,tt,tt,tt,tt⟩ ?_
  refine W.ret (blockQ_ret (thenQ_ret ?_))
  exact endQ_ret (.tup [.sl (.ints ((iSingle s l c).1)),.i ((iSingle s l c).2)]) (by kernel_rfl) (@cast (((.ints ((iSingle s l c).1) : Dat) = .ints ((iStep s l c).1)) ∧ (((.int .i64 ((iSingle s l c).2) : Value) = .int .i64 ((iStep s l c).2)) ∧ True)) _ (by kernel_rfl) ⟨(congrArg Dat.ints (by simp only [iStep,h10,cond_true,cond_false,Bool.and_true,Bool.true_and,Bool.and_false,Bool.false_and,Bool.or_true,Bool.true_or,Bool.or_false,Bool.false_or,Bool.not_true,Bool.not_false])),(congrArg (Value.int .i64) (by simp only [iStep,h10,cond_true,cond_false,Bool.and_true,Bool.true_and,Bool.and_false,Bool.false_and,Bool.or_true,Bool.true_or,Bool.or_false,Bool.false_or,Bool.not_true,Bool.not_false])),tt⟩)
 ·intro n10
  refine W.K cok tab52 hnt [] [0,1,5,19] (⟨[(0,.v (.string s)),(1,.own 9 l.length),(5,.ptr 5 0),(19,.b (eqS s nSet))],[(5,⟨47,.fix [.i c.proc,.i c.obj,.i c.kind,.i c.arg,.i c.ret,.i c.frm,.i c.to]⟩),(9,⟨3,.row (.ints l)⟩)],[9,5,999]⟩)
   (True ∧ (True ∧ True ∧ True) ∧ True ∧ True) (by kernel_rfl)
   ⟨tt,⟨tt,tt,tt⟩,tt,tt⟩ ?_
  refine W.if' (eqS s nSet) (.b (eqS s nSet)) (by kernel_rfl) rfl trivial ?_ ?_
  ·intro h19
   refine W.K cok tab52 hnt [] [6,7] (⟨[(6,.sl (.ints ((iSet l c).1))),(7,.i ((iSet l c).2))],[(5,⟨47,.fix [.i c.proc,.i c.obj,.i c.kind,.i c.arg,.i c.ret,.i c.frm,.i c.to]⟩)],[9,5,999]⟩)
    (True ∧ True ∧ (True ∧ ((True ∧ (l.length = l.length)) ∧ True ∧ True) ∧ (∀ j,j < l.length → 0 ≤ l.getD j 0 ∧ l.getD j 0 ≤ 20) ∧ (0 ≤ c.arg ∧ c.arg ≤ 3) ∧ (l.length ≤ 20)) ∧ True ∧ True ∧ True ∧ True ∧ True) (by kernel_rfl)
    ⟨tt,tt,⟨tt,⟨⟨tt,rfl⟩,tt,tt⟩,(by omega),(by omega),(by omega)⟩,tt,tt,tt,tt,tt⟩ ?_
   refine W.ret (blockQ_ret (thenQ_ret ?_))
   exact endQ_ret (.tup [.sl (.ints ((iSet l c).1)),.i ((iSet l c).2)]) (by kernel_rfl) (@cast (((.ints ((iSet l c).1) : Dat) = .ints ((iStep s l c).1)) ∧ (((.int .i64 ((iSet l c).2) : Value) = .int .i64 ((iStep s l c).2)) ∧ True)) _ (by kernel_rfl) ⟨(congrArg Dat.ints (by simp only [iStep,h19,n10,cond_true,cond_false,Bool.and_true,Bool.true_and,Bool.and_false,Bool.false_and,Bool.or_true,Bool.true_or,Bool.or_false,Bool.false_or,Bool.not_true,Bool.not_false])),(congrArg (Value.int .i64) (by simp only [iStep,h19,n10,cond_true,cond_false,Bool.and_true,Bool.true_and,Bool.and_false,Bool.false_and,Bool.or_true,Bool.true_or,Bool.or_false,Bool.false_or,Bool.not_true,Bool.not_false])),tt⟩)
  ·intro n19
   refine W.skip (blockQ_normal (thenQ_normal ?_))
   refine W.K cok tab52 hnt [] [6,7] (⟨[(6,.sl (.ints ((iRow s l c).1))),(7,.i ((iRow s l c).2))],[(5,⟨47,.fix [.i c.proc,.i c.obj,.i c.kind,.i c.arg,.i c.ret,.i c.frm,.i c.to]⟩)],[9,5,999]⟩)
    (True ∧ True ∧ True ∧ (True ∧ (True ∧ (True ∧ (l.length = l.length)) ∧ True ∧ True) ∧ (∀ j,j < l.length → 0 ≤ l.getD j 0 ∧ l.getD j 0 ≤ 20) ∧ (0 ≤ c.arg ∧ c.arg ≤ 3) ∧ (l.length ≤ 20)) ∧ True ∧ True ∧ True ∧ True ∧ True) (by kernel_rfl)
    ⟨tt,tt,tt,⟨tt,⟨tt,⟨tt,rfl⟩,tt,tt⟩,(by omega),(by omega),(by omega)⟩,tt,tt,tt,tt,tt⟩ ?_
   refine W.ret ?_
   exact endQ_ret (.tup [.sl (.ints ((iRow s l c).1)),.i ((iRow s l c).2)]) (by kernel_rfl) (@cast (((.ints ((iRow s l c).1) : Dat) = .ints ((iStep s l c).1)) ∧ (((.int .i64 ((iRow s l c).2) : Value) = .int .i64 ((iStep s l c).2)) ∧ True)) _ (by kernel_rfl) ⟨(congrArg Dat.ints (by simp only [iStep,n10,n19,cond_true,cond_false,Bool.and_true,Bool.true_and,Bool.and_false,Bool.false_and,Bool.or_true,Bool.true_or,Bool.or_false,Bool.false_or,Bool.not_true,Bool.not_false])),(congrArg (Value.int .i64) (by simp only [iStep,n10,n19,cond_true,cond_false,Bool.and_true,Bool.true_and,Bool.and_false,Bool.false_and,Bool.or_true,Bool.true_or,Bool.or_false,Bool.false_or,Bool.not_true,Bool.not_false])),tt⟩)
theorem ent52 : Entr prog 52 := ⟨_,func52,rfl,by decide⟩
end Go.Proofs.Try
