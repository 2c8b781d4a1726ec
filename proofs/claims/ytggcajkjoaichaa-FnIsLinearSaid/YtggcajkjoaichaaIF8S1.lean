import Derived.Test.YtggcajkjoaichaaIF8S0
set_option linter.unusedSimpArgs false
set_option linter.unusedVariables false
namespace Go.Ab
def ordersBy (s : ByteArray) (h : List CallD) (f : Nat → Nat → Bool) : List (List Int) := bif isObject s && validHistory h then ordersF s h f h.length [] else []
def explains (s : ByteArray) (h : List CallD) (f : Nat → Nat → Bool) : Bool := decide (0 < (((ordersBy s h f).length : Nat) : Int))
section
variable {s : ByteArray} {h : List CallD} {f g : Nat → Nat → Bool} {rows : List Int}
theorem by_val (hg : (isObject s && validHistory h) = true) (e : rows = rowsOf h.length f) : ordersF s h (bitF rows) h.length [] = ordersBy s h f := by
 unfold ordersBy; rw [hg, e, orders_rows]; rfl
theorem by_no (hg : (isObject s && validHistory h) = false) : ordersBy s h f = [] := by unfold ordersBy; rw [hg]; rfl
theorem by_no' (hg : (!isObject s || !validHistory h) = true) : ordersBy s h f = [] := by_no (by cases h1 : isObject s <;> cases h2 : validHistory h <;> simp_all)
theorem by_yes' (hg : (!isObject s || !validHistory h) = false) : (isObject s && validHistory h) = true := by cases h1 : isObject s <;> cases h2 : validHistory h <;> simp_all
theorem by_gt (e : validHistory h = true → rows = rowsOf h.length f) : ((isObject s && validHistory h) && decide (0 < (((ordersF s h (bitF rows) h.length []).length : Nat) : Int))) = explains s h f := by
 cases hg : (isObject s && validHistory h) with
 | false => unfold explains; rw [by_no hg]; rfl
 | true => rw [by_val hg (e (by simp only [Bool.and_eq_true] at hg; exact hg.2))]; unfold explains; rfl
theorem quiet_rows (hv : validHistory h = true) : quietAhead h = rowsOf h.length (bitF (quietAhead h)) := by rw [quiet_eq hv]; exact rows_self
theorem own_rows (hv : validHistory h = true) : ownAhead h = rowsOf h.length (bitF (ownAhead h)) := by rw [own_eq hv]; exact rows_self
theorem ahead_rows (hv : validHistory h = true) : aheadOf h = rowsOf h.length (bitF (aheadOf h)) := by rw [ahead_eq hv]; exact rows_self
theorem free_mono {n : Nat} {o : List Int} {i : Nat} (hi : i < n) (hfg : ∀ i k, i < n → k < n → g i k = true → f i k = true) (h1 : freeB f n o i = true) : freeB g n o i = true := by
 unfold freeB at *
 rw [Bool.and_eq_true, allN_iff] at *
 refine ⟨h1.1, fun k hk => ?_⟩
 have h2 := h1.2 k hk
 have h3 := hfg i k hi hk
 cases hg : g i k with
 | false => rfl
 | true => rw [h3 hg] at h2; exact h2
theorem orders_mono (hfg : ∀ i k, i < h.length → k < h.length → g i k = true → f i k = true) {x : List Int} : ∀ (m : Nat) (o : List Int), x ∈ ordersF s h f m o → x ∈ ordersF s h g m o
 | 0, o, hx => hx
 | m + 1, o, hx => by
  simp only [ordersF, List.mem_flatMap, List.mem_range] at *
  obtain ⟨i, hi, h1⟩ := hx
  refine ⟨i, hi, ?_⟩
  cases h2 : freeB f h.length o i with
  | false => rw [h2] at h1; simp at h1
  | true =>
   rw [h2] at h1
   rw [free_mono hi hfg h2]
   exact orders_mono hfg m _ h1
theorem explains_iff : explains s h f = true ↔ ∃ x, x ∈ ordersBy s h f := by
 unfold explains
 rw [decide_eq_true_eq]
 constructor
 ·intro h1
  have : 0 < (ordersBy s h f).length := by omega
  exact List.exists_mem_of_length_pos this
 ·rintro ⟨x, hx⟩
  have := List.length_pos_of_mem hx
  omega
theorem by_mono (hfg : ∀ i k, i < h.length → k < h.length → g i k = true → f i k = true) {x : List Int} (hx : x ∈ ordersBy s h f) : x ∈ ordersBy s h g := by
 unfold ordersBy at *
 cases hg : (isObject s && validHistory h) with
 | false => rw [hg] at hx; simp at hx
 | true => rw [hg] at hx; exact orders_mono hfg _ _ hx
theorem explains_mono (hfg : ∀ i k, i < h.length → k < h.length → g i k = true → f i k = true) (h1 : explains s h f = true) : explains s h g = true := by
 rw [explains_iff] at *
 obtain ⟨x, hx⟩ := h1
 exact ⟨x, by_mono hfg hx⟩
theorem quiet_ahead {i k : Nat} (hq : quietF h i k = true) : aheadF h i k = true := by
 obtain ⟨t, _, h2, h3, _⟩ := quiet_iff.1 hq
 simp only [aheadF, isBefore, decide_eq_true_eq]; omega
theorem quiet_law2 (h1 : explains s h (aheadF h) = true) : explains s h (quietF h) = true := explains_mono (fun i k _ _ hq => quiet_ahead hq) h1
theorem own_ahead {i k : Nat} (hq : ownF h i k = true) : aheadF h i k = true := by
 unfold ownF at hq; exact and_r hq
theorem own_law (h1 : explains s h (aheadF h) = true) : explains s h (ownF h) = true := explains_mono (fun i k _ _ hq => own_ahead hq) h1
end
end Go.Ab
namespace Go.Ab
end Go.Ab
namespace Go.Ab
end Go.Ab

set_option linter.unusedSimpArgs false
set_option linter.unusedVariables false
namespace Go.Ab
section
variable {s : ByteArray} {h : List CallD} {f g : Nat → Nat → Bool} {rows : List Int}
def respF (f : Nat → Nat → Bool) (n : Nat) (o : List Int) : Prop := ∀ k, k < o.length → freeB f n (o.take k) (o.getD k 0).toNat = true
theorem resp_snoc {n k : Nat} {o : List Int} (hr : respF f n o) (hf : freeB f n o k = true) : respF f n (o ++ [((k : Nat) : Int)]) := by
 intro j hj
 simp only [List.getD_eq_getElem?_getD]
 by_cases h1 : j < o.length
 ·rw [List.take_append_of_le_length (by omega), List.getElem?_append_left h1, ← List.getD_eq_getElem?_getD]; exact hr j h1
 ·have : j = o.length := by simp at hj; omega
  subst this
  rw [List.take_append_of_le_length (Nat.le_refl _), List.take_length, List.getElem?_append_right (Nat.le_refl _)]
  simpa using hf
theorem orders_mem {x : List Int} : ∀ (m : Nat) (o : List Int), headO h o → respF f h.length o → o.length + m = h.length → x ∈ ordersF s h f m o →
  headO h x ∧ x.length = h.length ∧ runsB s h x = true ∧ respF f h.length x ∧ ∃ t, x = o ++ t
 | 0, o, ho, hr, hm, hx => by
  simp only [ordersF] at hx
  cases h1 : runsB s h o with
  | false => rw [h1] at hx; simp at hx
  | true => rw [h1] at hx; simp at hx; subst hx; exact ⟨ho, by omega, h1, hr, [], by simp⟩
 | m + 1, o, ho, hr, hm, hx => by
  simp only [ordersF, List.mem_flatMap, List.mem_range] at hx
  obtain ⟨i, hi, h1⟩ := hx
  cases h2 : freeB f h.length o i with
  | false => rw [h2] at h1; simp at h1
  | true =>
   rw [h2] at h1
   obtain ⟨a, b, c, d, t, e⟩ := orders_mem m (o ++ [((i : Nat) : Int)]) (headO_snoc ho hi (free_has h2) (by omega)) (resp_snoc hr h2) (by simp; omega) h1
   exact ⟨a, b, c, d, ((i : Nat) : Int) :: t, by rw [e]; simp⟩
theorem by_guard {x : List Int} (hx : x ∈ ordersBy s h f) : (isObject s && validHistory h) = true := by
 cases hg : (isObject s && validHistory h) with
 | true => rfl
 | false => rw [by_no hg] at hx; simp at hx
theorem by_mem {x : List Int} (hx : x ∈ ordersBy s h f) : headO h x ∧ x.length = h.length ∧ runsB s h x = true ∧ respF f h.length x := by
 have hg := by_guard hx
 unfold ordersBy at hx
 rw [hg] at hx
 obtain ⟨a, b, c, d, _⟩ := orders_mem h.length [] (headO_nil h) (fun k hk => by simp at hk) (by simp) hx
 exact ⟨a, b, c, d⟩
end
end Go.Ab

set_option linter.unusedSimpArgs false
set_option linter.unusedVariables false
namespace Go.Ab
def okL (s : ByteArray) : List Int → List CallD → Bool
 | _, [] => true
 | l, c :: cs => (specStep s l c).2 && okL s (specStep s l c).1 cs
def at0 (c : CallD) : Bool := decide (c.obj = 0)
def okP (s : ByteArray) : List Int → List Int → List CallD → Bool
 | _, _, [] => true
 | a, b, c :: cs => bif at0 c then (specStep s a c).2 && okP s (specStep s a c).1 b cs else (specStep s b c).2 && okP s a (specStep s b c).1 cs
theorem okP_split (s : ByteArray) : ∀ (cs : List CallD) (a b : List Int), okP s a b cs = (okL s a (cs.filter at0) && okL s b (cs.filter fun c => !at0 c))
 | [], _, _ => rfl
 | c :: cs, a, b => by
  unfold okP
  cases h : at0 c with
  | true => simp [h, List.filter_cons, okL, okP_split s cs, Bool.and_assoc]
  | false => simp [h, List.filter_cons, okL, okP_split s cs, Bool.and_assoc, Bool.and_left_comm]
theorem okP_cons (s : ByteArray) (a b : List Int) (c : CallD) (cs : List CallD) : okP s a b (c :: cs) = bif at0 c then (specStep s a c).2 && okP s (specStep s a c).1 b cs else (specStep s b c).2 && okP s a (specStep s b c).1 cs := rfl
theorem runs_okP {s : ByteArray} {h : List CallD} {o : List Int} (hz : ∀ i, i < o.length → (ordAt h o i).obj = 0 ∨ (ordAt h o i).obj = 1) : ∀ (m i : Nat), i + m = o.length →
  ((∀ j, i ≤ j → j < o.length → okAt s h o j = true) ↔ okP s ((sts s h o i).getD 0 []) ((sts s h o i).getD 1 []) ((o.drop i).map fun x => callAt h x.toNat) = true)
 | 0, i, hi => by
  rw [List.drop_eq_nil_of_le (by omega)]
  exact ⟨fun _ => rfl, fun _ j h1 h2 => by omega⟩
 | m + 1, i, hi => by
  have hlt : i < o.length := by omega
  have ih := runs_okP (s := s) (h := h) (o := o) hz m (i + 1) (by omega)
  have hsplit : (∀ j, i ≤ j → j < o.length → okAt s h o j = true) ↔ okAt s h o i = true ∧ (∀ j, i + 1 ≤ j → j < o.length → okAt s h o j = true) :=
   ⟨fun h1 => ⟨h1 i (by omega) hlt, fun j h2 h3 => h1 j (by omega) h3⟩, fun h1 j h2 h3 => by
    by_cases e : j = i
    ·subst e; exact h1.1
    ·exact h1.2 j (by omega) h3⟩
  rw [hsplit, ih, List.drop_eq_getElem_cons hlt, List.map_cons]
  have e : callAt h (o[i]).toNat = ordAt h o i := by unfold ordAt; rw [List.getD_eq_getElem?_getD, List.getElem?_eq_getElem hlt]; rfl
  rw [e]
  have hl := sts_len s h o i
  obtain ⟨a, b, hab⟩ : ∃ a b, sts s h o i = [a, b] := by
   match hx : sts s h o i, hl with
   | [a, b], _ => exact ⟨a, b, rfl⟩
  simp only [sts, okAt, hab]
  rw [okP_cons]
  rcases hz i hlt with h0 | h0
  ·have : at0 (ordAt h o i) = true := by unfold at0; rw [h0]; rfl
   rw [this, h0]; simp
  ·have : at0 (ordAt h o i) = false := by unfold at0; rw [h0]; rfl
   rw [this, h0]; simp
theorem runs_play {s : ByteArray} {h : List CallD} {o : List Int} (hz : ∀ i, i < o.length → (ordAt h o i).obj = 0 ∨ (ordAt h o i).obj = 1) : runsB s h o = okP s [] [] (o.map fun x => callAt h x.toNat) := by
 have := runs_okP (s := s) hz o.length 0 (by omega)
 rw [List.drop_zero] at this
 apply bool_ext
 unfold runsB
 rw [allN_iff]
 exact ⟨fun h1 => this.1 (fun j _ hj => h1 j hj), fun h1 j hj => this.2 h1 j (Nat.zero_le _) hj⟩
def apart (a b : CallD) : Prop := ¬ b.to < a.frm
theorem fil_none {l : List CallD} : l.filter (fun _ => false) = [] := List.filter_eq_nil_iff.2 (fun _ _ => by simp)
theorem merge_two : ∀ (n : Nat) (c0 c1 : List CallD), c0.length + c1.length = n → c0.Pairwise apart → c1.Pairwise apart → (∀ c ∈ c0, at0 c = true ∧ c.frm ≤ c.to) → (∀ c ∈ c1, at0 c = false ∧ c.frm ≤ c.to) →
  ∃ cs : List CallD, cs.Pairwise apart ∧ cs.filter at0 = c0 ∧ (cs.filter fun c => !at0 c) = c1 ∧ ∀ c ∈ cs, c ∈ c0 ∨ c ∈ c1
 | _, [], c1, _, _, p1, _, q1 => ⟨c1, p1, List.filter_eq_nil_iff.2 (fun c hc => by rw [(q1 c hc).1]; simp), List.filter_eq_self.2 (fun c hc => by rw [(q1 c hc).1]; rfl), fun c hc => Or.inr hc⟩
 | _, a :: c0, [], _, p0, _, q0, _ => ⟨a :: c0, p0, List.filter_eq_self.2 (fun c hc => (q0 c hc).1), List.filter_eq_nil_iff.2 (fun c hc => by rw [(q0 c hc).1]; simp), fun c hc => Or.inl hc⟩
 | 0, a :: c0, b :: c1, hn, _, _, _, _ => by simp at hn
 | n + 1, a :: c0, b :: c1, hn, p0, p1, q0, q1 => by
  rw [List.pairwise_cons] at p0 p1
  have ha := q0 a (by simp)
  have hb := q1 b (by simp)
  by_cases h0 : ∀ y ∈ b :: c1, apart a y
  ·obtain ⟨cs, x1, x2, x3, x4⟩ := merge_two n c0 (b :: c1) (by simp at hn ⊢; omega) p0.2 (List.pairwise_cons.2 p1) (fun c hc => q0 c (by simp [hc])) q1
   refine ⟨a :: cs, List.pairwise_cons.2 ⟨fun y hy => (x4 y hy).elim (fun h => p0.1 y h) (fun h => h0 y h), x1⟩, by rw [List.filter_cons, ha.1, x2]; rfl, by rw [List.filter_cons, ha.1]; exact x3, fun c hc => ?_⟩
   rcases List.mem_cons.1 hc with e | e
   ·subst e; exact Or.inl (by simp)
   ·exact (x4 c e).imp (fun h => by simp [h]) id
  ·by_cases h1 : ∀ y ∈ a :: c0, apart b y
   ·obtain ⟨cs, x1, x2, x3, x4⟩ := merge_two n (a :: c0) c1 (by simp at hn ⊢; omega) (List.pairwise_cons.2 p0) p1.2 q0 (fun c hc => q1 c (by simp [hc]))
    refine ⟨b :: cs, List.pairwise_cons.2 ⟨fun y hy => (x4 y hy).elim (fun h => h1 y h) (fun h => p1.1 y h), x1⟩, by rw [List.filter_cons, hb.1]; exact x2, by rw [List.filter_cons, hb.1]; simp [x3], fun c hc => ?_⟩
    rcases List.mem_cons.1 hc with e | e
    ·subst e; exact Or.inr (by simp)
    ·exact (x4 c e).imp id (fun h => by simp [h])
   ·exfalso
    simp only [Classical.not_forall] at h0 h1
    obtain ⟨y, hy, e0⟩ := h0
    obtain ⟨w, hw, e1⟩ := h1
    unfold apart at *
    have k0 : ¬ w.to < a.frm := by
     rcases List.mem_cons.1 hw with e | e
     ·subst e; have := ha.2; omega
     ·exact p0.1 w e
    have k1 : ¬ y.to < b.frm := by
     rcases List.mem_cons.1 hy with e | e
     ·subst e; have := hb.2; omega
     ·exact p1.1 y e
    omega
theorem valid_list {h : List CallD} : validHistory h = true ↔ h.length ≤ 6 ∧ (∀ c ∈ h, isCall c = true) ∧ h.Pairwise fun a b => clash b a = false := by
 rw [valid_iff]
 have e1 : (∀ i, i < h.length → isCall (callAt h i) = true) ↔ ∀ c ∈ h, isCall c = true := by
  unfold callAt
  constructor
  ·intro hh c hc
   obtain ⟨i, hi, rfl⟩ := List.mem_iff_getElem.1 hc
   have := hh i hi
   rwa [List.getD_eq_getElem?_getD, List.getElem?_eq_getElem hi] at this
  ·intro hh i hi; exact hh _ (getD_mem h default hi)
 have e2 : (∀ i k, i < h.length → k < i → clash (callAt h i) (callAt h k) = false) ↔ h.Pairwise fun a b => clash b a = false := by
  rw [List.pairwise_iff_getElem]
  unfold callAt
  constructor
  ·intro hh i j hi hj hij
   have := hh j i hj hij
   rwa [List.getD_eq_getElem?_getD, List.getElem?_eq_getElem hj, List.getD_eq_getElem?_getD, List.getElem?_eq_getElem hi] at this
  ·intro hh i k hi hk
   rw [List.getD_eq_getElem?_getD, List.getElem?_eq_getElem hi, List.getD_eq_getElem?_getD, List.getElem?_eq_getElem (show k < h.length by omega)]
   exact hh k i (by omega) hi hk
 rw [e1, e2]
theorem valid_sub {h g : List CallD} (hv : validHistory h = true) (hs : g.Sublist h) : validHistory g = true := by
 rw [valid_list] at *
 exact ⟨by have := hs.length_le; omega, fun c hc => hv.2.1 c (hs.subset hc), hv.2.2.sublist hs⟩
theorem valid_nodup {h : List CallD} (hv : validHistory h = true) : h.Nodup := by
 refine List.Pairwise.imp ?_ (valid_list.1 hv).2.2
 intro a b hab e
 subst e
 unfold clash at hab
 simp at hab
theorem frm_to {h : List CallD} (hv : validHistory h = true) : ∀ c ∈ h, c.frm < c.to := fun c hc => (isCall_iff.1 ((valid_list.1 hv).2.1 c hc)).2.2.2.2.2.2.2
theorem obj01 {h : List CallD} (hv : validHistory h = true) : ∀ c ∈ h, c.obj = 0 ∨ c.obj = 1 := fun c hc => by have := (isCall_iff.1 ((valid_list.1 hv).2.1 c hc)).2.1; omega
theorem callAt_idx {h : List CallD} {c : CallD} (hc : c ∈ h) : callAt h (h.idxOf c) = c := by
 have h1 := List.idxOf_lt_length_iff.2 hc
 unfold callAt
 rw [List.getD_eq_getElem?_getD, List.getElem?_eq_getElem h1, Option.getD_some, List.getElem_idxOf h1]
theorem idx_callAt {h : List CallD} (hd : h.Nodup) {i : Nat} (hi : i < h.length) : h.idxOf (callAt h i) = i := by
 unfold callAt
 rw [List.getD_eq_getElem?_getD, List.getElem?_eq_getElem hi, Option.getD_some]
 exact hd.idxOf_getElem i hi
theorem orders_in {s : ByteArray} {h : List CallD} {f : Nat → Nat → Bool} {x : List Int} (hi : inH h x) (hl : x.length = h.length) (hr : runsB s h x = true) (hp : respF f h.length x) :
  ∀ m k, k + m = h.length → x ∈ ordersF s h f m (x.take k)
 | 0, k, hk => by
  simp only [ordersF]
  rw [List.take_of_length_le (by omega), hr]; simp
 | m + 1, k, hk => by
  simp only [ordersF, List.mem_flatMap, List.mem_range]
  have h1 := hi k (by omega)
  refine ⟨(x.getD k 0).toNat, by omega, ?_⟩
  rw [hp k (by omega)]
  have h2 := orders_in hi hl hr hp m (k + 1) (by omega)
  rw [List.take_succ_eq_append_getElem (show k < x.length by omega)] at h2
  have e : (((x.getD k 0).toNat : Nat) : Int) = x[k] := by
   rw [show (((x.getD k 0).toNat : Nat) : Int) = x.getD k 0 by omega, List.getD_eq_getElem?_getD, List.getElem?_eq_getElem (show k < x.length by omega)]; rfl
  rw [cond_true, e]
  exact h2
theorem explains_seq {s : ByteArray} {h : List CallD} : explains s h (aheadF h) = true ↔ (isObject s = true ∧ validHistory h = true) ∧ ∃ cs : List CallD, cs.Perm h ∧ cs.Pairwise apart ∧ okP s [] [] cs = true := by
 rw [explains_iff]
 constructor
 ·rintro ⟨x, hx⟩
  have hg := by_guard hx
  rw [Bool.and_eq_true] at hg
  obtain ⟨a, b, c, d⟩ := by_mem hx
  refine ⟨hg, x.map fun v => callAt h v.toNat, ?_, ?_, ?_⟩
  ·have p1 : (x.map Int.toNat).Nodup := by
    unfold List.Nodup
    rw [List.pairwise_map]
    refine (List.pairwise_iff_getElem.2 (fun i j hi hj hij e => ?_))
    have n1 := (List.pairwise_iff_getElem.1 a.2.1) i j hi hj hij
    have k1 := a.1 i hi
    have k2 := a.1 j hj
    rw [List.getD_eq_getElem?_getD, List.getElem?_eq_getElem hi, Option.getD_some] at k1
    rw [List.getD_eq_getElem?_getD, List.getElem?_eq_getElem hj, Option.getD_some] at k2
    omega
   have sub : ∀ v ∈ x.map Int.toNat, v < h.length := by
    intro v hv
    obtain ⟨w, hw, rfl⟩ := List.mem_map.1 hv
    obtain ⟨i, hi, rfl⟩ := List.mem_iff_getElem.1 hw
    have k1 := a.1 i hi
    rw [List.getD_eq_getElem?_getD, List.getElem?_eq_getElem hi, Option.getD_some] at k1
    omega
   have p2 : (x.map Int.toNat).Perm (List.range h.length) := by
    rw [List.perm_ext_iff_of_nodup p1 List.nodup_range]
    intro v
    rw [List.mem_range]
    refine ⟨sub v, fun hv => ?_⟩
    apply Classical.byContradiction
    intro hn
    have := List.Nodup.length_le_of_subset (l₁ := v :: x.map Int.toNat) (l₂ := List.range h.length) (List.nodup_cons.2 ⟨hn, p1⟩) (fun w hw => by
     rw [List.mem_range]
     rcases List.mem_cons.1 hw with e | e
     ·rw [e]; exact hv
     ·exact sub w e)
    simp at this
    omega
   have p3 := p2.map (callAt h)
   rw [List.map_map] at p3
   refine (show (x.map fun v => callAt h v.toNat) = List.map (callAt h ∘ Int.toNat) x from rfl) ▸ p3.trans ?_
   have : (List.range h.length).map (callAt h) = h := by
    apply List.ext_getElem (by simp)
    intro i h1 h2
    simp [callAt, List.getD_eq_getElem?_getD, h2]
   rw [this]
  ·rw [List.pairwise_map]
   refine (List.pairwise_iff_getElem.2 (fun i j hi hj hij e => ?_))
   have k1 := d i hi
   have k2 := a.1 j hj
   unfold freeB at k1
   have k3 := allN_get (and_r k1) (x.getD j 0).toNat (by omega)
   rw [List.getD_eq_getElem?_getD, List.getElem?_eq_getElem hi, List.getD_eq_getElem?_getD, List.getElem?_eq_getElem hj] at k3
   rw [List.getD_eq_getElem?_getD, List.getElem?_eq_getElem hj] at k2
   simp only [Option.getD_some] at k3 k2
   have k4 : aheadF h x[i].toNat x[j].toNat = true := by unfold aheadF isBefore; exact decide_eq_true e
   rw [k4, show ((x[j].toNat : Nat) : Int) = x[j] by omega] at k3
   have k5 := hasInt_mem.1 (by simpa using k3 : hasInt (x.take i) x[j] = true)
   obtain ⟨p, hp, hpe⟩ := List.mem_iff_getElem.1 k5
   rw [List.length_take] at hp
   rw [List.getElem_take] at hpe
   exact (List.pairwise_iff_getElem.1 a.2.1) p j (by omega) hj (by omega) hpe
  ·rw [← runs_play]
   ·exact c
   ·intro i hi
    have k1 := a.1 i hi
    exact obj01 hg.2 _ (getD_mem h default (by omega))
 ·rintro ⟨⟨hs, hv⟩, cs, hp, hpw, hok⟩
  have hnd := valid_nodup hv
  have hnc : cs.Nodup := hp.symm.nodup hnd
  have hmem : ∀ c, c ∈ cs → c ∈ h := fun c hc => hp.mem_iff.1 hc
  refine ⟨cs.map fun c => ((h.idxOf c : Nat) : Int), ?_⟩
  have gx : ∀ i (hi : i < cs.length), (cs.map fun c => ((h.idxOf c : Nat) : Int)).getD i 0 = ((h.idxOf cs[i] : Nat) : Int) := by
   intro i hi
   rw [List.getD_eq_getElem?_getD, List.getElem?_map, List.getElem?_eq_getElem hi]; rfl
  have hin : inH h (cs.map fun c => ((h.idxOf c : Nat) : Int)) := by
   intro i hi
   rw [List.length_map] at hi
   rw [gx i hi]
   have := List.idxOf_lt_length_iff.2 (hmem _ (List.getElem_mem hi))
   omega
  have hlen : (cs.map fun c => ((h.idxOf c : Nat) : Int)).length = h.length := by rw [List.length_map, hp.length_eq]
  have hcl : (cs.map fun c => ((h.idxOf c : Nat) : Int)).map (fun v => callAt h v.toNat) = cs := by
   rw [List.map_map]
   conv => rhs; rw [← List.map_id cs]
   apply List.map_congr_left
   intro c hc
   simp only [Function.comp, Int.toNat_natCast, id]
   exact callAt_idx (hmem c hc)
  have hrun : runsB s h (cs.map fun c => ((h.idxOf c : Nat) : Int)) = true := by
   rw [runs_play, hcl]
   ·exact hok
   ·intro i hi
    have k1 := hin i hi
    exact obj01 hv _ (getD_mem h default (by omega))
  have hresp : respF (aheadF h) h.length (cs.map fun c => ((h.idxOf c : Nat) : Int)) := by
   intro k hk
   rw [List.length_map] at hk
   rw [gx k hk, Int.toNat_natCast]
   unfold freeB
   refine and_t ?_ (allN_true (fun j hj => ?_))
   ·cases hh : hasInt (List.take k (cs.map fun c => ((h.idxOf c : Nat) : Int))) ((h.idxOf cs[k] : Nat) : Int) with
    | false => rfl
    | true =>
     exfalso
     have k5 := hasInt_mem.1 hh
     obtain ⟨p, hp1, hpe⟩ := List.mem_iff_getElem.1 k5
     rw [List.length_take, List.length_map] at hp1
     rw [List.getElem_take, List.getElem_map] at hpe
     have e1 : h.idxOf cs[p] = h.idxOf cs[k] := by omega
     have e2 := callAt_idx (hmem _ (List.getElem_mem (show p < cs.length by omega)))
     have e3 := callAt_idx (hmem _ (List.getElem_mem hk))
     rw [e1, e3] at e2
     exact (List.pairwise_iff_getElem.1 hnc) p k (by omega) hk (by omega) e2.symm
   ·cases ha : aheadF h (h.idxOf cs[k]) j with
    | false => rfl
    | true =>
     unfold aheadF isBefore at ha
     have ha := of_decide_eq_true ha
     rw [callAt_idx (hmem _ (List.getElem_mem hk))] at ha
     have hjm : callAt h j ∈ cs := hp.mem_iff.2 (getD_mem h default hj)
     obtain ⟨p, hp1, hpe⟩ := List.mem_iff_getElem.1 hjm
     have hlt : p < k := by
      apply Classical.byContradiction
      intro hn
      by_cases hpk : p = k
      ·subst hpk
       have := frm_to hv _ (hmem _ (List.getElem_mem hk))
       rw [← hpe] at ha
       omega
      ·have := (List.pairwise_iff_getElem.1 hpw) k p hk hp1 (by omega)
       unfold apart at this
       rw [hpe] at this
       exact this ha
     have : hasInt (List.take k (cs.map fun c => ((h.idxOf c : Nat) : Int))) ((j : Nat) : Int) = true := by
      apply hasInt_mem.2
      refine List.mem_iff_getElem.2 ⟨p, by rw [List.length_take, List.length_map]; omega, ?_⟩
      rw [List.getElem_take, List.getElem_map, hpe, idx_callAt hnd hj]
     rw [this]; rfl
  unfold ordersBy
  rw [hs, hv]
  have := orders_in hin hlen hrun hresp h.length 0 (by omega)
  rwa [List.take_zero] at this
def partOf (h : List CallD) (z : Int) : List CallD := bif validHistory h then h.filter (fun c => decide (c.obj = z)) else []
theorem part_zero {h : List CallD} (hv : validHistory h = true) : partOf h 0 = h.filter at0 := by unfold partOf; rw [hv]; rfl
theorem part_one {h : List CallD} (hv : validHistory h = true) : partOf h 1 = h.filter fun c => !at0 c := by
 unfold partOf
 rw [hv, cond_true]
 apply List.filter_congr
 intro c hc
 unfold at0
 rcases obj01 hv c hc with e | e <;> rw [e] <;> rfl
theorem part_explains {s : ByteArray} {h : List CallD} {z : Int} (hv : validHistory (partOf h z) = true) (hs : isObject s = true) {cs : List CallD} (hp : cs.Perm (partOf h z)) (hw : cs.Pairwise apart) (hk : okP s [] [] cs = true) : explains s (partOf h z) (aheadF (partOf h z)) = true :=
 explains_seq.2 ⟨⟨hs, hv⟩, cs, hp, hw, hk⟩
theorem locality {s : ByteArray} {h : List CallD} (hv : validHistory h = true) : explains s h (aheadF h) = (explains s (partOf h 0) (aheadF (partOf h 0)) && explains s (partOf h 1) (aheadF (partOf h 1))) := by
 have v0 : validHistory (partOf h 0) = true := by rw [part_zero hv]; exact valid_sub hv List.filter_sublist
 have v1 : validHistory (partOf h 1) = true := by rw [part_one hv]; exact valid_sub hv List.filter_sublist
 apply bool_ext
 rw [Bool.and_eq_true]
 constructor
 ·intro hh
  obtain ⟨⟨hs, _⟩, cs, hp, hw, hk⟩ := explains_seq.1 hh
  rw [okP_split, Bool.and_eq_true] at hk
  refine ⟨part_explains v0 hs (cs := cs.filter at0) (by rw [part_zero hv]; exact hp.filter _) (hw.sublist List.filter_sublist) ?_, part_explains v1 hs (cs := cs.filter fun c => !at0 c) (by rw [part_one hv]; exact hp.filter _) (hw.sublist List.filter_sublist) ?_⟩
  ·rw [okP_split, List.filter_filter, List.filter_filter]
   simp [hk.1, okL, fil_none]
  ·rw [okP_split, List.filter_filter, List.filter_filter]
   simp [hk.2, okL, fil_none]
 ·rintro ⟨h0, h1⟩
  obtain ⟨⟨hs, _⟩, c0, p0, w0, k0⟩ := explains_seq.1 h0
  obtain ⟨⟨_, _⟩, c1, p1, w1, k1⟩ := explains_seq.1 h1
  rw [part_zero hv] at p0
  rw [part_one hv] at p1
  have m0 : ∀ c ∈ c0, c ∈ h ∧ at0 c = true := fun c hc => List.mem_filter.1 (p0.mem_iff.1 hc)
  have m1 : ∀ c ∈ c1, c ∈ h ∧ at0 c = false := fun c hc => by have := List.mem_filter.1 (p1.mem_iff.1 hc); simpa using this
  obtain ⟨cs, x1, x2, x3, x4⟩ := merge_two _ c0 c1 rfl w0 w1 (fun c hc => ⟨(m0 c hc).2, by have := frm_to hv c (m0 c hc).1; omega⟩) (fun c hc => ⟨(m1 c hc).2, by have := frm_to hv c (m1 c hc).1; omega⟩)
  refine explains_seq.2 ⟨⟨hs, hv⟩, cs, ?_, x1, ?_⟩
  ·refine (List.filter_append_perm at0 cs).symm.trans ?_
   rw [x2, x3]
   exact (p0.append p1).trans (List.filter_append_perm at0 h)
  ·rw [okP_split, x2, x3, Bool.and_eq_true]
   rw [okP_split] at k0 k1
   have f0 : c0.filter at0 = c0 := List.filter_eq_self.2 (fun c hc => (m0 c hc).2)
   have f1 : (c1.filter fun c => !at0 c) = c1 := List.filter_eq_self.2 (fun c hc => by rw [(m1 c hc).2]; rfl)
   rw [f0] at k0
   rw [f1] at k1
   exact ⟨and_l k0, and_r k1⟩
end Go.Ab
namespace Go.Ab
def partUp (h : List CallD) (z : Int) (i : Nat) : List CallD := (h.take i).filter fun c => decide (c.obj = z)
theorem partUp_len (h : List CallD) (z : Int) (i : Nat) : (partUp h z i).length ≤ i := by
 unfold partUp
 refine Nat.le_trans (List.length_filter_le _ _) ?_
 rw [List.length_take]; omega
theorem partUp_succ {h : List CallD} {z : Int} {i : Nat} (hi : i < h.length) : partUp h z (i + 1) = partUp h z i ++ (if (h.getD i default).obj = z then [h.getD i default] else []) := by
 unfold partUp
 rw [List.take_succ_eq_append_getElem hi, List.filter_append, List.getD_eq_getElem?_getD, List.getElem?_eq_getElem hi, Option.getD_some, List.filter_cons, List.filter_nil]
 simp
theorem partUp_yes {h : List CallD} {z : Int} {i : Nat} (hi : i < h.length) (e : (h.getD i default).obj = z) : partUp h z i ++ [h.getD i default] = partUp h z (i + 1) := by rw [partUp_succ hi, if_pos e]
theorem partUp_no {h : List CallD} {z : Int} {i : Nat} (hi : i < h.length) (e : ¬ (h.getD i default).obj = z) : partUp h z i = partUp h z (i + 1) := by rw [partUp_succ hi, if_neg e, List.append_nil]
theorem partUp_all {h : List CallD} {z : Int} {i : Nat} (hv : validHistory h = true) (hi : h.length ≤ i) : partUp h z i = partOf h z := by
 unfold partUp partOf; rw [hv, List.take_of_length_le hi]; rfl
theorem linear_law {s : ByteArray} {h : List CallD} (hv : validHistory h = true ∨ isObject s = false ∨ True) (hg : (decide (((ordersBy s h (aheadF h)).length : Int) = 0) && !validHistory h) = false) :
  (((explains s h (aheadF h) == (explains s (partOf h 0) (aheadF (partOf h 0)) && explains s (partOf h 1) (aheadF (partOf h 1)))) && (explains s h (aheadF h) == decide (0 < ((ordersBy s h (aheadF h)).length : Int)))) && (!explains s h (aheadF h) || (explains s h (ownF h) && explains s h (quietF h)))) = true := by
 have hv : validHistory h = true := by
  cases hx : validHistory h with
  | true => rfl
  | false =>
   have : ordersBy s h (aheadF h) = [] := by_no (by rw [hx]; simp)
   rw [this, hx] at hg
   simp at hg
 refine and_t (and_t ?_ ?_) ?_
 ·rw [← locality hv]; simp
 ·unfold explains; simp
 ·cases hl : explains s h (aheadF h) with
  | false => rfl
  | true => rw [own_law hl, quiet_law2 hl]; rfl
end Go.Ab

set_option linter.unusedSimpArgs false
set_option linter.unusedVariables false
namespace Go.Proofs.Try
open Go.Ab Go.RowKit
def fs69 : FnS := fnS [.o] [.str] (fun _ (s,_) => (.b (isSingle s),[],True))
abbrev T69 : Tab := lk []
theorem tab69 : TabOK prog T69 := TabOK.nil
set_option maxRecDepth 100000 in
set_option maxHeartbeats 1000000 in
theorem ok69 : FnOK prog 69 fs69 := by
 refine FnOK.mk cok func69 rfl rfl rfl ?_
 rintro fl ⟨(s : ByteArray),_⟩ hpre F hnt0 _
 have hnt : F.nt = 13 := hnt0.trans ntmps69
 clear hpre
 refine W.to (⟨[(0,.v (.string s))],[],[999]⟩) rfl ?_
 refine W.K cok tab69 hnt [] [0] (⟨[(0,.v (.string s))],[],[999]⟩)
  (True ∧ True) (by kernel_rfl)
  ⟨tt,tt⟩ ?_
 refine W.K cok tab69 hnt [] [2] (⟨[(2,.b (((eqS s nRegister) || (eqS s nCounter)) || (eqS s nMost)))],[],[999]⟩)
  (True ∧ (True ∧ True ∧ True) ∧ True ∧ ((!(eqS s nRegister)) = true → True) ∧ ((!(eqS s nRegister)) = true → ((((!(eqS s nRegister)) = true) ∧ True) ∧ True ∧ True)) ∧ (True ∧ ((eqS s nRegister) = true → True) ∧ ((eqS s nRegister) = false → ((!(eqS s nRegister)) = true) ∧ True)) ∧ True ∧ ((!((eqS s nRegister) || (eqS s nCounter))) = true → True) ∧ ((!((eqS s nRegister) || (eqS s nCounter))) = true → ((((!((eqS s nRegister) || (eqS s nCounter))) = true) ∧ True) ∧ True ∧ True)) ∧ (True ∧ (((eqS s nRegister) || (eqS s nCounter)) = true → True) ∧ (((eqS s nRegister) || (eqS s nCounter)) = false → ((!((eqS s nRegister) || (eqS s nCounter))) = true) ∧ True)) ∧ True ∧ True) (by kernel_rfl)
  ⟨tt,⟨tt,tt,tt⟩,tt,(fun _ => trivial),(fun hG => ⟨⟨hG,tt⟩,tt,tt⟩),⟨tt,(fun _ => trivial),(fun hp => ⟨(not_t hp),tt⟩)⟩,tt,(fun _ => trivial),(fun hG => ⟨⟨hG,tt⟩,tt,tt⟩),⟨tt,(fun _ => trivial),(fun hp => ⟨(not_t hp),tt⟩)⟩,tt,tt⟩ ?_
 refine W.ret ?_
 exact endQ_ret (.b (((eqS s nRegister) || (eqS s nCounter)) || (eqS s nMost))) (by kernel_rfl) (@cast ((.bool (((eqS s nRegister) || (eqS s nCounter)) || (eqS s nMost)) : Value) = .bool (isSingle s)) _ (by kernel_rfl) (congrArg Value.bool (by first | rfl | simp_all)))
theorem ent69 : Entr prog 69 := ⟨_,func69,rfl,by decide⟩
end Go.Proofs.Try

set_option linter.unusedSimpArgs false
set_option linter.unusedVariables false
namespace Go.Proofs.Try
open Go.Ab Go.RowKit
def fs39 : FnS := fnS [.o] [.str] (fun _ (s,_) => (.b (isObject s),[],True))
abbrev T39 : Tab := lk [(69,fs69)]
theorem tab39 : TabOK prog T39 := (TabOK.cons ok69 ent69 TabOK.nil)
set_option maxRecDepth 100000 in
set_option maxHeartbeats 1000000 in
theorem ok39 : FnOK prog 39 fs39 := by
 refine FnOK.mk cok func39 rfl rfl rfl ?_
 rintro fl ⟨(s : ByteArray),_⟩ hpre F hnt0 _
 have hnt : F.nt = 17 := hnt0.trans ntmps39
 clear hpre
 refine W.to (⟨[(0,.v (.string s))],[],[999]⟩) rfl ?_
 refine W.K cok tab39 hnt [] [0] (⟨[(0,.v (.string s))],[],[999]⟩)
  (True ∧ True) (by kernel_rfl)
  ⟨tt,tt⟩ ?_
 refine W.K cok tab39 hnt [] [2] (⟨[(2,.b ((((isSingle s) || (eqS s nQueue)) || (eqS s nStack)) || (eqS s nSet)))],[],[999]⟩)
  (True ∧ (True ∧ (True ∧ True) ∧ True) ∧ True ∧ ((!(isSingle s)) = true → True) ∧ ((!(isSingle s)) = true → ((((!(isSingle s)) = true) ∧ True) ∧ True ∧ True)) ∧ (True ∧ ((isSingle s) = true → True) ∧ ((isSingle s) = false → ((!(isSingle s)) = true) ∧ True)) ∧ True ∧ ((!((isSingle s) || (eqS s nQueue))) = true → True) ∧ ((!((isSingle s) || (eqS s nQueue))) = true → ((((!((isSingle s) || (eqS s nQueue))) = true) ∧ True) ∧ True ∧ True)) ∧ (True ∧ (((isSingle s) || (eqS s nQueue)) = true → True) ∧ (((isSingle s) || (eqS s nQueue)) = false → ((!((isSingle s) || (eqS s nQueue))) = true) ∧ True)) ∧ True ∧ ((!(((isSingle s) || (eqS s nQueue)) || (eqS s nStack))) = true → True) ∧ ((!(((isSingle s) || (eqS s nQueue)) || (eqS s nStack))) = true → ((((!(((isSingle s) || (eqS s nQueue)) || (eqS s nStack))) = true) ∧ True) ∧ True ∧ True)) ∧ (True ∧ ((((isSingle s) || (eqS s nQueue)) || (eqS s nStack)) = true → True) ∧ ((((isSingle s) || (eqS s nQueue)) || (eqS s nStack)) = false → ((!(((isSingle s) || (eqS s nQueue)) || (eqS s nStack))) = true) ∧ True)) ∧ True ∧ True) (by kernel_rfl)
  ⟨tt,⟨tt,⟨tt,tt⟩,tt⟩,tt,(fun _ => trivial),(fun hG => ⟨⟨hG,tt⟩,tt,tt⟩),⟨tt,(fun _ => trivial),(fun hp => ⟨(not_t hp),tt⟩)⟩,tt,(fun _ => trivial),(fun hG => ⟨⟨hG,tt⟩,tt,tt⟩),⟨tt,(fun _ => trivial),(fun hp => ⟨(not_t hp),tt⟩)⟩,tt,(fun _ => trivial),(fun hG => ⟨⟨hG,tt⟩,tt,tt⟩),⟨tt,(fun _ => trivial),(fun hp => ⟨(not_t hp),tt⟩)⟩,tt,tt⟩ ?_
 refine W.ret ?_
 exact endQ_ret (.b ((((isSingle s) || (eqS s nQueue)) || (eqS s nStack)) || (eqS s nSet))) (by kernel_rfl) (@cast ((.bool ((((isSingle s) || (eqS s nQueue)) || (eqS s nStack)) || (eqS s nSet)) : Value) = .bool (isObject s)) _ (by kernel_rfl) (congrArg Value.bool (by exact single_obj s)))
theorem ent39 : Entr prog 39 := ⟨_,func39,rfl,by decide⟩
end Go.Proofs.Try

set_option linter.unusedSimpArgs false
set_option linter.unusedVariables false
namespace Go.Proofs.Try
open Go.Ab Go.RowKit
def fs48 : FnS := fnS [.o,.o,.o] [.int,.int,.int] (fun _ (n,low,high,_) => (.b (within n low high),[],True))
abbrev T48 : Tab := lk []
theorem tab48 : TabOK prog T48 := TabOK.nil
set_option maxRecDepth 100000 in
set_option maxHeartbeats 1000000 in
theorem ok48 : FnOK prog 48 fs48 := by
 refine FnOK.mk cok func48 rfl rfl rfl ?_
 rintro fl ⟨(n : Int),(low : Int),(high : Int),_⟩ hpre F hnt0 _
 have hnt : F.nt = 15 := hnt0.trans ntmps48
 clear hpre
 refine W.to (⟨[(0,.i n),(1,.i low),(2,.i high)],[],[999]⟩) rfl ?_
 refine W.K cok tab48 hnt [] [0,1,2] (⟨[(0,.i n),(1,.i low),(2,.i high)],[],[999]⟩)
  (True ∧ True) (by kernel_rfl)
  ⟨tt,tt⟩ ?_
 refine W.K cok tab48 hnt [] [6] (⟨[(6,.b ((decide (low ≤ n)) && (decide (n ≤ high))))],[],[999]⟩)
  (True ∧ True ∧ (True ∧ True ∧ True) ∧ True ∧ ((decide (low ≤ n)) = true → True) ∧ ((decide (low ≤ n)) = true → True) ∧ ((decide (low ≤ n)) = true → ((((decide (low ≤ n)) = true) ∧ True) ∧ (((decide (low ≤ n)) = true) ∧ True) ∧ True)) ∧ (True ∧ ((decide (low ≤ n)) = true → ((decide (low ≤ n)) = true) ∧ True) ∧ ((decide (low ≤ n)) = false → True)) ∧ True ∧ True) (by kernel_rfl)
  ⟨tt,tt,⟨tt,tt,tt⟩,tt,(fun _ => trivial),(fun _ => trivial),(fun hG => ⟨⟨hG,tt⟩,⟨hG,tt⟩,tt⟩),⟨tt,(fun hp => ⟨hp,tt⟩),(fun _ => trivial)⟩,tt,tt⟩ ?_
 refine W.ret ?_
 exact endQ_ret (.b ((decide (low ≤ n)) && (decide (n ≤ high)))) (by kernel_rfl) (@cast ((.bool ((decide (low ≤ n)) && (decide (n ≤ high))) : Value) = .bool (within n low high)) _ (by kernel_rfl) (congrArg Value.bool (by first | rfl | simp_all)))
theorem ent48 : Entr prog 48 := ⟨_,func48,rfl,by decide⟩
end Go.Proofs.Try

set_option linter.unusedSimpArgs false
set_option linter.unusedVariables false
namespace Go.Proofs.Try
open Go.Ab Go.RowKit
def fs46 : FnS := fnS [.o] [.call] (fun _ (c,_) => (.b (isCall c),[],True))
abbrev T46 : Tab := lk [(48,fs48)]
theorem tab46 : TabOK prog T46 := (TabOK.cons ok48 ent48 TabOK.nil)
set_option maxRecDepth 100000 in
set_option maxHeartbeats 1000000 in
theorem ok46 : FnOK prog 46 fs46 := by
 refine FnOK.mk cok func46 rfl rfl rfl ?_
 rintro fl ⟨(c : CallD),_⟩ hpre F hnt0 _
 have hnt : F.nt = 43 := hnt0.trans ntmps46
 clear hpre
 refine W.to (⟨[(0,.agg [.i c.proc,.i c.obj,.i c.kind,.i c.arg,.i c.ret,.i c.frm,.i c.to])],[],[999]⟩) rfl ?_
 refine W.K cok tab46 hnt [] [1] (⟨[(1,.ptr 1 0)],[(1,⟨36,.fix [.i c.proc,.i c.obj,.i c.kind,.i c.arg,.i c.ret,.i c.frm,.i c.to]⟩)],[1,999]⟩)
  (True ∧ True ∧ True) (by kernel_rfl)
  ⟨tt,tt,tt⟩ ?_
 refine W.K cok tab46 hnt [] [2] (⟨[(2,.b ((((((((within c.proc (0 : Int) (2 : Int)) && (within c.obj (0 : Int) (1 : Int))) && (within c.kind (0 : Int) (2 : Int))) && (within c.arg (0 : Int) (3 : Int))) && (within c.ret (-1 : Int) (20 : Int))) && (within c.frm (0 : Int) (30 : Int))) && (within c.to (0 : Int) (30 : Int))) && (decide (c.frm < c.to))))],[(1,⟨36,.fix [.i c.proc,.i c.obj,.i c.kind,.i c.arg,.i c.ret,.i c.frm,.i c.to]⟩)],[1,999]⟩)
  (True ∧ True ∧ (True ∧ (True ∧ True ∧ True ∧ True) ∧ True) ∧ True ∧ ((within c.proc (0 : Int) (2 : Int)) = true → True) ∧ ((within c.proc (0 : Int) (2 : Int)) = true → (((within c.proc (0 : Int) (2 : Int)) = true) ∧ True)) ∧ ((within c.proc (0 : Int) (2 : Int)) = true → (True ∧ ((((within c.proc (0 : Int) (2 : Int)) = true) ∧ True) ∧ True ∧ True ∧ True) ∧ True)) ∧ (True ∧ ((within c.proc (0 : Int) (2 : Int)) = true → ((within c.proc (0 : Int) (2 : Int)) = true) ∧ True) ∧ ((within c.proc (0 : Int) (2 : Int)) = false → True)) ∧ True ∧ (((within c.proc (0 : Int) (2 : Int)) && (within c.obj (0 : Int) (1 : Int))) = true → True) ∧ (((within c.proc (0 : Int) (2 : Int)) && (within c.obj (0 : Int) (1 : Int))) = true → ((((within c.proc (0 : Int) (2 : Int)) && (within c.obj (0 : Int) (1 : Int))) = true) ∧ True)) ∧ (((within c.proc (0 : Int) (2 : Int)) && (within c.obj (0 : Int) (1 : Int))) = true → (True ∧ (((((within c.proc (0 : Int) (2 : Int)) && (within c.obj (0 : Int) (1 : Int))) = true) ∧ True) ∧ True ∧ True ∧ True) ∧ True)) ∧ (True ∧ (((within c.proc (0 : Int) (2 : Int)) && (within c.obj (0 : Int) (1 : Int))) = true → (((within c.proc (0 : Int) (2 : Int)) && (within c.obj (0 : Int) (1 : Int))) = true) ∧ True) ∧ (((within c.proc (0 : Int) (2 : Int)) && (within c.obj (0 : Int) (1 : Int))) = false → True)) ∧ True ∧ ((((within c.proc (0 : Int) (2 : Int)) && (within c.obj (0 : Int) (1 : Int))) && (within c.kind (0 : Int) (2 : Int))) = true → True) ∧ ((((within c.proc (0 : Int) (2 : Int)) && (within c.obj (0 : Int) (1 : Int))) && (within c.kind (0 : Int) (2 : Int))) = true → (((((within c.proc (0 : Int) (2 : Int)) && (within c.obj (0 : Int) (1 : Int))) && (within c.kind (0 : Int) (2 : Int))) = true) ∧ True)) ∧ ((((within c.proc (0 : Int) (2 : Int)) && (within c.obj (0 : Int) (1 : Int))) && (within c.kind (0 : Int) (2 : Int))) = true → (True ∧ ((((((within c.proc (0 : Int) (2 : Int)) && (within c.obj (0 : Int) (1 : Int))) && (within c.kind (0 : Int) (2 : Int))) = true) ∧ True) ∧ True ∧ True ∧ True) ∧ True)) ∧ (True ∧ ((((within c.proc (0 : Int) (2 : Int)) && (within c.obj (0 : Int) (1 : Int))) && (within c.kind (0 : Int) (2 : Int))) = true → ((((within c.proc (0 : Int) (2 : Int)) && (within c.obj (0 : Int) (1 : Int))) && (within c.kind (0 : Int) (2 : Int))) = true) ∧ True) ∧ ((((within c.proc (0 : Int) (2 : Int)) && (within c.obj (0 : Int) (1 : Int))) && (within c.kind (0 : Int) (2 : Int))) = false → True)) ∧ True ∧ (((((within c.proc (0 : Int) (2 : Int)) && (within c.obj (0 : Int) (1 : Int))) && (within c.kind (0 : Int) (2 : Int))) && (within c.arg (0 : Int) (3 : Int))) = true → True) ∧ (((((within c.proc (0 : Int) (2 : Int)) && (within c.obj (0 : Int) (1 : Int))) && (within c.kind (0 : Int) (2 : Int))) && (within c.arg (0 : Int) (3 : Int))) = true → ((((((within c.proc (0 : Int) (2 : Int)) && (within c.obj (0 : Int) (1 : Int))) && (within c.kind (0 : Int) (2 : Int))) && (within c.arg (0 : Int) (3 : Int))) = true) ∧ True)) ∧ (((((within c.proc (0 : Int) (2 : Int)) && (within c.obj (0 : Int) (1 : Int))) && (within c.kind (0 : Int) (2 : Int))) && (within c.arg (0 : Int) (3 : Int))) = true → (True ∧ (((((((within c.proc (0 : Int) (2 : Int)) && (within c.obj (0 : Int) (1 : Int))) && (within c.kind (0 : Int) (2 : Int))) && (within c.arg (0 : Int) (3 : Int))) = true) ∧ True) ∧ True ∧ True ∧ True) ∧ True)) ∧ (True ∧ (((((within c.proc (0 : Int) (2 : Int)) && (within c.obj (0 : Int) (1 : Int))) && (within c.kind (0 : Int) (2 : Int))) && (within c.arg (0 : Int) (3 : Int))) = true → (((((within c.proc (0 : Int) (2 : Int)) && (within c.obj (0 : Int) (1 : Int))) && (within c.kind (0 : Int) (2 : Int))) && (within c.arg (0 : Int) (3 : Int))) = true) ∧ True) ∧ (((((within c.proc (0 : Int) (2 : Int)) && (within c.obj (0 : Int) (1 : Int))) && (within c.kind (0 : Int) (2 : Int))) && (within c.arg (0 : Int) (3 : Int))) = false → True)) ∧ True ∧ ((((((within c.proc (0 : Int) (2 : Int)) && (within c.obj (0 : Int) (1 : Int))) && (within c.kind (0 : Int) (2 : Int))) && (within c.arg (0 : Int) (3 : Int))) && (within c.ret (-1 : Int) (20 : Int))) = true → True) ∧ ((((((within c.proc (0 : Int) (2 : Int)) && (within c.obj (0 : Int) (1 : Int))) && (within c.kind (0 : Int) (2 : Int))) && (within c.arg (0 : Int) (3 : Int))) && (within c.ret (-1 : Int) (20 : Int))) = true → (((((((within c.proc (0 : Int) (2 : Int)) && (within c.obj (0 : Int) (1 : Int))) && (within c.kind (0 : Int) (2 : Int))) && (within c.arg (0 : Int) (3 : Int))) && (within c.ret (-1 : Int) (20 : Int))) = true) ∧ True)) ∧ ((((((within c.proc (0 : Int) (2 : Int)) && (within c.obj (0 : Int) (1 : Int))) && (within c.kind (0 : Int) (2 : Int))) && (within c.arg (0 : Int) (3 : Int))) && (within c.ret (-1 : Int) (20 : Int))) = true → (True ∧ ((((((((within c.proc (0 : Int) (2 : Int)) && (within c.obj (0 : Int) (1 : Int))) && (within c.kind (0 : Int) (2 : Int))) && (within c.arg (0 : Int) (3 : Int))) && (within c.ret (-1 : Int) (20 : Int))) = true) ∧ True) ∧ True ∧ True ∧ True) ∧ True)) ∧ (True ∧ ((((((within c.proc (0 : Int) (2 : Int)) && (within c.obj (0 : Int) (1 : Int))) && (within c.kind (0 : Int) (2 : Int))) && (within c.arg (0 : Int) (3 : Int))) && (within c.ret (-1 : Int) (20 : Int))) = true → ((((((within c.proc (0 : Int) (2 : Int)) && (within c.obj (0 : Int) (1 : Int))) && (within c.kind (0 : Int) (2 : Int))) && (within c.arg (0 : Int) (3 : Int))) && (within c.ret (-1 : Int) (20 : Int))) = true) ∧ True) ∧ ((((((within c.proc (0 : Int) (2 : Int)) && (within c.obj (0 : Int) (1 : Int))) && (within c.kind (0 : Int) (2 : Int))) && (within c.arg (0 : Int) (3 : Int))) && (within c.ret (-1 : Int) (20 : Int))) = false → True)) ∧ True ∧ (((((((within c.proc (0 : Int) (2 : Int)) && (within c.obj (0 : Int) (1 : Int))) && (within c.kind (0 : Int) (2 : Int))) && (within c.arg (0 : Int) (3 : Int))) && (within c.ret (-1 : Int) (20 : Int))) && (within c.frm (0 : Int) (30 : Int))) = true → True) ∧ (((((((within c.proc (0 : Int) (2 : Int)) && (within c.obj (0 : Int) (1 : Int))) && (within c.kind (0 : Int) (2 : Int))) && (within c.arg (0 : Int) (3 : Int))) && (within c.ret (-1 : Int) (20 : Int))) && (within c.frm (0 : Int) (30 : Int))) = true → ((((((((within c.proc (0 : Int) (2 : Int)) && (within c.obj (0 : Int) (1 : Int))) && (within c.kind (0 : Int) (2 : Int))) && (within c.arg (0 : Int) (3 : Int))) && (within c.ret (-1 : Int) (20 : Int))) && (within c.frm (0 : Int) (30 : Int))) = true) ∧ True)) ∧ (((((((within c.proc (0 : Int) (2 : Int)) && (within c.obj (0 : Int) (1 : Int))) && (within c.kind (0 : Int) (2 : Int))) && (within c.arg (0 : Int) (3 : Int))) && (within c.ret (-1 : Int) (20 : Int))) && (within c.frm (0 : Int) (30 : Int))) = true → (True ∧ (((((((((within c.proc (0 : Int) (2 : Int)) && (within c.obj (0 : Int) (1 : Int))) && (within c.kind (0 : Int) (2 : Int))) && (within c.arg (0 : Int) (3 : Int))) && (within c.ret (-1 : Int) (20 : Int))) && (within c.frm (0 : Int) (30 : Int))) = true) ∧ True) ∧ True ∧ True ∧ True) ∧ True)) ∧ (True ∧ (((((((within c.proc (0 : Int) (2 : Int)) && (within c.obj (0 : Int) (1 : Int))) && (within c.kind (0 : Int) (2 : Int))) && (within c.arg (0 : Int) (3 : Int))) && (within c.ret (-1 : Int) (20 : Int))) && (within c.frm (0 : Int) (30 : Int))) = true → (((((((within c.proc (0 : Int) (2 : Int)) && (within c.obj (0 : Int) (1 : Int))) && (within c.kind (0 : Int) (2 : Int))) && (within c.arg (0 : Int) (3 : Int))) && (within c.ret (-1 : Int) (20 : Int))) && (within c.frm (0 : Int) (30 : Int))) = true) ∧ True) ∧ (((((((within c.proc (0 : Int) (2 : Int)) && (within c.obj (0 : Int) (1 : Int))) && (within c.kind (0 : Int) (2 : Int))) && (within c.arg (0 : Int) (3 : Int))) && (within c.ret (-1 : Int) (20 : Int))) && (within c.frm (0 : Int) (30 : Int))) = false → True)) ∧ True ∧ ((((((((within c.proc (0 : Int) (2 : Int)) && (within c.obj (0 : Int) (1 : Int))) && (within c.kind (0 : Int) (2 : Int))) && (within c.arg (0 : Int) (3 : Int))) && (within c.ret (-1 : Int) (20 : Int))) && (within c.frm (0 : Int) (30 : Int))) && (within c.to (0 : Int) (30 : Int))) = true → True) ∧ ((((((((within c.proc (0 : Int) (2 : Int)) && (within c.obj (0 : Int) (1 : Int))) && (within c.kind (0 : Int) (2 : Int))) && (within c.arg (0 : Int) (3 : Int))) && (within c.ret (-1 : Int) (20 : Int))) && (within c.frm (0 : Int) (30 : Int))) && (within c.to (0 : Int) (30 : Int))) = true → (((((((((within c.proc (0 : Int) (2 : Int)) && (within c.obj (0 : Int) (1 : Int))) && (within c.kind (0 : Int) (2 : Int))) && (within c.arg (0 : Int) (3 : Int))) && (within c.ret (-1 : Int) (20 : Int))) && (within c.frm (0 : Int) (30 : Int))) && (within c.to (0 : Int) (30 : Int))) = true) ∧ True)) ∧ ((((((((within c.proc (0 : Int) (2 : Int)) && (within c.obj (0 : Int) (1 : Int))) && (within c.kind (0 : Int) (2 : Int))) && (within c.arg (0 : Int) (3 : Int))) && (within c.ret (-1 : Int) (20 : Int))) && (within c.frm (0 : Int) (30 : Int))) && (within c.to (0 : Int) (30 : Int))) = true → True) ∧ ((((((((within c.proc (0 : Int) (2 : Int)) && (within c.obj (0 : Int) (1 : Int))) && (within c.kind (0 : Int) (2 : Int))) && (within c.arg (0 : Int) (3 : Int))) && (within c.ret (-1 : Int) (20 : Int))) && (within c.frm (0 : Int) (30 : Int))) && (within c.to (0 : Int) (30 : Int))) = true → (((((((((within c.proc (0 : Int) (2 : Int)) && (within c.obj (0 : Int) (1 : Int))) && (within c.kind (0 : Int) (2 : Int))) && (within c.arg (0 : Int) (3 : Int))) && (within c.ret (-1 : Int) (20 : Int))) && (within c.frm (0 : Int) (30 : Int))) && (within c.to (0 : Int) (30 : Int))) = true) ∧ True)) ∧ ((((((((within c.proc (0 : Int) (2 : Int)) && (within c.obj (0 : Int) (1 : Int))) && (within c.kind (0 : Int) (2 : Int))) && (within c.arg (0 : Int) (3 : Int))) && (within c.ret (-1 : Int) (20 : Int))) && (within c.frm (0 : Int) (30 : Int))) && (within c.to (0 : Int) (30 : Int))) = true → ((((((((((within c.proc (0 : Int) (2 : Int)) && (within c.obj (0 : Int) (1 : Int))) && (within c.kind (0 : Int) (2 : Int))) && (within c.arg (0 : Int) (3 : Int))) && (within c.ret (-1 : Int) (20 : Int))) && (within c.frm (0 : Int) (30 : Int))) && (within c.to (0 : Int) (30 : Int))) = true) ∧ True) ∧ (((((((((within c.proc (0 : Int) (2 : Int)) && (within c.obj (0 : Int) (1 : Int))) && (within c.kind (0 : Int) (2 : Int))) && (within c.arg (0 : Int) (3 : Int))) && (within c.ret (-1 : Int) (20 : Int))) && (within c.frm (0 : Int) (30 : Int))) && (within c.to (0 : Int) (30 : Int))) = true) ∧ True) ∧ True)) ∧ (True ∧ ((((((((within c.proc (0 : Int) (2 : Int)) && (within c.obj (0 : Int) (1 : Int))) && (within c.kind (0 : Int) (2 : Int))) && (within c.arg (0 : Int) (3 : Int))) && (within c.ret (-1 : Int) (20 : Int))) && (within c.frm (0 : Int) (30 : Int))) && (within c.to (0 : Int) (30 : Int))) = true → ((((((((within c.proc (0 : Int) (2 : Int)) && (within c.obj (0 : Int) (1 : Int))) && (within c.kind (0 : Int) (2 : Int))) && (within c.arg (0 : Int) (3 : Int))) && (within c.ret (-1 : Int) (20 : Int))) && (within c.frm (0 : Int) (30 : Int))) && (within c.to (0 : Int) (30 : Int))) = true) ∧ True) ∧ ((((((((within c.proc (0 : Int) (2 : Int)) && (within c.obj (0 : Int) (1 : Int))) && (within c.kind (0 : Int) (2 : Int))) && (within c.arg (0 : Int) (3 : Int))) && (within c.ret (-1 : Int) (20 : Int))) && (within c.frm (0 : Int) (30 : Int))) && (within c.to (0 : Int) (30 : Int))) = false → True)) ∧ True ∧ True) (by kernel_rfl)
  ⟨tt,tt,⟨tt,⟨tt,tt,tt,tt⟩,tt⟩,tt,(fun _ => trivial),(fun hG => ⟨hG,tt⟩),(fun hG => ⟨tt,⟨⟨hG,tt⟩,tt,tt,tt⟩,tt⟩),⟨tt,(fun hp => ⟨hp,tt⟩),(fun _ => trivial)⟩,tt,(fun _ => trivial),(fun hG => ⟨hG,tt⟩),(fun hG => ⟨tt,⟨⟨hG,tt⟩,tt,tt,tt⟩,tt⟩),⟨tt,(fun hp => ⟨hp,tt⟩),(fun _ => trivial)⟩,tt,(fun _ => trivial),(fun hG => ⟨hG,tt⟩),(fun hG => ⟨tt,⟨⟨hG,tt⟩,tt,tt,tt⟩,tt⟩),⟨tt,(fun hp => ⟨hp,tt⟩),(fun _ => trivial)⟩,tt,(fun _ => trivial),(fun hG => ⟨hG,tt⟩),(fun hG => ⟨tt,⟨⟨hG,tt⟩,tt,tt,tt⟩,tt⟩),⟨tt,(fun hp => ⟨hp,tt⟩),(fun _ => trivial)⟩,tt,(fun _ => trivial),(fun hG => ⟨hG,tt⟩),(fun hG => ⟨tt,⟨⟨hG,tt⟩,tt,tt,tt⟩,tt⟩),⟨tt,(fun hp => ⟨hp,tt⟩),(fun _ => trivial)⟩,tt,(fun _ => trivial),(fun hG => ⟨hG,tt⟩),(fun hG => ⟨tt,⟨⟨hG,tt⟩,tt,tt,tt⟩,tt⟩),⟨tt,(fun hp => ⟨hp,tt⟩),(fun _ => trivial)⟩,tt,(fun _ => trivial),(fun hG => ⟨hG,tt⟩),(fun _ => trivial),(fun hG => ⟨hG,tt⟩),(fun hG => ⟨⟨hG,tt⟩,⟨hG,tt⟩,tt⟩),⟨tt,(fun hp => ⟨hp,tt⟩),(fun _ => trivial)⟩,tt,tt⟩ ?_
 refine W.ret ?_
 exact endQ_ret (.b ((((((((within c.proc (0 : Int) (2 : Int)) && (within c.obj (0 : Int) (1 : Int))) && (within c.kind (0 : Int) (2 : Int))) && (within c.arg (0 : Int) (3 : Int))) && (within c.ret (-1 : Int) (20 : Int))) && (within c.frm (0 : Int) (30 : Int))) && (within c.to (0 : Int) (30 : Int))) && (decide (c.frm < c.to)))) (by kernel_rfl) (@cast ((.bool ((((((((within c.proc (0 : Int) (2 : Int)) && (within c.obj (0 : Int) (1 : Int))) && (within c.kind (0 : Int) (2 : Int))) && (within c.arg (0 : Int) (3 : Int))) && (within c.ret (-1 : Int) (20 : Int))) && (within c.frm (0 : Int) (30 : Int))) && (within c.to (0 : Int) (30 : Int))) && (decide (c.frm < c.to))) : Value) = .bool (isCall c)) _ (by kernel_rfl) (congrArg Value.bool (by first | rfl | simp_all)))
theorem ent46 : Entr prog 46 := ⟨_,func46,rfl,by decide⟩
end Go.Proofs.Try

set_option linter.unusedSimpArgs false
set_option linter.unusedVariables false
namespace Go.Proofs.Try
open Go.Ab Go.RowKit
def fs62 : FnS := fnS [.o,.o] [.call,.call] (fun _ (a,b,_) => (.b (isBefore a b),[],True))
abbrev T62 : Tab := lk []
theorem tab62 : TabOK prog T62 := TabOK.nil
set_option maxRecDepth 100000 in
set_option maxHeartbeats 1000000 in
theorem ok62 : FnOK prog 62 fs62 := by
 refine FnOK.mk cok func62 rfl rfl rfl ?_
 rintro fl ⟨(a : CallD),(b : CallD),_⟩ hpre F hnt0 _
 have hnt : F.nt = 10 := hnt0.trans ntmps62
 clear hpre
 refine W.to (⟨[(0,.agg [.i a.proc,.i a.obj,.i a.kind,.i a.arg,.i a.ret,.i a.frm,.i a.to]),(1,.agg [.i b.proc,.i b.obj,.i b.kind,.i b.arg,.i b.ret,.i b.frm,.i b.to])],[],[999]⟩) rfl ?_
 refine W.K cok tab62 hnt [] [2,3] (⟨[(2,.ptr 2 0),(3,.ptr 3 0)],[(2,⟨36,.fix [.i a.proc,.i a.obj,.i a.kind,.i a.arg,.i a.ret,.i a.frm,.i a.to]⟩),(3,⟨36,.fix [.i b.proc,.i b.obj,.i b.kind,.i b.arg,.i b.ret,.i b.frm,.i b.to]⟩)],[3,2,999]⟩)
  (True ∧ True ∧ True ∧ True) (by kernel_rfl)
  ⟨tt,tt,tt,tt⟩ ?_
 refine W.K cok tab62 hnt [] [4] (⟨[(4,.b (decide (a.to < b.frm)))],[(2,⟨36,.fix [.i a.proc,.i a.obj,.i a.kind,.i a.arg,.i a.ret,.i a.frm,.i a.to]⟩),(3,⟨36,.fix [.i b.proc,.i b.obj,.i b.kind,.i b.arg,.i b.ret,.i b.frm,.i b.to]⟩)],[3,2,999]⟩)
  (True ∧ True ∧ True ∧ True ∧ (True ∧ True ∧ True) ∧ True ∧ True) (by kernel_rfl)
  ⟨tt,tt,tt,tt,⟨tt,tt,tt⟩,tt,tt⟩ ?_
 refine W.ret ?_
 exact endQ_ret (.b (decide (a.to < b.frm))) (by kernel_rfl) (@cast ((.bool (decide (a.to < b.frm)) : Value) = .bool (isBefore a b)) _ (by kernel_rfl) (congrArg Value.bool (by first | rfl | simp_all)))
theorem ent62 : Entr prog 62 := ⟨_,func62,rfl,by decide⟩
end Go.Proofs.Try

set_option linter.unusedSimpArgs false
set_option linter.unusedVariables false
namespace Go.Proofs.Try
open Go.Ab Go.RowKit
def fs47 : FnS := fnS [.o,.o] [.call,.call] (fun _ (a,b,_) => (.b (doOverlap a b),[],True))
abbrev T47 : Tab := lk [(62,fs62)]
theorem tab47 : TabOK prog T47 := (TabOK.cons ok62 ent62 TabOK.nil)
set_option maxRecDepth 100000 in
set_option maxHeartbeats 1000000 in
theorem ok47 : FnOK prog 47 fs47 := by
 refine FnOK.mk cok func47 rfl rfl rfl ?_
 rintro fl ⟨(a : CallD),(b : CallD),_⟩ hpre F hnt0 _
 have hnt : F.nt = 15 := hnt0.trans ntmps47
 clear hpre
 refine W.to (⟨[(0,.agg [.i a.proc,.i a.obj,.i a.kind,.i a.arg,.i a.ret,.i a.frm,.i a.to]),(1,.agg [.i b.proc,.i b.obj,.i b.kind,.i b.arg,.i b.ret,.i b.frm,.i b.to])],[],[999]⟩) rfl ?_
 refine W.K cok tab47 hnt [] [2,3] (⟨[(2,.ptr 2 0),(3,.ptr 3 0)],[(2,⟨36,.fix [.i a.proc,.i a.obj,.i a.kind,.i a.arg,.i a.ret,.i a.frm,.i a.to]⟩),(3,⟨36,.fix [.i b.proc,.i b.obj,.i b.kind,.i b.arg,.i b.ret,.i b.frm,.i b.to]⟩)],[3,2,999]⟩)
  (True ∧ True ∧ True ∧ True) (by kernel_rfl)
  ⟨tt,tt,tt,tt⟩ ?_
 refine W.K cok tab47 hnt [] [4] (⟨[(4,.b ((!(isBefore a b)) && (!(isBefore b a))))],[(2,⟨36,.fix [.i a.proc,.i a.obj,.i a.kind,.i a.arg,.i a.ret,.i a.frm,.i a.to]⟩),(3,⟨36,.fix [.i b.proc,.i b.obj,.i b.kind,.i b.arg,.i b.ret,.i b.frm,.i b.to]⟩)],[3,2,999]⟩)
  (True ∧ True ∧ (True ∧ (True ∧ True ∧ True) ∧ True) ∧ True ∧ True ∧ ((!(isBefore a b)) = true → True) ∧ ((!(isBefore a b)) = true → True) ∧ ((!(isBefore a b)) = true → (True ∧ ((((!(isBefore a b)) = true) ∧ True) ∧ (((!(isBefore a b)) = true) ∧ True) ∧ True) ∧ True)) ∧ ((!(isBefore a b)) = true → (((!(isBefore a b)) = true) ∧ True)) ∧ (True ∧ ((!(isBefore a b)) = true → ((!(isBefore a b)) = true) ∧ True) ∧ ((!(isBefore a b)) = false → True)) ∧ True ∧ True) (by kernel_rfl)
  ⟨tt,tt,⟨tt,⟨tt,tt,tt⟩,tt⟩,tt,tt,(fun _ => trivial),(fun _ => trivial),(fun hG => ⟨tt,⟨⟨hG,tt⟩,⟨hG,tt⟩,tt⟩,tt⟩),(fun hG => ⟨hG,tt⟩),⟨tt,(fun hp => ⟨hp,tt⟩),(fun _ => trivial)⟩,tt,tt⟩ ?_
 refine W.ret ?_
 exact endQ_ret (.b ((!(isBefore a b)) && (!(isBefore b a)))) (by kernel_rfl) (@cast ((.bool ((!(isBefore a b)) && (!(isBefore b a))) : Value) = .bool (doOverlap a b)) _ (by kernel_rfl) (congrArg Value.bool (by first | rfl | simp_all)))
theorem ent47 : Entr prog 47 := ⟨_,func47,rfl,by decide⟩
end Go.Proofs.Try
