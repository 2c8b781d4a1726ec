import Derived.Test.YthjkiipikpiepaaM3
set_option linter.unusedSimpArgs false
set_option linter.unusedVariables false
namespace Go.Ab
/-! ### Greatest ones, counts -/
def maxN : Nat → (Nat → Int) → Int
  | 0, _ => 0
  | n + 1, f => max (maxN n f) (f n)
theorem maxN_nonneg (n : Nat) (f : Nat → Int) : 0 ≤ maxN n f := by
  induction n with
  | zero => simp [maxN]
  | succ n ih => simp only [maxN]; omega
theorem le_maxN {n : Nat} {f : Nat → Int} {i : Nat} (h : i < n) : f i ≤ maxN n f := by
  induction n with
  | zero => omega
  | succ n ih =>
    simp only [maxN]
    by_cases hi : i = n
    · subst hi; omega
    · have := ih (by omega); omega
theorem maxN_le {n : Nat} {f : Nat → Int} {b : Int} (hb : 0 ≤ b) (h : ∀ i, i < n → f i ≤ b) : maxN n f ≤ b := by
  induction n with
  | zero => simpa [maxN] using hb
  | succ n ih => simp only [maxN]; have := h n (by omega); have := ih (fun i hi => h i (by omega)); omega
theorem maxN_get {n : Nat} {f : Nat → Int} (h : 0 < maxN n f) : ∃ i, i < n ∧ f i = maxN n f := by
  induction n with
  | zero => simp [maxN] at h
  | succ n ih =>
    simp only [maxN] at h ⊢
    by_cases hc : maxN n f ≤ f n
    · exact ⟨n, by omega, by omega⟩
    · obtain ⟨i, h1, h2⟩ := ih (by omega)
      exact ⟨i, by omega, by omega⟩
theorem maxN_congr {n : Nat} {f g : Nat → Int} (h : ∀ i, i < n → f i = g i) : maxN n f = maxN n g := by
  induction n with
  | zero => rfl
  | succ n ih => simp only [maxN]; rw [h n (by omega), ih (fun i hi => h i (by omega))]
def openP (t : Int) (c : CallD) : Bool := decide (c.frm ≤ t) && decide (t < c.to)
def openAt (h : List CallD) (t : Int) : Int := ((h.countP (openP t) : Nat) : Int)
theorem take_count {h : List CallD} {k : Nat} (p : CallD → Bool) (hk : k < h.length) : (((h.take (k + 1)).countP p : Nat) : Int) = (((h.take k).countP p : Nat) : Int) + (if p (h.getD k default) = true then 1 else 0) := by
  rw [List.take_succ_eq_append_getElem hk, List.countP_append]
  simp only [List.getD_eq_getElem?_getD, List.getElem?_eq_getElem hk, Option.getD_some, List.countP_cons, List.countP_nil]
  split <;> simp
theorem take_count_le (h : List CallD) (k : Nat) (p : CallD → Bool) : (h.take k).countP p ≤ k := Nat.le_trans List.countP_le_length (by rw [List.length_take]; omega)
theorem list_range (h : List CallD) : h = (List.range h.length).map (callAt h) := by
  apply List.ext_getElem
  · simp
  · intro i h1 h2; simp [callAt, h1]
theorem count_range (h : List CallD) (p : CallD → Bool) : h.countP p = (List.range h.length).countP (fun i => p (callAt h i)) := by
  have e : h.countP p = ((List.range h.length).map (callAt h)).countP p := by rw [← list_range h]
  rw [e, List.countP_map]; rfl
theorem count_mono {l : List Nat} {p q : Nat → Bool} (h : ∀ x ∈ l, p x = true → q x = true) : l.countP p ≤ l.countP q := List.countP_mono_left h
theorem count_lt {l : List Nat} {p q : Nat → Bool} (h : ∀ x ∈ l, p x = true → q x = true) {x0 : Nat} (hx : x0 ∈ l) (h1 : q x0 = true) (h2 : p x0 = false) : l.countP p + 1 ≤ l.countP q := by
  induction l with
  | nil => simp at hx
  | cons a l ih =>
    rw [List.countP_cons, List.countP_cons]
    rcases List.mem_cons.1 hx with rfl | hx'
    · have := count_mono (l := l) (fun x hx => h x (List.mem_cons_of_mem _ hx))
      rw [if_pos h1, if_neg (by rw [h2]; simp)]; omega
    · have := ih (fun x hx => h x (List.mem_cons_of_mem _ hx)) hx'
      have ha := h a (List.mem_cons_self ..)
      by_cases hp : p a = true
      · rw [if_pos hp, if_pos (ha hp)]; omega
      · rw [if_neg hp]; split <;> omega
/-! ### Width -/
def widthI (h : List CallD) : Int := maxN 31 (fun t => openAt h ((t : Nat) : Int))
def widthS (h : List CallD) : Int := maxN h.length (fun i => openAt h (callAt h i).frm)
def widthOf (h : List CallD) : Int := bif validHistory h then widthI h else -1
theorem open_le (h : List CallD) (t : Int) : 0 ≤ openAt h t ∧ openAt h t ≤ ((h.length : Nat) : Int) := by
  unfold openAt; have := List.countP_le_length (p := openP t) (l := h); omega
theorem not_clash {h : List CallD} (hv : validHistory h = true) {i k : Nat} (hi : i < h.length) (hk : k < h.length) (hne : i ≠ k) : ¬ ((callAt h i).frm = (callAt h k).frm ∨ (callAt h i).frm = (callAt h k).to ∨ (callAt h i).to = (callAt h k).frm ∨ (callAt h i).to = (callAt h k).to) := by
  have h3 := (valid_iff.1 hv).2.2
  rcases Nat.lt_or_gt_of_ne hne with hl | hl
  · have h1 := h3 k i hk hl
    have h2 : ¬ clash (callAt h k) (callAt h i) = true := by rw [h1]; simp
    rw [clash_iff] at h2; omega
  · have h1 := h3 i k hi hl
    have h2 : ¬ clash (callAt h i) (callAt h k) = true := by rw [h1]; simp
    rw [clash_iff] at h2; omega
theorem max_by (n : Nat) (p : Nat → Bool) (f : Nat → Int) (h : ∃ i, i < n ∧ p i = true) : ∃ i, i < n ∧ p i = true ∧ ∀ j, j < n → p j = true → f j ≤ f i := by
  induction n with
  | zero => obtain ⟨i, hi, _⟩ := h; omega
  | succ n ih =>
    by_cases hn : ∃ i, i < n ∧ p i = true
    · obtain ⟨i, h1, h2, h3⟩ := ih hn
      by_cases hpn : p n = true ∧ f i < f n
      · refine ⟨n, by omega, hpn.1, fun j hj hp => ?_⟩
        by_cases hjn : j = n
        · subst hjn; omega
        · have := h3 j (by omega) hp; omega
      · refine ⟨i, by omega, h2, fun j hj hp => ?_⟩
        by_cases hjn : j = n
        · subst hjn
          by_cases hlt : f i < f j
          · exact absurd ⟨hp, hlt⟩ hpn
          · omega
        · exact h3 j (by omega) hp
    · obtain ⟨i, h1, h2⟩ := h
      have : i = n := by
        by_cases hin : i = n
        · exact hin
        · exact absurd ⟨i, by omega, h2⟩ hn
      subst this
      refine ⟨i, by omega, h2, fun j hj hp => ?_⟩
      by_cases hji : j = i
      · subst hji; omega
      · exact absurd ⟨j, by omega, hp⟩ hn
theorem width_eq {h : List CallD} (hv : validHistory h = true) : widthS h = widthI h := by
  apply Int.le_antisymm
  · refine maxN_le (maxN_nonneg _ _) (fun i hi => ?_)
    have h1 := call_ok hv hi
    have h2 := le_maxN (n := 31) (f := fun t => openAt h ((t : Nat) : Int)) (i := (callAt h i).frm.toNat) (by omega)
    rw [show (((callAt h i).frm.toNat : Nat) : Int) = (callAt h i).frm by omega] at h2
    exact h2
  · refine maxN_le (maxN_nonneg _ _) (fun t ht => ?_)
    by_cases hex : ∃ i, i < h.length ∧ openP t (callAt h i) = true
    · obtain ⟨i, h1, h2, h3⟩ := max_by h.length (fun i => openP t (callAt h i)) (fun i => (callAt h i).frm) hex
      refine Int.le_trans ?_ (le_maxN (n := h.length) (f := fun i => openAt h (callAt h i).frm) h1)
      unfold openAt
      rw [count_range, count_range]
      have : (List.range h.length).countP (fun i => openP ((t : Nat) : Int) (callAt h i)) ≤ (List.range h.length).countP (fun j => openP (callAt h i).frm (callAt h j)) := by
        apply count_mono
        intro j hj hp
        have hj' := List.mem_range.1 hj
        have h4 := h3 j hj' hp
        simp only [openP, Bool.and_eq_true, decide_eq_true_eq] at hp h2 ⊢
        omega
      omega
    · have : openAt h ((t : Nat) : Int) = 0 := by
        unfold openAt
        rw [count_range, List.countP_eq_zero.2]
        · rfl
        · intro j hj hp; exact hex ⟨j, List.mem_range.1 hj, hp⟩
      rw [this]; exact maxN_nonneg _ _
/-! ### Levels -/
def mbF (h : List CallD) (l : Nat → Int) (i : Nat) : Int := maxN h.length (fun k => bif isBefore (callAt h k) (callAt h i) then l k + 1 else 0)
def levF (h : List CallD) : Nat → Nat → Int
  | 0, _ => 0
  | n + 1, i => mbF h (levF h n) i
def lev (h : List CallD) (i : Nat) : Int := levF h 31 i
def levOf (h : List CallD) : List Int := (List.range h.length).map (lev h)
def levelsOf (h : List CallD) : List Int := bif validHistory h then levOf h else []
theorem levOf_len (h : List CallD) : (levOf h).length = h.length := by simp [levOf]
theorem levOf_get {h : List CallD} {i : Nat} (hi : i < h.length) : (levOf h).getD i 0 = lev h i := by simp [levOf, List.getD_eq_getElem?_getD, hi]
theorem bef_iff {a b : CallD} : isBefore a b = true ↔ a.to < b.frm := by simp [isBefore]
theorem levF_stable {h : List CallD} (hv : validHistory h = true) : ∀ (n i : Nat), i < h.length → (callAt h i).frm < n → levF h (n + 1) i = levF h n i := by
  intro n
  induction n with
  | zero => intro i hi hlt; have := call_ok hv hi; omega
  | succ n ih =>
    intro i hi hlt
    show mbF h (levF h (n + 1)) i = mbF h (levF h n) i
    apply maxN_congr
    intro k hk
    cases hb : isBefore (callAt h k) (callAt h i) with
    | false => rfl
    | true =>
      have h1 := bef_iff.1 hb
      have h2 := call_ok hv hk
      simp only [cond_true]
      rw [ih k hk (by omega)]
theorem lev_fix {h : List CallD} (hv : validHistory h = true) {i : Nat} (hi : i < h.length) : lev h i = mbF h (lev h) i := by
  have := levF_stable hv 31 i hi (by have := call_ok hv hi; omega)
  exact this.symm
theorem levF_bnd (h : List CallD) : ∀ (n i : Nat), 0 ≤ levF h n i ∧ levF h n i ≤ n := by
  intro n
  induction n with
  | zero => intro i; simp [levF]
  | succ n ih =>
    intro i
    refine ⟨maxN_nonneg _ _, maxN_le (by omega) (fun k hk => ?_)⟩
    cases isBefore (callAt h k) (callAt h i) with
    | false => simp only [cond_false]; omega
    | true => have := ih k; simp only [cond_true]; omega
theorem lev_bnd (h : List CallD) (i : Nat) : 0 ≤ lev h i ∧ lev h i ≤ 31 := levF_bnd h 31 i
theorem lev_lt {h : List CallD} (hv : validHistory h = true) {i k : Nat} (hi : i < h.length) (hk : k < h.length) (hb : isBefore (callAt h k) (callAt h i) = true) : lev h k + 1 ≤ lev h i := by
  rw [lev_fix hv hi]
  have := le_maxN (n := h.length) (f := fun k => bif isBefore (callAt h k) (callAt h i) then lev h k + 1 else 0) hk
  simp only [hb, cond_true] at this
  exact this
theorem lev_pred {h : List CallD} (hv : validHistory h = true) {i : Nat} (hi : i < h.length) (h0 : 0 < lev h i) : ∃ k, k < h.length ∧ isBefore (callAt h k) (callAt h i) = true ∧ lev h k + 1 = lev h i := by
  rw [lev_fix hv hi] at h0
  obtain ⟨k, hk, he⟩ := maxN_get h0
  cases hb : isBefore (callAt h k) (callAt h i) with
  | false => simp only [hb, cond_false] at he; unfold mbF at h0; omega
  | true => simp only [hb, cond_true] at he; exact ⟨k, hk, hb, by rw [lev_fix hv hi]; exact he⟩
theorem levF_count {h : List CallD} (hv : validHistory h = true) : ∀ (n i : Nat), i < h.length → levF h n i ≤ (((List.range h.length).countP (fun j => decide ((callAt h j).frm < (callAt h i).frm)) : Nat) : Int) := by
  intro n
  induction n with
  | zero => intro i _; simp [levF]
  | succ n ih =>
    intro i hi
    refine maxN_le (by omega) (fun k hk => ?_)
    cases hb : isBefore (callAt h k) (callAt h i) with
    | false => simp only [cond_false]; omega
    | true =>
      simp only [cond_true]
      have h1 := ih k hk
      have h2 := bef_iff.1 hb
      have h3 := call_ok hv hk
      have h4 := count_lt (l := List.range h.length) (p := fun j => decide ((callAt h j).frm < (callAt h k).frm)) (q := fun j => decide ((callAt h j).frm < (callAt h i).frm))
        (fun x _ hx => by simp only [decide_eq_true_eq] at hx ⊢; omega) (List.mem_range.2 hk) (by simp only [decide_eq_true_eq]; omega) (by simp)
      omega
theorem lev_len {h : List CallD} (hv : validHistory h = true) {i : Nat} (hi : i < h.length) : lev h i ≤ ((h.length : Nat) : Int) := by
  have h1 := levF_count hv 31 i hi
  have h2 := List.countP_le_length (p := fun j => decide ((callAt h j).frm < (callAt h i).frm)) (l := List.range h.length)
  rw [List.length_range] at h2
  unfold lev; omega
/-! The sweep through the times. -/
def swV (h : List CallD) (t : Int) (i j : Nat) : Int := if (callAt h j).frm < t ∨ ((callAt h j).frm = t ∧ j < i) then lev h j else 0
def sw (h : List CallD) (t : Int) (i : Nat) : List Int := (List.range h.length).map (swV h t i)
def swK (h : List CallD) (t : Int) (i k : Nat) : List Int := (sw h t i).set i (maxN k (fun k => bif isBefore (callAt h k) (callAt h i) then lev h k + 1 else 0))
theorem sw_len (h : List CallD) (t : Int) (i : Nat) : (sw h t i).length = h.length := by simp [sw]
theorem swK_len (h : List CallD) (t : Int) (i k : Nat) : (swK h t i k).length = h.length := by simp [swK, sw_len]
theorem sw_get {h : List CallD} {t : Int} {i j : Nat} (hj : j < h.length) : (sw h t i).getD j 0 = swV h t i j := by simp [sw, List.getD_eq_getElem?_getD, hj]
theorem set_self (l : List Int) (i : Nat) (hi : i < l.length) : l.set i (l.getD i 0) = l := by
  apply List.ext_getElem
  · simp
  · intro j h1 h2
    rw [List.getElem_set]
    split
    · rename_i he; subst he; simp [List.getD_eq_getElem?_getD, hi]
    · rfl
theorem sw_start {h : List CallD} (hv : validHistory h = true) : List.replicate h.length 0 = sw h 0 0 := by
  apply List.ext_getElem
  · simp [sw]
  · intro i h1 h2
    have hi : i < h.length := by simpa using h1
    have := call_ok hv hi
    simp only [List.getElem_replicate, sw, List.getElem_map, List.getElem_range, swV]
    rw [if_neg (by omega)]
theorem sw_skip {h : List CallD} {t : Int} {i : Nat} (hne : (callAt h i).frm ≠ t) : sw h t i = sw h t (i + 1) := by
  unfold sw
  apply List.map_congr_left
  intro j _
  unfold swV
  by_cases hc : (callAt h j).frm < t ∨ ((callAt h j).frm = t ∧ j < i)
  · rw [if_pos hc, if_pos (by omega)]
  · rw [if_neg hc, if_neg]
    intro hh
    by_cases hji : j = i
    · subst hji; omega
    · omega
theorem sw_next (h : List CallD) (t : Int) : sw h t h.length = sw h (t + 1) 0 := by
  unfold sw
  apply List.map_congr_left
  intro j hj
  have := List.mem_range.1 hj
  unfold swV
  by_cases hc : (callAt h j).frm < t + 1
  · rw [if_pos (by omega), if_pos (by omega)]
  · rw [if_neg (by omega), if_neg (by omega)]
theorem sw_enter {h : List CallD} {t : Int} {i : Nat} (hi : i < h.length) (he : (callAt h i).frm = t) : sw h t i = swK h t i 0 := by
  unfold swK
  have h1 : (sw h t i).getD i 0 = 0 := by rw [sw_get hi]; unfold swV; rw [if_neg (by omega)]
  have h2 := set_self (sw h t i) i (by rw [sw_len]; exact hi)
  rw [h1] at h2
  exact h2.symm
theorem swK_self {h : List CallD} {t : Int} {i k : Nat} (hi : i < h.length) : (swK h t i k).getD i 0 = maxN k (fun k => bif isBefore (callAt h k) (callAt h i) then lev h k + 1 else 0) := by
  unfold swK; simp [List.getD_eq_getElem?_getD, sw_len, hi]
theorem swK_before {h : List CallD} (hv : validHistory h = true) {t : Int} {i k : Nat} {m : Nat} (hi : i < h.length) (hk : k < h.length) (he : (callAt h i).frm = t) (hb : isBefore (callAt h k) (callAt h i) = true) : (swK h t i m).getD k 0 = lev h k := by
  have h1 := bef_iff.1 hb
  have h2 := call_ok hv hk
  have h3 := call_ok hv hi
  have hne : i ≠ k := by rintro rfl; omega
  have h4 : (swK h t i m).getD k 0 = (sw h t i).getD k 0 := by
    unfold swK; simp [List.getD_eq_getElem?_getD, List.getElem?_set, hne]
  rw [h4, sw_get hk]; unfold swV; rw [if_pos (by omega)]
theorem swK_set {h : List CallD} (hv : validHistory h = true) {t : Int} {i k : Nat} (hi : i < h.length) (hk : k < h.length) (he : (callAt h i).frm = t) (hb : isBefore (callAt h k) (callAt h i) = true) :
    (swK h t i k).set i (max ((swK h t i k).getD i 0) ((swK h t i k).getD k 0 + 1)) = swK h t i (k + 1) := by
  rw [swK_self hi, swK_before hv hi hk he hb]
  unfold swK
  rw [List.set_set]
  simp only [maxN, hb, cond_true]
theorem swK_skip {h : List CallD} {t : Int} {i k : Nat} (hb : isBefore (callAt h k) (callAt h i) = false) : swK h t i k = swK h t i (k + 1) := by
  unfold swK
  simp only [maxN, hb, cond_false]
  congr 1
  have := maxN_nonneg k (fun k => bif isBefore (callAt h k) (callAt h i) then lev h k + 1 else 0)
  omega
theorem swK_end {h : List CallD} (hv : validHistory h = true) {t : Int} {i : Nat} (hi : i < h.length) (he : (callAt h i).frm = t) : swK h t i h.length = sw h t (i + 1) := by
  apply List.ext_getElem
  · rw [swK_len, sw_len]
  · intro j h1 h2
    have hj : j < h.length := by rwa [sw_len] at h2
    simp only [swK, List.getElem_set]
    by_cases hij : i = j
    · subst hij
      rw [if_pos rfl]
      simp only [sw, List.getElem_map, List.getElem_range, swV]
      rw [if_pos (by omega)]
      exact (lev_fix hv hi).symm
    · rw [if_neg hij]
      simp only [sw, List.getElem_map, List.getElem_range, swV]
      by_cases hc : (callAt h j).frm < t ∨ ((callAt h j).frm = t ∧ j < i)
      · rw [if_pos hc, if_pos (by omega)]
      · rw [if_neg hc, if_neg (by omega)]
theorem sw_end {h : List CallD} (hv : validHistory h = true) {t : Int} (ht : 30 < t) : sw h t 0 = levOf h := by
  unfold sw levOf
  apply List.map_congr_left
  intro j hj
  have := call_ok hv (List.mem_range.1 hj)
  unfold swV; rw [if_pos (by omega)]
theorem swK_bnd {h : List CallD} {t : Int} {i k : Nat} (j : Nat) : 0 ≤ (swK h t i k).getD j 0 ∧ (swK h t i k).getD j 0 ≤ 32 := by
  unfold swK
  rw [List.getD_eq_getElem?_getD, List.getElem?_set]
  split
  · split
    · simp only [Option.getD_some]
      refine ⟨maxN_nonneg _ _, maxN_le (by omega) (fun k _ => ?_)⟩
      have := lev_bnd h k
      cases isBefore (callAt h k) (callAt h i) <;> simp only [cond_true, cond_false] <;> omega
    · simp
  · simp only [sw, List.getElem?_map]
    cases hr : (List.range h.length)[j]? with
    | none => simp
    | some m =>
      simp only [Option.map_some, Option.getD_some]
      unfold swV
      have := lev_bnd h m
      split <;> omega
/-! The rounds of the reference. -/
def Rd (h : List CallD) (r : Nat) (i : Nat) (o : List Int) : Prop :=
  o.length = h.length ∧ ∀ j, j < h.length → 0 ≤ o.getD j 0 ∧ o.getD j 0 ≤ lev h j ∧ (lev h j ≤ r → o.getD j 0 = lev h j) ∧ (j < i → lev h j ≤ r + 1 → o.getD j 0 = lev h j)
def RdK (h : List CallD) (r : Nat) (i k : Nat) (o : List Int) : Prop :=
  Rd h r i o ∧ ∀ k', k' < k → isBefore (callAt h k') (callAt h i) = true → lev h k' ≤ r → lev h k' + 1 ≤ o.getD i 0
theorem getD_set (l : List Int) (i j : Nat) (v : Int) (hi : i < l.length) : (l.set i v).getD j 0 = if i = j then v else l.getD j 0 := by
  rw [List.getD_eq_getElem?_getD, List.getElem?_set]
  by_cases hij : i = j
  · subst hij; simp [hi]
  · simp [hij, List.getD_eq_getElem?_getD]
theorem Rd.start {h : List CallD} : Rd h 0 0 (List.replicate h.length 0) := by
  refine ⟨by simp, fun j hj => ?_⟩
  have := lev_bnd h j
  have e : (List.replicate h.length (0 : Int)).getD j 0 = 0 := by simp [List.getD_eq_getElem?_getD, hj]
  rw [e]; exact ⟨by omega, by omega, by omega, by omega⟩
theorem Rd.next {h : List CallD} {r : Nat} {o : List Int} (hr : Rd h r h.length o) : Rd h (r + 1) 0 o :=
  ⟨hr.1, fun j hj => by have := hr.2 j hj; exact ⟨this.1, this.2.1, fun hl => this.2.2.2 hj (by omega), by omega⟩⟩
theorem RdK.start {h : List CallD} {r i : Nat} {o : List Int} (hr : Rd h r i o) : RdK h r i 0 o := ⟨hr, fun k' hk => by omega⟩
theorem RdK.skip {h : List CallD} {r i k : Nat} {o : List Int} (hr : RdK h r i k o) (hb : isBefore (callAt h k) (callAt h i) = false) : RdK h r i (k + 1) o :=
  ⟨hr.1, fun k' hk hb' hl => by
    rcases Nat.lt_succ_iff_lt_or_eq.1 hk with h1 | rfl
    · exact hr.2 k' h1 hb' hl
    · rw [hb] at hb'; cases hb'⟩
theorem RdK.set {h : List CallD} (hv : validHistory h = true) {r i k : Nat} {o : List Int} (hr : RdK h r i k o) (hi : i < h.length) (hk : k < h.length) (hb : isBefore (callAt h k) (callAt h i) = true) :
    RdK h r i (k + 1) (o.set i (max (o.getD i 0) (o.getD k 0 + 1))) := by
  obtain ⟨⟨hl, hr1⟩, hr2⟩ := hr
  have hlt := lev_lt hv hi hk hb
  have h1 := hr1 i hi
  have h2 := hr1 k hk
  refine ⟨⟨by simpa using hl, fun j hj => ?_⟩, fun k' hk' hb' hl' => ?_⟩
  · rw [getD_set _ _ _ _ (by omega)]
    split
    · rename_i he; subst he
      exact ⟨by omega, by omega, fun hle => by have := h1.2.2.1 hle; omega, fun hle => by omega⟩
    · exact hr1 j hj
  · rw [getD_set _ _ _ _ (by omega), if_pos rfl]
    rcases Nat.lt_succ_iff_lt_or_eq.1 hk' with h3 | rfl
    · have := hr2 k' h3 hb' hl'; omega
    · have := h2.2.2.1 hl'; omega
theorem RdK.done {h : List CallD} (hv : validHistory h = true) {r i : Nat} {o : List Int} (hr : RdK h r i h.length o) (hi : i < h.length) : Rd h r (i + 1) o := by
  obtain ⟨⟨hl, hr1⟩, hr2⟩ := hr
  refine ⟨hl, fun j hj => ⟨(hr1 j hj).1, (hr1 j hj).2.1, (hr1 j hj).2.2.1, fun hji hle => ?_⟩⟩
  rcases Nat.lt_succ_iff_lt_or_eq.1 hji with h1 | rfl
  · exact (hr1 j hj).2.2.2 h1 hle
  · have h1 := hr1 j hj
    rcases Int.lt_or_le 0 (lev h j) with h0 | h0
    · obtain ⟨k, hk, hb, he⟩ := lev_pred hv hj h0
      have := hr2 k hk hb (by omega)
      omega
    · omega
theorem Rd.end {h : List CallD} (hv : validHistory h = true) {r : Nat} {o : List Int} (hr : Rd h r 0 o) (hn : h.length ≤ r) : o = levOf h := by
  apply ints_ext (by rw [hr.1, levOf_len])
  intro j hj
  have hj' : j < h.length := by rw [← hr.1]; exact hj
  rw [levOf_get hj']
  exact (hr.2 j hj').2.2.1 (by have := lev_len hv hj'; omega)
/-! ### The laws -/
theorem levels_eq {h : List CallD} (hv : validHistory h = true) : levelsOf h = levOf h := by unfold levelsOf; rw [hv]; rfl
def mostOf (h : List CallD) : Int := maxN h.length (fun i => lev h i + 1)
theorem count_levels (n m : Nat) (f : Nat → Nat) (W : Nat) (hf : ∀ i, i < n → f i < m) (hW : ∀ v, v < m → (List.range n).countP (fun i => decide (f i = v)) ≤ W) : n ≤ m * W := by
  have key : ∀ m', m' ≤ m → (List.range n).countP (fun i => decide (f i < m')) ≤ m' * W := by
    intro m'
    induction m' with
    | zero => intro _; simp
    | succ m' ih =>
      intro hm
      have h1 := ih (by omega)
      have h2 := hW m' (by omega)
      have h3 : ∀ l : List Nat, l.countP (fun i => decide (f i < m' + 1)) ≤ l.countP (fun i => decide (f i < m')) + l.countP (fun i => decide (f i = m')) := by
        intro l
        induction l with
        | nil => simp
        | cons a l ihl =>
          rw [List.countP_cons, List.countP_cons, List.countP_cons]
          simp only [decide_eq_true_eq]
          split <;> split <;> split <;> omega
      have := h3 (List.range n)
      rw [Nat.add_mul, Nat.one_mul]; omega
  have h1 := key m (Nat.le_refl _)
  have h2 : (List.range n).countP (fun i => decide (f i < m)) = n := by
    rw [List.countP_eq_length.2, List.length_range]
    intro i hi; simpa using hf i (List.mem_range.1 hi)
  omega
theorem open_width {h : List CallD} (hv : validHistory h = true) {i : Nat} (hi : i < h.length) : openAt h (callAt h i).frm ≤ widthI h := by
  rw [← width_eq hv]; exact le_maxN (n := h.length) (f := fun i => openAt h (callAt h i).frm) hi
theorem width_law {h : List CallD} (hv : validHistory h = true) : ((h.length : Nat) : Int) ≤ widthI h * mostOf h := by
  have hw0 : 0 ≤ widthI h := maxN_nonneg _ _
  have hm0 : 0 ≤ mostOf h := maxN_nonneg _ _
  have key := count_levels h.length (mostOf h).toNat (fun i => (lev h i).toNat) (widthI h).toNat
    (fun i hi => by
      have h1 := le_maxN (n := h.length) (f := fun i => lev h i + 1) hi
      have h2 := lev_bnd h i
      unfold mostOf; omega)
    (fun v _ => by
      by_cases hex : ∃ i, i < h.length ∧ decide ((lev h i).toNat = v) = true
      · obtain ⟨i, h1, h2, h3⟩ := max_by h.length (fun i => decide ((lev h i).toNat = v)) (fun i => (callAt h i).frm) hex
        have h4 := open_width hv h1
        unfold openAt at h4
        rw [count_range] at h4
        have : (List.range h.length).countP (fun i => decide ((lev h i).toNat = v)) ≤ (List.range h.length).countP (fun j => openP (callAt h i).frm (callAt h j)) := by
          apply count_mono
          intro j hj hp
          have hj' := List.mem_range.1 hj
          have h5 := h3 j hj' hp
          have h6 := call_ok hv hj'
          simp only [decide_eq_true_eq] at hp h2
          simp only [openP, Bool.and_eq_true, decide_eq_true_eq]
          refine ⟨h5, ?_⟩
          by_cases hji : j = i
          · subst hji; omega
          · have h7 := not_clash hv hj' h1 hji
            have h8 : ¬ (callAt h j).to < (callAt h i).frm := fun hlt => by
              have := lev_lt hv h1 hj' (bef_iff.2 hlt)
              have := lev_bnd h j
              omega
            omega
        omega
      · rw [List.countP_eq_zero.2]
        · omega
        · intro j hj hp; exact hex ⟨j, List.mem_range.1 hj, hp⟩)
  have e : widthI h * mostOf h = (((mostOf h).toNat * (widthI h).toNat : Nat) : Int) := by
    rw [Int.natCast_mul, Int.toNat_of_nonneg hw0, Int.toNat_of_nonneg hm0, Int.mul_comm]
  rw [e]; omega
theorem width_le (h : List CallD) : 0 ≤ widthI h ∧ widthI h ≤ ((h.length : Nat) : Int) := ⟨maxN_nonneg _ _, maxN_le (by omega) (fun t _ => (open_le h _).2)⟩
theorem width_zero {h : List CallD} (hv : validHistory h = true) : (((h.length : Nat) : Int) = 0) ↔ widthI h = 0 := by
  constructor
  · intro h0; have := width_le h; omega
  · intro h0
    by_cases hl : h.length = 0
    · omega
    · exfalso
      have h1 := open_width hv (i := 0) (by omega)
      have h2 := call_ok hv (i := 0) (by omega)
      unfold openAt at h1
      rw [count_range] at h1
      have h3 : 0 < (List.range h.length).countP (fun j => openP (callAt h 0).frm (callAt h j)) := by
        rw [List.countP_pos_iff]
        refine ⟨0, List.mem_range.2 (by omega), ?_⟩
        simp only [openP, Bool.and_eq_true, decide_eq_true_eq]; omega
      omega
end Go.Ab
namespace Go.Ab
theorem met_skip {h : List CallD} {met : Bool} {i k : Nat} (hm : met = true ↔ (lev h i = 0 ∨ ∃ j, j < k ∧ isBefore (callAt h j) (callAt h i) = true ∧ lev h j + 1 = lev h i)) (hi : i < h.length) (hk : k < h.length) (hv : validHistory h = true)
    (hn : ¬ bitOf ((aheadOf h).getD i 0) ((k : Nat) : Int) = 1) : met = true ↔ (lev h i = 0 ∨ ∃ j, j < k + 1 ∧ isBefore (callAt h j) (callAt h i) = true ∧ lev h j + 1 = lev h i) := by
  rw [hm]
  constructor
  · rintro (h1 | ⟨j, h1, h2⟩)
    · exact .inl h1
    · exact .inr ⟨j, by omega, h2⟩
  · rintro (h1 | ⟨j, h1, h2, h3⟩)
    · exact .inl h1
    · refine .inr ⟨j, ?_, h2, h3⟩
      rcases Nat.lt_succ_iff_lt_or_eq.1 h1 with h4 | rfl
      · exact h4
      · rw [ahead_bit hv hi hk, if_pos (bef_iff.1 h2)] at hn; exact absurd rfl hn
theorem met_step {h : List CallD} {met : Bool} {i k : Nat} {L : List Int} (hm : met = true ↔ (lev h i = 0 ∨ ∃ j, j < k ∧ isBefore (callAt h j) (callAt h i) = true ∧ lev h j + 1 = lev h i)) (hi : i < h.length) (hk : k < h.length) (hv : validHistory h = true)
    (hb : bitOf ((aheadOf h).getD i 0) ((k : Nat) : Int) = 1) (hL : ∀ j, j < h.length → L.getD j 0 = lev h j) : (met || decide (L.getD k 0 + 1 = L.getD i 0)) = true ↔ (lev h i = 0 ∨ ∃ j, j < k + 1 ∧ isBefore (callAt h j) (callAt h i) = true ∧ lev h j + 1 = lev h i) := by
  rw [hL k hk, hL i hi]
  rw [ahead_bit hv hi hk] at hb
  have hb' := bef_iff.2 (ite_one hb)
  simp only [Bool.or_eq_true, decide_eq_true_eq]
  rw [hm]
  constructor
  · rintro ((h1 | ⟨j, h1, h2⟩) | h1)
    · exact .inl h1
    · exact .inr ⟨j, by omega, h2⟩
    · exact .inr ⟨k, by omega, hb', h1⟩
  · rintro (h1 | ⟨j, h1, h2, h3⟩)
    · exact .inl (.inl h1)
    · rcases Nat.lt_succ_iff_lt_or_eq.1 h1 with h4 | rfl
      · exact .inl (.inr ⟨j, h4, h2, h3⟩)
      · exact .inr h3
theorem met_less {h : List CallD} (hv : validHistory h = true) {i k : Nat} (hi : i < h.length) (hk : k < h.length) (hb : bitOf ((aheadOf h).getD i 0) ((k : Nat) : Int) = 1) (hl : lev h i ≤ lev h k) : False := by
  rw [ahead_bit hv hi hk] at hb
  have := lev_lt hv hi hk (bef_iff.2 (ite_one hb))
  omega
theorem met_end {h : List CallD} (hv : validHistory h = true) {met : Bool} {i : Nat} (hi : i < h.length) (hm : met = true ↔ (lev h i = 0 ∨ ∃ j, j < h.length ∧ isBefore (callAt h j) (callAt h i) = true ∧ lev h j + 1 = lev h i)) (hn : met = false) : False := by
  have : ¬ met = true := by rw [hn]; simp
  apply this
  rw [hm]
  rcases Int.lt_or_le 0 (lev h i) with h0 | h0
  · exact .inr (lev_pred hv hi h0)
  · exact .inl (by have := lev_bnd h i; omega)
theorem widthOf_valid {h : List CallD} (hn : ¬ widthOf h < 0) : validHistory h = true := by
  cases hv : validHistory h with
  | true => rfl
  | false => exact absurd (by unfold widthOf; rw [hv]; simp only [cond_false]; omega) hn
end Go.Ab
