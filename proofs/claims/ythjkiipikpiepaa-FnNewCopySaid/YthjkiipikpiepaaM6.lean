import Derived.Test.YthjkiipikpiepaaM5
set_option linter.unusedSimpArgs false
set_option linter.unusedVariables false
namespace Go.Ab
/-! ### Quiet times -/
def qtP (h : List CallD) (i k t : Nat) : Bool := (decide ((callAt h k).to ≤ ((t : Nat) : Int)) && decide (((t : Nat) : Int) < (callAt h i).frm)) && decide (openAt h ((t : Nat) : Int) = 0)
def quietT (h : List CallD) (t : Nat) (i k : Nat) : Bool := anyN t (qtP h i k)
def quietF (h : List CallD) (i k : Nat) : Bool := quietT h 31 i k
def quietAhead (h : List CallD) : List Int := bif validHistory h then rowsOf h.length (quietF h) else []
def oneByOne (h : List CallD) : Bool := allN h.length (fun i => allN i (fun k => !doOverlap (callAt h i) (callAt h k))) && validHistory h
theorem anyN_iff' {n : Nat} {p : Nat → Bool} : anyN n p = true ↔ ∃ i, i < n ∧ p i = true := by
  constructor
  · intro h
    refine Classical.byContradiction fun hn => ?_
    have : anyN n p = false := anyN_false (fun j hj => by
      cases hp : p j
      · rfl
      · exact absurd ⟨j, hj, hp⟩ hn)
    rw [this] at h; cases h
  · rintro ⟨i, h1, h2⟩; exact anyN_true h1 h2
theorem anyN_succ (n : Nat) (p : Nat → Bool) : anyN (n + 1) p = (anyN n p || p n) := by
  apply bool_ext
  rw [Bool.or_eq_true, anyN_iff', anyN_iff']
  constructor
  · rintro ⟨i, h1, h2⟩
    by_cases hi : i = n
    · subst hi; exact Or.inr h2
    · exact Or.inl ⟨i, by omega, h2⟩
  · rintro (⟨i, h1, h2⟩ | h)
    · exact ⟨i, by omega, h2⟩
    · exact ⟨n, by omega, h⟩
theorem quiet_iff {h : List CallD} {i k : Nat} : quietF h i k = true ↔ ∃ t, t < 31 ∧ (callAt h k).to ≤ ((t : Nat) : Int) ∧ ((t : Nat) : Int) < (callAt h i).frm ∧ openAt h ((t : Nat) : Int) = 0 := by
  unfold quietF quietT qtP
  rw [anyN_iff']
  simp only [Bool.and_eq_true, decide_eq_true_eq, and_assoc]
theorem quiet_yes {h : List CallD} {i k : Nat} {t : Int} (h0 : 0 ≤ t) (h31 : t < 31) (h1 : (h.getD k default).to ≤ t) (h2 : t < (h.getD i default).frm) (h3 : openAt h t = 0) : quietF h i k = true :=
  quiet_iff.2 ⟨t.toNat, by omega, by unfold callAt; omega, by unfold callAt; omega, by rw [show ((t.toNat : Nat) : Int) = t by omega]; exact h3⟩
theorem quiet_no {h : List CallD} {i k : Nat} {t : Int} (h2 : ¬ t < (h.getD i default).frm) (hA : ∀ j : Int, (h.getD k default).to ≤ j → j < t → ¬ openAt h j = 0) : quietF h i k = false := by
  cases hq : quietF h i k with
  | false => rfl
  | true =>
    obtain ⟨t', _, h3, h4, h5⟩ := quiet_iff.1 hq
    unfold callAt at h3 h4
    exact absurd h5 (hA _ h3 (by omega))
/-! ### Rows that grow bit by bit -/
theorem mask_set {n k : Nat} (hn : n ≤ 60) (hk : k < n) (p : Nat → Bool) : bitsI .or .i64 (mask n p) (power ((k : Nat) : Int)) = mask n (fun m => p m || decide (m = k)) := by
  have h1 := maskN_lt n p
  have h2 := pow_le (k := n) (by omega)
  have h3 := pow_le (k := k) (by omega)
  unfold mask power
  rw [Int.toNat_natCast, bits_or (by omega) (by omega)]
  congr 1
  apply Nat.eq_of_testBit_eq
  intro i
  rw [Nat.testBit_or, maskN_bit, maskN_bit, Nat.testBit_two_pow]
  by_cases hi : i = k
  · subst hi; simp [hk]
  · have hi' : ¬ k = i := fun e => hi e.symm
    simp [hi, hi']
def mixF (f g : Nat → Nat → Bool) (i k : Nat) (j m : Nat) : Bool := if j < i ∨ (j = i ∧ m < k) then g j m else f j m
theorem rowsOf_congr {n : Nat} {f g : Nat → Nat → Bool} (h : ∀ j m, j < n → m < n → f j m = g j m) : rowsOf n f = rowsOf n g := by
  unfold rowsOf
  apply List.map_congr_left
  intro j hj
  rw [mask_inj]
  intro m hm
  exact h j m (List.mem_range.1 hj) hm
theorem mix_start {n : Nat} {f g : Nat → Nat → Bool} : rowsOf n f = rowsOf n (mixF f g 0 0) := rowsOf_congr (fun j m _ _ => by simp [mixF])
theorem mix_next {n i : Nat} {f g : Nat → Nat → Bool} : rowsOf n (mixF f g i n) = rowsOf n (mixF f g (i + 1) 0) := rowsOf_congr (fun j m _ hm => by
  unfold mixF
  by_cases h1 : j < i
  · rw [if_pos (Or.inl h1), if_pos (Or.inl (by omega))]
  · by_cases h2 : j = i
    · rw [if_pos (Or.inr ⟨h2, hm⟩), if_pos (Or.inl (by omega))]
    · rw [if_neg (by omega), if_neg (by omega)])
theorem mix_end {n i : Nat} {f g : Nat → Nat → Bool} (hi : ¬ i < n) : rowsOf n (mixF f g i 0) = rowsOf n g := rowsOf_congr (fun j m hj _ => by
  unfold mixF; rw [if_pos (Or.inl (by omega))])
theorem mix_skip {n i k : Nat} {f g : Nat → Nat → Bool} (hk : f i k = g i k) : rowsOf n (mixF f g i k) = rowsOf n (mixF f g i (k + 1)) := rowsOf_congr (fun j m _ _ => by
  unfold mixF
  by_cases h1 : j = i ∧ m = k
  · rw [if_neg (by omega), if_pos (by omega), h1.1, h1.2, hk]
  · by_cases h2 : j < i ∨ (j = i ∧ m < k)
    · rw [if_pos h2, if_pos (by omega)]
    · rw [if_neg h2, if_neg (by omega)])
theorem mix_set {n i k : Nat} {f g : Nat → Nat → Bool} (hn : n ≤ 60) (hi : i < n) (hk : k < n) (hg : g i k = true) : (rowsOf n (mixF f g i k)).set i (bitsI .or .i64 ((rowsOf n (mixF f g i k)).getD i 0) (power ((k : Nat) : Int))) = rowsOf n (mixF f g i (k + 1)) := by
  rw [rowsOf_get _ hi, mask_set hn hk]
  apply List.ext_getElem
  · simp [rowsOf]
  · intro j h1 h2
    simp only [List.getElem_set, rowsOf, List.getElem_map, List.getElem_range]
    by_cases hj : i = j
    · subst hj
      rw [if_pos rfl, mask_inj]
      intro m hm
      unfold mixF
      by_cases hmk : m = k
      · subst hmk; simp [hg]
      · by_cases hlt : m < k
        · rw [if_pos (Or.inr ⟨rfl, hlt⟩), if_pos (Or.inr ⟨rfl, by omega⟩)]; simp [hmk]
        · rw [if_neg (by omega), if_neg (by omega)]; simp [hmk]
    · rw [if_neg hj, mask_inj]
      intro m hm
      unfold mixF
      by_cases hlt : j < i
      · rw [if_pos (Or.inl hlt), if_pos (Or.inl hlt)]
      · rw [if_neg (by omega), if_neg (by omega)]
theorem rows_zero (n : Nat) (h : List CallD) : List.replicate n 0 = rowsOf n (quietT h 0) := by
  apply List.ext_getElem
  · simp [rowsOf]
  · intro i h1 h2
    simp only [List.getElem_replicate, rowsOf, List.getElem_map, List.getElem_range]
    have : mask n (quietT h 0 i) = mask n (fun _ => false) := mask_inj.2 (fun k _ => rfl)
    rw [this]
    clear this h1 h2
    induction n with
    | zero => rfl
    | succ n ih => rw [mask_skip rfl]; exact ih
/-- What the reference's flag says: a call is open at the time. -/
def openB (h : List CallD) (t : Int) (n : Nat) : Bool := anyN n (fun j => openP t (callAt h j))
theorem openB_zero {h : List CallD} {t : Int} : openB h t h.length = true ↔ ¬ openAt h t = 0 := by
  unfold openB openAt
  rw [anyN_iff', count_range]
  constructor
  · rintro ⟨j, hj, hp⟩ he
    have h0 := List.countP_eq_zero.1 (show (List.range h.length).countP (fun i => openP t (callAt h i)) = 0 by omega) j (List.mem_range.2 hj)
    exact h0 hp
  · intro hne
    refine Classical.byContradiction fun hn => hne ?_
    rw [List.countP_eq_zero.2 (fun j hj hp => hn ⟨j, List.mem_range.1 hj, hp⟩)]; rfl
theorem quietT_succ (h : List CallD) (t i k : Nat) : quietT h (t + 1) i k = (quietT h t i k || qtP h i k t) := anyN_succ _ _
theorem quiet_open {h : List CallD} {t n : Nat} (ho : openB h ((t : Nat) : Int) h.length = true) : rowsOf n (quietT h t) = rowsOf n (quietT h (t + 1)) := rowsOf_congr (fun j m _ _ => by
  rw [quietT_succ]
  have : qtP h j m t = false := by
    unfold qtP
    rw [decide_eq_false (openB_zero.1 ho), Bool.and_false]
  rw [this, Bool.or_false])
theorem qt_yes {h : List CallD} {t i k : Nat} (ho : openB h ((t : Nat) : Int) h.length = false) (hc : (decide ((h.getD k default).to ≤ ((t : Nat) : Int)) && decide (((t : Nat) : Int) < (h.getD i default).frm)) = true) : quietT h (t + 1) i k = true := by
  rw [quietT_succ]
  have h0 : openAt h ((t : Nat) : Int) = 0 := Classical.byContradiction fun hn => by rw [openB_zero.2 hn] at ho; cases ho
  unfold qtP callAt
  rw [hc, decide_eq_true h0]; simp
theorem qt_no {h : List CallD} {t i k : Nat} (hc : (decide ((h.getD k default).to ≤ ((t : Nat) : Int)) && decide (((t : Nat) : Int) < (h.getD i default).frm)) = false) : quietT h t i k = quietT h (t + 1) i k := by
  rw [quietT_succ]
  unfold qtP callAt
  rw [hc]; simp
theorem openB_succ {h : List CallD} {t : Int} {n : Nat} {b : Bool} (hb : (openB h t n || (decide ((h.getD n default).frm ≤ t) && decide (t < (h.getD n default).to))) = b) : b = openB h t (n + 1) := by
  unfold openB at *
  rw [anyN_succ, ← hb]; rfl
theorem quiet_fin {h : List CallD} {t : Nat} (ht : t = 31) : rowsOf h.length (quietT h t) = rowsOf h.length (quietF h) := by subst ht; rfl
theorem mix_out {h : List CallD} {t i : Nat} (hx : (decide (((i : Nat) : Int) < ((h.length : Nat) : Int)) && !openB h ((t : Nat) : Int) h.length) = false) : rowsOf h.length (mixF (quietT h t) (quietT h (t + 1)) i 0) = rowsOf h.length (quietT h (t + 1)) := by
  cases ho : openB h ((t : Nat) : Int) h.length with
  | false =>
    rw [ho] at hx
    simp only [Bool.not_false, Bool.and_true, decide_eq_false_iff_not] at hx
    exact mix_end (by omega)
  | true =>
    apply rowsOf_congr
    intro j m _ _
    unfold mixF
    rw [quietT_succ]
    have : qtP h j m t = false := by
      unfold qtP
      rw [decide_eq_false (openB_zero.1 ho), Bool.and_false]
    rw [this, Bool.or_false]; simp
/-! ### The law -/
theorem quiet_eq {h : List CallD} (hv : validHistory h = true) : quietAhead h = rowsOf h.length (quietF h) := by unfold quietAhead; rw [hv]; rfl
theorem quiet_len {h : List CallD} (hv : validHistory h = true) : (quietAhead h).length = h.length := by rw [quiet_eq hv, rowsOf_len]
theorem quiet_sub {h : List CallD} (hv : validHistory h = true) {i : Nat} (hi : i < h.length) : bitsI .and .i64 ((aheadOf h).getD i 0) ((quietAhead h).getD i 0) = (quietAhead h).getD i 0 := by
  rw [ahead_eq hv, quiet_eq hv, rowsOf_get _ hi, rowsOf_get _ hi]
  refine mask_sub' (by have := (valid_iff.1 hv).1; omega) (fun k hk hq => ?_)
  obtain ⟨t, _, h1, h2, _⟩ := quiet_iff.1 hq
  simp only [aheadF, isBefore, decide_eq_true_eq]
  omega
theorem quiet_one {h : List CallD} (ho : oneByOne h = true) : quietAhead h = aheadOf h := by
  unfold oneByOne at ho
  simp only [Bool.and_eq_true, allN_iff, Bool.not_eq_true'] at ho
  obtain ⟨h1, hv⟩ := ho
  rw [ahead_eq hv, quiet_eq hv]
  apply rowsOf_congr
  intro i k hi hk
  apply bool_ext
  rw [quiet_iff]
  simp only [aheadF, isBefore, decide_eq_true_eq]
  constructor
  · rintro ⟨t, _, h2, h3, _⟩; omega
  · intro hlt
    have hk2 := call_ok hv hk
    refine ⟨(callAt h k).to.toNat, by omega, by omega, by omega, ?_⟩
    rw [show (((callAt h k).to.toNat : Nat) : Int) = (callAt h k).to by omega]
    unfold openAt
    rw [count_range, List.countP_eq_zero.2]
    · rfl
    · intro j hj hp
      have hj' := List.mem_range.1 hj
      simp only [openP, Bool.and_eq_true, decide_eq_true_eq] at hp
      have hj2 := call_ok hv hj'
      have hne : j ≠ k := fun e => by subst e; omega
      have hov : doOverlap (callAt h j) (callAt h k) = true ∧ doOverlap (callAt h k) (callAt h j) = true := by
        rw [overlap_iff, overlap_iff]; omega
      rcases Nat.lt_or_gt_of_ne hne with hl | hl
      · rw [h1 k hk j hl] at hov; exact absurd hov.2 (by simp)
      · rw [h1 j hj' k hl] at hov; exact absurd hov.1 (by simp)
theorem quiet_bnd {h : List CallD} (hv : validHistory h = true) (i : Nat) : 0 ≤ (quietAhead h).getD i 0 ∧ (quietAhead h).getD i 0 ≤ 4611686018427387904 := by
  rw [quiet_eq hv]; exact rows_bnd _ (by have := (valid_iff.1 hv).1; omega) i
end Go.Ab
