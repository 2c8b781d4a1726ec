import Derived.Test.YthjkiipikpiepaaM2
set_option linter.unusedSimpArgs false
set_option linter.unusedVariables false
namespace Go.Ab
theorem rows_bnd {n : Nat} (f : Nat → Nat → Bool) (h : n ≤ 61) (i : Nat) : 0 ≤ (rowsOf n f).getD i 0 ∧ (rowsOf n f).getD i 0 ≤ 4611686018427387904 := by
  by_cases hi : i < n
  · rw [rowsOf_get f hi]; have := mask_bnd n (f i) h; omega
  · rw [List.getD_eq_getElem?_getD, List.getElem?_eq_none (by rw [rowsOf_len]; omega)]; simp
theorem ahead_eq {h : List CallD} (hv : validHistory h = true) : aheadOf h = rowsOf h.length (aheadF h) := by unfold aheadOf; rw [hv]; rfl
theorem own_eq {h : List CallD} (hv : validHistory h = true) : ownAhead h = rowsOf h.length (ownF h) := by unfold ownAhead; rw [hv]; rfl
theorem ahead_len {h : List CallD} (hv : validHistory h = true) : (aheadOf h).length = h.length := by rw [ahead_eq hv, rowsOf_len]
theorem own_len {h : List CallD} (hv : validHistory h = true) : (ownAhead h).length = h.length := by rw [own_eq hv, rowsOf_len]
theorem ahead_bnd {h : List CallD} (hv : validHistory h = true) (i : Nat) : 0 ≤ (aheadOf h).getD i 0 ∧ (aheadOf h).getD i 0 ≤ 4611686018427387904 := by
  rw [ahead_eq hv]; exact rows_bnd _ (by have := (valid_iff.1 hv).1; omega) i
theorem own_bnd {h : List CallD} (hv : validHistory h = true) (i : Nat) : 0 ≤ (ownAhead h).getD i 0 ∧ (ownAhead h).getD i 0 ≤ 4611686018427387904 := by
  rw [own_eq hv]; exact rows_bnd _ (by have := (valid_iff.1 hv).1; omega) i
theorem ahead_get {h : List CallD} (hv : validHistory h = true) {i : Nat} (hi : i < h.length) : (aheadOf h).getD i 0 = mask h.length (aheadF h i) := by rw [ahead_eq hv, rowsOf_get _ hi]
theorem own_get {h : List CallD} (hv : validHistory h = true) {i : Nat} (hi : i < h.length) : (ownAhead h).getD i 0 = mask h.length (ownF h i) := by rw [own_eq hv, rowsOf_get _ hi]
theorem ahead_bit {h : List CallD} (hv : validHistory h = true) {i k : Nat} (hi : i < h.length) (hk : k < h.length) : bitOf ((aheadOf h).getD i 0) ((k : Nat) : Int) = if (callAt h k).to < (callAt h i).frm then 1 else 0 := by
  rw [ahead_get hv hi, bitOf_mask]; simp [hk, aheadF, isBefore]
theorem own_bit {h : List CallD} (hv : validHistory h = true) {i k : Nat} (hi : i < h.length) (hk : k < h.length) : bitOf ((ownAhead h).getD i 0) ((k : Nat) : Int) = if (callAt h i).proc = (callAt h k).proc ∧ (callAt h k).to < (callAt h i).frm then 1 else 0 := by
  rw [own_get hv hi, bitOf_mask]; simp [hk, ownF, isBefore]
theorem mask_sub {n : Nat} (h : n ≤ 60) {p q : Nat → Bool} (hs : ∀ k, k < n → p k = true → q k = true) : bitsI .and .i64 (mask n p) (mask n q) = mask n p := by
  rw [and_mask h, mask_inj]
  intro k hk
  cases hp : p k
  · rfl
  · rw [hs k hk hp]; rfl
theorem mask_sub' {n : Nat} (h : n ≤ 60) {p q : Nat → Bool} (hs : ∀ k, k < n → q k = true → p k = true) : bitsI .and .i64 (mask n p) (mask n q) = mask n q := by
  rw [and_mask h, mask_inj]
  intro k hk
  cases hp : q k
  · rw [Bool.and_false]
  · rw [hs k hk hp]; rfl
theorem call_ok {h : List CallD} (hv : validHistory h = true) {i : Nat} (hi : i < h.length) : (callAt h i).frm < (callAt h i).to ∧ 0 ≤ (callAt h i).frm ∧ (callAt h i).to ≤ 30 := by
  have := isCall_iff.1 ((valid_iff.1 hv).2.1 i hi); omega
/-- The law AheadOf, first part. -/
theorem ahead_law1 {h : List CallD} (hv : validHistory h = true) {a b : Nat} (ha : a < h.length) (hb : b < h.length) (hn : ¬ bitOf ((aheadOf h).getD b 0) ((a : Nat) : Int) = 0) :
    bitsI .and .i64 ((aheadOf h).getD a 0) ((aheadOf h).getD b 0) = (aheadOf h).getD a 0 := by
  rw [ahead_bit hv hb ha] at hn
  have h1 : (callAt h a).to < (callAt h b).frm := by
    by_cases hh : (callAt h a).to < (callAt h b).frm
    · exact hh
    · rw [if_neg hh] at hn; exact absurd rfl hn
  rw [ahead_get hv ha, ahead_get hv hb]
  refine mask_sub (by have := (valid_iff.1 hv).1; omega) (fun k hk hp => ?_)
  simp only [aheadF, isBefore, decide_eq_true_eq] at hp ⊢
  have := call_ok hv ha
  omega
theorem ite_one {p : Prop} [Decidable p] (h : (if p then (1 : Int) else 0) = 1) : p := by
  by_cases hp : p
  · exact hp
  · rw [if_neg hp] at h; cases h
theorem ite_zero {p : Prop} [Decidable p] (h : (if p then (1 : Int) else 0) = 0) : ¬ p := by
  intro hp; rw [if_pos hp] at h; cases h
theorem ite_not {p : Prop} [Decidable p] (h : ¬ (if p then (1 : Int) else 0) = 0) : p := by
  by_cases hp : p
  · exact hp
  · rw [if_neg hp] at h; exact absurd rfl h
theorem ahead_law2 {h : List CallD} (hv : validHistory h = true) {a b c d : Nat} (ha : a < h.length) (hb : b < h.length) (hc : c < h.length) (hd : d < h.length) (h1 : ¬ bitOf ((aheadOf h).getD b 0) ((a : Nat) : Int) = 0)
    (h2 : bitOf ((aheadOf h).getD d 0) ((c : Nat) : Int) = 1) (h3 : bitOf ((aheadOf h).getD d 0) ((a : Nat) : Int) = 0) (h4 : bitOf ((aheadOf h).getD b 0) ((c : Nat) : Int) = 0) : False := by
  rw [ahead_bit hv hb ha] at h1
  rw [ahead_bit hv hd hc] at h2
  rw [ahead_bit hv hd ha] at h3
  rw [ahead_bit hv hb hc] at h4
  have := ite_not h1
  have := ite_one h2
  have := ite_zero h3
  have := ite_zero h4
  omega
theorem own_law1 {h : List CallD} (hv : validHistory h = true) {i : Nat} (hi : i < h.length) : bitsI .and .i64 ((aheadOf h).getD i 0) ((ownAhead h).getD i 0) = (ownAhead h).getD i 0 := by
  rw [ahead_get hv hi, own_get hv hi]
  refine mask_sub' (by have := (valid_iff.1 hv).1; omega) (fun k hk hp => ?_)
  simp only [ownF, Bool.and_eq_true] at hp
  exact hp.2
theorem own_law2 {h : List CallD} (hv : validHistory h = true) {i k : Nat} (hi : i < h.length) (hk : k < i) :
    (decide ((h.getD i default).proc = (h.getD k default).proc) != decide (bitOf ((ownAhead h).getD i 0) ((k : Nat) : Int) + bitOf ((ownAhead h).getD k 0) ((i : Nat) : Int) = 1)) = false := by
  rw [own_bit hv hi (by omega), own_bit hv (show k < h.length by omega) hi]
  have h1 := (valid_iff.1 hv).2.2 i k hi hk
  have h2 : ¬ clash (callAt h i) (callAt h k) = true := by rw [h1]; simp
  rw [clash_iff] at h2
  have h3 := call_ok hv hi
  have h4 := call_ok hv (show k < h.length by omega)
  show (decide ((callAt h i).proc = (callAt h k).proc) != _) = false
  have e : (decide ((callAt h i).proc = (callAt h k).proc)) = decide ((if (callAt h i).proc = (callAt h k).proc ∧ (callAt h k).to < (callAt h i).frm then (1 : Int) else 0) + (if (callAt h k).proc = (callAt h i).proc ∧ (callAt h i).to < (callAt h k).frm then 1 else 0) = 1) := by
    apply bool_ext
    simp only [decide_eq_true_eq]
    split <;> split <;> omega
  rw [e]; simp
end Go.Ab
