import Derived.Test.YtggcajkjoaichaaIF3S0
set_option linter.unusedSimpArgs false
set_option linter.unusedVariables false
namespace Go.Ab
/-! ### Quiet times -/
def qtP (h : List CallD) (i k t : Nat) : Bool := (decide ((callAt h k).to ≤ ((t : Nat) : Int)) && decide (((t : Nat) : Int) < (callAt h i).frm)) && decide (openAt h ((t : Nat) : Int) = 0)
def quietT (h : List CallD) (t : Nat) (i k : Nat) : Bool := anyN t (qtP h i k)
def quietF (h : List CallD) (i k : Nat) : Bool := quietT h 31 i k
def quietAhead (h : List CallD) : List Int := bif validHistory h then rowsOf h.length (quietF h) else []
def oneByOne (h : List CallD) : Bool := allN h.length (fun i => allN i (fun k => !doOverlap (callAt h i) (callAt h k))) && validHistory h
theorem anyN_iff' {n : Nat} {p : Nat → Bool} : anyN n p = true ↔ ∃ i, i < n ∧ p i = true := by
  constructor
  · intro h
    refine Classical.byContradiction fun hn => ?_
    have : anyN n p = false := anyN_false (fun j hj => by
      cases hp : p j
      · rfl
      · exact absurd ⟨j, hj, hp⟩ hn)
    rw [this] at h; cases h
  · rintro ⟨i, h1, h2⟩; exact anyN_true h1 h2
theorem anyN_succ (n : Nat) (p : Nat → Bool) : anyN (n + 1) p = (anyN n p || p n) := by
  apply bool_ext
  rw [Bool.or_eq_true, anyN_iff', anyN_iff']
  constructor
  · rintro ⟨i, h1, h2⟩
    by_cases hi : i = n
    · subst hi; exact Or.inr h2
    · exact Or.inl ⟨i, by omega, h2⟩
  · rintro (⟨i, h1, h2⟩ | h)
    · exact ⟨i, by omega, h2⟩
    · exact ⟨n, by omega, h⟩
theorem quiet_iff {h : List CallD} {i k : Nat} : quietF h i k = true ↔ ∃ t, t < 31 ∧ (callAt h k).to ≤ ((t : Nat) : Int) ∧ ((t : Nat) : Int) < (callAt h i).frm ∧ openAt h ((t : Nat) : Int) = 0 := by
  unfold quietF quietT qtP
  rw [anyN_iff']
  simp only [Bool.and_eq_true, decide_eq_true_eq, and_assoc]
theorem quiet_yes {h : List CallD} {i k : Nat} {t : Int} (h0 : 0 ≤ t) (h31 : t < 31) (h1 : (h.getD k default).to ≤ t) (h2 : t < (h.getD i default).frm) (h3 : openAt h t = 0) : quietF h i k = true :=
  quiet_iff.2 ⟨t.toNat, by omega, by unfold callAt; omega, by unfold callAt; omega, by rw [show ((t.toNat : Nat) : Int) = t by omega]; exact h3⟩
theorem quiet_no {h : List CallD} {i k : Nat} {t : Int} (h2 : ¬ t < (h.getD i default).frm) (hA : ∀ j : Int, (h.getD k default).to ≤ j → j < t → ¬ openAt h j = 0) : quietF h i k = false := by
  cases hq : quietF h i k with
  | false => rfl
  | true =>
    obtain ⟨t', _, h3, h4, h5⟩ := quiet_iff.1 hq
    unfold callAt at h3 h4
    exact absurd h5 (hA _ h3 (by omega))
/-! ### Rows that grow bit by bit -/
theorem mask_set {n k : Nat} (hn : n ≤ 60) (hk : k < n) (p : Nat → Bool) : bitsI .or .i64 (mask n p) (power ((k : Nat) : Int)) = mask n (fun m => p m || decide (m = k)) := by
  have h1 := maskN_lt n p
  have h2 := pow_le (k := n) (by omega)
  have h3 := pow_le (k := k) (by omega)
  unfold mask power
  rw [Int.toNat_natCast, bits_or (by omega) (by omega)]
  congr 1
  apply Nat.eq_of_testBit_eq
  intro i
  rw [Nat.testBit_or, maskN_bit, maskN_bit, Nat.testBit_two_pow]
  by_cases hi : i = k
  · subst hi; simp [hk]
  · have hi' : ¬ k = i := fun e => hi e.symm
    simp [hi, hi']
def mixF (f g : Nat → Nat → Bool) (i k : Nat) (j m : Nat) : Bool := if j < i ∨ (j = i ∧ m < k) then g j m else f j m
theorem rowsOf_congr {n : Nat} {f g : Nat → Nat → Bool} (h : ∀ j m, j < n → m < n → f j m = g j m) : rowsOf n f = rowsOf n g := by
  unfold rowsOf
  apply List.map_congr_left
  intro j hj
  rw [mask_inj]
  intro m hm
  exact h j m (List.mem_range.1 hj) hm
theorem mix_start {n : Nat} {f g : Nat → Nat → Bool} : rowsOf n f = rowsOf n (mixF f g 0 0) := rowsOf_congr (fun j m _ _ => by simp [mixF])
theorem mix_next {n i : Nat} {f g : Nat → Nat → Bool} : rowsOf n (mixF f g i n) = rowsOf n (mixF f g (i + 1) 0) := rowsOf_congr (fun j m _ hm => by
  unfold mixF
  by_cases h1 : j < i
  · rw [if_pos (Or.inl h1), if_pos (Or.inl (by omega))]
  · by_cases h2 : j = i
    · rw [if_pos (Or.inr ⟨h2, hm⟩), if_pos (Or.inl (by omega))]
    · rw [if_neg (by omega), if_neg (by omega)])
theorem mix_end {n i : Nat} {f g : Nat → Nat → Bool} (hi : ¬ i < n) : rowsOf n (mixF f g i 0) = rowsOf n g := rowsOf_congr (fun j m hj _ => by
  unfold mixF; rw [if_pos (Or.inl (by omega))])
theorem mix_skip {n i k : Nat} {f g : Nat → Nat → Bool} (hk : f i k = g i k) : rowsOf n (mixF f g i k) = rowsOf n (mixF f g i (k + 1)) := rowsOf_congr (fun j m _ _ => by
  unfold mixF
  by_cases h1 : j = i ∧ m = k
  · rw [if_neg (by omega), if_pos (by omega), h1.1, h1.2, hk]
  · by_cases h2 : j < i ∨ (j = i ∧ m < k)
    · rw [if_pos h2, if_pos (by omega)]
    · rw [if_neg h2, if_neg (by omega)])
theorem mix_set {n i k : Nat} {f g : Nat → Nat → Bool} (hn : n ≤ 60) (hi : i < n) (hk : k < n) (hg : g i k = true) : (rowsOf n (mixF f g i k)).set i (bitsI .or .i64 ((rowsOf n (mixF f g i k)).getD i 0) (power ((k : Nat) : Int))) = rowsOf n (mixF f g i (k + 1)) := by
  rw [rowsOf_get _ hi, mask_set hn hk]
  apply List.ext_getElem
  · simp [rowsOf]
  · intro j h1 h2
    simp only [List.getElem_set, rowsOf, List.getElem_map, List.getElem_range]
    by_cases hj : i = j
    · subst hj
      rw [if_pos rfl, mask_inj]
      intro m hm
      unfold mixF
      by_cases hmk : m = k
      · subst hmk; simp [hg]
      · by_cases hlt : m < k
        · rw [if_pos (Or.inr ⟨rfl, hlt⟩), if_pos (Or.inr ⟨rfl, by omega⟩)]; simp [hmk]
        · rw [if_neg (by omega), if_neg (by omega)]; simp [hmk]
    · rw [if_neg hj, mask_inj]
      intro m hm
      unfold mixF
      by_cases hlt : j < i
      · rw [if_pos (Or.inl hlt), if_pos (Or.inl hlt)]
      · rw [if_neg (by omega), if_neg (by omega)]
theorem rows_zero (n : Nat) (h : List CallD) : List.replicate n 0 = rowsOf n (quietT h 0) := by
  apply List.ext_getElem
  · simp [rowsOf]
  · intro i h1 h2
    simp only [List.getElem_replicate, rowsOf, List.getElem_map, List.getElem_range]
    have : mask n (quietT h 0 i) = mask n (fun _ => false) := mask_inj.2 (fun k _ => rfl)
    rw [this]
    clear this h1 h2
    induction n with
    | zero => rfl
    | succ n ih => rw [mask_skip rfl]; exact ih
/-- What the reference's flag says: a call is open at the time. -/
def openB (h : List CallD) (t : Int) (n : Nat) : Bool := anyN n (fun j => openP t (callAt h j))
theorem openB_zero {h : List CallD} {t : Int} : openB h t h.length = true ↔ ¬ openAt h t = 0 := by
  unfold openB openAt
  rw [anyN_iff', count_range]
  constructor
  · rintro ⟨j, hj, hp⟩ he
    have h0 := List.countP_eq_zero.1 (show (List.range h.length).countP (fun i => openP t (callAt h i)) = 0 by omega) j (List.mem_range.2 hj)
    exact h0 hp
  · intro hne
    refine Classical.byContradiction fun hn => hne ?_
    rw [List.countP_eq_zero.2 (fun j hj hp => hn ⟨j, List.mem_range.1 hj, hp⟩)]; rfl
theorem quietT_succ (h : List CallD) (t i k : Nat) : quietT h (t + 1) i k = (quietT h t i k || qtP h i k t) := anyN_succ _ _
theorem quiet_open {h : List CallD} {t n : Nat} (ho : openB h ((t : Nat) : Int) h.length = true) : rowsOf n (quietT h t) = rowsOf n (quietT h (t + 1)) := rowsOf_congr (fun j m _ _ => by
  rw [quietT_succ]
  have : qtP h j m t = false := by
    unfold qtP
    rw [decide_eq_false (openB_zero.1 ho), Bool.and_false]
  rw [this, Bool.or_false])
theorem qt_yes {h : List CallD} {t i k : Nat} (ho : openB h ((t : Nat) : Int) h.length = false) (hc : (decide ((h.getD k default).to ≤ ((t : Nat) : Int)) && decide (((t : Nat) : Int) < (h.getD i default).frm)) = true) : quietT h (t + 1) i k = true := by
  rw [quietT_succ]
  have h0 : openAt h ((t : Nat) : Int) = 0 := Classical.byContradiction fun hn => by rw [openB_zero.2 hn] at ho; cases ho
  unfold qtP callAt
  rw [hc, decide_eq_true h0]; simp
theorem qt_no {h : List CallD} {t i k : Nat} (hc : (decide ((h.getD k default).to ≤ ((t : Nat) : Int)) && decide (((t : Nat) : Int) < (h.getD i default).frm)) = false) : quietT h t i k = quietT h (t + 1) i k := by
  rw [quietT_succ]
  unfold qtP callAt
  rw [hc]; simp
theorem openB_succ {h : List CallD} {t : Int} {n : Nat} {b : Bool} (hb : (openB h t n || (decide ((h.getD n default).frm ≤ t) && decide (t < (h.getD n default).to))) = b) : b = openB h t (n + 1) := by
  unfold openB at *
  rw [anyN_succ, ← hb]; rfl
theorem quiet_fin {h : List CallD} {t : Nat} (ht : t = 31) : rowsOf h.length (quietT h t) = rowsOf h.length (quietF h) := by subst ht; rfl
theorem mix_out {h : List CallD} {t i : Nat} (hx : (decide (((i : Nat) : Int) < ((h.length : Nat) : Int)) && !openB h ((t : Nat) : Int) h.length) = false) : rowsOf h.length (mixF (quietT h t) (quietT h (t + 1)) i 0) = rowsOf h.length (quietT h (t + 1)) := by
  cases ho : openB h ((t : Nat) : Int) h.length with
  | false =>
    rw [ho] at hx
    simp only [Bool.not_false, Bool.and_true, decide_eq_false_iff_not] at hx
    exact mix_end (by omega)
  | true =>
    apply rowsOf_congr
    intro j m _ _
    unfold mixF
    rw [quietT_succ]
    have : qtP h j m t = false := by
      unfold qtP
      rw [decide_eq_false (openB_zero.1 ho), Bool.and_false]
    rw [this, Bool.or_false]; simp
/-! ### The law -/
theorem quiet_eq {h : List CallD} (hv : validHistory h = true) : quietAhead h = rowsOf h.length (quietF h) := by unfold quietAhead; rw [hv]; rfl
theorem quiet_len {h : List CallD} (hv : validHistory h = true) : (quietAhead h).length = h.length := by rw [quiet_eq hv, rowsOf_len]
theorem quiet_sub {h : List CallD} (hv : validHistory h = true) {i : Nat} (hi : i < h.length) : bitsI .and .i64 ((aheadOf h).getD i 0) ((quietAhead h).getD i 0) = (quietAhead h).getD i 0 := by
  rw [ahead_eq hv, quiet_eq hv, rowsOf_get _ hi, rowsOf_get _ hi]
  refine mask_sub' (by have := (valid_iff.1 hv).1; omega) (fun k hk hq => ?_)
  obtain ⟨t, _, h1, h2, _⟩ := quiet_iff.1 hq
  simp only [aheadF, isBefore, decide_eq_true_eq]
  omega
theorem quiet_one {h : List CallD} (ho : oneByOne h = true) : quietAhead h = aheadOf h := by
  unfold oneByOne at ho
  simp only [Bool.and_eq_true, allN_iff, Bool.not_eq_true'] at ho
  obtain ⟨h1, hv⟩ := ho
  rw [ahead_eq hv, quiet_eq hv]
  apply rowsOf_congr
  intro i k hi hk
  apply bool_ext
  rw [quiet_iff]
  simp only [aheadF, isBefore, decide_eq_true_eq]
  constructor
  · rintro ⟨t, _, h2, h3, _⟩; omega
  · intro hlt
    have hk2 := call_ok hv hk
    refine ⟨(callAt h k).to.toNat, by omega, by omega, by omega, ?_⟩
    rw [show (((callAt h k).to.toNat : Nat) : Int) = (callAt h k).to by omega]
    unfold openAt
    rw [count_range, List.countP_eq_zero.2]
    · rfl
    · intro j hj hp
      have hj' := List.mem_range.1 hj
      simp only [openP, Bool.and_eq_true, decide_eq_true_eq] at hp
      have hj2 := call_ok hv hj'
      have hne : j ≠ k := fun e => by subst e; omega
      have hov : doOverlap (callAt h j) (callAt h k) = true ∧ doOverlap (callAt h k) (callAt h j) = true := by
        rw [overlap_iff, overlap_iff]; omega
      rcases Nat.lt_or_gt_of_ne hne with hl | hl
      · rw [h1 k hk j hl] at hov; exact absurd hov.2 (by simp)
      · rw [h1 j hj' k hl] at hov; exact absurd hov.1 (by simp)
theorem quiet_bnd {h : List CallD} (hv : validHistory h = true) (i : Nat) : 0 ≤ (quietAhead h).getD i 0 ∧ (quietAhead h).getD i 0 ≤ 4611686018427387904 := by
  rw [quiet_eq hv]; exact rows_bnd _ (by have := (valid_iff.1 hv).1; omega) i
end Go.Ab

set_option linter.unusedSimpArgs false
set_option linter.unusedVariables false
namespace Go.Ab
/-! ### Places in a row -/
def findI (l : List Int) (x : Int) : Int := match fIdx l.length (fun i => decide (l.getD i 0 = x)) with
  | some k => ((k : Nat) : Int)
  | none => -1
theorem findI_yes {l : List Int} {x : Int} {i : Nat} (hi : i < l.length) (h : x = l.getD i 0) (hn : ∀ j, j < i → ¬ l.getD j 0 = x) : findI l x = ((i : Nat) : Int) := by
  unfold findI
  rw [fIdx_some hi (decide_eq_true h.symm) (fun j hj => decide_eq_false (hn j hj))]
theorem findI_no {l : List Int} {x : Int} (hn : ∀ j, j < l.length → ¬ l.getD j 0 = x) : findI l x = -1 := by
  unfold findI
  rw [fIdx_none (fun j hj => decide_eq_false (hn j hj))]
theorem findI_has (l : List Int) (x : Int) : decide (0 ≤ findI l x) = hasInt l x := by
  unfold findI hasInt
  cases hf : fIdx l.length (fun i => decide (l.getD i 0 = x)) with
  | some k =>
    have := fIdx_lt hf
    rw [anyN_true this.1 this.2]
    exact decide_eq_true (show (0 : Int) ≤ ((k : Nat) : Int) by omega)
  | none =>
    rw [anyN_false (fIdx_no hf)]; decide
theorem hasInt_mem {l : List Int} {x : Int} : hasInt l x = true ↔ x ∈ l := by
  unfold hasInt
  rw [anyN_iff', List.mem_iff_getElem]
  constructor
  · rintro ⟨i, hi, hp⟩
    rw [decide_eq_true_eq, List.getD_eq_getElem?_getD, List.getElem?_eq_getElem hi] at hp
    exact ⟨i, hi, hp⟩
  · rintro ⟨i, hi, hp⟩
    refine ⟨i, hi, ?_⟩
    rw [decide_eq_true_eq, List.getD_eq_getElem?_getD, List.getElem?_eq_getElem hi]
    exact hp
/-! ### Orders -/
def ordOK (l : List Int) (n : Int) (i : Nat) : Bool := within (l.getD i 0) 0 (n - 1) && !hasInt (l.take i) (l.getD i 0)
def isOrd (l : List Int) (n : Int) : Bool := allN l.length (ordOK l n) && decide (((l.length : Nat) : Int) = n)
def curF (h : List CallD) (l : List Int) : Nat → Int
  | 0 => 0
  | i + 1 => max (curF h l i) (callAt h (l.getD i 0).toNat).frm
def ptOK (h : List CallD) (l : List Int) (i : Nat) : Bool := decide (curF h l (i + 1) < (callAt h (l.getD i 0).toNat).to)
def pts (h : List CallD) (l : List Int) (i : Nat) : List Int := (List.range i).map fun j => curF h l (j + 1)
def pointsR (h : List CallD) (l : List Int) : List Int × Bool := bif allN l.length (ptOK h l) then (pts h l l.length, true) else ([], false)
def pointsOf (h : List CallD) (l : List Int) : List Int × Bool := bif validHistory h && isOrd l ((h.length : Nat) : Int) then pointsR h l else ([], false)
theorem pts_len (h : List CallD) (l : List Int) (i : Nat) : (pts h l i).length = i := by simp [pts]
theorem pts_succ (h : List CallD) (l : List Int) (i : Nat) : pts h l (i + 1) = pts h l i ++ [curF h l (i + 1)] := by
  unfold pts; rw [List.range_succ, List.map_append]; rfl
theorem pts_get {h : List CallD} {l : List Int} {n i : Nat} (hi : i < n) : (pts h l n).getD i 0 = curF h l (i + 1) := by
  simp [pts, List.getD_eq_getElem?_getD, hi]
theorem isOrd_range {l : List Int} {n : Int} (ho : isOrd l n = true) {i : Nat} (hi : i < l.length) : 0 ≤ l.getD i 0 ∧ l.getD i 0 < n ∧ ((l.length : Nat) : Int) = n := by
  unfold isOrd at ho
  simp only [Bool.and_eq_true, allN_iff, decide_eq_true_eq] at ho
  have := and_l (ho.1 i hi)
  rw [inRange_iff] at this
  omega
theorem curF_bnd {h : List CallD} {l : List Int} (hv : validHistory h = true) (hr : ∀ i, i < l.length → 0 ≤ l.getD i 0 ∧ l.getD i 0 < ((h.length : Nat) : Int)) {i : Nat} (hi : i ≤ l.length) : 0 ≤ curF h l i ∧ curF h l i ≤ 30 := by
  induction i with
  | zero => simp [curF]
  | succ i ih =>
    have h1 := ih (by omega)
    have h2 := hr i (by omega)
    have h3 := call_ok hv (i := (l.getD i 0).toNat) (by omega)
    simp only [curF]; omega
theorem points_1 {h : List CallD} {l : List Int} (hb : ((!validHistory h) || (!isOrd l ((h.length : Nat) : Int))) = true) : pointsOf h l = ([], false) := by
  unfold pointsOf
  cases h1 : validHistory h <;> cases h2 : isOrd l ((h.length : Nat) : Int) <;> simp_all
theorem points_2 {h : List CallD} {l : List Int} (hb : ((!validHistory h) || (!isOrd l ((h.length : Nat) : Int))) = false) : pointsOf h l = pointsR h l := by
  unfold pointsOf
  cases h1 : validHistory h <;> cases h2 : isOrd l ((h.length : Nat) : Int) <;> simp_all
theorem points_no {h : List CallD} {l : List Int} {i : Nat} (hi : i < l.length) (hb : ptOK h l i = false) : pointsR h l = ([], false) := by
  unfold pointsR; rw [allN_false hi hb]; rfl
theorem points_yes {h : List CallD} {l : List Int} {n : Nat} (hn : n = l.length) (hA : ∀ j, j < n → ptOK h l j = true) : pointsR h l = (pts h l n, true) := by
  subst hn; unfold pointsR; rw [allN_true hA]; rfl
/-! ### What the generator makes -/
def GoodO (l : List Int) (n : Nat) : Prop := l.length = n ∧ (∀ x ∈ l, 0 ≤ x ∧ x < ((n : Nat) : Int)) ∧ l.Nodup
theorem GoodO.nil : GoodO [] 0 := ⟨rfl, by simp, List.nodup_nil⟩
theorem GoodO.put {l : List Int} {n : Nat} (h : GoodO l n) (k : Nat) : GoodO (l.take k ++ [((n : Nat) : Int)] ++ l.drop k) (n + 1) := by
  obtain ⟨h1, h2, h3⟩ := h
  refine ⟨by simp only [List.length_append, List.length_take, List.length_drop, List.length_cons, List.length_nil]; omega, fun x hx => ?_, ?_⟩
  · simp only [List.mem_append, List.mem_cons, List.not_mem_nil, or_false] at hx
    rcases hx with (hx | hx) | hx
    · have := h2 x (List.mem_of_mem_take hx); omega
    · omega
    · have := h2 x (List.mem_of_mem_drop hx); omega
  · have hn : ((n : Nat) : Int) ∉ l := fun hm => by have := h2 _ hm; omega
    have hp : (l.take k ++ [((n : Nat) : Int)] ++ l.drop k).Perm (((n : Nat) : Int) :: l) := by
      rw [List.append_assoc, List.singleton_append]
      refine List.perm_middle.trans ?_
      rw [List.take_append_drop]
    exact hp.nodup_iff.2 (List.nodup_cons.2 ⟨hn, h3⟩)
theorem nodup_at {l : List Int} (hd : l.Nodup) {i j : Nat} (hi : i < l.length) (hj : j < l.length) (he : l[i] = l[j]) : i = j := by
  have hp := List.pairwise_iff_getElem.1 hd
  rcases Nat.lt_trichotomy i j with h | h | h
  · exact absurd he (hp i j hi hj h)
  · exact h
  · exact absurd he.symm (hp j i hj hi h)
theorem pigeon (n : Nat) : ∀ l : List Int, l.Nodup → (∀ x ∈ l, 0 ≤ x ∧ x < ((n : Nat) : Int)) → l.length ≤ n := by
  induction n with
  | zero =>
    intro l _ hr
    cases l with
    | nil => simp
    | cons a l => have := hr a (List.mem_cons_self ..); omega
  | succ n ih =>
    intro l hd hr
    have h1 := ih (l.erase ((n : Nat) : Int)) (hd.erase _) (fun x hx => by
      have hm := (List.Nodup.mem_erase_iff hd).1 hx
      have := hr x hm.2
      have := hm.1
      omega)
    have h2 := List.length_erase (l := l) (a := ((n : Nat) : Int))
    split at h2 <;> omega
/-! ### The law -/
def doneF (l : List Int) (i : Nat) (k : Nat) : Bool := hasInt (l.take i) ((k : Nat) : Int)
theorem power_nat (k : Nat) : power ((k : Nat) : Int) = ((2 ^ k : Nat) : Int) := by unfold power; rw [Int.toNat_natCast]
theorem mask_plus {n k : Nat} (hk : k < n) {p : Nat → Bool} (hp : p k = false) : mask n p + ((2 ^ k : Nat) : Int) = mask n (fun m => p m || decide (m = k)) := by
  unfold mask
  have : maskN n p + 2 ^ k = maskN n (fun m => p m || decide (m = k)) := by
    induction n with
    | zero => omega
    | succ n ih =>
      rw [maskN_succ, maskN_succ]
      by_cases hkn : k = n
      · subst hkn
        rw [hp]
        have : maskN k p = maskN k (fun m => p m || decide (m = k)) := by
          apply Nat.eq_of_testBit_eq
          intro i
          rw [maskN_bit, maskN_bit]
          by_cases hi : i < k
          · simp [hi, show ¬ i = k by omega]
          · simp [hi]
        rw [this]; simp
      · have h1 := ih (by omega)
        have h2 : (p n || decide (n = k)) = p n := by rw [decide_eq_false (show ¬ n = k by omega), Bool.or_false]
        rw [h2, ← h1]; omega
  omega
theorem getD_nodup {l : List Int} (hd : l.Nodup) {i : Nat} (hi : i < l.length) : hasInt (l.take i) (l.getD i 0) = false := by
  cases hh : hasInt (l.take i) (l.getD i 0) with
  | false => rfl
  | true =>
    have := hasInt_mem.1 hh
    rw [List.getD_eq_getElem?_getD, List.getElem?_eq_getElem hi, Option.getD_some] at this
    obtain ⟨j, hj, he⟩ := List.mem_iff_getElem.1 this
    rw [List.length_take] at hj
    rw [List.getElem_take] at he
    have := nodup_at hd (by omega) (by omega) he
    omega
theorem mask_zero (n : Nat) {p : Nat → Bool} (h : ∀ k, k < n → p k = false) : mask n p = 0 := by
  have : mask n p = mask n (fun _ => false) := mask_inj.2 h
  rw [this]
  clear this h
  induction n with
  | zero => rfl
  | succ n ih => rw [mask_skip rfl]; exact ih
theorem done_zero (l : List Int) (n : Nat) : mask n (doneF l 0) = 0 := mask_zero n (fun _ _ => rfl)
theorem has_take {l : List Int} {i : Nat} (hi : i < l.length) (x : Int) : hasInt (l.take (i + 1)) x = (hasInt (l.take i) x || decide (x = l.getD i 0)) := by
  apply bool_ext
  rw [Bool.or_eq_true, hasInt_mem, hasInt_mem, List.take_succ_eq_append_getElem hi, List.mem_append, decide_eq_true_eq, List.getD_eq_getElem?_getD, List.getElem?_eq_getElem hi]
  simp
theorem done_next {l : List Int} {n i : Nat} (hd : l.Nodup) (hi : i < l.length) (h0 : 0 ≤ l.getD i 0) (hn : l.getD i 0 < ((n : Nat) : Int)) : mask n (doneF l i) + power (l.getD i 0) = mask n (doneF l (i + 1)) := by
  rw [show l.getD i 0 = (((l.getD i 0).toNat : Nat) : Int) by omega, power_nat, mask_plus (by omega) (by unfold doneF; rw [show (((l.getD i 0).toNat : Nat) : Int) = l.getD i 0 by omega]; exact getD_nodup hd hi), mask_inj]
  intro k _
  unfold doneF
  rw [has_take hi]
  congr 1
  exact bool_ext (by simp only [decide_eq_true_eq]; omega)
def goodF (h : List CallD) (l : List Int) (i : Nat) : Bool := decide (bitsI .and .i64 ((aheadOf h).getD (l.getD i 0).toNat 0) (mask h.length (doneF l i)) = (aheadOf h).getD (l.getD i 0).toNat 0)
theorem good_iff {h : List CallD} {l : List Int} (hv : validHistory h = true) {i : Nat} (h0 : 0 ≤ l.getD i 0) (hn : l.getD i 0 < ((h.length : Nat) : Int)) :
    goodF h l i = true ↔ ∀ k, k < h.length → (callAt h k).to < (callAt h (l.getD i 0).toNat).frm → ((k : Nat) : Int) ∈ l.take i := by
  unfold goodF
  rw [decide_eq_true_eq, ahead_get hv (by omega), and_mask (by have := (valid_iff.1 hv).1; omega), mask_inj]
  constructor
  · intro hA k hk hlt
    have := hA k hk
    simp only [aheadF, isBefore] at this
    rw [decide_eq_true hlt, Bool.true_and] at this
    exact hasInt_mem.1 this
  · intro hA k hk
    cases hb : aheadF h (l.getD i 0).toNat k with
    | false => rfl
    | true =>
      rw [Bool.true_and]
      exact hasInt_mem.2 (hA k hk (bef_iff.1 hb))
theorem curF_ge {h : List CallD} {l : List Int} {i j : Nat} (hj : j < i) : (callAt h (l.getD j 0).toNat).frm ≤ curF h l i := by
  induction i with
  | zero => omega
  | succ i ih =>
    simp only [curF]
    by_cases hji : j = i
    · subst hji; omega
    · have := ih (by omega); omega
theorem curF_of {h : List CallD} {l : List Int} {i : Nat} (h0 : 0 < curF h l i) : ∃ j, j < i ∧ curF h l i = (callAt h (l.getD j 0).toNat).frm := by
  induction i with
  | zero => simp [curF] at h0
  | succ i ih =>
    simp only [curF] at h0 ⊢
    by_cases hc : curF h l i ≤ (callAt h (l.getD i 0).toNat).frm
    · exact ⟨i, by omega, by omega⟩
    · obtain ⟨j, h1, h2⟩ := ih (by omega)
      exact ⟨j, by omega, by omega⟩
/-- A row without the same twice, within a bound that is its length, has all below it. -/
theorem full {l : List Int} (hd : l.Nodup) {n : Nat} (hn : l.length = n) (hr : ∀ x ∈ l, 0 ≤ x ∧ x < ((n : Nat) : Int)) (k : Nat) (hk : k < n) : ((k : Nat) : Int) ∈ l := by
  refine Classical.byContradiction fun hm => ?_
  have hd2 : (((k : Nat) : Int) :: l).Nodup := List.nodup_cons.2 ⟨hm, hd⟩
  have := pigeon n _ hd2 (fun x hx => by
    rcases List.mem_cons.1 hx with rfl | hx
    · omega
    · exact hr x hx)
  simp at this
  omega
theorem points_law {h : List CallD} {l : List Int} (hv : validHistory h = true) (hg : GoodO l h.length) : (pointsOf h l).2 = allN l.length (goodF h l) := by
  obtain ⟨hl, hr, hd⟩ := hg
  have hr' : ∀ i, i < l.length → 0 ≤ l.getD i 0 ∧ l.getD i 0 < ((h.length : Nat) : Int) := fun i hi => hr _ (getD_mem l 0 hi)
  have ho : isOrd l ((h.length : Nat) : Int) = true := by
    unfold isOrd ordOK
    refine and_t (allN_true fun i hi => ?_) (decide_eq_true (by omega))
    have := hr' i hi
    exact and_t (inRange_iff.2 (by omega)) (not_t (getD_nodup hd hi))
  have e : (pointsOf h l).2 = allN l.length (ptOK h l) := by
    unfold pointsOf pointsR
    rw [hv, ho]
    cases allN l.length (ptOK h l) <;> rfl
  rw [e]
  apply bool_ext
  rw [allN_iff, allN_iff]
  constructor
  · intro hA i hi
    have hri := hr' i hi
    rw [good_iff hv hri.1 hri.2]
    intro k hk hlt
    obtain ⟨j, hj, he⟩ := List.mem_iff_getElem.1 (full hd hl hr k hk)
    have hej : l.getD j 0 = ((k : Nat) : Int) := by rw [List.getD_eq_getElem?_getD, List.getElem?_eq_getElem hj]; exact he
    by_cases hji : j < i
    · rw [← he]
      exact List.mem_iff_getElem.2 ⟨j, by rw [List.length_take]; omega, by rw [List.getElem_take]⟩
    · have h1 := of_decide_eq_true (hA j hj)
      have h2 := curF_ge (h := h) (l := l) (i := j + 1) (j := i) (by omega)
      rw [hej, Int.toNat_natCast] at h1
      omega
  · intro hA i hi
    have hri := hr' i hi
    apply decide_eq_true
    refine Classical.byContradiction fun hn => ?_
    have hci := call_ok hv (i := (l.getD i 0).toNat) (by omega)
    obtain ⟨j, hj, he⟩ := curF_of (h := h) (l := l) (i := i + 1) (by omega)
    have hrj := hr' j (by omega)
    by_cases hji : j = i
    · subst hji; omega
    · have hne : ((l.getD i 0).toNat) ≠ (l.getD j 0).toNat := by
        intro hh
        have : l.getD i 0 = l.getD j 0 := by omega
        rw [List.getD_eq_getElem?_getD, List.getElem?_eq_getElem hi, List.getD_eq_getElem?_getD, List.getElem?_eq_getElem (show j < l.length by omega)] at this
        have := nodup_at hd (by omega) (by omega) this
        omega
      have hcl := not_clash hv (i := (l.getD i 0).toNat) (k := (l.getD j 0).toNat) (by omega) (by omega) hne
      have h2 := (good_iff hv hrj.1 hrj.2).1 (hA j (by omega)) (l.getD i 0).toNat (by omega) (by omega)
      rw [show (((l.getD i 0).toNat : Nat) : Int) = l.getD i 0 by omega] at h2
      have h3 : hasInt (l.take i) (l.getD i 0) = true := by
        rw [hasInt_mem]
        exact List.mem_of_mem_take (i := j) (by rw [List.take_take, Nat.min_eq_left (by omega)]; exact h2)
      rw [getD_nodup hd hi] at h3; cases h3
theorem points_shape {h : List CallD} {l : List Int} (hp : 0 < (pointsOf h l).1.length) : pointsOf h l = (pts h l l.length, true) ∧ allN l.length (ptOK h l) = true ∧ (pointsOf h l).1.length = l.length := by
  unfold pointsOf pointsR at *
  cases h1 : validHistory h && isOrd l ((h.length : Nat) : Int) with
  | false => rw [h1] at hp; simp at hp
  | true =>
    cases h2 : allN l.length (ptOK h l) with
    | false => rw [h1, h2] at hp; simp at hp
    | true => simp [pts_len]
theorem points_in {h : List CallD} {l : List Int} {j : Nat} (hj : j < (pointsOf h l).1.length) : (callAt h (l.getD j 0).toNat).frm ≤ (pointsOf h l).1.getD j 0 ∧ (pointsOf h l).1.getD j 0 < (callAt h (l.getD j 0).toNat).to ∧ (0 < j → (pointsOf h l).1.getD (j - 1) 0 ≤ (pointsOf h l).1.getD j 0) ∧ j < l.length := by
  obtain ⟨h1, h2, h3⟩ := points_shape (h := h) (l := l) (by omega)
  have hjl : j < l.length := by omega
  have h4 := of_decide_eq_true (allN_get h2 j hjl)
  rw [h1]
  simp only
  rw [pts_get hjl]
  refine ⟨by simp only [curF]; omega, h4, fun h0 => ?_, hjl⟩
  rw [pts_get (by omega), show j - 1 + 1 = j by omega]
  simp only [curF]; omega
theorem points_len_le {h : List CallD} {l : List Int} : (pointsOf h l).1.length ≤ l.length := by
  by_cases h0 : 0 < (pointsOf h l).1.length
  · have := (points_shape h0).2.2; omega
  · omega
theorem allN_succ (n : Nat) (p : Nat → Bool) : allN (n + 1) p = (allN n p && p n) := by
  apply bool_ext
  rw [Bool.and_eq_true, allN_iff, allN_iff]
  constructor
  · exact fun h => ⟨fun j hj => h j (by omega), h n (by omega)⟩
  · rintro ⟨h1, h2⟩ j hj
    by_cases hn : j = n
    · subst hn; exact h2
    · exact h1 j (by omega)
theorem ord_no {l : List Int} {n : Int} {i : Nat} (hi : i < l.length) (hb : ((!within (l.getD i 0) 0 (n - 1)) || hasInt (l.take i) (l.getD i 0)) = true) : isOrd l n = false := by
  unfold isOrd
  refine and_fl (allN_false hi ?_)
  unfold ordOK
  cases h1 : within (l.getD i 0) 0 (n - 1) <;> cases h2 : hasInt (l.take i) (l.getD i 0) <;> simp_all
theorem ord_ok {l : List Int} {n : Int} {i : Nat} (hb : ((!within (l.getD i 0) 0 (n - 1)) || hasInt (l.take i) (l.getD i 0)) = false) : ordOK l n i = true := by
  unfold ordOK
  cases h1 : within (l.getD i 0) 0 (n - 1) <;> cases h2 : hasInt (l.take i) (l.getD i 0) <;> simp_all
theorem ord_end {l : List Int} {n : Int} (hA : ∀ j, j < l.length → ordOK l n j = true) : decide (((l.length : Nat) : Int) = n) = isOrd l n := by
  unfold isOrd; rw [allN_true hA, Bool.true_and]
theorem pt_cond {h : List CallD} {l : List Int} {g : List CallD} {x : Int} (hx : 0 ≤ x) : True := trivial
end Go.Ab

set_option linter.unusedSimpArgs false
set_option linter.unusedVariables false
namespace Go.Ab
/-! ### Copies -/
def firstI (n : Nat) (p : Nat → Bool) : Int := match fIdx n p with
  | some k => ((k : Nat) : Int)
  | none => -1
theorem firstI_yes {n i : Nat} {p : Nat → Bool} (hi : i < n) (hp : p i = true) (hn : ∀ j, j < i → p j = false) : firstI n p = ((i : Nat) : Int) := by unfold firstI; rw [fIdx_some hi hp hn]
theorem firstI_no {n : Nat} {p : Nat → Bool} (hn : ∀ j, j < n → p j = false) : firstI n p = -1 := by unfold firstI; rw [fIdx_none hn]
theorem firstI_has (n : Nat) (p : Nat → Bool) : decide (0 ≤ firstI n p) = anyN n p := by
  unfold firstI
  cases hf : fIdx n p with
  | some k =>
    have := fIdx_lt hf
    rw [anyN_true this.1 this.2]
    exact decide_eq_true (show (0 : Int) ≤ ((k : Nat) : Int) by omega)
  | none => rw [anyN_false (fIdx_no hf)]; decide
def cmpI (a b : Int) : Int := bif decide (a < b) then -1 else bif decide (b < a) then 1 else 0
def orI : List Int → Int
  | [] => 0
  | x :: l => bif decide (x ≠ 0) then x else orI l
def orFrom (l : List Int) (i : Nat) : Int := orI (l.drop i)
theorem orFrom_yes {l : List Int} {i : Nat} (hi : i < l.length) (h : l.getD i 0 ≠ 0) : orFrom l i = l.getD i 0 := by
  unfold orFrom
  rw [List.drop_eq_getElem_cons hi]
  simp only [orI]
  rw [List.getD_eq_getElem?_getD, List.getElem?_eq_getElem hi] at *
  simp only [Option.getD_some] at *
  rw [decide_eq_true h]; rfl
theorem orFrom_no {l : List Int} {i : Nat} (hi : i < l.length) (h : ¬ l.getD i 0 ≠ 0) : orFrom l i = orFrom l (i + 1) := by
  unfold orFrom
  rw [List.drop_eq_getElem_cons hi]
  simp only [orI]
  rw [List.getD_eq_getElem?_getD, List.getElem?_eq_getElem hi] at h
  simp only [Option.getD_some] at h
  rw [decide_eq_false h]; rfl
theorem orFrom_end {l : List Int} {i : Nat} (hi : ¬ i < l.length) : orFrom l i = 0 := by
  unfold orFrom; rw [List.drop_eq_nil_of_le (by omega)]; rfl
def isMark (m : MarkD) : Bool := (within m.value 0 3 && within m.proc 0 2) && within m.number 1 20
def lessM (a b : MarkD) : Bool := bif decide (a.proc ≠ b.proc) then decide (a.proc < b.proc) else decide (a.number < b.number)
def cmpM (a b : MarkD) : Int := orI [cmpI a.proc b.proc, cmpI a.number b.number]
theorem cmpM_less (a b : MarkD) : decide (0 ≤ cmpM a b) = !lessM a b := by
  unfold cmpM lessM cmpI
  simp only [orI]
  rcases Int.lt_trichotomy a.proc b.proc with h | h | h
  · simp [h, show a.proc ≠ b.proc by omega]
  · rcases Int.lt_trichotomy a.number b.number with g | g | g
    · simp [h, g]
    · simp [h, g]
    · simp [h, g, show ¬ a.number < b.number by omega]
  · simp [h, show ¬ a.proc < b.proc by omega, show a.proc ≠ b.proc by omega]
def markAt (l : List MarkD) (i : Nat) : MarkD := l.getD i default
def markOK (l : List MarkD) (i : Nat) : Bool := isMark (markAt l i) && (decide (i = 0) || lessM (markAt l (i - 1)) (markAt l i))
def marksOK (l : List MarkD) : Bool := allN l.length (markOK l)
def stampOK (c : CopyD) : Bool := ((within c.value 0 3 && within c.time 0 30) && within c.proc 0 2) && (decide (0 < c.time) || (decide (c.value = 0) && decide (c.proc = 0)))
def countsOK (l : List Int) : Bool := decide (l.length = 3) && allN l.length (fun i => within (l.getD i 0) 0 20)
def validCopy (c : CopyD) : Bool := ((countsOK c.up && countsOK c.down) && stampOK c) && (marksOK c.marks && decide (c.marks.length ≤ 20))
theorem counts_impl (l : List Int) : (decide (((l.length : Nat) : Int) = 3) && !anyN l.length (fun i => !within (l.getD i 0) 0 20)) = countsOK l := by
  unfold countsOK
  rw [show decide (((l.length : Nat) : Int) = 3) = decide (l.length = 3) from bool_ext (by simp only [decide_eq_true_eq]; omega)]
  congr 1
  apply bool_ext
  rw [Bool.not_eq_true', allN_iff]
  constructor
  · intro h j hj
    cases hw : within (l.getD j 0) 0 20 with
    | true => rfl
    | false => rw [anyN_true hj (by rw [hw]; rfl)] at h; cases h
  · intro h; exact anyN_false (fun j hj => by rw [h j hj]; rfl)
theorem counts_iff {l : List Int} : countsOK l = true ↔ l.length = 3 ∧ ∀ i, i < 3 → 0 ≤ l.getD i 0 ∧ l.getD i 0 ≤ 20 := by
  unfold countsOK
  simp only [Bool.and_eq_true, decide_eq_true_eq, allN_iff, inRange_iff]
  constructor
  · rintro ⟨h1, h2⟩; exact ⟨h1, fun i hi => h2 i (by omega)⟩
  · rintro ⟨h1, h2⟩; exact ⟨h1, fun i hi => h2 i (by omega)⟩
theorem stamp_iff {c : CopyD} : stampOK c = true ↔ (0 ≤ c.value ∧ c.value ≤ 3) ∧ (0 ≤ c.time ∧ c.time ≤ 30) ∧ (0 ≤ c.proc ∧ c.proc ≤ 2) ∧ (0 < c.time ∨ (c.value = 0 ∧ c.proc = 0)) := by
  unfold stampOK; simp [inRange_iff, and_assoc]
theorem copy_iff {c : CopyD} : validCopy c = true ↔ countsOK c.up = true ∧ countsOK c.down = true ∧ stampOK c = true ∧ marksOK c.marks = true ∧ c.marks.length ≤ 20 := by
  unfold validCopy; simp [and_assoc]
theorem mark_bad {l : List MarkD} {i : Nat} (hi : i < l.length) (hb : markOK l i = false) : marksOK l = false := allN_false hi hb
theorem valid_marks {c : CopyD} (h : marksOK c.marks = false) : validCopy c = false := by unfold validCopy; rw [h]; simp
/-! impl's -/
theorem markI_ok {l : List MarkD} {i : Nat} (hb : ((!isMark (l.getD i default)) || (decide (((i : Nat) : Int) > 0) && !lessM (l.getD (i - 1) default) (l.getD i default))) = false) : markOK l i = true := by
  unfold markOK markAt
  simp only [Bool.or_eq_false_iff, Bool.not_eq_false', Bool.and_eq_false_iff, decide_eq_false_iff_not] at hb
  rw [hb.1, Bool.true_and]
  rcases hb.2 with h | h
  · rw [decide_eq_true (show i = 0 by omega)]; rfl
  · rw [h]; simp
theorem markI_no {l : List MarkD} {i : Nat} (hb : ((!isMark (l.getD i default)) || (decide (((i : Nat) : Int) > 0) && !lessM (l.getD (i - 1) default) (l.getD i default))) = true) : markOK l i = false := by
  unfold markOK markAt
  simp only [Bool.or_eq_true, Bool.not_eq_true', Bool.and_eq_true, decide_eq_true_eq] at hb
  rcases hb with h | ⟨h1, h2⟩
  · rw [h]; rfl
  · rw [h2, decide_eq_false (show ¬ i = 0 by omega)]; simp
theorem valid_impl {c : CopyD} (hm : marksOK c.marks = true) : ((((countsOK c.up && countsOK c.down) && stampOK c) && decide (((c.marks.length : Nat) : Int) ≤ 20))) = validCopy c := by
  unfold validCopy
  rw [hm, Bool.true_and]
  congr 1
  exact bool_ext (by simp only [decide_eq_true_eq]; omega)
/-! spec's -/
theorem valid_spec1 {c : CopyD} (hb : (((((decide (((c.up.length : Nat) : Int) ≠ 3) || decide (((c.down.length : Nat) : Int) ≠ 3)) || !within c.value 0 3) || !within c.time 0 30) || !within c.proc 0 2) || (decide (c.time = 0) && (decide (c.value ≠ 0) || decide (c.proc ≠ 0)))) = true) : validCopy c = false := by
  cases hv : validCopy c with
  | false => rfl
  | true =>
    have h := copy_iff.1 hv
    have h1 := counts_iff.1 h.1
    have h2 := counts_iff.1 h.2.1
    have h3 := stamp_iff.1 h.2.2.1
    have e1 : within c.value 0 3 = true := inRange_iff.2 h3.1
    have e2 : within c.time 0 30 = true := inRange_iff.2 h3.2.1
    have e3 : within c.proc 0 2 = true := inRange_iff.2 h3.2.2.1
    rw [e1, e2, e3] at hb
    simp only [Bool.not_true, Bool.or_false, Bool.or_eq_true, Bool.and_eq_true, decide_eq_true_eq] at hb
    omega
theorem valid_spec2 {c : CopyD} (hb : (((((decide (((c.up.length : Nat) : Int) ≠ 3) || decide (((c.down.length : Nat) : Int) ≠ 3)) || !within c.value 0 3) || !within c.time 0 30) || !within c.proc 0 2) || (decide (c.time = 0) && (decide (c.value ≠ 0) || decide (c.proc ≠ 0)))) = false) : c.up.length = 3 ∧ c.down.length = 3 ∧ stampOK c = true := by
  simp only [Bool.or_eq_false_iff, Bool.not_eq_false', decide_eq_false_iff_not, Bool.and_eq_false_iff, inRange_iff] at hb
  refine ⟨by omega, by omega, stamp_iff.2 (by omega)⟩
theorem counts_part {l : List Int} (hl : l.length = 3) (hA : ∀ j, j < 3 → within (l.getD j 0) 0 20 = true) : countsOK l = true := counts_iff.2 ⟨hl, fun i hi => inRange_iff.1 (hA i hi)⟩
theorem within_bad {a b : Bool} (h : ((!a) || !b) = false) : a = true ∧ b = true := by cases a <;> cases b <;> simp_all
theorem counts_bad {c : CopyD} {i : Nat} (hu : c.up.length = 3) (hd : c.down.length = 3) (hi : i < 3) (hb : ((!within (c.up.getD i 0) 0 20) || !within (c.down.getD i 0) 0 20) = true) : validCopy c = false := by
  cases hv : validCopy c with
  | false => rfl
  | true =>
    have h := copy_iff.1 hv
    have h1 := (counts_iff.1 h.1).2 i hi
    have h2 := (counts_iff.1 h.2.1).2 i hi
    rw [inRange_iff.2 h1, inRange_iff.2 h2] at hb
    simp at hb
theorem markS_ok {l : List MarkD} {i : Nat} (hb : ((((!within (l.getD i default).value 0 3) || !within (l.getD i default).proc 0 2) || !within (l.getD i default).number 1 20) || (decide (((i : Nat) : Int) > 0) && !lessM (l.getD (i - 1) default) (l.getD i default))) = false) : markOK l i = true := by
  apply markI_ok
  unfold isMark
  rw [← hb]
  cases within (l.getD i default).value 0 3 <;> cases within (l.getD i default).proc 0 2 <;> cases within (l.getD i default).number 1 20 <;> simp
theorem markS_no {l : List MarkD} {i : Nat} (hb : ((((!within (l.getD i default).value 0 3) || !within (l.getD i default).proc 0 2) || !within (l.getD i default).number 1 20) || (decide (((i : Nat) : Int) > 0) && !lessM (l.getD (i - 1) default) (l.getD i default))) = true) : markOK l i = false := by
  apply markI_no
  unfold isMark
  rw [← hb]
  cases within (l.getD i default).value 0 3 <;> cases within (l.getD i default).proc 0 2 <;> cases within (l.getD i default).number 1 20 <;> simp
theorem valid_spec {c : CopyD} (h3 : stampOK c = true) (h1 : countsOK c.up = true) (h2 : countsOK c.down = true) (hm : marksOK c.marks = true) : decide (((c.marks.length : Nat) : Int) ≤ 20) = validCopy c := by
  unfold validCopy
  rw [h1, h2, h3, hm]
  simp only [Bool.and_self, Bool.true_and]
  exact bool_ext (by simp only [decide_eq_true_eq]; omega)
/-! ### Totals -/
def sumN : Nat → (Nat → Int) → Int
  | 0, _ => 0
  | n + 1, f => sumN n f + f n
theorem sumN_bnd {n : Nat} {f : Nat → Int} {b : Int} (h : ∀ i, i < n → -b ≤ f i ∧ f i ≤ b) : -(((n : Nat) : Int) * b) ≤ sumN n f ∧ sumN n f ≤ ((n : Nat) : Int) * b := by
  induction n with
  | zero => simp [sumN]
  | succ n ih =>
    have h1 := ih (fun i hi => h i (by omega))
    have h2 := h n (by omega)
    simp only [sumN]
    rw [show ((n + 1 : Nat) : Int) * b = ((n : Nat) : Int) * b + b by rw [Int.natCast_add, Int.add_mul]; simp]
    omega
def totalOf (c : CopyD) : Int := bif validCopy c then sumN 3 (fun i => c.up.getD i 0 - c.down.getD i 0) else 0
theorem sumN_sub (n : Nat) (f g : Nat → Int) : sumN n (fun i => f i - g i) = sumN n f - sumN n g := by
  induction n with
  | zero => simp [sumN]
  | succ n ih => simp only [sumN]; rw [ih]; omega
theorem up_len {c : CopyD} (hv : validCopy c = true) : c.up.length = 3 ∧ c.down.length = 3 ∧ (∀ i, i < 3 → 0 ≤ c.up.getD i 0 ∧ c.up.getD i 0 ≤ 20) ∧ (∀ i, i < 3 → 0 ≤ c.down.getD i 0 ∧ c.down.getD i 0 ≤ 20) ∧ c.marks.length ≤ 20 := by
  have h := copy_iff.1 hv
  have h1 := counts_iff.1 h.1
  have h2 := counts_iff.1 h.2.1
  exact ⟨h1.1, h2.1, h1.2, h2.2, h.2.2.2.2⟩
theorem sum3_bnd {c : CopyD} (hv : validCopy c = true) {i : Nat} (hi : i ≤ 3) : -60 ≤ sumN i (fun j => c.up.getD j 0 - c.down.getD j 0) ∧ sumN i (fun j => c.up.getD j 0 - c.down.getD j 0) ≤ 60 := by
  obtain ⟨_, _, h1, h2, _⟩ := up_len hv
  have := sumN_bnd (n := i) (f := fun j => c.up.getD j 0 - c.down.getD j 0) (b := 20) (fun j hj => by
    have := h1 j (by omega); have := h2 j (by omega)
    show -20 ≤ c.up.getD j 0 - c.down.getD j 0 ∧ c.up.getD j 0 - c.down.getD j 0 ≤ 20
    omega)
  omega
end Go.Ab

set_option linter.unusedSimpArgs false
set_option linter.unusedVariables false
namespace Go.Ab
def lenTab : ByteArray := ⟨#[0, 1, 2, 2, 3, 3, 3, 3, 4, 4, 4, 4, 4, 4, 4, 4, 5, 5, 5, 5, 5, 5, 5, 5, 5, 5, 5, 5, 5, 5, 5, 5, 6, 6, 6, 6, 6, 6, 6, 6, 6, 6, 6, 6, 6, 6, 6, 6, 6, 6, 6, 6, 6, 6, 6, 6, 6, 6, 6, 6, 6, 6, 6, 6, 7, 7, 7, 7, 7, 7, 7, 7, 7, 7, 7, 7, 7, 7, 7, 7, 7, 7, 7, 7, 7, 7, 7, 7, 7, 7, 7, 7, 7, 7, 7, 7, 7, 7, 7, 7, 7, 7, 7, 7, 7, 7, 7, 7, 7, 7, 7, 7, 7, 7, 7, 7, 7, 7, 7, 7, 7, 7, 7, 7, 7, 7, 7, 7, 8, 8, 8, 8, 8, 8, 8, 8, 8, 8, 8, 8, 8, 8, 8, 8, 8, 8, 8, 8, 8, 8, 8, 8, 8, 8, 8, 8, 8, 8, 8, 8, 8, 8, 8, 8, 8, 8, 8, 8, 8, 8, 8, 8, 8, 8, 8, 8, 8, 8, 8, 8, 8, 8, 8, 8, 8, 8, 8, 8, 8, 8, 8, 8, 8, 8, 8, 8, 8, 8, 8, 8, 8, 8, 8, 8, 8, 8, 8, 8, 8, 8, 8, 8, 8, 8, 8, 8, 8, 8, 8, 8, 8, 8, 8, 8, 8, 8, 8, 8, 8, 8, 8, 8, 8, 8, 8, 8, 8, 8, 8, 8, 8, 8, 8, 8, 8, 8, 8, 8, 8, 8, 8, 8, 8, 8, 8, 8]⟩
def newC : CopyD := ⟨[0, 0, 0], [0, 0, 0], 0, 0, 0, []⟩
theorem newC_valid : validCopy newC = true := by decide +kernel
theorem newC_total : totalOf newC = 0 := by decide +kernel
theorem new_final : ((validCopy newC && decide (totalOf newC = 0)) && decide (((([] : List Int).length : Nat) : Int) = 0)) = true := by rw [newC_valid, newC_total]; rfl
end Go.Ab

set_option linter.unusedSimpArgs false
set_option linter.unusedVariables false
namespace Go.Ab
/-! ### Objects, as impl has them -/
def isSingle (s : ByteArray) : Bool := (eqS s nRegister || eqS s nCounter) || eqS s nMost
def stAt (s : ByteArray) (l : List Int) (i : Nat) : Bool := within (l.getD i 0) 0 20 && (!eqS s nSet || !hasInt (l.take i) (l.getD i 0))
def isSt (s : ByteArray) (l : List Int) : Bool := allN l.length (stAt s l) && (bif isSingle s then decide (((l.length : Nat) : Int) ≤ 1) else decide (((l.length : Nat) : Int) ≤ 20))
def stepOK (s : ByteArray) (l : List Int) (c : CallD) : Bool := (isObject s && isSt s l) && isCall c
def stepObject (s : ByteArray) (l : List Int) (c : CallD) : List Int × Bool := bif stepOK s l c then specStep s l c else ([], false)
def oneOf (l : List Int) : Int := bif decide (((l.length : Nat) : Int) = 1) then l.getD 0 0 else 0
def iSingle (s : ByteArray) (l : List Int) (c : CallD) : List Int × Int :=
  bif decide (c.kind = 2) then (l, oneOf l)
  else bif decide (c.kind = 1) then ([], oneOf l)
  else bif eqS s nCounter then ([oneOf l + c.arg], 0)
  else bif eqS s nMost then ([max (oneOf l) c.arg], 0)
  else ([c.arg], 0)
def iSet (l : List Int) (c : CallD) : List Int × Int :=
  bif (decide (c.kind = 0) && decide (findI l c.arg < 0)) then (l ++ [c.arg], 1)
  else bif (decide (c.kind = 0) || decide (findI l c.arg < 0)) then (l, 0)
  else bif decide (c.kind = 1) then (l.take (findI l c.arg).toNat ++ l.drop (findI l c.arg + 1).toNat, 1)
  else (l, 1)
def topOf (s : ByteArray) (l : List Int) : Int := bif eqS s nStack then ((l.length : Nat) : Int) - 1 else 0
def iRow (s : ByteArray) (l : List Int) (c : CallD) : List Int × Int :=
  bif decide (c.kind = 0) then (l ++ [c.arg], 0)
  else bif decide (((l.length : Nat) : Int) = 0) then (l, -1)
  else bif decide (c.kind = 2) then (l, l.getD (topOf s l).toNat 0)
  else (l.take (topOf s l).toNat ++ l.drop (topOf s l + 1).toNat, l.getD (topOf s l).toNat 0)
def iStep (s : ByteArray) (l : List Int) (c : CallD) : List Int × Int := bif isSingle s then iSingle s l c else bif eqS s nSet then iSet l c else iRow s l c
theorem single_obj (s : ByteArray) : ((((isSingle s || eqS s nQueue) || eqS s nStack) || eqS s nSet)) = isObject s := by
  unfold isSingle isObject
  cases eqS s nRegister <;> cases eqS s nQueue <;> cases eqS s nStack <;> cases eqS s nCounter <;> cases eqS s nSet <;> cases eqS s nMost <;> rfl
theorem stI_no {s : ByteArray} {l : List Int} {i : Nat} (hi : i < l.length) (hb : ((!within (l.getD i 0) 0 20) || (eqS s nSet && hasInt (l.take i) (l.getD i 0))) = true) : isSt s l = false := by
  unfold isSt
  refine and_fl (allN_false hi ?_)
  unfold stAt
  cases h1 : within (l.getD i 0) 0 20 <;> cases h2 : eqS s nSet <;> cases h3 : hasInt (l.take i) (l.getD i 0) <;> simp_all
theorem stI_ok {s : ByteArray} {l : List Int} {i : Nat} (hb : ((!within (l.getD i 0) 0 20) || (eqS s nSet && hasInt (l.take i) (l.getD i 0))) = false) : stAt s l i = true := by
  unfold stAt
  cases h1 : within (l.getD i 0) 0 20 <;> cases h2 : eqS s nSet <;> cases h3 : hasInt (l.take i) (l.getD i 0) <;> simp_all
theorem stI_end {s : ByteArray} {l : List Int} (hA : allN l.length (stAt s l) = true) : ((isObject s && decide (((l.length : Nat) : Int) ≤ 20)) && (!isSingle s || decide (((l.length : Nat) : Int) ≤ 1))) = (isObject s && isSt s l) := by
  unfold isSt
  rw [hA, Bool.true_and, Bool.and_assoc]
  congr 1
  cases isSingle s with
  | false => simp
  | true =>
    simp only [Bool.not_true, Bool.false_or, cond_true]
    apply bool_ext
    simp only [Bool.and_eq_true, decide_eq_true_eq]
    omega
theorem stS_1 {s : ByteArray} {l : List Int} (hA : allN l.length (stAt s l) = true) (h : isSingle s = true) : decide (((l.length : Nat) : Int) ≤ 1) = isSt s l := by
  unfold isSt; rw [hA, h]; rfl
theorem stS_2 {s : ByteArray} {l : List Int} (hA : allN l.length (stAt s l) = true) (h : isSingle s = false) : decide (((l.length : Nat) : Int) ≤ 20) = isSt s l := by
  unfold isSt; rw [hA, h]; rfl
theorem st_iff {s : ByteArray} {l : List Int} (h : isSt s l = true) : l.length ≤ 20 ∧ (isSingle s = true → l.length ≤ 1) ∧ (∀ i, i < l.length → 0 ≤ l.getD i 0 ∧ l.getD i 0 ≤ 20) := by
  unfold isSt at h
  have h1 := allN_get (and_l h)
  have h2 := and_r h
  have h3 : ∀ i, i < l.length → 0 ≤ l.getD i 0 ∧ l.getD i 0 ≤ 20 := fun i hi => inRange_iff.1 (and_l (h1 i hi))
  cases hs : isSingle s with
  | true => rw [hs] at h2; have := of_decide_eq_true h2; exact ⟨by omega, fun _ => by omega, h3⟩
  | false => rw [hs] at h2; have := of_decide_eq_true h2; exact ⟨by omega, (fun hh => by cases hh), h3⟩
theorem valid_one (c : CallD) : validHistory [c] = isCall c := by
  unfold validHistory
  have : allN [c].length (fun i => isCall (callAt [c] i) && allN i (fun k => !clash (callAt [c] i) (callAt [c] k))) = isCall c := by
    apply bool_ext
    rw [allN_iff]
    constructor
    · intro h; exact and_l (h 0 (by simp))
    · intro h j hj
      have : j = 0 := by simp at hj; omega
      subst this
      exact and_t h (allN_true (fun k hk => by omega))
  rw [this]; simp
theorem eqS_iff {a b : ByteArray} : eqS a b = true ↔ a.toList = b.toList := by unfold eqS; simp
theorem name_ne {s a b : ByteArray} (h : eqS s a = true) (hab : eqS a b = false) : eqS s b = false := by
  cases hb : eqS s b with
  | false => rfl
  | true =>
    have e1 := eqS_iff.1 h
    have e2 := eqS_iff.1 hb
    have : eqS a b = true := eqS_iff.2 (by rw [← e1, e2])
    rw [this] at hab; cases hab
theorem one_eq {l : List Int} (h : l.length ≤ 1) : oneOf l = bif decide (((l.length : Nat) : Int) = 0) then 0 else l.getD 0 0 := by
  unfold oneOf
  by_cases h1 : l.length = 1
  · rw [h1]; rfl
  · rw [show l.length = 0 by omega]; rfl
theorem find_erase {l : List Int} {a : Int} (h : 0 ≤ findI l a) : l.take (findI l a).toNat ++ l.drop (findI l a + 1).toNat = l.erase a := by
  unfold findI at h ⊢
  cases hf : fIdx l.length (fun i => decide (l.getD i 0 = a)) with
  | none => rw [hf] at h; simp at h
  | some k =>
    have h1 := fIdx_lt hf
    have h2 : ∀ j, j < k → ¬ l.getD j 0 = a := by
      unfold fIdx at hf
      rw [List.find?_range_eq_some] at hf
      intro j hj he
      have := hf.2.2 j hj
      rw [decide_eq_true he] at this; cases this
    simp only
    rw [show (((k : Nat) : Int) + 1).toNat = k + 1 by omega, Int.toNat_natCast]
    exact erase_at l a k h1.1 (of_decide_eq_true h1.2) h2
theorem find_lt (l : List Int) (a : Int) : findI l a < ((l.length : Nat) : Int) ∧ -1 ≤ findI l a := by
  unfold findI
  cases hf : fIdx l.length (fun i => decide (l.getD i 0 = a)) with
  | none => simp only; omega
  | some k => have := (fIdx_lt hf).1; simp only; omega
theorem find_neg (l : List Int) (a : Int) : decide (findI l a < 0) = !hasInt l a := by
  rw [← findI_has]
  apply bool_ext
  simp only [decide_eq_true_eq, Bool.not_eq_true', decide_eq_false_iff_not]
  omega
theorem dec_comm (a b : Int) : decide (a = b) = decide (b = a) := bool_ext (by simp only [decide_eq_true_eq]; exact ⟨fun h => h.symm, fun h => h.symm⟩)
theorem step_eq {s : ByteArray} {l : List Int} {c : CallD} (hok : stepOK s l c = true) : (iStep s l c).1 = (specStep s l c).1 ∧ decide (c.ret = (iStep s l c).2) = (specStep s l c).2 := by
  unfold stepOK at hok
  have ho := and_l (and_l hok)
  obtain ⟨h20, h1, hb⟩ := st_iff (and_r (and_l hok))
  have hc := isCall_iff.1 (and_r hok)
  have hk : c.kind = 0 ∨ c.kind = 1 ∨ c.kind = 2 := by omega
  have n1 : eqS nRegister nQueue = false := by decide +kernel
  have n2 : eqS nRegister nStack = false := by decide +kernel
  have n3 : eqS nRegister nCounter = false := by decide +kernel
  have n4 : eqS nRegister nSet = false := by decide +kernel
  have n5 : eqS nRegister nMost = false := by decide +kernel
  have n6 : eqS nCounter nRegister = false := by decide +kernel
  have n7 : eqS nCounter nQueue = false := by decide +kernel
  have n8 : eqS nCounter nStack = false := by decide +kernel
  have n9 : eqS nCounter nSet = false := by decide +kernel
  have n10 : eqS nCounter nMost = false := by decide +kernel
  have n11 : eqS nMost nRegister = false := by decide +kernel
  have n12 : eqS nMost nQueue = false := by decide +kernel
  have n13 : eqS nMost nStack = false := by decide +kernel
  have n14 : eqS nMost nSet = false := by decide +kernel
  have n15 : eqS nMost nCounter = false := by decide +kernel
  have n16 : eqS nSet nQueue = false := by decide +kernel
  have n17 : eqS nSet nStack = false := by decide +kernel
  have n18 : eqS nStack nQueue = false := by decide +kernel
  have n19 : eqS nSet nMost = false := by decide +kernel
  have n20 : eqS nSet nCounter = false := by decide +kernel
  have n21 : eqS nSet nRegister = false := by decide +kernel
  cases hsi : isSingle s with
  | true =>
    have hl := h1 hsi
    have hone := one_eq hl
    have hcase : l = [] ∨ ∃ x, l = [x] := by
      match l, hl with
      | [], _ => exact .inl rfl
      | [x], _ => exact .inr ⟨x, rfl⟩
    unfold isSingle at hsi
    have hset : eqS s nSet = false ∧ eqS s nQueue = false ∧ eqS s nStack = false ∧ ((eqS s nRegister = true ∧ eqS s nCounter = false ∧ eqS s nMost = false) ∨ (eqS s nRegister = false ∧ eqS s nCounter = true ∧ eqS s nMost = false) ∨ (eqS s nRegister = false ∧ eqS s nCounter = false ∧ eqS s nMost = true)) := by
      rw [Bool.or_eq_true, Bool.or_eq_true] at hsi
      rcases hsi with (h | h) | h
      · exact ⟨name_ne h n4, name_ne h n1, name_ne h n2, .inl ⟨h, name_ne h n3, name_ne h n5⟩⟩
      · exact ⟨name_ne h n9, name_ne h n7, name_ne h n8, .inr (.inl ⟨name_ne h n6, h, name_ne h n10⟩)⟩
      · exact ⟨name_ne h n14, name_ne h n12, name_ne h n13, .inr (.inr ⟨name_ne h n11, name_ne h n15, h⟩)⟩
    obtain ⟨e1, e2, e3, e4⟩ := hset
    unfold iStep
    rw [show isSingle s = true from hsi]
    simp only [cond_true]
    rcases hcase with rfl | ⟨x, rfl⟩ <;> rcases hk with hk | hk | hk <;> rcases e4 with ⟨f1, f2, f3⟩ | ⟨f1, f2, f3⟩ | ⟨f1, f2, f3⟩ <;> simp [iSingle, specStep, hk, e1, e2, e3, f1, f2, f3, oneOf]
    · omega
    · by_cases hx : c.arg < x
      · rw [decide_eq_true hx, show max x c.arg = x by omega]; exact ⟨rfl, rfl⟩
      · rw [decide_eq_false hx, show max x c.arg = c.arg by omega]; exact ⟨rfl, rfl⟩
  | false =>
    unfold isSingle at hsi
    rw [Bool.or_eq_false_iff, Bool.or_eq_false_iff] at hsi
    obtain ⟨⟨g1, g2⟩, g3⟩ := hsi
    unfold iStep
    rw [show isSingle s = false from by unfold isSingle; rw [g1, g2, g3]; rfl]
    simp only [cond_false]
    cases hset : eqS s nSet with
    | true =>
      have f1 := name_ne hset n16
      have f2 := name_ne hset n17
      simp only [cond_true]
      unfold iSet
      rw [find_neg]
      cases hh : hasInt l c.arg with
      | false => rcases hk with hk | hk | hk <;> simp [specStep, hk, g1, g2, g3, hset, f1, f2, hh]
      | true =>
        have h0 : 0 ≤ findI l c.arg := of_decide_eq_true (by rw [findI_has]; exact hh)
        rcases hk with hk | hk | hk <;> simp [specStep, hk, g1, g2, g3, hset, f1, f2, hh, find_erase h0]
    | false =>
      simp only [cond_false]
      unfold isObject at ho
      rw [g1, g2, g3, hset] at ho
      simp only [Bool.false_or, Bool.or_false] at ho
      cases hq : eqS s nQueue with
      | true =>
        have f1 : eqS s nStack = false := name_ne hq (by decide +kernel)
        cases l with
        | nil => rcases hk with hk | hk | hk <;> simp [iRow, specStep, hk, g1, g2, g3, hset, hq, f1, topOf]
        | cons x l =>
          have hz : ¬ ((l.length : Nat) : Int) + 1 = 0 := by omega
          rcases hk with hk | hk | hk <;> simp [iRow, specStep, hk, g1, g2, g3, hset, hq, f1, topOf, hz]
      | false =>
        rw [hq, Bool.false_or] at ho
        cases hl : l.length with
        | zero =>
          have hl0 : l = [] := List.eq_nil_of_length_eq_zero hl
          subst hl0
          rcases hk with hk | hk | hk <;> simp [iRow, specStep, hk, g1, g2, g3, hset, hq, ho, topOf]
        | succ n =>
          have hn : ¬ (((l.length : Nat) : Int) = 0) := by omega
          have ht : (topOf s l).toNat = l.length - 1 := by unfold topOf; rw [ho]; simp only [cond_true]; omega
          have ht2 : (topOf s l + 1).toNat = l.length := by unfold topOf; rw [ho]; simp only [cond_true]; omega
          have hn2 : ¬ (n + 1 : Int) = 0 := by omega
          have hdrop : l.drop (n + 1) = [] := List.drop_eq_nil_of_le (by omega)
          rcases hk with hk | hk | hk <;> simp [iRow, specStep, hk, g1, g2, g3, hset, hq, ho, hn, ht, ht2, hl, hn2, hdrop]
end Go.Ab
namespace Go.Ab
theorem so_ok {s : ByteArray} {l : List Int} {c : CallD} (h : ((!(isObject s && isSt s l)) || (!validHistory [c])) = false) : stepOK s l c = true := by
  rw [valid_one] at h
  unfold stepOK
  cases h1 : (isObject s && isSt s l) <;> cases h2 : isCall c <;> simp_all
theorem so_no {s : ByteArray} {l : List Int} {c : CallD} (h : ((!(isObject s && isSt s l)) || (!validHistory [c])) = true) : stepObject s l c = ([], false) := by
  rw [valid_one] at h
  unfold stepObject stepOK
  cases h1 : (isObject s && isSt s l) <;> cases h2 : isCall c <;> simp_all
theorem so_yes {s : ByteArray} {l : List Int} {c : CallD} (h : stepOK s l c = true) : stepObject s l c = specStep s l c := by unfold stepObject; rw [h]; rfl
theorem sp_ok {s : ByteArray} {l : List Int} {c : CallD} (h : (((!isObject s) || (!isSt s l)) || (!isCall c)) = false) : stepOK s l c = true := by
  unfold stepOK
  cases h0 : isObject s <;> cases h1 : isSt s l <;> cases h2 : isCall c <;> simp_all
theorem sp_no {s : ByteArray} {l : List Int} {c : CallD} (h : (((!isObject s) || (!isSt s l)) || (!isCall c)) = true) : stepObject s l c = ([], false) := by
  unfold stepObject stepOK
  cases h0 : isObject s <;> cases h1 : isSt s l <;> cases h2 : isCall c <;> simp_all
theorem specStep_len (s : ByteArray) (l : List Int) (c : CallD) : (specStep s l c).1.length ≤ l.length + 1 := by
  unfold specStep
  simp only [if_bif, decide_eq_true_eq]
  repeat' split
  all_goals first | (simp; done) | (simp; omega) | (have := List.length_erase_le (a := c.arg) (l := l); simp; omega) | omega
end Go.Ab
namespace Go.Ab
theorem so_law1 {s : ByteArray} {l : List Int} {c : CallD} (hk : c.kind = 2) (hp : 0 < (stepObject s l c).1.length) : (stepObject s l c).1 = l := by
  cases hok : stepOK s l c with
  | false => unfold stepObject at hp; rw [hok] at hp; simp at hp
  | true =>
    rw [so_yes hok]
    simp only [specStep, hk, show decide ((2 : Int) = 0) = false from rfl, show decide ((2 : Int) = 2) = true from rfl, cond_true, cond_false, if_bif]
    repeat' split
    all_goals first | rfl | contradiction | (exfalso; simp_all; done)
theorem so_law2 {s : ByteArray} {l : List Int} {c : CallD} (hs : eqS s nStack = true) (hk : c.kind = 0) (hp : 0 < (stepObject s l c).1.length) (h20 : ((((stepObject s l c).1.length : Nat) : Int)) ≤ 20) :
    stepObject s (stepObject s l c).1 ⟨c.proc, c.obj, 1, c.arg, c.arg, c.frm, c.to⟩ = (l, true) := by
  have f1 : eqS s nRegister = false := name_ne hs (by decide +kernel)
  have f2 : eqS s nCounter = false := name_ne hs (by decide +kernel)
  have f3 : eqS s nMost = false := name_ne hs (by decide +kernel)
  have f4 : eqS s nSet = false := name_ne hs (by decide +kernel)
  have f5 : eqS s nQueue = false := name_ne hs (by decide +kernel)
  have hsi : isSingle s = false := by unfold isSingle; rw [f1, f2, f3]; rfl
  cases hok : stepOK s l c with
  | false => unfold stepObject at hp; rw [hok] at hp; simp at hp
  | true =>
    have e : (stepObject s l c).1 = l ++ [c.arg] := by
      rw [so_yes hok]; simp [specStep, hk, f1, f2, f3, f4]
    rw [e] at h20 ⊢
    unfold stepOK at hok
    have ho := and_l (and_l hok)
    obtain ⟨_, _, hb⟩ := st_iff (and_r (and_l hok))
    have hc := isCall_iff.1 (and_r hok)
    have hok2 : stepOK s (l ++ [c.arg]) ⟨c.proc, c.obj, 1, c.arg, c.arg, c.frm, c.to⟩ = true := by
      unfold stepOK
      refine and_t (and_t ho ?_) (isCall_iff.2 (by simp only; omega))
      unfold isSt
      rw [hsi]
      refine and_t (allN_true fun i hi => ?_) (decide_eq_true h20)
      unfold stAt
      rw [f4]
      refine and_t (inRange_iff.2 ?_) rfl
      by_cases hil : i < l.length
      · have := hb i hil
        rw [List.getD_eq_getElem?_getD, List.getElem?_append_left hil, ← List.getD_eq_getElem?_getD]
        omega
      · have hi2 : i = l.length := by simp at hi; omega
        subst hi2
        simp; omega
    rw [so_yes hok2]
    simp only [specStep, f5, hs, cond_false, cond_true]
    have hz : ¬ ((l.length : Nat) : Int) + 1 = 0 := by omega
    simp [hz]
theorem ne_nil_pos {l : List Int} (h : ¬ l = []) : 0 < l.length := List.length_pos_iff.2 h
end Go.Ab

set_option linter.unusedSimpArgs false
set_option linter.unusedVariables false
namespace Go.Ab
/-! ### States in a row -/
theorem nodup_take {l : List Int} : l.Nodup ↔ ∀ i, i < l.length → hasInt (l.take i) (l.getD i 0) = false := by
  constructor
  · intro hn i hi
    cases hb : hasInt (l.take i) (l.getD i 0) with
    | false => rfl
    | true =>
      exfalso
      have hm := hasInt_mem.1 hb
      obtain ⟨j, hj, he⟩ := List.mem_iff_getElem.1 hm
      have hj' : j < i := by rw [List.length_take] at hj; omega
      have := (List.pairwise_iff_getElem.1 hn) j i (by omega) hi hj'
      apply this
      rw [List.getElem_take] at he
      rw [he, List.getD_eq_getElem?_getD, List.getElem?_eq_getElem hi]; rfl
  · intro h
    refine List.pairwise_iff_getElem.2 (fun i j hi hj hij he => ?_)
    have h1 := h j hj
    have h2 : l.getD j 0 ∈ l.take j := by
      rw [List.getD_eq_getElem?_getD, List.getElem?_eq_getElem hj]
      simp only [Option.getD_some]
      rw [← he]
      exact List.mem_iff_getElem.2 ⟨i, by rw [List.length_take]; omega, by rw [List.getElem_take]⟩
    rw [hasInt_mem.2 h2] at h1
    cases h1
theorem isSt_iff {s : ByteArray} {l : List Int} : isSt s l = true ↔ (∀ x ∈ l, 0 ≤ x ∧ x ≤ 20) ∧ (eqS s nSet = true → l.Nodup) ∧ (isSingle s = true → l.length ≤ 1) ∧ l.length ≤ 20 := by
  have hx : (∀ x ∈ l, 0 ≤ x ∧ x ≤ 20) ↔ ∀ i, i < l.length → 0 ≤ l.getD i 0 ∧ l.getD i 0 ≤ 20 := by
    constructor
    · intro h i hi; exact h _ (getD_mem l 0 hi)
    · intro h x hx
      obtain ⟨i, hi, rfl⟩ := List.mem_iff_getElem.1 hx
      have := h i hi
      rw [List.getD_eq_getElem?_getD, List.getElem?_eq_getElem hi] at this
      exact this
  rw [hx]
  constructor
  · intro h
    obtain ⟨h1, h2, h3⟩ := st_iff h
    refine ⟨h3, fun hs => nodup_take.2 (fun i hi => ?_), h2, h1⟩
    unfold isSt at h
    have := allN_get (and_l h) i hi
    unfold stAt at this
    have h4 := and_r this
    rw [hs] at h4
    simpa using h4
  · rintro ⟨h1, h2, h3, h4⟩
    unfold isSt
    refine and_t (allN_true (fun i hi => ?_)) ?_
    · unfold stAt
      refine and_t (inRange_iff.2 (h1 i hi)) ?_
      cases hs : eqS s nSet with
      | false => rfl
      | true => rw [nodup_take.1 (h2 hs) i hi]; rfl
    · cases hs : isSingle s with
      | true => exact decide_eq_true (by have := h3 hs; omega)
      | false => exact decide_eq_true (by omega)
theorem single_ne {s : ByteArray} (h : isSingle s = true) : eqS s nQueue = false ∧ eqS s nStack = false ∧ eqS s nSet = false := by
  unfold isSingle at h
  simp only [Bool.or_eq_true] at h
  rcases h with (h | h) | h
  · exact ⟨name_ne h (by decide +kernel), name_ne h (by decide +kernel), name_ne h (by decide +kernel)⟩
  · exact ⟨name_ne h (by decide +kernel), name_ne h (by decide +kernel), name_ne h (by decide +kernel)⟩
  · exact ⟨name_ne h (by decide +kernel), name_ne h (by decide +kernel), name_ne h (by decide +kernel)⟩
/-- A state that comes of so many calls. -/
def stB (s : ByteArray) (k : Nat) (l : List Int) : Prop := isSt s l = true ∧ okState k (3 * ((k : Nat) : Int)) l
theorem stB_nil (s : ByteArray) : stB s 0 [] := ⟨isSt_iff.2 ⟨by simp, by simp, by simp, by simp⟩, by unfold okState; simp⟩
theorem stB_more {s : ByteArray} {k : Nat} {l : List Int} (h : stB s k l) : stB s (k + 1) l := ⟨h.1, by have h2 := h.2; unfold okState at *; exact ⟨by omega, fun x hx => by have := h2.2 x hx; omega⟩⟩
theorem stB_step {s : ByteArray} {k : Nat} {l : List Int} {c : CallD} (hs : isObject s = true) (h : stB s k l) (hk : k ≤ 5) (hc : isCall c = true) : stB s (k + 1) (specStep s l c).1 := by
  have hcc := isCall_iff.1 hc
  have hok := specStep_ok (name := s) h.2 hcc.2.2.2.1.1 hcc.2.2.2.1.2 (by omega)
  rw [show 3 * ((k : Nat) : Int) + 3 = 3 * (((k + 1 : Nat)) : Int) by omega] at hok
  refine ⟨isSt_iff.2 ⟨fun x hx => ?_, fun hset => ?_, fun hsg => ?_, ?_⟩, hok⟩
  · have := hok.2 x hx; omega
  · have hn := (isSt_iff.1 h.1).2.1 hset
    have n1 : eqS s nRegister = false := name_ne hset (by decide +kernel)
    have n2 : eqS s nCounter = false := name_ne hset (by decide +kernel)
    have n3 : eqS s nMost = false := name_ne hset (by decide +kernel)
    have n4 : eqS s nQueue = false := name_ne hset (by decide +kernel)
    have n5 : eqS s nStack = false := name_ne hset (by decide +kernel)
    unfold specStep
    simp only [n1, n2, n3, n4, n5, hset, cond_true, cond_false]
    cases decide (c.kind = 0) <;> cases decide (c.kind = 2) <;> cases hh : hasInt l c.arg <;> simp only [cond_true, cond_false]
    all_goals first
      | exact hn
      | exact hn.erase _
      | (refine List.nodup_append.2 ⟨hn, by simp, ?_⟩
         intro a ha b hb hab
         simp only [List.mem_singleton] at hb
         subst hb; subst hab
         rw [hasInt_mem.2 ha] at hh; cases hh)
  · have hl := (isSt_iff.1 h.1).2.2.1 hsg
    obtain ⟨m1, m2, m3⟩ := single_ne hsg
    unfold specStep
    simp only [m1, m2, m3, cond_false]
    cases decide (c.kind = 0) <;> cases decide (c.kind = 2) <;> simp only [cond_true, cond_false]
    · cases decide (((l.length : Nat) : Int) = 0) <;> simp
    · cases decide (((l.length : Nat) : Int) = 0) <;> simp [hl]
    all_goals
      cases hr : eqS s nRegister <;> cases hcn : eqS s nCounter <;> cases hm : eqS s nMost <;> simp only [cond_true, cond_false]
      all_goals first
        | (simp; done)
        | (split <;> simp [hl]; done)
        | (cases decide (((l.length : Nat) : Int) = 0) <;> simp; done)
        | (cases (decide (0 < ((l.length : Nat) : Int)) && decide (c.arg < l.getD 0 0)) <;> simp [hl]; done)
        | (unfold isSingle at hsg; rw [hr, hcn, hm] at hsg; cases hsg)
  · have := hok.1; omega
/-- The states of both objects behind so many calls of an order. -/
def ordAt (h : List CallD) (o : List Int) (i : Nat) : CallD := callAt h (o.getD i 0).toNat
def sts (s : ByteArray) (h : List CallD) (o : List Int) : Nat → List (List Int)
  | 0 => [[], []]
  | i + 1 => (sts s h o i).set (ordAt h o i).obj.toNat (specStep s ((sts s h o i).getD (ordAt h o i).obj.toNat []) (ordAt h o i)).1
def okAt (s : ByteArray) (h : List CallD) (o : List Int) (i : Nat) : Bool := (specStep s ((sts s h o i).getD (ordAt h o i).obj.toNat []) (ordAt h o i)).2
def runsB (s : ByteArray) (h : List CallD) (o : List Int) : Bool := allN o.length (okAt s h o)
theorem sts_len (s : ByteArray) (h : List CallD) (o : List Int) (i : Nat) : (sts s h o i).length = 2 := by
  induction i with
  | zero => rfl
  | succ i ih => simp only [sts, List.length_set, ih]
/-- Indices of calls. -/
def inH (h : List CallD) (o : List Int) : Prop := ∀ i, i < o.length → 0 ≤ o.getD i 0 ∧ o.getD i 0 < ((h.length : Nat) : Int)
theorem ord_call {h : List CallD} {o : List Int} (hv : validHistory h = true) (ho : inH h o) {i : Nat} (hi : i < o.length) : isCall (ordAt h o i) = true := by
  have := ho i hi
  exact (valid_iff.1 hv).2.1 _ (by omega)
theorem sts_ok {s : ByteArray} {h : List CallD} {o : List Int} (hs : isObject s = true) (hv : validHistory h = true) (ho : inH h o) {i : Nat} (hi : i ≤ o.length) (h6 : i ≤ 6) : ∀ l ∈ sts s h o i, stB s i l := by
  induction i with
  | zero => intro l hl; simp [sts] at hl; subst hl; exact stB_nil s
  | succ i ih =>
    have ih' := ih (by omega) (by omega)
    intro l hl
    simp only [sts] at hl
    rcases List.mem_or_eq_of_mem_set hl with h1 | h1
    · exact stB_more (ih' l h1)
    · subst h1
      have hc := ord_call hv ho (i := i) (by omega)
      have hob := (isCall_iff.1 hc).2.1
      exact stB_step hs (ih' _ (getD_mem (sts s h o i) [] (by rw [sts_len]; omega))) (by omega) hc
theorem sts_at {s : ByteArray} {h : List CallD} {o : List Int} (hs : isObject s = true) (hv : validHistory h = true) (ho : inH h o) {i : Nat} (hi : i < o.length) (h6 : i ≤ 6) : stB s i ((sts s h o i).getD (ordAt h o i).obj.toNat []) := by
  have hc := ord_call hv ho hi
  have hob := (isCall_iff.1 hc).2.1
  exact sts_ok hs hv ho (by omega) h6 _ (getD_mem (sts s h o i) [] (by rw [sts_len]; omega))
theorem sts_step {s : ByteArray} {h : List CallD} {o : List Int} (hs : isObject s = true) (hv : validHistory h = true) (ho : inH h o) {i : Nat} (hi : i < o.length) (h6 : i ≤ 6) :
    (iStep s ((sts s h o i).getD (ordAt h o i).obj.toNat []) (ordAt h o i)).1 = (specStep s ((sts s h o i).getD (ordAt h o i).obj.toNat []) (ordAt h o i)).1 ∧
    decide ((ordAt h o i).ret = (iStep s ((sts s h o i).getD (ordAt h o i).obj.toNat []) (ordAt h o i)).2) = okAt s h o i := by
  have h1 := sts_at hs hv ho hi h6
  exact step_eq (and_t (and_t hs h1.1) (ord_call hv ho hi))
theorem ord_inH {h : List CallD} {o : List Int} (ho : isOrd o ((h.length : Nat) : Int) = true) : inH h o := fun i hi => ⟨(isOrd_range ho hi).1, (isOrd_range ho hi).2.1⟩
def rightB (s : ByteArray) (h : List CallD) (o : List Int) : Bool := ((isObject s && validHistory h) && isOrd o ((h.length : Nat) : Int)) && runsB s h o
def behind (s : ByteArray) (h : List CallD) (o : List Int) (x : Int) : List Int × Bool := bif rightB s h o && within x 0 1 then ((sts s h o o.length).getD x.toNat [], true) else ([], false)
end Go.Ab
namespace Go.Ab
theorem isOrd_len {h : List CallD} {o : List Int} (ho : isOrd o ((h.length : Nat) : Int) = true) : o.length = h.length := by
  unfold isOrd at ho
  have := of_decide_eq_true (and_r ho)
  omega
/-- What impl's run gives: the states behind, and whether all answers are right. -/
def playedR (s : ByteArray) (h : List CallD) (o : List Int) : List (List Int) × Bool :=
  match fIdx o.length (fun i => !okAt s h o i) with
  | some k => (sts s h o k, false)
  | none => (sts s h o o.length, true)
theorem played_no {s : ByteArray} {h : List CallD} {o : List Int} {i : Nat} (hi : i < o.length) (hA : ∀ j, j < i → okAt s h o j = true) (h0 : okAt s h o i = false) : playedR s h o = (sts s h o i, false) := by
  unfold playedR
  rw [fIdx_some (i := i) hi (by rw [h0]; rfl) (fun j hj => by rw [hA j hj]; rfl)]
theorem played_yes {s : ByteArray} {h : List CallD} {o : List Int} (hA : ∀ j, j < o.length → okAt s h o j = true) : playedR s h o = (sts s h o o.length, true) := by
  unfold playedR
  rw [fIdx_none (fun j hj => by rw [hA j hj]; rfl)]
theorem played_runs (s : ByteArray) (h : List CallD) (o : List Int) : (playedR s h o).2 = runsB s h o := by
  unfold playedR runsB
  cases hf : fIdx o.length (fun i => !okAt s h o i) with
  | some k => have h1 := fIdx_lt hf; rw [allN_false h1.1 (by simpa using h1.2)]
  | none => rw [allN_true (fun j hj => by simpa using fIdx_no hf j hj)]
theorem right_no {s : ByteArray} {h : List CallD} {o : List Int} (hb : (((!isObject s) || (!validHistory h)) || (!isOrd o ((h.length : Nat) : Int))) = true) : rightB s h o = false := by
  unfold rightB
  cases h1 : isObject s <;> cases h2 : validHistory h <;> cases h3 : isOrd o ((h.length : Nat) : Int) <;> simp_all
theorem right_played {s : ByteArray} {h : List CallD} {o : List Int} (h1 : isObject s = true) (h2 : validHistory h = true) (h3 : isOrd o ((h.length : Nat) : Int) = true) : (playedR s h o).2 = rightB s h o := by
  unfold rightB; rw [h1, h2, h3, played_runs]; rfl
end Go.Ab
namespace Go.Ab
theorem right_ok {s : ByteArray} {h : List CallD} {o : List Int} (hb : rightB s h o = true) : isObject s = true ∧ validHistory h = true ∧ isOrd o ((h.length : Nat) : Int) = true ∧ o.length ≤ 6 ∧ runsB s h o = true := by
  unfold rightB at hb
  have h3 := and_r (and_l hb)
  have h2 := and_r (and_l (and_l hb))
  exact ⟨and_l (and_l (and_l hb)), h2, h3, by have h4 := isOrd_len h3; have h5 := (valid_iff.1 h2).1; omega, and_r hb⟩
theorem behind_no {s : ByteArray} {h : List CallD} {o : List Int} {x : Int} (hb : ((!rightB s h o) || (!within x 0 1)) = true) : behind s h o x = ([], false) := by
  unfold behind; cases h1 : rightB s h o <;> cases h2 : within x 0 1 <;> simp_all
theorem behind_yes {s : ByteArray} {h : List CallD} {o : List Int} {x : Int} (hb : ((!rightB s h o) || (!within x 0 1)) = false) : behind s h o x = ((sts s h o o.length).getD x.toNat [], true) := by
  unfold behind; cases h1 : rightB s h o <;> cases h2 : within x 0 1 <;> simp_all
theorem played_right {s : ByteArray} {h : List CallD} {o : List Int} (hb : rightB s h o = true) : playedR s h o = (sts s h o o.length, true) :=
  played_yes (fun j hj => allN_get (right_ok hb).2.2.2.2 j hj)
theorem behind_get {s : ByteArray} {h : List CallD} {o : List Int} {x : Int} (hb : rightB s h o = true) (hx : within x 0 1 = true) :
    List.getD [(playedR s h o).1.getD 0 [], (playedR s h o).1.getD 1 []] x.toNat [] = (sts s h o o.length).getD x.toNat [] := by
  rw [played_right hb]
  have := inRange_iff.1 hx
  have hc : x.toNat = 0 ∨ x.toNat = 1 := by omega
  rcases hc with h | h <;> rw [h] <;> rfl
end Go.Ab
namespace Go.Ab
theorem getD_set' {α : Type} (l : List α) (d v : α) (k x : Nat) (hk : k < l.length) : (l.set k v).getD x d = if k = x then v else l.getD x d := by
  simp only [List.getD_eq_getElem?_getD, List.getElem?_set]
  by_cases h : k = x
  · subst h; simp [hk]
  · simp [h]
theorem sts_same {s : ByteArray} {h : List CallD} {o : List Int} {i : Nat} {x : Int} (hx : within x 0 1 = true) (hc : isCall (ordAt h o i) = true) (he : (ordAt h o i).obj = x) :
    (sts s h o (i + 1)).getD x.toNat [] = (specStep s ((sts s h o i).getD x.toNat []) (ordAt h o i)).1 := by
  have h1 := inRange_iff.1 hx
  simp only [sts]
  rw [getD_set' _ _ _ _ _ (by rw [sts_len, he]; omega), he, if_pos rfl]
theorem sts_other {s : ByteArray} {h : List CallD} {o : List Int} {i : Nat} {x : Int} (hx : within x 0 1 = true) (hc : isCall (ordAt h o i) = true) (he : ¬ (ordAt h o i).obj = x) :
    (sts s h o (i + 1)).getD x.toNat [] = (sts s h o i).getD x.toNat [] := by
  have h1 := inRange_iff.1 hx
  have h2 := (isCall_iff.1 hc).2.1
  simp only [sts]
  rw [getD_set' _ _ _ _ _ (by rw [sts_len]; omega), if_neg (by omega)]
theorem spec_guard {s : ByteArray} {h : List CallD} {o : List Int} {x : Int} {b : Bool} (hb : (((((!isObject s) || (!validHistory h)) || (!isOrd o ((h.length : Nat) : Int))) || (!runsB s h o)) || (!within x 0 1)) = b) : ((!rightB s h o) || (!within x 0 1)) = b := by
  rw [← hb]; unfold rightB
  cases isObject s <;> cases validHistory h <;> cases isOrd o ((h.length : Nat) : Int) <;> cases runsB s h o <;> cases within x 0 1 <;> rfl
theorem guard_ok {s : ByteArray} {h : List CallD} {o : List Int} {x : Int} (hb : ((!rightB s h o) || (!within x 0 1)) = false) : rightB s h o = true ∧ within x 0 1 = true := by
  cases h1 : rightB s h o <;> cases h2 : within x 0 1 <;> simp_all
end Go.Ab
namespace Go.Ab
theorem sts_zero {s : ByteArray} {h : List CallD} {o : List Int} {x : Int} (hx : within x 0 1 = true) : [] = (sts s h o 0).getD x.toNat [] := by
  have h1 := inRange_iff.1 hx
  have hc : x.toNat = 0 ∨ x.toNat = 1 := by omega
  rcases hc with hc | hc <;> rw [hc] <;> rfl
end Go.Ab
namespace Go.Ab
/-- 0, 1, .., n - 1 -/
def idx : Nat → List Int
  | 0 => []
  | n + 1 => idx n ++ [((n : Nat) : Int)]
theorem idx_len (n : Nat) : (idx n).length = n := by
  induction n with
  | zero => rfl
  | succ n ih => simp [idx, ih]
theorem idx_get {n i : Nat} (hi : i < n) : (idx n).getD i 0 = ((i : Nat) : Int) := by
  induction n with
  | zero => omega
  | succ n ih =>
    simp only [idx, List.getD_eq_getElem?_getD]
    by_cases h : i < n
    · rw [List.getElem?_append_left (by rw [idx_len]; exact h), ← List.getD_eq_getElem?_getD]; exact ih h
    · have : i = n := by omega
      subst this
      rw [List.getElem?_append_right (by rw [idx_len]; omega), idx_len]; simp
theorem idx_take {n k : Nat} (hk : k ≤ n) : (idx n).take k = idx k := by
  induction n with
  | zero => have : k = 0 := by omega
            subst this; rfl
  | succ n ih =>
    simp only [idx]
    by_cases h : k ≤ n
    · rw [List.take_append_of_le_length (by rw [idx_len]; exact h)]; exact ih h
    · have : k = n + 1 := by omega
      subst this
      rw [List.take_of_length_le (by simp [idx_len])]; rfl
end Go.Ab
namespace Go.Ab
theorem isr_g {A R d e : Bool} (h : (A && (A && !(((!R) || d) || (!e)))) = true) : R = true ∧ e = true := by
  cases A <;> cases R <;> cases d <;> cases e <;> simp_all
theorem callAt_take {h : List CallD} {k i : Nat} (hi : i < k) : callAt (h.take k) i = callAt h i := getD_take h default hi
theorem valid_take {h : List CallD} (hv : validHistory h = true) (k : Nat) : validHistory (h.take k) = true := by
  have h1 := valid_iff.1 hv
  refine valid_iff.2 ⟨by rw [List.length_take]; omega, fun i hi => ?_, fun i j hi hj => ?_⟩
  · rw [List.length_take] at hi
    rw [callAt_take (by omega)]
    exact h1.2.1 i (by omega)
  · rw [List.length_take] at hi
    rw [callAt_take (by omega), callAt_take (by omega)]
    exact h1.2.2 i j (by omega) hj
theorem isOrd_idx (n : Nat) : isOrd (idx n) ((n : Nat) : Int) = true := by
  unfold isOrd
  refine and_t (allN_true (fun i hi => ?_)) (decide_eq_true (by rw [idx_len]))
  rw [idx_len] at hi
  unfold ordOK
  rw [idx_get hi]
  refine and_t (inRange_iff.2 (by omega)) ?_
  rw [idx_take (by omega)]
  cases hb : hasInt (idx i) ((i : Nat) : Int) with
  | false => rfl
  | true =>
    have hm := hasInt_mem.1 hb
    obtain ⟨j, hj, he⟩ := List.mem_iff_getElem.1 hm
    rw [idx_len] at hj
    have := idx_get hj
    rw [List.getD_eq_getElem?_getD, List.getElem?_eq_getElem (by rw [idx_len]; exact hj)] at this
    simp only [Option.getD_some] at this
    omega
theorem ordAt_idx {h : List CallD} {n i : Nat} (hi : i < n) : ordAt h (idx n) i = callAt h i := by
  unfold ordAt; rw [idx_get hi, Int.toNat_natCast]
theorem sts_cut {s : ByteArray} {h : List CallD} {n k i : Nat} (hk : k ≤ n) (hi : i ≤ k) : sts s (h.take k) (idx k) i = sts s h (idx n) i := by
  induction i with
  | zero => rfl
  | succ i ih =>
    simp only [sts]
    rw [ih (by omega), ordAt_idx (by omega), ordAt_idx (by omega), callAt_take (by omega)]
theorem right_cut {s : ByteArray} {h : List CallD} {n k : Nat} (hn : n = h.length) (hb : rightB s h (idx n) = true) (hk : k ≤ n) : rightB s (h.take k) (idx k) = true := by
  obtain ⟨h1, h2, h3, h4, h5⟩ := right_ok hb
  unfold rightB
  refine and_t (and_t (and_t h1 (valid_take h2 k)) ?_) (allN_true (fun i hi => ?_))
  · rw [show (h.take k).length = k by rw [List.length_take]; omega]; exact isOrd_idx k
  · rw [idx_len] at hi
    have h6 := allN_get h5 i (by rw [idx_len]; omega)
    unfold okAt at h6 ⊢
    rw [sts_cut hk (by omega), ordAt_idx hi, callAt_take hi]
    rw [ordAt_idx (by omega)] at h6
    exact h6
theorem behind_right (s : ByteArray) (h : List CallD) (o : List Int) : (behind s h o 0).2 = rightB s h o := by
  unfold behind
  rw [show within 0 0 1 = true by decide]
  cases rightB s h o <;> rfl
theorem right_law {s : ByteArray} {h : List CallD} {o le : List Int} {b : Bool} (hle : le = idx o.length) (hn : b = false) :
    ((rightB s h o == (behind s h o 0).2) && ((((!rightB s h o) || decide (((h.length : Nat) : Int) = 0)) || (!decide (o = le))) || rightB s (h.take ((((h.length : Nat) : Int)) - 1).toNat) (le.take ((((h.length : Nat) : Int)) - 1).toNat))) = true := by
  rw [behind_right]
  refine and_t (by simp) ?_
  cases hr : rightB s h o with
  | false => rfl
  | true =>
    by_cases h0 : ((h.length : Nat) : Int) = 0
    · rw [decide_eq_true h0]; simp
    by_cases he : o = le
    · have hol := isOrd_len (right_ok hr).2.2.1
      rw [decide_eq_true he]
      rw [he, hle, hol] at hr
      have := right_cut (s := s) (h := h) (n := h.length) (k := (((h.length : Nat) : Int) - 1).toNat) rfl hr (by omega)
      rw [hle, hol, idx_take (by omega), this]; simp
    · rw [decide_eq_false he]; simp
end Go.Ab

set_option linter.unusedSimpArgs false
set_option linter.unusedVariables false
namespace Go.Proofs.Try
open Go.Ab Go.RowKit
/-- impl.isSingle -/
def fs69 : FnS := fnS [.o] [.str] (fun _ (s, _) => (.b (isSingle s), [], True))
abbrev T69 : Tab := lk []
theorem tab69 : TabOK prog T69 := TabOK.nil
set_option maxRecDepth 100000 in
set_option maxHeartbeats 1000000 in
theorem ok69 : FnOK prog 69 fs69 := by
  refine FnOK.mk cok func69 rfl rfl rfl ?_
  rintro fl ⟨(s : ByteArray), _⟩ hpre F hnt0 _
  have hnt : F.nt = 13 := hnt0.trans ntmps69
  clear hpre
  refine W.to (⟨[(0, .v (.string s))], [], [999]⟩) rfl ?_
  refine W.K cok tab69 hnt [] [0] (⟨[(0, .v (.string s))], [], [999]⟩)
    (True ∧ True) (by kernel_rfl)
    ⟨trivial, trivial⟩ ?_
  refine W.K cok tab69 hnt [] [2] (⟨[(2, .b (((eqS s nRegister) || (eqS s nCounter)) || (eqS s nMost)))], [], [999]⟩)
    (True ∧ ((True ∧ (True ∧ True)) ∧ (True ∧ (((!(eqS s nRegister)) = true → True) ∧ (((!(eqS s nRegister)) = true → ((((!(eqS s nRegister)) = true) ∧ True) ∧ (True ∧ True))) ∧ ((True ∧ (((eqS s nRegister) = true → True) ∧ ((eqS s nRegister) = false → ((!(eqS s nRegister)) = true) ∧ True))) ∧ (True ∧ (((!((eqS s nRegister) || (eqS s nCounter))) = true → True) ∧ (((!((eqS s nRegister) || (eqS s nCounter))) = true → ((((!((eqS s nRegister) || (eqS s nCounter))) = true) ∧ True) ∧ (True ∧ True))) ∧ ((True ∧ ((((eqS s nRegister) || (eqS s nCounter)) = true → True) ∧ (((eqS s nRegister) || (eqS s nCounter)) = false → ((!((eqS s nRegister) || (eqS s nCounter))) = true) ∧ True))) ∧ (True ∧ True))))))))))) (by kernel_rfl)
    ⟨trivial, ⟨⟨trivial, ⟨trivial, trivial⟩⟩, ⟨trivial, ⟨(fun _ => trivial), ⟨(fun hG => ⟨⟨hG, trivial⟩, ⟨trivial, trivial⟩⟩), ⟨⟨trivial, ⟨(fun _ => trivial), (fun hp => ⟨(not_t hp), trivial⟩)⟩⟩, ⟨trivial, ⟨(fun _ => trivial), ⟨(fun hG => ⟨⟨hG, trivial⟩, ⟨trivial, trivial⟩⟩), ⟨⟨trivial, ⟨(fun _ => trivial), (fun hp => ⟨(not_t hp), trivial⟩)⟩⟩, ⟨trivial, trivial⟩⟩⟩⟩⟩⟩⟩⟩⟩⟩⟩ ?_
  refine W.ret ?_
  exact endQ_ret (.b (((eqS s nRegister) || (eqS s nCounter)) || (eqS s nMost))) (by kernel_rfl) (@cast ((.bool (((eqS s nRegister) || (eqS s nCounter)) || (eqS s nMost)) : Value) = .bool (isSingle s)) _ (by kernel_rfl) (congrArg Value.bool (by first | rfl | simp_all)))
theorem ent69 : Entr prog 69 := ⟨_, func69, rfl, by decide⟩

end Go.Proofs.Try

set_option linter.unusedSimpArgs false
set_option linter.unusedVariables false
namespace Go.Proofs.Try
open Go.Ab Go.RowKit
/-- impl.isObject -/
def fs39 : FnS := fnS [.o] [.str] (fun _ (s, _) => (.b (isObject s), [], True))
abbrev T39 : Tab := lk [(69, fs69)]
theorem tab39 : TabOK prog T39 := (TabOK.cons ok69 ent69 TabOK.nil)
set_option maxRecDepth 100000 in
set_option maxHeartbeats 1000000 in
theorem ok39 : FnOK prog 39 fs39 := by
  refine FnOK.mk cok func39 rfl rfl rfl ?_
  rintro fl ⟨(s : ByteArray), _⟩ hpre F hnt0 _
  have hnt : F.nt = 17 := hnt0.trans ntmps39
  clear hpre
  refine W.to (⟨[(0, .v (.string s))], [], [999]⟩) rfl ?_
  refine W.K cok tab39 hnt [] [0] (⟨[(0, .v (.string s))], [], [999]⟩)
    (True ∧ True) (by kernel_rfl)
    ⟨trivial, trivial⟩ ?_
  refine W.K cok tab39 hnt [] [2] (⟨[(2, .b ((((isSingle s) || (eqS s nQueue)) || (eqS s nStack)) || (eqS s nSet)))], [], [999]⟩)
    (True ∧ ((True ∧ ((True ∧ True) ∧ True)) ∧ (True ∧ (((!(isSingle s)) = true → True) ∧ (((!(isSingle s)) = true → ((((!(isSingle s)) = true) ∧ True) ∧ (True ∧ True))) ∧ ((True ∧ (((isSingle s) = true → True) ∧ ((isSingle s) = false → ((!(isSingle s)) = true) ∧ True))) ∧ (True ∧ (((!((isSingle s) || (eqS s nQueue))) = true → True) ∧ (((!((isSingle s) || (eqS s nQueue))) = true → ((((!((isSingle s) || (eqS s nQueue))) = true) ∧ True) ∧ (True ∧ True))) ∧ ((True ∧ ((((isSingle s) || (eqS s nQueue)) = true → True) ∧ (((isSingle s) || (eqS s nQueue)) = false → ((!((isSingle s) || (eqS s nQueue))) = true) ∧ True))) ∧ (True ∧ (((!(((isSingle s) || (eqS s nQueue)) || (eqS s nStack))) = true → True) ∧ (((!(((isSingle s) || (eqS s nQueue)) || (eqS s nStack))) = true → ((((!(((isSingle s) || (eqS s nQueue)) || (eqS s nStack))) = true) ∧ True) ∧ (True ∧ True))) ∧ ((True ∧ (((((isSingle s) || (eqS s nQueue)) || (eqS s nStack)) = true → True) ∧ ((((isSingle s) || (eqS s nQueue)) || (eqS s nStack)) = false → ((!(((isSingle s) || (eqS s nQueue)) || (eqS s nStack))) = true) ∧ True))) ∧ (True ∧ True))))))))))))))) (by kernel_rfl)
    ⟨trivial, ⟨⟨trivial, ⟨⟨trivial, trivial⟩, trivial⟩⟩, ⟨trivial, ⟨(fun _ => trivial), ⟨(fun hG => ⟨⟨hG, trivial⟩, ⟨trivial, trivial⟩⟩), ⟨⟨trivial, ⟨(fun _ => trivial), (fun hp => ⟨(not_t hp), trivial⟩)⟩⟩, ⟨trivial, ⟨(fun _ => trivial), ⟨(fun hG => ⟨⟨hG, trivial⟩, ⟨trivial, trivial⟩⟩), ⟨⟨trivial, ⟨(fun _ => trivial), (fun hp => ⟨(not_t hp), trivial⟩)⟩⟩, ⟨trivial, ⟨(fun _ => trivial), ⟨(fun hG => ⟨⟨hG, trivial⟩, ⟨trivial, trivial⟩⟩), ⟨⟨trivial, ⟨(fun _ => trivial), (fun hp => ⟨(not_t hp), trivial⟩)⟩⟩, ⟨trivial, trivial⟩⟩⟩⟩⟩⟩⟩⟩⟩⟩⟩⟩⟩⟩⟩ ?_
  refine W.ret ?_
  exact endQ_ret (.b ((((isSingle s) || (eqS s nQueue)) || (eqS s nStack)) || (eqS s nSet))) (by kernel_rfl) (@cast ((.bool ((((isSingle s) || (eqS s nQueue)) || (eqS s nStack)) || (eqS s nSet)) : Value) = .bool (isObject s)) _ (by kernel_rfl) (congrArg Value.bool (by exact single_obj s)))
theorem ent39 : Entr prog 39 := ⟨_, func39, rfl, by decide⟩

end Go.Proofs.Try

set_option linter.unusedSimpArgs false
set_option linter.unusedVariables false
namespace Go.Proofs.Try
open Go.Ab Go.RowKit
/-- impl.within -/
def fs48 : FnS := fnS [.o, .o, .o] [.int, .int, .int] (fun _ (n, low, high, _) => (.b (within n low high), [], True))
abbrev T48 : Tab := lk []
theorem tab48 : TabOK prog T48 := TabOK.nil
set_option maxRecDepth 100000 in
set_option maxHeartbeats 1000000 in
theorem ok48 : FnOK prog 48 fs48 := by
  refine FnOK.mk cok func48 rfl rfl rfl ?_
  rintro fl ⟨(n : Int), (low : Int), (high : Int), _⟩ hpre F hnt0 _
  have hnt : F.nt = 15 := hnt0.trans ntmps48
  clear hpre
  refine W.to (⟨[(0, .i n), (1, .i low), (2, .i high)], [], [999]⟩) rfl ?_
  refine W.K cok tab48 hnt [] [0, 1, 2] (⟨[(0, .i n), (1, .i low), (2, .i high)], [], [999]⟩)
    (True ∧ True) (by kernel_rfl)
    ⟨trivial, trivial⟩ ?_
  refine W.K cok tab48 hnt [] [6] (⟨[(6, .b ((decide (low ≤ n)) && (decide (n ≤ high))))], [], [999]⟩)
    (True ∧ (True ∧ ((True ∧ (True ∧ True)) ∧ (True ∧ (((decide (low ≤ n)) = true → True) ∧ (((decide (low ≤ n)) = true → True) ∧ (((decide (low ≤ n)) = true → ((((decide (low ≤ n)) = true) ∧ True) ∧ ((((decide (low ≤ n)) = true) ∧ True) ∧ True))) ∧ ((True ∧ (((decide (low ≤ n)) = true → ((decide (low ≤ n)) = true) ∧ True) ∧ ((decide (low ≤ n)) = false → True))) ∧ (True ∧ True))))))))) (by kernel_rfl)
    ⟨trivial, ⟨trivial, ⟨⟨trivial, ⟨trivial, trivial⟩⟩, ⟨trivial, ⟨(fun _ => trivial), ⟨(fun _ => trivial), ⟨(fun hG => ⟨⟨hG, trivial⟩, ⟨⟨hG, trivial⟩, trivial⟩⟩), ⟨⟨trivial, ⟨(fun hp => ⟨hp, trivial⟩), (fun _ => trivial)⟩⟩, ⟨trivial, trivial⟩⟩⟩⟩⟩⟩⟩⟩⟩ ?_
  refine W.ret ?_
  exact endQ_ret (.b ((decide (low ≤ n)) && (decide (n ≤ high)))) (by kernel_rfl) (@cast ((.bool ((decide (low ≤ n)) && (decide (n ≤ high))) : Value) = .bool (within n low high)) _ (by kernel_rfl) (congrArg Value.bool (by first | rfl | simp_all)))
theorem ent48 : Entr prog 48 := ⟨_, func48, rfl, by decide⟩

end Go.Proofs.Try
