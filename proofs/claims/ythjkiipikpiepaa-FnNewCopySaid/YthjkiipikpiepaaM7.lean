import Derived.Test.YthjkiipikpiepaaM6
set_option linter.unusedSimpArgs false
set_option linter.unusedVariables false
namespace Go.Ab
/-! ### Places in a row -/
def findI (l : List Int) (x : Int) : Int := match fIdx l.length (fun i => decide (l.getD i 0 = x)) with
  | some k => ((k : Nat) : Int)
  | none => -1
theorem findI_yes {l : List Int} {x : Int} {i : Nat} (hi : i < l.length) (h : x = l.getD i 0) (hn : ∀ j, j < i → ¬ l.getD j 0 = x) : findI l x = ((i : Nat) : Int) := by
  unfold findI
  rw [fIdx_some hi (decide_eq_true h.symm) (fun j hj => decide_eq_false (hn j hj))]
theorem findI_no {l : List Int} {x : Int} (hn : ∀ j, j < l.length → ¬ l.getD j 0 = x) : findI l x = -1 := by
  unfold findI
  rw [fIdx_none (fun j hj => decide_eq_false (hn j hj))]
theorem findI_has (l : List Int) (x : Int) : decide (0 ≤ findI l x) = hasInt l x := by
  unfold findI hasInt
  cases hf : fIdx l.length (fun i => decide (l.getD i 0 = x)) with
  | some k =>
    have := fIdx_lt hf
    rw [anyN_true this.1 this.2]
    exact decide_eq_true (show (0 : Int) ≤ ((k : Nat) : Int) by omega)
  | none =>
    rw [anyN_false (fIdx_no hf)]; decide
theorem hasInt_mem {l : List Int} {x : Int} : hasInt l x = true ↔ x ∈ l := by
  unfold hasInt
  rw [anyN_iff', List.mem_iff_getElem]
  constructor
  · rintro ⟨i, hi, hp⟩
    rw [decide_eq_true_eq, List.getD_eq_getElem?_getD, List.getElem?_eq_getElem hi] at hp
    exact ⟨i, hi, hp⟩
  · rintro ⟨i, hi, hp⟩
    refine ⟨i, hi, ?_⟩
    rw [decide_eq_true_eq, List.getD_eq_getElem?_getD, List.getElem?_eq_getElem hi]
    exact hp
/-! ### Orders -/
def ordOK (l : List Int) (n : Int) (i : Nat) : Bool := within (l.getD i 0) 0 (n - 1) && !hasInt (l.take i) (l.getD i 0)
def isOrd (l : List Int) (n : Int) : Bool := allN l.length (ordOK l n) && decide (((l.length : Nat) : Int) = n)
def curF (h : List CallD) (l : List Int) : Nat → Int
  | 0 => 0
  | i + 1 => max (curF h l i) (callAt h (l.getD i 0).toNat).frm
def ptOK (h : List CallD) (l : List Int) (i : Nat) : Bool := decide (curF h l (i + 1) < (callAt h (l.getD i 0).toNat).to)
def pts (h : List CallD) (l : List Int) (i : Nat) : List Int := (List.range i).map fun j => curF h l (j + 1)
def pointsR (h : List CallD) (l : List Int) : List Int × Bool := bif allN l.length (ptOK h l) then (pts h l l.length, true) else ([], false)
def pointsOf (h : List CallD) (l : List Int) : List Int × Bool := bif validHistory h && isOrd l ((h.length : Nat) : Int) then pointsR h l else ([], false)
theorem pts_len (h : List CallD) (l : List Int) (i : Nat) : (pts h l i).length = i := by simp [pts]
theorem pts_succ (h : List CallD) (l : List Int) (i : Nat) : pts h l (i + 1) = pts h l i ++ [curF h l (i + 1)] := by
  unfold pts; rw [List.range_succ, List.map_append]; rfl
theorem pts_get {h : List CallD} {l : List Int} {n i : Nat} (hi : i < n) : (pts h l n).getD i 0 = curF h l (i + 1) := by
  simp [pts, List.getD_eq_getElem?_getD, hi]
theorem isOrd_range {l : List Int} {n : Int} (ho : isOrd l n = true) {i : Nat} (hi : i < l.length) : 0 ≤ l.getD i 0 ∧ l.getD i 0 < n ∧ ((l.length : Nat) : Int) = n := by
  unfold isOrd at ho
  simp only [Bool.and_eq_true, allN_iff, decide_eq_true_eq] at ho
  have := and_l (ho.1 i hi)
  rw [inRange_iff] at this
  omega
theorem curF_bnd {h : List CallD} {l : List Int} (hv : validHistory h = true) (hr : ∀ i, i < l.length → 0 ≤ l.getD i 0 ∧ l.getD i 0 < ((h.length : Nat) : Int)) {i : Nat} (hi : i ≤ l.length) : 0 ≤ curF h l i ∧ curF h l i ≤ 30 := by
  induction i with
  | zero => simp [curF]
  | succ i ih =>
    have h1 := ih (by omega)
    have h2 := hr i (by omega)
    have h3 := call_ok hv (i := (l.getD i 0).toNat) (by omega)
    simp only [curF]; omega
theorem points_1 {h : List CallD} {l : List Int} (hb : ((!validHistory h) || (!isOrd l ((h.length : Nat) : Int))) = true) : pointsOf h l = ([], false) := by
  unfold pointsOf
  cases h1 : validHistory h <;> cases h2 : isOrd l ((h.length : Nat) : Int) <;> simp_all
theorem points_2 {h : List CallD} {l : List Int} (hb : ((!validHistory h) || (!isOrd l ((h.length : Nat) : Int))) = false) : pointsOf h l = pointsR h l := by
  unfold pointsOf
  cases h1 : validHistory h <;> cases h2 : isOrd l ((h.length : Nat) : Int) <;> simp_all
theorem points_no {h : List CallD} {l : List Int} {i : Nat} (hi : i < l.length) (hb : ptOK h l i = false) : pointsR h l = ([], false) := by
  unfold pointsR; rw [allN_false hi hb]; rfl
theorem points_yes {h : List CallD} {l : List Int} {n : Nat} (hn : n = l.length) (hA : ∀ j, j < n → ptOK h l j = true) : pointsR h l = (pts h l n, true) := by
  subst hn; unfold pointsR; rw [allN_true hA]; rfl
/-! ### What the generator makes -/
def GoodO (l : List Int) (n : Nat) : Prop := l.length = n ∧ (∀ x ∈ l, 0 ≤ x ∧ x < ((n : Nat) : Int)) ∧ l.Nodup
theorem GoodO.nil : GoodO [] 0 := ⟨rfl, by simp, List.nodup_nil⟩
theorem GoodO.put {l : List Int} {n : Nat} (h : GoodO l n) (k : Nat) : GoodO (l.take k ++ [((n : Nat) : Int)] ++ l.drop k) (n + 1) := by
  obtain ⟨h1, h2, h3⟩ := h
  refine ⟨by simp only [List.length_append, List.length_take, List.length_drop, List.length_cons, List.length_nil]; omega, fun x hx => ?_, ?_⟩
  · simp only [List.mem_append, List.mem_cons, List.not_mem_nil, or_false] at hx
    rcases hx with (hx | hx) | hx
    · have := h2 x (List.mem_of_mem_take hx); omega
    · omega
    · have := h2 x (List.mem_of_mem_drop hx); omega
  · have hn : ((n : Nat) : Int) ∉ l := fun hm => by have := h2 _ hm; omega
    have hp : (l.take k ++ [((n : Nat) : Int)] ++ l.drop k).Perm (((n : Nat) : Int) :: l) := by
      rw [List.append_assoc, List.singleton_append]
      refine List.perm_middle.trans ?_
      rw [List.take_append_drop]
    exact hp.nodup_iff.2 (List.nodup_cons.2 ⟨hn, h3⟩)
theorem nodup_at {l : List Int} (hd : l.Nodup) {i j : Nat} (hi : i < l.length) (hj : j < l.length) (he : l[i] = l[j]) : i = j := by
  have hp := List.pairwise_iff_getElem.1 hd
  rcases Nat.lt_trichotomy i j with h | h | h
  · exact absurd he (hp i j hi hj h)
  · exact h
  · exact absurd he.symm (hp j i hj hi h)
theorem pigeon (n : Nat) : ∀ l : List Int, l.Nodup → (∀ x ∈ l, 0 ≤ x ∧ x < ((n : Nat) : Int)) → l.length ≤ n := by
  induction n with
  | zero =>
    intro l _ hr
    cases l with
    | nil => simp
    | cons a l => have := hr a (List.mem_cons_self ..); omega
  | succ n ih =>
    intro l hd hr
    have h1 := ih (l.erase ((n : Nat) : Int)) (hd.erase _) (fun x hx => by
      have hm := (List.Nodup.mem_erase_iff hd).1 hx
      have := hr x hm.2
      have := hm.1
      omega)
    have h2 := List.length_erase (l := l) (a := ((n : Nat) : Int))
    split at h2 <;> omega
/-! ### The law -/
def doneF (l : List Int) (i : Nat) (k : Nat) : Bool := hasInt (l.take i) ((k : Nat) : Int)
theorem power_nat (k : Nat) : power ((k : Nat) : Int) = ((2 ^ k : Nat) : Int) := by unfold power; rw [Int.toNat_natCast]
theorem mask_plus {n k : Nat} (hk : k < n) {p : Nat → Bool} (hp : p k = false) : mask n p + ((2 ^ k : Nat) : Int) = mask n (fun m => p m || decide (m = k)) := by
  unfold mask
  have : maskN n p + 2 ^ k = maskN n (fun m => p m || decide (m = k)) := by
    induction n with
    | zero => omega
    | succ n ih =>
      rw [maskN_succ, maskN_succ]
      by_cases hkn : k = n
      · subst hkn
        rw [hp]
        have : maskN k p = maskN k (fun m => p m || decide (m = k)) := by
          apply Nat.eq_of_testBit_eq
          intro i
          rw [maskN_bit, maskN_bit]
          by_cases hi : i < k
          · simp [hi, show ¬ i = k by omega]
          · simp [hi]
        rw [this]; simp
      · have h1 := ih (by omega)
        have h2 : (p n || decide (n = k)) = p n := by rw [decide_eq_false (show ¬ n = k by omega), Bool.or_false]
        rw [h2, ← h1]; omega
  omega
theorem getD_nodup {l : List Int} (hd : l.Nodup) {i : Nat} (hi : i < l.length) : hasInt (l.take i) (l.getD i 0) = false := by
  cases hh : hasInt (l.take i) (l.getD i 0) with
  | false => rfl
  | true =>
    have := hasInt_mem.1 hh
    rw [List.getD_eq_getElem?_getD, List.getElem?_eq_getElem hi, Option.getD_some] at this
    obtain ⟨j, hj, he⟩ := List.mem_iff_getElem.1 this
    rw [List.length_take] at hj
    rw [List.getElem_take] at he
    have := nodup_at hd (by omega) (by omega) he
    omega
theorem mask_zero (n : Nat) {p : Nat → Bool} (h : ∀ k, k < n → p k = false) : mask n p = 0 := by
  have : mask n p = mask n (fun _ => false) := mask_inj.2 h
  rw [this]
  clear this h
  induction n with
  | zero => rfl
  | succ n ih => rw [mask_skip rfl]; exact ih
theorem done_zero (l : List Int) (n : Nat) : mask n (doneF l 0) = 0 := mask_zero n (fun _ _ => rfl)
theorem has_take {l : List Int} {i : Nat} (hi : i < l.length) (x : Int) : hasInt (l.take (i + 1)) x = (hasInt (l.take i) x || decide (x = l.getD i 0)) := by
  apply bool_ext
  rw [Bool.or_eq_true, hasInt_mem, hasInt_mem, List.take_succ_eq_append_getElem hi, List.mem_append, decide_eq_true_eq, List.getD_eq_getElem?_getD, List.getElem?_eq_getElem hi]
  simp
theorem done_next {l : List Int} {n i : Nat} (hd : l.Nodup) (hi : i < l.length) (h0 : 0 ≤ l.getD i 0) (hn : l.getD i 0 < ((n : Nat) : Int)) : mask n (doneF l i) + power (l.getD i 0) = mask n (doneF l (i + 1)) := by
  rw [show l.getD i 0 = (((l.getD i 0).toNat : Nat) : Int) by omega, power_nat, mask_plus (by omega) (by unfold doneF; rw [show (((l.getD i 0).toNat : Nat) : Int) = l.getD i 0 by omega]; exact getD_nodup hd hi), mask_inj]
  intro k _
  unfold doneF
  rw [has_take hi]
  congr 1
  exact bool_ext (by simp only [decide_eq_true_eq]; omega)
def goodF (h : List CallD) (l : List Int) (i : Nat) : Bool := decide (bitsI .and .i64 ((aheadOf h).getD (l.getD i 0).toNat 0) (mask h.length (doneF l i)) = (aheadOf h).getD (l.getD i 0).toNat 0)
theorem good_iff {h : List CallD} {l : List Int} (hv : validHistory h = true) {i : Nat} (h0 : 0 ≤ l.getD i 0) (hn : l.getD i 0 < ((h.length : Nat) : Int)) :
    goodF h l i = true ↔ ∀ k, k < h.length → (callAt h k).to < (callAt h (l.getD i 0).toNat).frm → ((k : Nat) : Int) ∈ l.take i := by
  unfold goodF
  rw [decide_eq_true_eq, ahead_get hv (by omega), and_mask (by have := (valid_iff.1 hv).1; omega), mask_inj]
  constructor
  · intro hA k hk hlt
    have := hA k hk
    simp only [aheadF, isBefore] at this
    rw [decide_eq_true hlt, Bool.true_and] at this
    exact hasInt_mem.1 this
  · intro hA k hk
    cases hb : aheadF h (l.getD i 0).toNat k with
    | false => rfl
    | true =>
      rw [Bool.true_and]
      exact hasInt_mem.2 (hA k hk (bef_iff.1 hb))
theorem curF_ge {h : List CallD} {l : List Int} {i j : Nat} (hj : j < i) : (callAt h (l.getD j 0).toNat).frm ≤ curF h l i := by
  induction i with
  | zero => omega
  | succ i ih =>
    simp only [curF]
    by_cases hji : j = i
    · subst hji; omega
    · have := ih (by omega); omega
theorem curF_of {h : List CallD} {l : List Int} {i : Nat} (h0 : 0 < curF h l i) : ∃ j, j < i ∧ curF h l i = (callAt h (l.getD j 0).toNat).frm := by
  induction i with
  | zero => simp [curF] at h0
  | succ i ih =>
    simp only [curF] at h0 ⊢
    by_cases hc : curF h l i ≤ (callAt h (l.getD i 0).toNat).frm
    · exact ⟨i, by omega, by omega⟩
    · obtain ⟨j, h1, h2⟩ := ih (by omega)
      exact ⟨j, by omega, by omega⟩
/-- A row without the same twice, within a bound that is its length, has all below it. -/
theorem full {l : List Int} (hd : l.Nodup) {n : Nat} (hn : l.length = n) (hr : ∀ x ∈ l, 0 ≤ x ∧ x < ((n : Nat) : Int)) (k : Nat) (hk : k < n) : ((k : Nat) : Int) ∈ l := by
  refine Classical.byContradiction fun hm => ?_
  have hd2 : (((k : Nat) : Int) :: l).Nodup := List.nodup_cons.2 ⟨hm, hd⟩
  have := pigeon n _ hd2 (fun x hx => by
    rcases List.mem_cons.1 hx with rfl | hx
    · omega
    · exact hr x hx)
  simp at this
  omega
theorem points_law {h : List CallD} {l : List Int} (hv : validHistory h = true) (hg : GoodO l h.length) : (pointsOf h l).2 = allN l.length (goodF h l) := by
  obtain ⟨hl, hr, hd⟩ := hg
  have hr' : ∀ i, i < l.length → 0 ≤ l.getD i 0 ∧ l.getD i 0 < ((h.length : Nat) : Int) := fun i hi => hr _ (getD_mem l 0 hi)
  have ho : isOrd l ((h.length : Nat) : Int) = true := by
    unfold isOrd ordOK
    refine and_t (allN_true fun i hi => ?_) (decide_eq_true (by omega))
    have := hr' i hi
    exact and_t (inRange_iff.2 (by omega)) (not_t (getD_nodup hd hi))
  have e : (pointsOf h l).2 = allN l.length (ptOK h l) := by
    unfold pointsOf pointsR
    rw [hv, ho]
    cases allN l.length (ptOK h l) <;> rfl
  rw [e]
  apply bool_ext
  rw [allN_iff, allN_iff]
  constructor
  · intro hA i hi
    have hri := hr' i hi
    rw [good_iff hv hri.1 hri.2]
    intro k hk hlt
    obtain ⟨j, hj, he⟩ := List.mem_iff_getElem.1 (full hd hl hr k hk)
    have hej : l.getD j 0 = ((k : Nat) : Int) := by rw [List.getD_eq_getElem?_getD, List.getElem?_eq_getElem hj]; exact he
    by_cases hji : j < i
    · rw [← he]
      exact List.mem_iff_getElem.2 ⟨j, by rw [List.length_take]; omega, by rw [List.getElem_take]⟩
    · have h1 := of_decide_eq_true (hA j hj)
      have h2 := curF_ge (h := h) (l := l) (i := j + 1) (j := i) (by omega)
      rw [hej, Int.toNat_natCast] at h1
      omega
  · intro hA i hi
    have hri := hr' i hi
    apply decide_eq_true
    refine Classical.byContradiction fun hn => ?_
    have hci := call_ok hv (i := (l.getD i 0).toNat) (by omega)
    obtain ⟨j, hj, he⟩ := curF_of (h := h) (l := l) (i := i + 1) (by omega)
    have hrj := hr' j (by omega)
    by_cases hji : j = i
    · subst hji; omega
    · have hne : ((l.getD i 0).toNat) ≠ (l.getD j 0).toNat := by
        intro hh
        have : l.getD i 0 = l.getD j 0 := by omega
        rw [List.getD_eq_getElem?_getD, List.getElem?_eq_getElem hi, List.getD_eq_getElem?_getD, List.getElem?_eq_getElem (show j < l.length by omega)] at this
        have := nodup_at hd (by omega) (by omega) this
        omega
      have hcl := not_clash hv (i := (l.getD i 0).toNat) (k := (l.getD j 0).toNat) (by omega) (by omega) hne
      have h2 := (good_iff hv hrj.1 hrj.2).1 (hA j (by omega)) (l.getD i 0).toNat (by omega) (by omega)
      rw [show (((l.getD i 0).toNat : Nat) : Int) = l.getD i 0 by omega] at h2
      have h3 : hasInt (l.take i) (l.getD i 0) = true := by
        rw [hasInt_mem]
        exact List.mem_of_mem_take (i := j) (by rw [List.take_take, Nat.min_eq_left (by omega)]; exact h2)
      rw [getD_nodup hd hi] at h3; cases h3
theorem points_shape {h : List CallD} {l : List Int} (hp : 0 < (pointsOf h l).1.length) : pointsOf h l = (pts h l l.length, true) ∧ allN l.length (ptOK h l) = true ∧ (pointsOf h l).1.length = l.length := by
  unfold pointsOf pointsR at *
  cases h1 : validHistory h && isOrd l ((h.length : Nat) : Int) with
  | false => rw [h1] at hp; simp at hp
  | true =>
    cases h2 : allN l.length (ptOK h l) with
    | false => rw [h1, h2] at hp; simp at hp
    | true => simp [pts_len]
theorem points_in {h : List CallD} {l : List Int} {j : Nat} (hj : j < (pointsOf h l).1.length) : (callAt h (l.getD j 0).toNat).frm ≤ (pointsOf h l).1.getD j 0 ∧ (pointsOf h l).1.getD j 0 < (callAt h (l.getD j 0).toNat).to ∧ (0 < j → (pointsOf h l).1.getD (j - 1) 0 ≤ (pointsOf h l).1.getD j 0) ∧ j < l.length := by
  obtain ⟨h1, h2, h3⟩ := points_shape (h := h) (l := l) (by omega)
  have hjl : j < l.length := by omega
  have h4 := of_decide_eq_true (allN_get h2 j hjl)
  rw [h1]
  simp only
  rw [pts_get hjl]
  refine ⟨by simp only [curF]; omega, h4, fun h0 => ?_, hjl⟩
  rw [pts_get (by omega), show j - 1 + 1 = j by omega]
  simp only [curF]; omega
theorem points_len_le {h : List CallD} {l : List Int} : (pointsOf h l).1.length ≤ l.length := by
  by_cases h0 : 0 < (pointsOf h l).1.length
  · have := (points_shape h0).2.2; omega
  · omega
theorem allN_succ (n : Nat) (p : Nat → Bool) : allN (n + 1) p = (allN n p && p n) := by
  apply bool_ext
  rw [Bool.and_eq_true, allN_iff, allN_iff]
  constructor
  · exact fun h => ⟨fun j hj => h j (by omega), h n (by omega)⟩
  · rintro ⟨h1, h2⟩ j hj
    by_cases hn : j = n
    · subst hn; exact h2
    · exact h1 j (by omega)
theorem ord_no {l : List Int} {n : Int} {i : Nat} (hi : i < l.length) (hb : ((!within (l.getD i 0) 0 (n - 1)) || hasInt (l.take i) (l.getD i 0)) = true) : isOrd l n = false := by
  unfold isOrd
  refine and_fl (allN_false hi ?_)
  unfold ordOK
  cases h1 : within (l.getD i 0) 0 (n - 1) <;> cases h2 : hasInt (l.take i) (l.getD i 0) <;> simp_all
theorem ord_ok {l : List Int} {n : Int} {i : Nat} (hb : ((!within (l.getD i 0) 0 (n - 1)) || hasInt (l.take i) (l.getD i 0)) = false) : ordOK l n i = true := by
  unfold ordOK
  cases h1 : within (l.getD i 0) 0 (n - 1) <;> cases h2 : hasInt (l.take i) (l.getD i 0) <;> simp_all
theorem ord_end {l : List Int} {n : Int} (hA : ∀ j, j < l.length → ordOK l n j = true) : decide (((l.length : Nat) : Int) = n) = isOrd l n := by
  unfold isOrd; rw [allN_true hA, Bool.true_and]
theorem pt_cond {h : List CallD} {l : List Int} {g : List CallD} {x : Int} (hx : 0 ≤ x) : True := trivial
end Go.Ab
