import Derived.Test.YthjkiipikpiepaaM7
set_option linter.unusedSimpArgs false
set_option linter.unusedVariables false
namespace Go.Ab
/-! ### Copies -/
def firstI (n : Nat) (p : Nat → Bool) : Int := match fIdx n p with
  | some k => ((k : Nat) : Int)
  | none => -1
theorem firstI_yes {n i : Nat} {p : Nat → Bool} (hi : i < n) (hp : p i = true) (hn : ∀ j, j < i → p j = false) : firstI n p = ((i : Nat) : Int) := by unfold firstI; rw [fIdx_some hi hp hn]
theorem firstI_no {n : Nat} {p : Nat → Bool} (hn : ∀ j, j < n → p j = false) : firstI n p = -1 := by unfold firstI; rw [fIdx_none hn]
theorem firstI_has (n : Nat) (p : Nat → Bool) : decide (0 ≤ firstI n p) = anyN n p := by
  unfold firstI
  cases hf : fIdx n p with
  | some k =>
    have := fIdx_lt hf
    rw [anyN_true this.1 this.2]
    exact decide_eq_true (show (0 : Int) ≤ ((k : Nat) : Int) by omega)
  | none => rw [anyN_false (fIdx_no hf)]; decide
def cmpI (a b : Int) : Int := bif decide (a < b) then -1 else bif decide (b < a) then 1 else 0
def orI : List Int → Int
  | [] => 0
  | x :: l => bif decide (x ≠ 0) then x else orI l
def orFrom (l : List Int) (i : Nat) : Int := orI (l.drop i)
theorem orFrom_yes {l : List Int} {i : Nat} (hi : i < l.length) (h : l.getD i 0 ≠ 0) : orFrom l i = l.getD i 0 := by
  unfold orFrom
  rw [List.drop_eq_getElem_cons hi]
  simp only [orI]
  rw [List.getD_eq_getElem?_getD, List.getElem?_eq_getElem hi] at *
  simp only [Option.getD_some] at *
  rw [decide_eq_true h]; rfl
theorem orFrom_no {l : List Int} {i : Nat} (hi : i < l.length) (h : ¬ l.getD i 0 ≠ 0) : orFrom l i = orFrom l (i + 1) := by
  unfold orFrom
  rw [List.drop_eq_getElem_cons hi]
  simp only [orI]
  rw [List.getD_eq_getElem?_getD, List.getElem?_eq_getElem hi] at h
  simp only [Option.getD_some] at h
  rw [decide_eq_false h]; rfl
theorem orFrom_end {l : List Int} {i : Nat} (hi : ¬ i < l.length) : orFrom l i = 0 := by
  unfold orFrom; rw [List.drop_eq_nil_of_le (by omega)]; rfl
def isMark (m : MarkD) : Bool := (within m.value 0 3 && within m.proc 0 2) && within m.number 1 20
def lessM (a b : MarkD) : Bool := bif decide (a.proc ≠ b.proc) then decide (a.proc < b.proc) else decide (a.number < b.number)
def cmpM (a b : MarkD) : Int := orI [cmpI a.proc b.proc, cmpI a.number b.number]
theorem cmpM_less (a b : MarkD) : decide (0 ≤ cmpM a b) = !lessM a b := by
  unfold cmpM lessM cmpI
  simp only [orI]
  rcases Int.lt_trichotomy a.proc b.proc with h | h | h
  · simp [h, show a.proc ≠ b.proc by omega]
  · rcases Int.lt_trichotomy a.number b.number with g | g | g
    · simp [h, g]
    · simp [h, g]
    · simp [h, g, show ¬ a.number < b.number by omega]
  · simp [h, show ¬ a.proc < b.proc by omega, show a.proc ≠ b.proc by omega]
def markAt (l : List MarkD) (i : Nat) : MarkD := l.getD i default
def markOK (l : List MarkD) (i : Nat) : Bool := isMark (markAt l i) && (decide (i = 0) || lessM (markAt l (i - 1)) (markAt l i))
def marksOK (l : List MarkD) : Bool := allN l.length (markOK l)
def stampOK (c : CopyD) : Bool := ((within c.value 0 3 && within c.time 0 30) && within c.proc 0 2) && (decide (0 < c.time) || (decide (c.value = 0) && decide (c.proc = 0)))
def countsOK (l : List Int) : Bool := decide (l.length = 3) && allN l.length (fun i => within (l.getD i 0) 0 20)
def validCopy (c : CopyD) : Bool := ((countsOK c.up && countsOK c.down) && stampOK c) && (marksOK c.marks && decide (c.marks.length ≤ 20))
theorem counts_impl (l : List Int) : (decide (((l.length : Nat) : Int) = 3) && !anyN l.length (fun i => !within (l.getD i 0) 0 20)) = countsOK l := by
  unfold countsOK
  rw [show decide (((l.length : Nat) : Int) = 3) = decide (l.length = 3) from bool_ext (by simp only [decide_eq_true_eq]; omega)]
  congr 1
  apply bool_ext
  rw [Bool.not_eq_true', allN_iff]
  constructor
  · intro h j hj
    cases hw : within (l.getD j 0) 0 20 with
    | true => rfl
    | false => rw [anyN_true hj (by rw [hw]; rfl)] at h; cases h
  · intro h; exact anyN_false (fun j hj => by rw [h j hj]; rfl)
theorem counts_iff {l : List Int} : countsOK l = true ↔ l.length = 3 ∧ ∀ i, i < 3 → 0 ≤ l.getD i 0 ∧ l.getD i 0 ≤ 20 := by
  unfold countsOK
  simp only [Bool.and_eq_true, decide_eq_true_eq, allN_iff, inRange_iff]
  constructor
  · rintro ⟨h1, h2⟩; exact ⟨h1, fun i hi => h2 i (by omega)⟩
  · rintro ⟨h1, h2⟩; exact ⟨h1, fun i hi => h2 i (by omega)⟩
theorem stamp_iff {c : CopyD} : stampOK c = true ↔ (0 ≤ c.value ∧ c.value ≤ 3) ∧ (0 ≤ c.time ∧ c.time ≤ 30) ∧ (0 ≤ c.proc ∧ c.proc ≤ 2) ∧ (0 < c.time ∨ (c.value = 0 ∧ c.proc = 0)) := by
  unfold stampOK; simp [inRange_iff, and_assoc]
theorem copy_iff {c : CopyD} : validCopy c = true ↔ countsOK c.up = true ∧ countsOK c.down = true ∧ stampOK c = true ∧ marksOK c.marks = true ∧ c.marks.length ≤ 20 := by
  unfold validCopy; simp [and_assoc]
theorem mark_bad {l : List MarkD} {i : Nat} (hi : i < l.length) (hb : markOK l i = false) : marksOK l = false := allN_false hi hb
theorem valid_marks {c : CopyD} (h : marksOK c.marks = false) : validCopy c = false := by unfold validCopy; rw [h]; simp
/-! impl's -/
theorem markI_ok {l : List MarkD} {i : Nat} (hb : ((!isMark (l.getD i default)) || (decide (((i : Nat) : Int) > 0) && !lessM (l.getD (i - 1) default) (l.getD i default))) = false) : markOK l i = true := by
  unfold markOK markAt
  simp only [Bool.or_eq_false_iff, Bool.not_eq_false', Bool.and_eq_false_iff, decide_eq_false_iff_not] at hb
  rw [hb.1, Bool.true_and]
  rcases hb.2 with h | h
  · rw [decide_eq_true (show i = 0 by omega)]; rfl
  · rw [h]; simp
theorem markI_no {l : List MarkD} {i : Nat} (hb : ((!isMark (l.getD i default)) || (decide (((i : Nat) : Int) > 0) && !lessM (l.getD (i - 1) default) (l.getD i default))) = true) : markOK l i = false := by
  unfold markOK markAt
  simp only [Bool.or_eq_true, Bool.not_eq_true', Bool.and_eq_true, decide_eq_true_eq] at hb
  rcases hb with h | ⟨h1, h2⟩
  · rw [h]; rfl
  · rw [h2, decide_eq_false (show ¬ i = 0 by omega)]; simp
theorem valid_impl {c : CopyD} (hm : marksOK c.marks = true) : ((((countsOK c.up && countsOK c.down) && stampOK c) && decide (((c.marks.length : Nat) : Int) ≤ 20))) = validCopy c := by
  unfold validCopy
  rw [hm, Bool.true_and]
  congr 1
  exact bool_ext (by simp only [decide_eq_true_eq]; omega)
/-! spec's -/
theorem valid_spec1 {c : CopyD} (hb : (((((decide (((c.up.length : Nat) : Int) ≠ 3) || decide (((c.down.length : Nat) : Int) ≠ 3)) || !within c.value 0 3) || !within c.time 0 30) || !within c.proc 0 2) || (decide (c.time = 0) && (decide (c.value ≠ 0) || decide (c.proc ≠ 0)))) = true) : validCopy c = false := by
  cases hv : validCopy c with
  | false => rfl
  | true =>
    have h := copy_iff.1 hv
    have h1 := counts_iff.1 h.1
    have h2 := counts_iff.1 h.2.1
    have h3 := stamp_iff.1 h.2.2.1
    have e1 : within c.value 0 3 = true := inRange_iff.2 h3.1
    have e2 : within c.time 0 30 = true := inRange_iff.2 h3.2.1
    have e3 : within c.proc 0 2 = true := inRange_iff.2 h3.2.2.1
    rw [e1, e2, e3] at hb
    simp only [Bool.not_true, Bool.or_false, Bool.or_eq_true, Bool.and_eq_true, decide_eq_true_eq] at hb
    omega
theorem valid_spec2 {c : CopyD} (hb : (((((decide (((c.up.length : Nat) : Int) ≠ 3) || decide (((c.down.length : Nat) : Int) ≠ 3)) || !within c.value 0 3) || !within c.time 0 30) || !within c.proc 0 2) || (decide (c.time = 0) && (decide (c.value ≠ 0) || decide (c.proc ≠ 0)))) = false) : c.up.length = 3 ∧ c.down.length = 3 ∧ stampOK c = true := by
  simp only [Bool.or_eq_false_iff, Bool.not_eq_false', decide_eq_false_iff_not, Bool.and_eq_false_iff, inRange_iff] at hb
  refine ⟨by omega, by omega, stamp_iff.2 (by omega)⟩
theorem counts_part {l : List Int} (hl : l.length = 3) (hA : ∀ j, j < 3 → within (l.getD j 0) 0 20 = true) : countsOK l = true := counts_iff.2 ⟨hl, fun i hi => inRange_iff.1 (hA i hi)⟩
theorem within_bad {a b : Bool} (h : ((!a) || !b) = false) : a = true ∧ b = true := by cases a <;> cases b <;> simp_all
theorem counts_bad {c : CopyD} {i : Nat} (hu : c.up.length = 3) (hd : c.down.length = 3) (hi : i < 3) (hb : ((!within (c.up.getD i 0) 0 20) || !within (c.down.getD i 0) 0 20) = true) : validCopy c = false := by
  cases hv : validCopy c with
  | false => rfl
  | true =>
    have h := copy_iff.1 hv
    have h1 := (counts_iff.1 h.1).2 i hi
    have h2 := (counts_iff.1 h.2.1).2 i hi
    rw [inRange_iff.2 h1, inRange_iff.2 h2] at hb
    simp at hb
theorem markS_ok {l : List MarkD} {i : Nat} (hb : ((((!within (l.getD i default).value 0 3) || !within (l.getD i default).proc 0 2) || !within (l.getD i default).number 1 20) || (decide (((i : Nat) : Int) > 0) && !lessM (l.getD (i - 1) default) (l.getD i default))) = false) : markOK l i = true := by
  apply markI_ok
  unfold isMark
  rw [← hb]
  cases within (l.getD i default).value 0 3 <;> cases within (l.getD i default).proc 0 2 <;> cases within (l.getD i default).number 1 20 <;> simp
theorem markS_no {l : List MarkD} {i : Nat} (hb : ((((!within (l.getD i default).value 0 3) || !within (l.getD i default).proc 0 2) || !within (l.getD i default).number 1 20) || (decide (((i : Nat) : Int) > 0) && !lessM (l.getD (i - 1) default) (l.getD i default))) = true) : markOK l i = false := by
  apply markI_no
  unfold isMark
  rw [← hb]
  cases within (l.getD i default).value 0 3 <;> cases within (l.getD i default).proc 0 2 <;> cases within (l.getD i default).number 1 20 <;> simp
theorem valid_spec {c : CopyD} (h3 : stampOK c = true) (h1 : countsOK c.up = true) (h2 : countsOK c.down = true) (hm : marksOK c.marks = true) : decide (((c.marks.length : Nat) : Int) ≤ 20) = validCopy c := by
  unfold validCopy
  rw [h1, h2, h3, hm]
  simp only [Bool.and_self, Bool.true_and]
  exact bool_ext (by simp only [decide_eq_true_eq]; omega)
/-! ### Totals -/
def sumN : Nat → (Nat → Int) → Int
  | 0, _ => 0
  | n + 1, f => sumN n f + f n
theorem sumN_bnd {n : Nat} {f : Nat → Int} {b : Int} (h : ∀ i, i < n → -b ≤ f i ∧ f i ≤ b) : -(((n : Nat) : Int) * b) ≤ sumN n f ∧ sumN n f ≤ ((n : Nat) : Int) * b := by
  induction n with
  | zero => simp [sumN]
  | succ n ih =>
    have h1 := ih (fun i hi => h i (by omega))
    have h2 := h n (by omega)
    simp only [sumN]
    rw [show ((n + 1 : Nat) : Int) * b = ((n : Nat) : Int) * b + b by rw [Int.natCast_add, Int.add_mul]; simp]
    omega
def totalOf (c : CopyD) : Int := bif validCopy c then sumN 3 (fun i => c.up.getD i 0 - c.down.getD i 0) else 0
theorem sumN_sub (n : Nat) (f g : Nat → Int) : sumN n (fun i => f i - g i) = sumN n f - sumN n g := by
  induction n with
  | zero => simp [sumN]
  | succ n ih => simp only [sumN]; rw [ih]; omega
theorem up_len {c : CopyD} (hv : validCopy c = true) : c.up.length = 3 ∧ c.down.length = 3 ∧ (∀ i, i < 3 → 0 ≤ c.up.getD i 0 ∧ c.up.getD i 0 ≤ 20) ∧ (∀ i, i < 3 → 0 ≤ c.down.getD i 0 ∧ c.down.getD i 0 ≤ 20) ∧ c.marks.length ≤ 20 := by
  have h := copy_iff.1 hv
  have h1 := counts_iff.1 h.1
  have h2 := counts_iff.1 h.2.1
  exact ⟨h1.1, h2.1, h1.2, h2.2, h.2.2.2.2⟩
theorem sum3_bnd {c : CopyD} (hv : validCopy c = true) {i : Nat} (hi : i ≤ 3) : -60 ≤ sumN i (fun j => c.up.getD j 0 - c.down.getD j 0) ∧ sumN i (fun j => c.up.getD j 0 - c.down.getD j 0) ≤ 60 := by
  obtain ⟨_, _, h1, h2, _⟩ := up_len hv
  have := sumN_bnd (n := i) (f := fun j => c.up.getD j 0 - c.down.getD j 0) (b := 20) (fun j hj => by
    have := h1 j (by omega); have := h2 j (by omega)
    show -20 ≤ c.up.getD j 0 - c.down.getD j 0 ∧ c.up.getD j 0 - c.down.getD j 0 ≤ 20
    omega)
  omega
end Go.Ab
